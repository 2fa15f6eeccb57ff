/-
  Entering columns and leaving rows.
-/
import Derived.Test.YtcgjlddpbkponaaWt
import Derived.Test.YtcgjlddpbkponaaDcE
namespace Go.Proofs.Ytcgjlddpbkponaa
open Go.ChangeShapes Go.WideShapes Go.ChangeAt Go.RowKit
set_option linter.unusedVariables false
set_option linter.unusedSimpArgs false
theorem drop_at {α : Type} {l : List α} {k : Nat} {x : α} (h : l[k]? = some x) : l.drop k = x :: l.drop (k + 1) := by
  obtain ⟨hk, rfl⟩ := List.getElem?_eq_some_iff.1 h
  exact List.drop_eq_getElem_cons hk
theorem drop_end {α : Type} {l : List α} {k : Nat} (h : l.length ≤ k) : l.drop k = [] := List.drop_eq_nil_of_le h
def enterL (o : List Int) : List RationalD → Nat → Int → Int
  | [], _, b => b
  | c :: cs, k, b => enterL o cs (k + 1) (if 0 < c.num ∧ (b < 0 ∨ o.getD k 0 < o.getD b.toNat 0) then k else b)

set_option maxRecDepth 100000 in
set_option maxHeartbeats 4000000 in
theorem w_entering (d : DictionaryD) (hl : d.costs.length = d.others.length) : Con Try.prog 92 [.agg [.sl 3 1 (d.basic.map intD), .sl 3 1 (d.others.map intD), .sl 38 1 (d.table.map ratsD), .sl 35 2 (d.consts.map ratD), .sl 35 2 (d.costs.map ratD), .int .i64 d.value.num, .int .i64 d.value.den]] (vI (enterL d.others d.costs 0 (-1))) [] := by
  refine con_x tbOk mixedW Try.func92 (by kernel_rfl) (.len d.costs.length <| .loop (Nat × Int) (Q2 Nat Int) [3, 4, 5, 9, 10, 11, 12, 13, 14, 15, 16, 17, 18, 19, 20, 21, 22, 23, 24, 25, 26, 27, 28, 29, 30, 31, 32, 33, 34, 35] [500] (fun yy0 => [(3, vI yy0.2), (9, vI (yy0.1 : Int))]) (fun yy0 => []) (fun yy0 => yy0.1 ≤ d.costs.length ∧ yy0.2 < d.others.length ∧ enterL d.others (d.costs.drop yy0.1) yy0.1 yy0.2 = enterL d.others d.costs 0 (-1)) (fun yy0 => d.costs.length - yy0.1) (fun yy0 => .br (.elem RationalD ratD d.costs (fun e12 => .br (.lit <| .lit <| .br (.back []) (.elem Int intD d.others (fun e24 => .elem Int intD d.others (fun e29 => .lit <| .lit <| .lit <| .lit <| .lit <| .br (.back []) (.back []))))) (.back []))) (.fin []))) ?_
  refine Eq.mpr (by kernel_rfl : _ = ((d.basic.map intD).length ≤ 9223372036854775807 → (d.others.map intD).length ≤ 9223372036854775807 → (d.table.map ratsD).length ≤ 9223372036854775807 → (d.consts.map ratD).length ≤ 9223372036854775807 → (d.costs.map ratD).length ≤ 9223372036854775807 → (d.costs.map ratD).length = d.costs.length ∧ ((∃ (k : Nat) (b : Int), (-1 : Int) = b ∧ (0 : Int) = (k : Int) ∧ k ≤ d.costs.length ∧ b < d.others.length ∧ enterL d.others (d.costs.drop k) k b = enterL d.others d.costs 0 (-1)) ∧ ∀ (k : Nat) (b : Int), (k ≤ d.costs.length ∧ b < d.others.length ∧ enterL d.others (d.costs.drop k) k b = enterL d.others d.costs 0 (-1)) → ((decide ((k : Int) < ((d.costs.length : Nat) : Int))) = true → 0 ≤ (k : Int) ∧ (d.costs.map ratD = d.costs.map ratD ∧ k < d.costs.length ∧ ∀ e12, d.costs[k]? = some e12 → ((decide ((0 : Int) < e12.num)) = true → ((decide (b < (0 : Int))) = true → inR ((k : Int) + (1 : Int)) ∧ ∃ (k' : Nat) (b' : Int), (k : Int) = b' ∧ ((k : Int) + (1 : Int)) = (k' : Int) ∧ (k' ≤ d.costs.length ∧ b' < d.others.length ∧ enterL d.others (d.costs.drop k') k' b' = enterL d.others d.costs 0 (-1)) ∧ d.costs.length - k' < d.costs.length - k) ∧ ((decide (b < (0 : Int))) = false → 0 ≤ (k : Int) ∧ (d.others.map intD = d.others.map intD ∧ k < d.others.length ∧ ∀ e24, d.others[k]? = some e24 → 0 ≤ b ∧ (d.others.map intD = d.others.map intD ∧ (b).toNat < d.others.length ∧ ∀ e29, d.others[(b).toNat]? = some e29 → ((decide (e24 < e29)) = true → inR ((k : Int) + (1 : Int)) ∧ ∃ (k' : Nat) (b' : Int), (k : Int) = b' ∧ ((k : Int) + (1 : Int)) = (k' : Int) ∧ (k' ≤ d.costs.length ∧ b' < d.others.length ∧ enterL d.others (d.costs.drop k') k' b' = enterL d.others d.costs 0 (-1)) ∧ d.costs.length - k' < d.costs.length - k) ∧ ((decide (e24 < e29)) = false → inR ((k : Int) + (1 : Int)) ∧ ∃ (k' : Nat) (b' : Int), b = b' ∧ ((k : Int) + (1 : Int)) = (k' : Int) ∧ (k' ≤ d.costs.length ∧ b' < d.others.length ∧ enterL d.others (d.costs.drop k') k' b' = enterL d.others d.costs 0 (-1)) ∧ d.costs.length - k' < d.costs.length - k))))) ∧ ((decide ((0 : Int) < e12.num)) = false → inR ((k : Int) + (1 : Int)) ∧ ∃ (k' : Nat) (b' : Int), b = b' ∧ ((k : Int) + (1 : Int)) = (k' : Int) ∧ (k' ≤ d.costs.length ∧ b' < d.others.length ∧ enterL d.others (d.costs.drop k') k' b' = enterL d.others d.costs 0 (-1)) ∧ d.costs.length - k' < d.costs.length - k))) ∧ ((decide ((k : Int) < ((d.costs.length : Nat) : Int))) = false → b = (enterL d.others d.costs 0 (-1)) ∧ True)))) ?_
  intro n0 n1 n2 n3 n4
  simp only [List.length_map] at n0 n1 n2 n3 n4
  refine ⟨List.length_map _, ?_⟩
  refine ⟨⟨0, (-1 : Int), rfl, rfl, Nat.zero_le _, by omega, rfl⟩, fun k b ⟨hk, hb, hv⟩ => ?_⟩
  refine ⟨fun c0 => ?_, fun c0 => ?_⟩
  · replace c0 := of_decide_eq_true c0
    refine ⟨by omega, ?_⟩
    refine ⟨rfl, by omega, fun e12 h12 => ?_⟩
    refine ⟨fun g17 => ?_, fun g17 => ?_⟩
    · replace g17 := of_decide_eq_true g17
      refine ⟨fun g20 => ?_, fun g20 => ?_⟩
      · replace g20 := of_decide_eq_true g20
        refine ⟨⟨by omega, by omega⟩, ?_⟩
        exact ⟨k + 1, (k : Int), rfl, rfl, ⟨by omega, by omega, by rw [← hv, drop_at h12, enterL]; congr 1; simp_all [List.getD_eq_getElem?_getD]; try omega⟩, by omega⟩
      · replace g20 := of_decide_eq_false g20
        refine ⟨by omega, ?_⟩
        refine ⟨rfl, by omega, fun e24 h24 => ?_⟩
        refine ⟨by omega, ?_⟩
        refine ⟨rfl, by omega, fun e29 h29 => ?_⟩
        refine ⟨fun c1 => ?_, fun c1 => ?_⟩
        · replace c1 := of_decide_eq_true c1
          refine ⟨⟨by omega, by omega⟩, ?_⟩
          exact ⟨k + 1, (k : Int), rfl, rfl, ⟨by omega, by omega, by rw [← hv, drop_at h12, enterL]; congr 1; simp_all [List.getD_eq_getElem?_getD]; try omega⟩, by omega⟩
        · replace c1 := of_decide_eq_false c1
          refine ⟨⟨by omega, by omega⟩, ?_⟩
          exact ⟨k + 1, b, rfl, rfl, ⟨by omega, by omega, by rw [← hv, drop_at h12, enterL]; congr 1; simp_all [List.getD_eq_getElem?_getD]; try omega⟩, by omega⟩
    · replace g17 := of_decide_eq_false g17
      refine ⟨⟨by omega, by omega⟩, ?_⟩
      exact ⟨k + 1, b, rfl, rfl, ⟨by omega, by omega, by rw [← hv, drop_at h12, enterL]; congr 1; simp_all [List.getD_eq_getElem?_getD]; try omega⟩, by omega⟩
  · replace c0 := of_decide_eq_false c0
    refine ⟨?_, trivial⟩
    · rw [← hv, drop_end (by omega), enterL]

structure DicB (d : DictionaryD) : Prop where
  rows : d.basic.length ≤ 64
  lo : 1 ≤ d.others.length
  hi : d.others.length ≤ 15
  table : d.table.length = d.basic.length
  row : ∀ r ∈ d.table, r.length = d.others.length
  consts : d.consts.length = d.basic.length
  costs : d.costs.length = d.others.length
theorem okRats_n {l : List RationalD} {n : Nat} (h : okRats l n = true) : l.length = n := by
  simp only [okRats, Bool.and_eq_true, decide_eq_true_eq] at h
  omega
theorem okDic_bnd {d : DictionaryD} (h : okDic d = true) : DicB d := by
  simp only [okDic, Bool.and_eq_true, decide_eq_true_eq] at h
  obtain ⟨h1, h2, h3, h4, h5, h6, h7, h8⟩ := h
  have := inB_true h2
  exact ⟨h1, by omega, by omega, h3, fun r hr => okRats_n (List.all_eq_true.1 h5 r hr), okRats_n h6, okRats_n h7⟩
def enterM (d : DictionaryD) : Int := if okDic d = true then enterL d.others d.costs 0 (-1) else -1

set_option maxRecDepth 100000 in
set_option maxHeartbeats 4000000 in
theorem w_enter_impl (d : DictionaryD) (hs : SmallD d) : Con Try.prog 48 [.agg [.sl 3 1 (d.basic.map intD), .sl 3 1 (d.others.map intD), .sl 38 1 (d.table.map ratsD), .sl 35 2 (d.consts.map ratD), .sl 35 2 (d.costs.map ratD), .int .i64 d.value.num, .int .i64 d.value.den]] (vI (enterM d)) [] := by
  refine con_x tbOk mixedW Try.func48 (by kernel_rfl) (.call (vB (okDic d)) [] <| .br (.fin []) (.call (vI (enterL d.others d.costs 0 (-1))) [] <| .fin [])) ?_
  refine Eq.mpr (by kernel_rfl : _ = ((d.basic.map intD).length ≤ 9223372036854775807 → (d.others.map intD).length ≤ 9223372036854775807 → (d.table.map ratsD).length ≤ 9223372036854775807 → (d.consts.map ratD).length ≤ 9223372036854775807 → (d.costs.map ratD).length ≤ 9223372036854775807 → Con Try.prog 46 [.agg [.sl 3 1 (d.basic.map intD), .sl 3 1 (d.others.map intD), .sl 38 1 (d.table.map ratsD), .sl 35 2 (d.consts.map ratD), .sl 35 2 (d.costs.map ratD), .int .i64 d.value.num, .int .i64 d.value.den]] (vB (okDic d)) [] ∧ (((!(okDic d)) = true → (-1 : Int) = (enterM d) ∧ True) ∧ ((!(okDic d)) = false → Con Try.prog 92 [.agg [.sl 3 1 (d.basic.map intD), .sl 3 1 (d.others.map intD), .sl 38 1 (d.table.map ratsD), .sl 35 2 (d.consts.map ratD), .sl 35 2 (d.costs.map ratD), .int .i64 d.value.num, .int .i64 d.value.den]] (vI (enterL d.others d.costs 0 (-1))) [] ∧ (enterL d.others d.costs 0 (-1)) = (enterM d) ∧ True)))) ?_
  intro n0 n1 n2 n3 n4
  simp only [List.length_map] at n0 n1 n2 n3 n4
  refine ⟨c_okDic_impl hs rfl, ?_⟩
  refine ⟨fun c0 => ?_, fun c0 => ?_⟩
  · replace c0 := nt c0
    refine ⟨?_, trivial⟩
    · simp [enterM, c0]
  · replace c0 := nf c0
    refine ⟨w_entering d (okDic_bnd c0).costs, ?_⟩
    refine ⟨?_, trivial⟩
    · simp [enterM, c0]

set_option maxRecDepth 100000 in
set_option maxHeartbeats 4000000 in
theorem w_enter_spec (d : DictionaryD) (hs : SmallD d) : Con Try.prog 47 [.agg [.sl 3 1 (d.basic.map intD), .sl 3 1 (d.others.map intD), .sl 38 1 (d.table.map ratsD), .sl 35 2 (d.consts.map ratD), .sl 35 2 (d.costs.map ratD), .int .i64 d.value.num, .int .i64 d.value.den]] (vI (enterM d)) [] := by
  refine con_x tbOk mixedW Try.func47 (by kernel_rfl) (.call (vB (okDic d)) [] <| .br (.fin []) (.loop (Nat × Int) (Q2 Nat Int) [3, 4, 8, 9, 10, 11, 12, 13, 14, 15, 16, 17, 18, 19, 20, 21, 22, 23, 24, 25, 26, 27, 28, 29, 30, 31, 32, 33, 34, 35, 36, 37, 38, 39] [] (fun yy0 => [(3, vI yy0.2), (4, vI (yy0.1 : Int))]) (fun yy0 => []) (fun yy0 => yy0.1 ≤ d.others.length ∧ yy0.2 < d.others.length ∧ enterL d.others (d.costs.drop yy0.1) yy0.1 yy0.2 = enterL d.others d.costs 0 (-1)) (fun yy0 => d.others.length - yy0.1) (fun yy0 => .len d.others.length <| .br (.elem RationalD ratD d.costs (fun e18 => .br (.lit <| .lit <| .br (.back []) (.elem Int intD d.others (fun e29 => .elem Int intD d.others (fun e34 => .lit <| .lit <| .lit <| .lit <| .lit <| .br (.back []) (.back []))))) (.back []))) (.fin [])))) ?_
  refine Eq.mpr (by kernel_rfl : _ = ((d.basic.map intD).length ≤ 9223372036854775807 → (d.others.map intD).length ≤ 9223372036854775807 → (d.table.map ratsD).length ≤ 9223372036854775807 → (d.consts.map ratD).length ≤ 9223372036854775807 → (d.costs.map ratD).length ≤ 9223372036854775807 → Con Try.prog 44 [.agg [.sl 3 1 (d.basic.map intD), .sl 3 1 (d.others.map intD), .sl 38 1 (d.table.map ratsD), .sl 35 2 (d.consts.map ratD), .sl 35 2 (d.costs.map ratD), .int .i64 d.value.num, .int .i64 d.value.den]] (vB (okDic d)) [] ∧ (((!(okDic d)) = true → (-1 : Int) = (enterM d) ∧ True) ∧ ((!(okDic d)) = false → (∃ (k : Nat) (b : Int), (-1 : Int) = b ∧ (0 : Int) = (k : Int) ∧ k ≤ d.others.length ∧ b < d.others.length ∧ enterL d.others (d.costs.drop k) k b = enterL d.others d.costs 0 (-1)) ∧ ∀ (k : Nat) (b : Int), (k ≤ d.others.length ∧ b < d.others.length ∧ enterL d.others (d.costs.drop k) k b = enterL d.others d.costs 0 (-1)) → (d.others.map intD).length = d.others.length ∧ (((decide ((k : Int) < ((d.others.length : Nat) : Int))) = true → 0 ≤ (k : Int) ∧ (d.costs.map ratD = d.costs.map ratD ∧ k < d.costs.length ∧ ∀ e18, d.costs[k]? = some e18 → ((decide ((0 : Int) < e18.num)) = true → ((decide (b < (0 : Int))) = true → inR ((k : Int) + (1 : Int)) ∧ ∃ (k' : Nat) (b' : Int), (k : Int) = b' ∧ ((k : Int) + (1 : Int)) = (k' : Int) ∧ (k' ≤ d.others.length ∧ b' < d.others.length ∧ enterL d.others (d.costs.drop k') k' b' = enterL d.others d.costs 0 (-1)) ∧ d.others.length - k' < d.others.length - k) ∧ ((decide (b < (0 : Int))) = false → 0 ≤ (k : Int) ∧ (d.others.map intD = d.others.map intD ∧ k < d.others.length ∧ ∀ e29, d.others[k]? = some e29 → 0 ≤ b ∧ (d.others.map intD = d.others.map intD ∧ (b).toNat < d.others.length ∧ ∀ e34, d.others[(b).toNat]? = some e34 → ((decide (e29 < e34)) = true → inR ((k : Int) + (1 : Int)) ∧ ∃ (k' : Nat) (b' : Int), (k : Int) = b' ∧ ((k : Int) + (1 : Int)) = (k' : Int) ∧ (k' ≤ d.others.length ∧ b' < d.others.length ∧ enterL d.others (d.costs.drop k') k' b' = enterL d.others d.costs 0 (-1)) ∧ d.others.length - k' < d.others.length - k) ∧ ((decide (e29 < e34)) = false → inR ((k : Int) + (1 : Int)) ∧ ∃ (k' : Nat) (b' : Int), b = b' ∧ ((k : Int) + (1 : Int)) = (k' : Int) ∧ (k' ≤ d.others.length ∧ b' < d.others.length ∧ enterL d.others (d.costs.drop k') k' b' = enterL d.others d.costs 0 (-1)) ∧ d.others.length - k' < d.others.length - k))))) ∧ ((decide ((0 : Int) < e18.num)) = false → inR ((k : Int) + (1 : Int)) ∧ ∃ (k' : Nat) (b' : Int), b = b' ∧ ((k : Int) + (1 : Int)) = (k' : Int) ∧ (k' ≤ d.others.length ∧ b' < d.others.length ∧ enterL d.others (d.costs.drop k') k' b' = enterL d.others d.costs 0 (-1)) ∧ d.others.length - k' < d.others.length - k))) ∧ ((decide ((k : Int) < ((d.others.length : Nat) : Int))) = false → b = (enterM d) ∧ True)))))) ?_
  intro n0 n1 n2 n3 n4
  simp only [List.length_map] at n0 n1 n2 n3 n4
  refine ⟨c_okDic_spec hs rfl, ?_⟩
  refine ⟨fun c0 => ?_, fun c0 => ?_⟩
  · replace c0 := nt c0
    refine ⟨?_, trivial⟩
    · first | (rw [enterM, if_pos c0, ← hv, drop_end (by omega), enterL]; done) | (simp [enterM, c0]; done)
  · replace c0 := nf c0
    have hb := okDic_bnd c0
    have hl := hb.costs
    refine ⟨⟨0, (-1 : Int), rfl, rfl, Nat.zero_le _, by omega, rfl⟩, fun k b ⟨hk, hb2, hv⟩ => ?_⟩
    refine ⟨List.length_map _, ?_⟩
    refine ⟨fun c1 => ?_, fun c1 => ?_⟩
    · replace c1 := of_decide_eq_true c1
      refine ⟨by omega, ?_⟩
      refine ⟨rfl, by omega, fun e18 h18 => ?_⟩
      refine ⟨fun g22 => ?_, fun g22 => ?_⟩
      · replace g22 := of_decide_eq_true g22
        refine ⟨fun g25 => ?_, fun g25 => ?_⟩
        · replace g25 := of_decide_eq_true g25
          refine ⟨⟨by omega, by omega⟩, ?_⟩
          exact ⟨k + 1, (k : Int), rfl, rfl, ⟨by omega, by omega, by rw [← hv, drop_at h18, enterL]; congr 1; simp_all [List.getD_eq_getElem?_getD]; try omega⟩, by omega⟩
        · replace g25 := of_decide_eq_false g25
          refine ⟨by omega, ?_⟩
          refine ⟨rfl, by omega, fun e29 h29 => ?_⟩
          refine ⟨by omega, ?_⟩
          refine ⟨rfl, by omega, fun e34 h34 => ?_⟩
          refine ⟨fun c2 => ?_, fun c2 => ?_⟩
          · replace c2 := of_decide_eq_true c2
            refine ⟨⟨by omega, by omega⟩, ?_⟩
            exact ⟨k + 1, (k : Int), rfl, rfl, ⟨by omega, by omega, by rw [← hv, drop_at h18, enterL]; congr 1; simp_all [List.getD_eq_getElem?_getD]; try omega⟩, by omega⟩
          · replace c2 := of_decide_eq_false c2
            refine ⟨⟨by omega, by omega⟩, ?_⟩
            exact ⟨k + 1, b, rfl, rfl, ⟨by omega, by omega, by rw [← hv, drop_at h18, enterL]; congr 1; simp_all [List.getD_eq_getElem?_getD]; try omega⟩, by omega⟩
      · replace g22 := of_decide_eq_false g22
        refine ⟨⟨by omega, by omega⟩, ?_⟩
        exact ⟨k + 1, b, rfl, rfl, ⟨by omega, by omega, by rw [← hv, drop_at h18, enterL]; congr 1; simp_all [List.getD_eq_getElem?_getD]; try omega⟩, by omega⟩
    · replace c1 := of_decide_eq_false c1
      refine ⟨?_, trivial⟩
      · first | (rw [enterM, if_pos c0, ← hv, drop_end (by omega), enterL]; done) | (simp [enterM, c0]; done)

def leaveL (bs : List Int) (j : Nat) : List (List RationalD × RationalD) → Nat → Int → Int → Int → Int
  | [], _, b, _, _ => b
  | z :: l, k, b, p, q =>
    if (z.1.getD j ⟨0, 0⟩).num ≤ 0 then leaveL bs j l (k + 1) b p q
    else if (divQ z.2.num z.2.den (z.1.getD j ⟨0, 0⟩).num (z.1.getD j ⟨0, 0⟩).den).2.2 = false then -1
    else if b < 0 ∨ cmpQ (divQ z.2.num z.2.den (z.1.getD j ⟨0, 0⟩).num (z.1.getD j ⟨0, 0⟩).den).1 (divQ z.2.num z.2.den (z.1.getD j ⟨0, 0⟩).num (z.1.getD j ⟨0, 0⟩).den).2.1 p q < 0 ∨ (cmpQ (divQ z.2.num z.2.den (z.1.getD j ⟨0, 0⟩).num (z.1.getD j ⟨0, 0⟩).den).1 (divQ z.2.num z.2.den (z.1.getD j ⟨0, 0⟩).num (z.1.getD j ⟨0, 0⟩).den).2.1 p q = 0 ∧ bs.getD k 0 < bs.getD b.toNat 0)
      then leaveL bs j l (k + 1) k (divQ z.2.num z.2.den (z.1.getD j ⟨0, 0⟩).num (z.1.getD j ⟨0, 0⟩).den).1 (divQ z.2.num z.2.den (z.1.getD j ⟨0, 0⟩).num (z.1.getD j ⟨0, 0⟩).den).2.1
    else leaveL bs j l (k + 1) b p q
theorem zip_at' {α β : Type} {l : List α} {m : List β} {k : Nat} {a : α} {b : β} (h1 : l[k]? = some a) (h2 : m[k]? = some b) : (l.zip m)[k]? = some (a, b) := by rw [List.getElem?_zip_eq_some]; exact ⟨h1, h2⟩
theorem at_some {α : Type} {l : List α} {k : Nat} (h : k < l.length) : ∃ x, l[k]? = some x := ⟨_, List.getElem?_eq_getElem h⟩
theorem getD_at {α : Type} {l : List α} {k : Nat} {x y : α} (h : l[k]? = some x) : l.getD k y = x := by simp [List.getD_eq_getElem?_getD, h]
theorem same_at {α : Type} {l : List α} {k : Nat} {x y : α} (h : l[k]? = some x) (h' : l[k]? = some y) : y = x := by rw [h] at h'; injection h' with e; exact e.symm
def leaveM (d : DictionaryD) (j : Int) : Int := if inB j 0 ((d.others.length : Int) - 1) = true ∧ okDic d = true then leaveL d.basic j.toNat (d.table.zip d.consts) 0 (-1) 0 0 else -1

set_option maxRecDepth 100000 in
set_option maxHeartbeats 4000000 in
theorem w_leaving (d : DictionaryD) (j : Int) (h : DicB d) (h0 : 0 ≤ j) (hj : j < d.others.length) : Con Try.prog 94 [.agg [.sl 3 1 (d.basic.map intD), .sl 3 1 (d.others.map intD), .sl 38 1 (d.table.map ratsD), .sl 35 2 (d.consts.map ratD), .sl 35 2 (d.costs.map ratD), .int .i64 d.value.num, .int .i64 d.value.den], .one (.int .i64 j)] (vI (leaveL d.basic j.toNat (d.table.zip d.consts) 0 (-1) 0 0)) [] := by
  refine con_x tbOk mixedW Try.func94 (by kernel_rfl) (.len d.basic.length <| .loop (Nat × Int × Int × Int) (Q4 Nat Int Int Int) [5, 7, 8, 9, 10, 15, 16, 17, 18, 19, 20, 21, 22, 23, 24, 25, 26, 27, 28, 29, 30, 31, 32, 33, 34, 35, 36, 37, 38, 39, 40, 41, 42, 43, 44, 45, 46, 47, 48, 49, 50, 51, 52, 53, 54, 55, 56, 57, 58, 59, 60, 61, 62, 63, 64, 65, 66, 67, 68, 69, 70, 71, 72, 73, 74, 75] [600, 800] (fun yy0 => [(5, vI yy0.2.1), (15, vI (yy0.1 : Int))]) (fun yy0 => [(600, some (.box 35 [vI yy0.2.2.1, vI yy0.2.2.2]))]) (fun yy0 => yy0.1 ≤ d.basic.length ∧ yy0.2.1 < d.basic.length ∧ leaveL d.basic j.toNat ((d.table.zip d.consts).drop yy0.1) yy0.1 yy0.2.1 yy0.2.2.1 yy0.2.2.2 = leaveL d.basic j.toNat (d.table.zip d.consts) 0 (-1) 0 0) (fun yy0 => d.basic.length - yy0.1) (fun yy0 => .br (.elem (List RationalD) ratsD d.table (fun e21 => .elem RationalD ratD e21 (fun e24 => .br (.back [(600, 600)]) (.elem RationalD ratD d.consts (fun e32 => .elem (List RationalD) ratsD d.table (fun e37 => .elem RationalD ratD e37 (fun e40 => .call (.tup [.agg [vI ((divQ e32.num e32.den e40.num e40.den).1), vI ((divQ e32.num e32.den e40.num e40.den).2.1)], vB ((divQ e32.num e32.den e40.num e40.den).2.2)]) [] <| .br (.fin []) (.call (vI (cmpQ ((divQ e32.num e32.den e40.num e40.den).1) ((divQ e32.num e32.den e40.num e40.den).2.1) yy0.2.2.1 yy0.2.2.2)) [] <| .br (.back [(600, 600)]) (.lit <| .lit <| .br (.back [(600, 600)]) (.lit <| .lit <| .br (.elem Int intD d.basic (fun e63 => .elem Int intD d.basic (fun e68 => .lit <| .lit <| .lit <| .lit <| .lit <| .br (.back [(600, 600)]) (.back [(600, 600)])))) (.back [(600, 600)]))))))))))) (.fin []))) ?_
  refine Eq.mpr (by kernel_rfl : _ = ((d.basic.map intD).length ≤ 9223372036854775807 → (d.others.map intD).length ≤ 9223372036854775807 → (d.table.map ratsD).length ≤ 9223372036854775807 → (d.consts.map ratD).length ≤ 9223372036854775807 → (d.costs.map ratD).length ≤ 9223372036854775807 → (d.basic.map intD).length = d.basic.length ∧ ((∃ (k : Nat) (b : Int) (p : Int) (q : Int), (-1 : Int) = b ∧ (0 : Int) = (k : Int) ∧ (0 : Int) = p ∧ (0 : Int) = q ∧ k ≤ d.basic.length ∧ b < d.basic.length ∧ leaveL d.basic j.toNat ((d.table.zip d.consts).drop k) k b p q = leaveL d.basic j.toNat (d.table.zip d.consts) 0 (-1) 0 0) ∧ ∀ (k : Nat) (b : Int) (p : Int) (q : Int), (k ≤ d.basic.length ∧ b < d.basic.length ∧ leaveL d.basic j.toNat ((d.table.zip d.consts).drop k) k b p q = leaveL d.basic j.toNat (d.table.zip d.consts) 0 (-1) 0 0) → ((decide ((k : Int) < ((d.basic.length : Nat) : Int))) = true → 0 ≤ (k : Int) ∧ (d.table.map ratsD = d.table.map ratsD ∧ k < d.table.length ∧ ∀ e21, d.table[k]? = some e21 → 0 ≤ j ∧ (e21.map ratD = e21.map ratD ∧ (j).toNat < e21.length ∧ ∀ e24, e21[(j).toNat]? = some e24 → ((decide (e24.num ≤ (0 : Int))) = true → inR ((k : Int) + (1 : Int)) ∧ ∃ (k' : Nat) (b' : Int) (p' : Int) (q' : Int), b = b' ∧ ((k : Int) + (1 : Int)) = (k' : Int) ∧ p = p' ∧ q = q' ∧ (k' ≤ d.basic.length ∧ b' < d.basic.length ∧ leaveL d.basic j.toNat ((d.table.zip d.consts).drop k') k' b' p' q' = leaveL d.basic j.toNat (d.table.zip d.consts) 0 (-1) 0 0) ∧ d.basic.length - k' < d.basic.length - k) ∧ ((decide (e24.num ≤ (0 : Int))) = false → 0 ≤ (k : Int) ∧ (d.consts.map ratD = d.consts.map ratD ∧ k < d.consts.length ∧ ∀ e32, d.consts[k]? = some e32 → 0 ≤ (k : Int) ∧ (d.table.map ratsD = d.table.map ratsD ∧ k < d.table.length ∧ ∀ e37, d.table[k]? = some e37 → 0 ≤ j ∧ (e37.map ratD = e37.map ratD ∧ (j).toNat < e37.length ∧ ∀ e40, e37[(j).toNat]? = some e40 → Con Try.prog 108 [.agg [.int .i64 e32.num, .int .i64 e32.den], .agg [.int .i64 e40.num, .int .i64 e40.den]] (.tup [.agg [vI ((divQ e32.num e32.den e40.num e40.den).1), vI ((divQ e32.num e32.den e40.num e40.den).2.1)], vB ((divQ e32.num e32.den e40.num e40.den).2.2)]) [] ∧ (((!((divQ e32.num e32.den e40.num e40.den).2.2)) = true → (-1 : Int) = (leaveL d.basic j.toNat (d.table.zip d.consts) 0 (-1) 0 0) ∧ True) ∧ ((!((divQ e32.num e32.den e40.num e40.den).2.2)) = false → Con Try.prog 82 [.agg [.int .i64 ((divQ e32.num e32.den e40.num e40.den).1), .int .i64 ((divQ e32.num e32.den e40.num e40.den).2.1)], .agg [.int .i64 p, .int .i64 q]] (vI (cmpQ ((divQ e32.num e32.den e40.num e40.den).1) ((divQ e32.num e32.den e40.num e40.den).2.1) p q)) [] ∧ (((decide (b < (0 : Int))) = true → inR ((k : Int) + (1 : Int)) ∧ ∃ (k' : Nat) (b' : Int) (p' : Int) (q' : Int), (k : Int) = b' ∧ ((k : Int) + (1 : Int)) = (k' : Int) ∧ ((divQ e32.num e32.den e40.num e40.den).1) = p' ∧ ((divQ e32.num e32.den e40.num e40.den).2.1) = q' ∧ (k' ≤ d.basic.length ∧ b' < d.basic.length ∧ leaveL d.basic j.toNat ((d.table.zip d.consts).drop k') k' b' p' q' = leaveL d.basic j.toNat (d.table.zip d.consts) 0 (-1) 0 0) ∧ d.basic.length - k' < d.basic.length - k) ∧ ((decide (b < (0 : Int))) = false → ((decide ((cmpQ ((divQ e32.num e32.den e40.num e40.den).1) ((divQ e32.num e32.den e40.num e40.den).2.1) p q) < (0 : Int))) = true → inR ((k : Int) + (1 : Int)) ∧ ∃ (k' : Nat) (b' : Int) (p' : Int) (q' : Int), (k : Int) = b' ∧ ((k : Int) + (1 : Int)) = (k' : Int) ∧ ((divQ e32.num e32.den e40.num e40.den).1) = p' ∧ ((divQ e32.num e32.den e40.num e40.den).2.1) = q' ∧ (k' ≤ d.basic.length ∧ b' < d.basic.length ∧ leaveL d.basic j.toNat ((d.table.zip d.consts).drop k') k' b' p' q' = leaveL d.basic j.toNat (d.table.zip d.consts) 0 (-1) 0 0) ∧ d.basic.length - k' < d.basic.length - k) ∧ ((decide ((cmpQ ((divQ e32.num e32.den e40.num e40.den).1) ((divQ e32.num e32.den e40.num e40.den).2.1) p q) < (0 : Int))) = false → ((decide ((cmpQ ((divQ e32.num e32.den e40.num e40.den).1) ((divQ e32.num e32.den e40.num e40.den).2.1) p q) = (0 : Int))) = true → 0 ≤ (k : Int) ∧ (d.basic.map intD = d.basic.map intD ∧ k < d.basic.length ∧ ∀ e63, d.basic[k]? = some e63 → 0 ≤ b ∧ (d.basic.map intD = d.basic.map intD ∧ (b).toNat < d.basic.length ∧ ∀ e68, d.basic[(b).toNat]? = some e68 → ((decide (e63 < e68)) = true → inR ((k : Int) + (1 : Int)) ∧ ∃ (k' : Nat) (b' : Int) (p' : Int) (q' : Int), (k : Int) = b' ∧ ((k : Int) + (1 : Int)) = (k' : Int) ∧ ((divQ e32.num e32.den e40.num e40.den).1) = p' ∧ ((divQ e32.num e32.den e40.num e40.den).2.1) = q' ∧ (k' ≤ d.basic.length ∧ b' < d.basic.length ∧ leaveL d.basic j.toNat ((d.table.zip d.consts).drop k') k' b' p' q' = leaveL d.basic j.toNat (d.table.zip d.consts) 0 (-1) 0 0) ∧ d.basic.length - k' < d.basic.length - k) ∧ ((decide (e63 < e68)) = false → inR ((k : Int) + (1 : Int)) ∧ ∃ (k' : Nat) (b' : Int) (p' : Int) (q' : Int), b = b' ∧ ((k : Int) + (1 : Int)) = (k' : Int) ∧ p = p' ∧ q = q' ∧ (k' ≤ d.basic.length ∧ b' < d.basic.length ∧ leaveL d.basic j.toNat ((d.table.zip d.consts).drop k') k' b' p' q' = leaveL d.basic j.toNat (d.table.zip d.consts) 0 (-1) 0 0) ∧ d.basic.length - k' < d.basic.length - k)))) ∧ ((decide ((cmpQ ((divQ e32.num e32.den e40.num e40.den).1) ((divQ e32.num e32.den e40.num e40.den).2.1) p q) = (0 : Int))) = false → inR ((k : Int) + (1 : Int)) ∧ ∃ (k' : Nat) (b' : Int) (p' : Int) (q' : Int), b = b' ∧ ((k : Int) + (1 : Int)) = (k' : Int) ∧ p = p' ∧ q = q' ∧ (k' ≤ d.basic.length ∧ b' < d.basic.length ∧ leaveL d.basic j.toNat ((d.table.zip d.consts).drop k') k' b' p' q' = leaveL d.basic j.toNat (d.table.zip d.consts) 0 (-1) 0 0) ∧ d.basic.length - k' < d.basic.length - k))))))))))))) ∧ ((decide ((k : Int) < ((d.basic.length : Nat) : Int))) = false → b = (leaveL d.basic j.toNat (d.table.zip d.consts) 0 (-1) 0 0) ∧ True)))) ?_
  intro n0 n1 n2 n3 n4
  simp only [List.length_map] at n0 n1 n2 n3 n4
  obtain ⟨b1, b2, b3, b4, b5, b6, b7⟩ := h
  refine ⟨List.length_map _, ?_⟩
  refine ⟨⟨0, (-1 : Int), (0 : Int), (0 : Int), rfl, rfl, rfl, rfl, Nat.zero_le _, by omega, rfl⟩, fun k b p q ⟨hk, hb, hv⟩ => ?_⟩
  refine ⟨fun c0 => ?_, fun c0 => ?_⟩
  · replace c0 := of_decide_eq_true c0
    obtain ⟨x, hx⟩ := at_some (l := d.consts) (k := k) (by omega)
    refine ⟨by omega, ?_⟩
    refine ⟨rfl, by omega, fun e21 h21 => ?_⟩
    have r21 := b5 e21 (List.mem_of_getElem? h21)
    have hz := drop_at (zip_at' h21 hx)
    refine ⟨by omega, ?_⟩
    refine ⟨rfl, by omega, fun e24 h24 => ?_⟩
    refine ⟨fun c1 => ?_, fun c1 => ?_⟩
    · replace c1 := of_decide_eq_true c1
      refine ⟨⟨by omega, by omega⟩, ?_⟩
      exact ⟨k + 1, b, p, q, rfl, rfl, rfl, rfl, ⟨by omega, by omega, by rw [← hv, hz, leaveL]; dsimp only; rw [getD_at h24]; simp_all [List.getD_eq_getElem?_getD]; try omega⟩, by omega⟩
    · replace c1 := of_decide_eq_false c1
      refine ⟨by omega, ?_⟩
      refine ⟨rfl, by omega, fun e32 h32 => ?_⟩
      have q1 := same_at hx h32
      subst q1
      refine ⟨by omega, ?_⟩
      refine ⟨rfl, by omega, fun e37 h37 => ?_⟩
      have q2 := same_at h21 h37
      subst q2
      refine ⟨by omega, ?_⟩
      refine ⟨rfl, by omega, fun e40 h40 => ?_⟩
      have q3 := same_at h24 h40
      subst q3
      refine ⟨c_div_impl rfl, ?_⟩
      refine ⟨fun c2 => ?_, fun c2 => ?_⟩
      · replace c2 := nt c2
        refine ⟨?_, trivial⟩
        · first | (rw [← hv, drop_end (by simp; omega), leaveL]; done) | (rw [← hv, hz, leaveL]; dsimp only; rw [getD_at h24]; simp_all; omega)
      · replace c2 := nf c2
        refine ⟨c_cmp_impl rfl, ?_⟩
        refine ⟨fun g52 => ?_, fun g52 => ?_⟩
        · replace g52 := of_decide_eq_true g52
          refine ⟨⟨by omega, by omega⟩, ?_⟩
          exact ⟨k + 1, (k : Int), (divQ e32.num e32.den e40.num e40.den).1, (divQ e32.num e32.den e40.num e40.den).2.1, rfl, rfl, rfl, rfl, ⟨by omega, by omega, by rw [← hv, hz, leaveL]; dsimp only; rw [getD_at h24]; simp_all [List.getD_eq_getElem?_getD]; try omega⟩, by omega⟩
        · replace g52 := of_decide_eq_false g52
          refine ⟨fun g56 => ?_, fun g56 => ?_⟩
          · replace g56 := of_decide_eq_true g56
            refine ⟨⟨by omega, by omega⟩, ?_⟩
            exact ⟨k + 1, (k : Int), (divQ e32.num e32.den e40.num e40.den).1, (divQ e32.num e32.den e40.num e40.den).2.1, rfl, rfl, rfl, rfl, ⟨by omega, by omega, by rw [← hv, hz, leaveL]; dsimp only; rw [getD_at h24]; simp_all [List.getD_eq_getElem?_getD]; try omega⟩, by omega⟩
          · replace g56 := of_decide_eq_false g56
            refine ⟨fun g59 => ?_, fun g59 => ?_⟩
            · replace g59 := of_decide_eq_true g59
              refine ⟨by omega, ?_⟩
              refine ⟨rfl, by omega, fun e63 h63 => ?_⟩
              refine ⟨by omega, ?_⟩
              refine ⟨rfl, by omega, fun e68 h68 => ?_⟩
              refine ⟨fun c3 => ?_, fun c3 => ?_⟩
              · replace c3 := of_decide_eq_true c3
                refine ⟨⟨by omega, by omega⟩, ?_⟩
                exact ⟨k + 1, (k : Int), (divQ e32.num e32.den e40.num e40.den).1, (divQ e32.num e32.den e40.num e40.den).2.1, rfl, rfl, rfl, rfl, ⟨by omega, by omega, by rw [← hv, hz, leaveL]; dsimp only; rw [getD_at h24]; simp_all [List.getD_eq_getElem?_getD]; try omega⟩, by omega⟩
              · replace c3 := of_decide_eq_false c3
                refine ⟨⟨by omega, by omega⟩, ?_⟩
                exact ⟨k + 1, b, p, q, rfl, rfl, rfl, rfl, ⟨by omega, by omega, by rw [← hv, hz, leaveL]; dsimp only; rw [getD_at h24]; simp_all [List.getD_eq_getElem?_getD]; try omega⟩, by omega⟩
            · replace g59 := of_decide_eq_false g59
              refine ⟨⟨by omega, by omega⟩, ?_⟩
              exact ⟨k + 1, b, p, q, rfl, rfl, rfl, rfl, ⟨by omega, by omega, by rw [← hv, hz, leaveL]; dsimp only; rw [getD_at h24]; simp_all [List.getD_eq_getElem?_getD]; try omega⟩, by omega⟩
  · replace c0 := of_decide_eq_false c0
    refine ⟨?_, trivial⟩
    · first | (rw [← hv, drop_end (by simp; omega), leaveL]; done) | (rw [← hv, hz, leaveL]; dsimp only; rw [getD_at h24]; simp_all; omega)

set_option maxRecDepth 100000 in
set_option maxHeartbeats 4000000 in
theorem w_leave_impl (d : DictionaryD) (j : Int) (hs : SmallD d) : Con Try.prog 50 [.agg [.sl 3 1 (d.basic.map intD), .sl 3 1 (d.others.map intD), .sl 38 1 (d.table.map ratsD), .sl 35 2 (d.consts.map ratD), .sl 35 2 (d.costs.map ratD), .int .i64 d.value.num, .int .i64 d.value.den], .one (.int .i64 j)] (vI (leaveM d j)) [] := by
  refine con_x tbOk mixedW Try.func50 (by kernel_rfl) (.len d.others.length <| .call (vB (inB j (0 : Int) (((d.others.length : Nat) : Int) - (1 : Int)))) [] <| .br (.fin []) (.call (vB (okDic d)) [] <| .lit <| .lit <| .br (.fin []) (.call (vI (leaveL d.basic j.toNat (d.table.zip d.consts) 0 (-1) 0 0)) [] <| .fin []))) ?_
  refine Eq.mpr (by kernel_rfl : _ = ((d.basic.map intD).length ≤ 9223372036854775807 → (d.others.map intD).length ≤ 9223372036854775807 → (d.table.map ratsD).length ≤ 9223372036854775807 → (d.consts.map ratD).length ≤ 9223372036854775807 → (d.costs.map ratD).length ≤ 9223372036854775807 → (d.others.map intD).length = d.others.length ∧ (inR (((d.others.length : Nat) : Int) - (1 : Int)) ∧ (Con Try.prog 62 [.one (.int .i64 j), .one (.int .i64 (0 : Int)), .one (.int .i64 (((d.others.length : Nat) : Int) - (1 : Int)))] (vB (inB j (0 : Int) (((d.others.length : Nat) : Int) - (1 : Int)))) [] ∧ (((!(inB j (0 : Int) (((d.others.length : Nat) : Int) - (1 : Int)))) = true → (-1 : Int) = (leaveM d j) ∧ True) ∧ ((!(inB j (0 : Int) (((d.others.length : Nat) : Int) - (1 : Int)))) = false → Con Try.prog 46 [.agg [.sl 3 1 (d.basic.map intD), .sl 3 1 (d.others.map intD), .sl 38 1 (d.table.map ratsD), .sl 35 2 (d.consts.map ratD), .sl 35 2 (d.costs.map ratD), .int .i64 d.value.num, .int .i64 d.value.den]] (vB (okDic d)) [] ∧ (((!(okDic d)) = true → (-1 : Int) = (leaveM d j) ∧ True) ∧ ((!(okDic d)) = false → Con Try.prog 94 [.agg [.sl 3 1 (d.basic.map intD), .sl 3 1 (d.others.map intD), .sl 38 1 (d.table.map ratsD), .sl 35 2 (d.consts.map ratD), .sl 35 2 (d.costs.map ratD), .int .i64 d.value.num, .int .i64 d.value.den], .one (.int .i64 j)] (vI (leaveL d.basic j.toNat (d.table.zip d.consts) 0 (-1) 0 0)) [] ∧ (leaveL d.basic j.toNat (d.table.zip d.consts) 0 (-1) 0 0) = (leaveM d j) ∧ True)))))))) ?_
  intro n0 n1 n2 n3 n4
  simp only [List.length_map] at n0 n1 n2 n3 n4
  refine ⟨List.length_map _, ?_⟩
  refine ⟨⟨by omega, by omega⟩, ?_⟩
  refine ⟨c_within rfl, ?_⟩
  refine ⟨fun g12 => ?_, fun g12 => ?_⟩
  · replace g12 := nt g12
    refine ⟨?_, trivial⟩
    · first | (simp [leaveM, g12, g16]; done) | (simp [leaveM, g12]; done) | (simp [leaveM, c0]; done)
  · replace g12 := nf g12
    refine ⟨c_okDic_impl hs rfl, ?_⟩
    refine ⟨fun c0 => ?_, fun c0 => ?_⟩
    · replace c0 := nt c0
      refine ⟨?_, trivial⟩
      · first | (simp [leaveM, g12, g16]; done) | (simp [leaveM, g12]; done) | (simp [leaveM, c0]; done)
    · replace c0 := nf c0
      have g16 := c0
      refine ⟨w_leaving d j (okDic_bnd g16) (by have := inB_true g12; omega) (by have := inB_true g12; omega), ?_⟩
      refine ⟨?_, trivial⟩
      · first | (simp [leaveM, g12, g16]; done) | (simp [leaveM, g12]; done) | (simp [leaveM, c0]; done)

set_option maxRecDepth 100000 in
set_option maxHeartbeats 4000000 in
theorem w_leave_spec (d : DictionaryD) (j : Int) (hs : SmallD d) : Con Try.prog 49 [.agg [.sl 3 1 (d.basic.map intD), .sl 3 1 (d.others.map intD), .sl 38 1 (d.table.map ratsD), .sl 35 2 (d.consts.map ratD), .sl 35 2 (d.costs.map ratD), .int .i64 d.value.num, .int .i64 d.value.den], .one (.int .i64 j)] (vI (leaveM d j)) [] := by
  refine con_x tbOk mixedW Try.func49 (by kernel_rfl) (.call (vB (okDic d)) [] <| .br (.fin []) (.len d.others.length <| .call (vB (inB j (0 : Int) (((d.others.length : Nat) : Int) - (1 : Int)))) [] <| .lit <| .lit <| .br (.fin []) (.loop (Nat × Int × Int × Int) (Q4 Nat Int Int Int) [5, 7, 8, 9, 10, 24, 25, 26, 27, 28, 29, 30, 31, 32, 33, 34, 35, 36, 37, 38, 39, 40, 41, 42, 43, 44, 45, 46, 47, 48, 49, 50, 51, 52, 53, 54, 55, 56, 57, 58, 59, 60, 61, 62, 63, 64, 65, 66, 67, 68, 69, 70, 71, 72, 73, 74, 75, 76, 77, 78, 79, 80, 81, 82, 83, 84, 85, 86, 87] [600, 800] (fun yy0 => [(5, vI yy0.2.1), (7, vI (yy0.1 : Int))]) (fun yy0 => [(600, some (.box 35 [vI yy0.2.2.1, vI yy0.2.2.2]))]) (fun yy0 => yy0.1 ≤ d.basic.length ∧ yy0.2.1 < d.basic.length ∧ leaveL d.basic j.toNat ((d.table.zip d.consts).drop yy0.1) yy0.1 yy0.2.1 yy0.2.2.1 yy0.2.2.2 = leaveL d.basic j.toNat (d.table.zip d.consts) 0 (-1) 0 0) (fun yy0 => d.basic.length - yy0.1) (fun yy0 => .len d.basic.length <| .br (.elem (List RationalD) ratsD d.table (fun e34 => .elem RationalD ratD e34 (fun e37 => .br (.back [(600, 600)]) (.elem RationalD ratD d.consts (fun e45 => .elem (List RationalD) ratsD d.table (fun e50 => .elem RationalD ratD e50 (fun e53 => .call (.tup [.agg [vI ((divQ e45.num e45.den e53.num e53.den).1), vI ((divQ e45.num e45.den e53.num e53.den).2.1)], vB ((divQ e45.num e45.den e53.num e53.den).2.2)]) [] <| .br (.fin []) (.call (vI (cmpQ ((divQ e45.num e45.den e53.num e53.den).1) ((divQ e45.num e45.den e53.num e53.den).2.1) yy0.2.2.1 yy0.2.2.2)) [] <| .br (.back [(600, 600)]) (.lit <| .lit <| .br (.back [(600, 600)]) (.lit <| .lit <| .br (.elem Int intD d.basic (fun e76 => .elem Int intD d.basic (fun e81 => .lit <| .lit <| .lit <| .lit <| .lit <| .br (.back [(600, 600)]) (.back [(600, 600)])))) (.back [(600, 600)]))))))))))) (.fin []))))) ?_
  refine Eq.mpr (by kernel_rfl : _ = ((d.basic.map intD).length ≤ 9223372036854775807 → (d.others.map intD).length ≤ 9223372036854775807 → (d.table.map ratsD).length ≤ 9223372036854775807 → (d.consts.map ratD).length ≤ 9223372036854775807 → (d.costs.map ratD).length ≤ 9223372036854775807 → Con Try.prog 44 [.agg [.sl 3 1 (d.basic.map intD), .sl 3 1 (d.others.map intD), .sl 38 1 (d.table.map ratsD), .sl 35 2 (d.consts.map ratD), .sl 35 2 (d.costs.map ratD), .int .i64 d.value.num, .int .i64 d.value.den]] (vB (okDic d)) [] ∧ (((!(okDic d)) = true → (-1 : Int) = (leaveM d j) ∧ True) ∧ ((!(okDic d)) = false → (d.others.map intD).length = d.others.length ∧ (inR (((d.others.length : Nat) : Int) - (1 : Int)) ∧ (Con Try.prog 59 [.one (.int .i64 j), .one (.int .i64 (0 : Int)), .one (.int .i64 (((d.others.length : Nat) : Int) - (1 : Int)))] (vB (inB j (0 : Int) (((d.others.length : Nat) : Int) - (1 : Int)))) [] ∧ (((!(inB j (0 : Int) (((d.others.length : Nat) : Int) - (1 : Int)))) = true → (-1 : Int) = (leaveM d j) ∧ True) ∧ ((!(inB j (0 : Int) (((d.others.length : Nat) : Int) - (1 : Int)))) = false → (∃ (k : Nat) (b : Int) (p : Int) (q : Int), (-1 : Int) = b ∧ (0 : Int) = (k : Int) ∧ (0 : Int) = p ∧ (0 : Int) = q ∧ k ≤ d.basic.length ∧ b < d.basic.length ∧ leaveL d.basic j.toNat ((d.table.zip d.consts).drop k) k b p q = leaveL d.basic j.toNat (d.table.zip d.consts) 0 (-1) 0 0) ∧ ∀ (k : Nat) (b : Int) (p : Int) (q : Int), (k ≤ d.basic.length ∧ b < d.basic.length ∧ leaveL d.basic j.toNat ((d.table.zip d.consts).drop k) k b p q = leaveL d.basic j.toNat (d.table.zip d.consts) 0 (-1) 0 0) → (d.basic.map intD).length = d.basic.length ∧ (((decide ((k : Int) < ((d.basic.length : Nat) : Int))) = true → 0 ≤ (k : Int) ∧ (d.table.map ratsD = d.table.map ratsD ∧ k < d.table.length ∧ ∀ e34, d.table[k]? = some e34 → 0 ≤ j ∧ (e34.map ratD = e34.map ratD ∧ (j).toNat < e34.length ∧ ∀ e37, e34[(j).toNat]? = some e37 → ((decide (e37.num ≤ (0 : Int))) = true → inR ((k : Int) + (1 : Int)) ∧ ∃ (k' : Nat) (b' : Int) (p' : Int) (q' : Int), b = b' ∧ ((k : Int) + (1 : Int)) = (k' : Int) ∧ p = p' ∧ q = q' ∧ (k' ≤ d.basic.length ∧ b' < d.basic.length ∧ leaveL d.basic j.toNat ((d.table.zip d.consts).drop k') k' b' p' q' = leaveL d.basic j.toNat (d.table.zip d.consts) 0 (-1) 0 0) ∧ d.basic.length - k' < d.basic.length - k) ∧ ((decide (e37.num ≤ (0 : Int))) = false → 0 ≤ (k : Int) ∧ (d.consts.map ratD = d.consts.map ratD ∧ k < d.consts.length ∧ ∀ e45, d.consts[k]? = some e45 → 0 ≤ (k : Int) ∧ (d.table.map ratsD = d.table.map ratsD ∧ k < d.table.length ∧ ∀ e50, d.table[k]? = some e50 → 0 ≤ j ∧ (e50.map ratD = e50.map ratD ∧ (j).toNat < e50.length ∧ ∀ e53, e50[(j).toNat]? = some e53 → Con Try.prog 93 [.agg [.int .i64 e45.num, .int .i64 e45.den], .agg [.int .i64 e53.num, .int .i64 e53.den]] (.tup [.agg [vI ((divQ e45.num e45.den e53.num e53.den).1), vI ((divQ e45.num e45.den e53.num e53.den).2.1)], vB ((divQ e45.num e45.den e53.num e53.den).2.2)]) [] ∧ (((!((divQ e45.num e45.den e53.num e53.den).2.2)) = true → (-1 : Int) = (leaveM d j) ∧ True) ∧ ((!((divQ e45.num e45.den e53.num e53.den).2.2)) = false → Con Try.prog 80 [.agg [.int .i64 ((divQ e45.num e45.den e53.num e53.den).1), .int .i64 ((divQ e45.num e45.den e53.num e53.den).2.1)], .agg [.int .i64 p, .int .i64 q]] (vI (cmpQ ((divQ e45.num e45.den e53.num e53.den).1) ((divQ e45.num e45.den e53.num e53.den).2.1) p q)) [] ∧ (((decide (b < (0 : Int))) = true → inR ((k : Int) + (1 : Int)) ∧ ∃ (k' : Nat) (b' : Int) (p' : Int) (q' : Int), (k : Int) = b' ∧ ((k : Int) + (1 : Int)) = (k' : Int) ∧ ((divQ e45.num e45.den e53.num e53.den).1) = p' ∧ ((divQ e45.num e45.den e53.num e53.den).2.1) = q' ∧ (k' ≤ d.basic.length ∧ b' < d.basic.length ∧ leaveL d.basic j.toNat ((d.table.zip d.consts).drop k') k' b' p' q' = leaveL d.basic j.toNat (d.table.zip d.consts) 0 (-1) 0 0) ∧ d.basic.length - k' < d.basic.length - k) ∧ ((decide (b < (0 : Int))) = false → ((decide ((cmpQ ((divQ e45.num e45.den e53.num e53.den).1) ((divQ e45.num e45.den e53.num e53.den).2.1) p q) < (0 : Int))) = true → inR ((k : Int) + (1 : Int)) ∧ ∃ (k' : Nat) (b' : Int) (p' : Int) (q' : Int), (k : Int) = b' ∧ ((k : Int) + (1 : Int)) = (k' : Int) ∧ ((divQ e45.num e45.den e53.num e53.den).1) = p' ∧ ((divQ e45.num e45.den e53.num e53.den).2.1) = q' ∧ (k' ≤ d.basic.length ∧ b' < d.basic.length ∧ leaveL d.basic j.toNat ((d.table.zip d.consts).drop k') k' b' p' q' = leaveL d.basic j.toNat (d.table.zip d.consts) 0 (-1) 0 0) ∧ d.basic.length - k' < d.basic.length - k) ∧ ((decide ((cmpQ ((divQ e45.num e45.den e53.num e53.den).1) ((divQ e45.num e45.den e53.num e53.den).2.1) p q) < (0 : Int))) = false → ((decide ((cmpQ ((divQ e45.num e45.den e53.num e53.den).1) ((divQ e45.num e45.den e53.num e53.den).2.1) p q) = (0 : Int))) = true → 0 ≤ (k : Int) ∧ (d.basic.map intD = d.basic.map intD ∧ k < d.basic.length ∧ ∀ e76, d.basic[k]? = some e76 → 0 ≤ b ∧ (d.basic.map intD = d.basic.map intD ∧ (b).toNat < d.basic.length ∧ ∀ e81, d.basic[(b).toNat]? = some e81 → ((decide (e76 < e81)) = true → inR ((k : Int) + (1 : Int)) ∧ ∃ (k' : Nat) (b' : Int) (p' : Int) (q' : Int), (k : Int) = b' ∧ ((k : Int) + (1 : Int)) = (k' : Int) ∧ ((divQ e45.num e45.den e53.num e53.den).1) = p' ∧ ((divQ e45.num e45.den e53.num e53.den).2.1) = q' ∧ (k' ≤ d.basic.length ∧ b' < d.basic.length ∧ leaveL d.basic j.toNat ((d.table.zip d.consts).drop k') k' b' p' q' = leaveL d.basic j.toNat (d.table.zip d.consts) 0 (-1) 0 0) ∧ d.basic.length - k' < d.basic.length - k) ∧ ((decide (e76 < e81)) = false → inR ((k : Int) + (1 : Int)) ∧ ∃ (k' : Nat) (b' : Int) (p' : Int) (q' : Int), b = b' ∧ ((k : Int) + (1 : Int)) = (k' : Int) ∧ p = p' ∧ q = q' ∧ (k' ≤ d.basic.length ∧ b' < d.basic.length ∧ leaveL d.basic j.toNat ((d.table.zip d.consts).drop k') k' b' p' q' = leaveL d.basic j.toNat (d.table.zip d.consts) 0 (-1) 0 0) ∧ d.basic.length - k' < d.basic.length - k)))) ∧ ((decide ((cmpQ ((divQ e45.num e45.den e53.num e53.den).1) ((divQ e45.num e45.den e53.num e53.den).2.1) p q) = (0 : Int))) = false → inR ((k : Int) + (1 : Int)) ∧ ∃ (k' : Nat) (b' : Int) (p' : Int) (q' : Int), b = b' ∧ ((k : Int) + (1 : Int)) = (k' : Int) ∧ p = p' ∧ q = q' ∧ (k' ≤ d.basic.length ∧ b' < d.basic.length ∧ leaveL d.basic j.toNat ((d.table.zip d.consts).drop k') k' b' p' q' = leaveL d.basic j.toNat (d.table.zip d.consts) 0 (-1) 0 0) ∧ d.basic.length - k' < d.basic.length - k))))))))))))) ∧ ((decide ((k : Int) < ((d.basic.length : Nat) : Int))) = false → b = (leaveM d j) ∧ True)))))))))) ?_
  intro n0 n1 n2 n3 n4
  simp only [List.length_map] at n0 n1 n2 n3 n4
  refine ⟨c_okDic_spec hs rfl, ?_⟩
  refine ⟨fun g15 => ?_, fun g15 => ?_⟩
  · replace g15 := nt g15
    refine ⟨?_, trivial⟩
    · first | (rw [hM, ← hv, drop_end (by simp; omega), leaveL]; done) | (rw [hM, ← hv, hz, leaveL]; dsimp only; rw [getD_at h37]; simp_all; omega) | (simp [leaveM, g15]; done) | (simp [leaveM, c0]; done)
  · replace g15 := nf g15
    refine ⟨List.length_map _, ?_⟩
    refine ⟨⟨by omega, by omega⟩, ?_⟩
    refine ⟨c_l1In rfl, ?_⟩
    refine ⟨fun c0 => ?_, fun c0 => ?_⟩
    · replace c0 := nt c0
      refine ⟨?_, trivial⟩
      · first | (rw [hM, ← hv, drop_end (by simp; omega), leaveL]; done) | (rw [hM, ← hv, hz, leaveL]; dsimp only; rw [getD_at h37]; simp_all; omega) | (simp [leaveM, g15]; done) | (simp [leaveM, c0]; done)
    · replace c0 := nf c0
      obtain ⟨b1, b2, b3, b4, b5, b6, b7⟩ := okDic_bnd g15
      have hin := inB_true c0
      have hM : leaveM d j = leaveL d.basic j.toNat (d.table.zip d.consts) 0 (-1) 0 0 := if_pos ⟨c0, g15⟩
      refine ⟨⟨0, (-1 : Int), (0 : Int), (0 : Int), rfl, rfl, rfl, rfl, Nat.zero_le _, by omega, rfl⟩, fun k b p q ⟨hk, hb, hv⟩ => ?_⟩
      refine ⟨List.length_map _, ?_⟩
      refine ⟨fun c1 => ?_, fun c1 => ?_⟩
      · replace c1 := of_decide_eq_true c1
        obtain ⟨x, hx⟩ := at_some (l := d.consts) (k := k) (by omega)
        refine ⟨by omega, ?_⟩
        refine ⟨rfl, by omega, fun e34 h34 => ?_⟩
        have r21 := b5 e34 (List.mem_of_getElem? h34)
        have hz := drop_at (zip_at' h34 hx)
        refine ⟨by omega, ?_⟩
        refine ⟨rfl, by omega, fun e37 h37 => ?_⟩
        refine ⟨fun c2 => ?_, fun c2 => ?_⟩
        · replace c2 := of_decide_eq_true c2
          refine ⟨⟨by omega, by omega⟩, ?_⟩
          exact ⟨k + 1, b, p, q, rfl, rfl, rfl, rfl, ⟨by omega, by omega, by rw [← hv, hz, leaveL]; dsimp only; rw [getD_at h37]; simp_all [List.getD_eq_getElem?_getD]; try omega⟩, by omega⟩
        · replace c2 := of_decide_eq_false c2
          refine ⟨by omega, ?_⟩
          refine ⟨rfl, by omega, fun e45 h45 => ?_⟩
          have q1 := same_at hx h45
          subst q1
          refine ⟨by omega, ?_⟩
          refine ⟨rfl, by omega, fun e50 h50 => ?_⟩
          have q2 := same_at h34 h50
          subst q2
          refine ⟨by omega, ?_⟩
          refine ⟨rfl, by omega, fun e53 h53 => ?_⟩
          have q3 := same_at h37 h53
          subst q3
          refine ⟨c_div_spec rfl, ?_⟩
          refine ⟨fun c3 => ?_, fun c3 => ?_⟩
          · replace c3 := nt c3
            refine ⟨?_, trivial⟩
            · first | (rw [hM, ← hv, drop_end (by simp; omega), leaveL]; done) | (rw [hM, ← hv, hz, leaveL]; dsimp only; rw [getD_at h37]; simp_all; omega) | (simp [leaveM, g15]; done) | (simp [leaveM, c0]; done)
          · replace c3 := nf c3
            refine ⟨c_cmp_spec rfl, ?_⟩
            refine ⟨fun g65 => ?_, fun g65 => ?_⟩
            · replace g65 := of_decide_eq_true g65
              refine ⟨⟨by omega, by omega⟩, ?_⟩
              exact ⟨k + 1, (k : Int), (divQ e45.num e45.den e53.num e53.den).1, (divQ e45.num e45.den e53.num e53.den).2.1, rfl, rfl, rfl, rfl, ⟨by omega, by omega, by rw [← hv, hz, leaveL]; dsimp only; rw [getD_at h37]; simp_all [List.getD_eq_getElem?_getD]; try omega⟩, by omega⟩
            · replace g65 := of_decide_eq_false g65
              refine ⟨fun g69 => ?_, fun g69 => ?_⟩
              · replace g69 := of_decide_eq_true g69
                refine ⟨⟨by omega, by omega⟩, ?_⟩
                exact ⟨k + 1, (k : Int), (divQ e45.num e45.den e53.num e53.den).1, (divQ e45.num e45.den e53.num e53.den).2.1, rfl, rfl, rfl, rfl, ⟨by omega, by omega, by rw [← hv, hz, leaveL]; dsimp only; rw [getD_at h37]; simp_all [List.getD_eq_getElem?_getD]; try omega⟩, by omega⟩
              · replace g69 := of_decide_eq_false g69
                refine ⟨fun g72 => ?_, fun g72 => ?_⟩
                · replace g72 := of_decide_eq_true g72
                  refine ⟨by omega, ?_⟩
                  refine ⟨rfl, by omega, fun e76 h76 => ?_⟩
                  refine ⟨by omega, ?_⟩
                  refine ⟨rfl, by omega, fun e81 h81 => ?_⟩
                  refine ⟨fun c4 => ?_, fun c4 => ?_⟩
                  · replace c4 := of_decide_eq_true c4
                    refine ⟨⟨by omega, by omega⟩, ?_⟩
                    exact ⟨k + 1, (k : Int), (divQ e45.num e45.den e53.num e53.den).1, (divQ e45.num e45.den e53.num e53.den).2.1, rfl, rfl, rfl, rfl, ⟨by omega, by omega, by rw [← hv, hz, leaveL]; dsimp only; rw [getD_at h37]; simp_all [List.getD_eq_getElem?_getD]; try omega⟩, by omega⟩
                  · replace c4 := of_decide_eq_false c4
                    refine ⟨⟨by omega, by omega⟩, ?_⟩
                    exact ⟨k + 1, b, p, q, rfl, rfl, rfl, rfl, ⟨by omega, by omega, by rw [← hv, hz, leaveL]; dsimp only; rw [getD_at h37]; simp_all [List.getD_eq_getElem?_getD]; try omega⟩, by omega⟩
                · replace g72 := of_decide_eq_false g72
                  refine ⟨⟨by omega, by omega⟩, ?_⟩
                  exact ⟨k + 1, b, p, q, rfl, rfl, rfl, rfl, ⟨by omega, by omega, by rw [← hv, hz, leaveL]; dsimp only; rw [getD_at h37]; simp_all [List.getD_eq_getElem?_getD]; try omega⟩, by omega⟩
      · replace c1 := of_decide_eq_false c1
        refine ⟨?_, trivial⟩
        · first | (rw [hM, ← hv, drop_end (by simp; omega), leaveL]; done) | (rw [hM, ← hv, hz, leaveL]; dsimp only; rw [getD_at h37]; simp_all; omega) | (simp [leaveM, g15]; done) | (simp [leaveM, c0]; done)
end Go.Proofs.Ytcgjlddpbkponaa
