/-
  Sets of variables and logarithms, both sides.
-/
import Derived.Test.YtjlagjhmlmfjeaaGreatIc
import Derived.Test.YtjlagjhmlmfjeaaGreatGf
import Derived.IntWalk
namespace Go.Proofs.YtjlagjhmlmfjeaaGreat
open Go.ChangeShapes Go.WideShapes Go.ChangeAt Go.RowKit
set_option linter.unusedVariables false
set_option linter.unusedSimpArgs false
def vstI (m x : Int) : Int := if inB x 0 3 = true then bitI .or .i64 m ((1 : Int) * 2 ^ x.toNat) else m
def vsetI (l : List Int) : Int := l.foldl vstI 0
theorem vsetI_snoc (l : List Int) (x : Int) : vsetI (l ++ [x]) = vstI (vsetI l) x := by simp [vsetI]
theorem vstI_yes {m x : Int} (h : inB x 0 3 = true) : vstI m x = bitI .or .i64 m ((1 : Int) * 2 ^ x.toNat) := by rw [vstI, if_pos h]
theorem vstI_no {m x : Int} (h : inB x 0 3 = false) : vstI m x = m := by rw [vstI, if_neg (by rw [h]; decide)]
theorem two_in {x : Int} (h : inB x 0 3 = true) : inR ((1 : Int) * 2 ^ x.toNat) ∧ 0 ≤ x ∧ x ≤ 64 := by
  have h2 := inB_true h
  have h1 : x = 0 ∨ x = 1 ∨ x = 2 ∨ x = 3 := by omega
  refine ⟨?_, by omega, by omega⟩
  unfold inR
  rcases h1 with rfl | rfl | rfl | rfl <;> exact ⟨by decide, by decide⟩
def vsS (m : Int) (l : List Int) : Nat → Int
  | 0 => 0
  | k + 1 => if (decide (bitI .and .i64 (m / 2 ^ k) 1 = 1) && inB (l.getD k 0) 0 3) = true then bitI .or .i64 (vsS m l k) ((1 : Int) * 2 ^ (l.getD k 0).toNat) else vsS m l k
theorem vsS_yes {m : Int} {l : List Int} {k : Nat} {x : Int} (hx : l[k]? = some x) (h1 : bitI .and .i64 (m / 2 ^ k) 1 = 1) (h2 : inB x 0 3 = true) : vsS m l (k + 1) = bitI .or .i64 (vsS m l k) ((1 : Int) * 2 ^ x.toNat) := by
  rw [vsS, getD_at hx, if_pos (by simp [h1, h2])]
theorem vsS_no {m : Int} {l : List Int} {k : Nat} {x : Int} (hx : l[k]? = some x) (h : (decide (bitI .and .i64 (m / 2 ^ k) 1 = 1) && inB x 0 3) = false) : vsS m l (k + 1) = vsS m l k := by
  rw [vsS, getD_at hx, if_neg (by rw [h]; decide)]
theorem vsS_bits (m : Int) (l : List Int) : ∀ k, vsetI ((bitsN m k).map (pickC l)) = vsS m l k
  | 0 => rfl
  | k + 1 => by
    by_cases h : bitI .and .i64 (m / 2 ^ k) 1 = 1
    · rw [bitsN_yes h, List.map_append, List.map_cons, List.map_nil, vsetI_snoc, vsS_bits m l k]
      have e : pickC l (k : Int) = l.getD k 0 := by simp [pickC]
      rw [e, vsS, vstI]
      simp [h]
    · rw [bitsN_no h, vsS_bits m l k, vsS, if_neg (by simp [h])]
theorem vsS_zero {m : Int} {l : List Int} {k : Nat} (h : m / 2 ^ k = 0) : vsS m l (k + 1) = vsS m l k := by
  rw [vsS, if_neg (by rw [h]; simp [show ¬ bitI .and .i64 0 1 = 1 by decide])]
theorem vsS_three {m : Int} {l : List Int} {n : Int} (hn : 1 ≤ n ∧ n ≤ 3) (hl : (l.length : Int) = n) (h0 : 0 ≤ m) (h1 : m < 2 ^ n.toNat - 1) : vsS m l (min l.length 3) = vsS m l 3 := by
  have h : n = 1 ∨ n = 2 ∨ n = 3 := by omega
  rcases h with rfl | rfl | rfl
  · have hm : m = 0 := by simp at h1; omega
    subst hm
    rw [show min l.length 3 = 1 by omega, vsS_zero (k := 2) (by decide), vsS_zero (k := 1) (by decide)]
  · have hm : m < 4 := by simp at h1; omega
    rw [show min l.length 3 = 2 by omega, vsS_zero (k := 2) (by omega)]
  · rw [show min l.length 3 = 3 by omega]
theorem sel_bits {m : Int} {l : List Int} {n : Int} (hn : 1 ≤ n ∧ n ≤ 3) (hl : (l.length : Int) = n) (h0 : 0 ≤ m) (h1 : m < 2 ^ n.toNat - 1) : vsetI (selR l (bitsZ m)).1 = vsS m l 3 := by
  have hs : selOk l.length (bitsZ m) = true := by
    rw [hl]
    have h : n = 1 ∨ n = 2 ∨ n = 3 := by omega
    rcases h with rfl | rfl | rfl
    · have hm : m = 0 := by simp at h1; omega
      subst hm; decide
    · have hm : m = 0 ∨ m = 1 ∨ m = 2 := by simp at h1; omega
      rcases hm with rfl | rfl | rfl <;> decide
    · have hm : m = 0 ∨ m = 1 ∨ m = 2 ∨ m = 3 ∨ m = 4 ∨ m = 5 ∨ m = 6 := by simp at h1; omega
      rcases hm with rfl | rfl | rfl | rfl | rfl | rfl | rfl <;> decide
  rw [selR, if_pos hs]
  exact vsS_bits m l 3
def clogF : Nat → Nat → Int → Int
  | 0, b, _ => b
  | f + 1, b, n => if (2 : Int) ^ b < n then clogF f (b + 1) n else b
def clog (n : Int) : Int := if inB n 1 4096 = true then clogF 12 0 n else -1
theorem clogF_step {b : Nat} {n : Int} (h2 : n ≤ 4096) (hb : b ≤ 12) (h : (2 : Int) ^ b < n) : b < 12 ∧ clogF (12 - (b + 1)) (b + 1) n = clogF (12 - b) b n := by
  have hlt : b < 12 := by
    rcases Nat.lt_or_ge b 12 with h' | h'
    · exact h'
    · obtain rfl : b = 12 := by omega
      exact absurd h (by have : (2 : Int) ^ 12 = 4096 := by decide
                         omega)
  refine ⟨hlt, ?_⟩
  obtain ⟨f, hf⟩ : ∃ f, 12 - b = f + 1 := ⟨11 - b, by omega⟩
  rw [hf, show 12 - (b + 1) = f by omega, clogF, if_pos h]
theorem clogF_stop {b : Nat} {n : Int} (h : n ≤ (2 : Int) ^ b) : ∀ f, clogF f b n = b
  | 0 => rfl
  | f + 1 => by rw [clogF, if_neg (by omega)]
def tcC (x : TableStatsD) (a : AtomD) (m : Nat) : SizeConstraintD := ⟨vsS (m : Int) a.vars 3, vsetI a.vars, clog ((seqS x (bitsZ (m : Int))).getD 0 0)⟩
def tcOk (x : TableStatsD) (a : AtomD) : Bool := okStats x && (!decide (x.rowCount = 0) && decide ((a.vars.length : Int) = x.arity))
def tabC (x : TableStatsD) (a : AtomD) : List SizeConstraintD := if tcOk x a = true then (List.range ((2 : Int) ^ x.arity.toNat - 1).toNat).map (tcC x a) else []
theorem tabC_yes {x : TableStatsD} {a : AtomD} (h : tcOk x a = true) : tabC x a = (List.range ((2 : Int) ^ x.arity.toNat - 1).toNat).map (tcC x a) := by rw [tabC, if_pos h]
theorem tabC_no {x : TableStatsD} {a : AtomD} (h : tcOk x a = false) : tabC x a = [] := by rw [tabC, if_neg (by rw [h]; decide)]
theorem tcOk_parts {x : TableStatsD} {a : AtomD} (h : tcOk x a = true) : okStats x = true ∧ (a.vars.length : Int) = x.arity := by
  simp only [tcOk, Bool.and_eq_true, decide_eq_true_eq] at h
  exact ⟨h.1, h.2.2⟩
theorem tabC_len (x : TableStatsD) (a : AtomD) : (tabC x a).length ≤ 7 := by
  cases h : tcOk x a with
  | false => rw [tabC_no h]; exact Nat.zero_le _
  | true =>
    have := pow_small (okS_arity (tcOk_parts h).1)
    rw [tabC_yes h, List.length_map, List.length_range]
    omega

set_option maxRecDepth 100000 in
set_option maxHeartbeats 4000000 in
theorem vset_impl (l : List Int) : Con Tryz.prog 87 [.one (.sl 3 1 (l.map intD))] (vI (vsetI l)) [] := by
  refine con_x tbOk mixedW Tryz.func87 (by kernel_rfl) (.len l.length <| .loop (Nat × Int) (Q2 Nat Int) [3, 5, 8, 9, 10, 11, 12, 13, 14, 15, 16, 17, 18] [] (fun yy0 => [(8, vI (yy0.1 : Int)), (3, vI yy0.2)]) (fun yy0 => []) (fun yy0 => yy0.1 ≤ l.length ∧ yy0.2 = vsetI (l.take yy0.1)) (fun yy0 => l.length - yy0.1) (fun yy0 => .br (.elem Int intD l (fun e10 => .call (vB (inB e10 (0 : Int) (3 : Int))) [] <| .br (.back []) (.back []))) (.fin []))) ?_
  refine Eq.mpr (by kernel_rfl : _ = ((l.map intD).length ≤ 9223372036854775807 → (l.map intD).length = l.length ∧ ((∃ (k : Nat) (o : Int), (0 : Int) = (k : Int) ∧ (0 : Int) = o ∧ k ≤ l.length ∧ o = vsetI (l.take k)) ∧ ∀ (k : Nat) (o : Int), (k ≤ l.length ∧ o = vsetI (l.take k)) → ((decide ((k : Int) < ((l.length : Nat) : Int))) = true → 0 ≤ (k : Int) ∧ (l.map intD = l.map intD ∧ k < l.length ∧ ∀ e10, l[k]? = some e10 → Con Tryz.prog 149 [.one (.int .i64 e10), .one (.int .i64 (0 : Int)), .one (.int .i64 (3 : Int))] (vB (inB e10 (0 : Int) (3 : Int))) [] ∧ (((inB e10 (0 : Int) (3 : Int)) = true → (0 ≤ e10 ∧ e10 ≤ 64) ∧ inR ((1 : Int) * 2 ^ (Int.toNat e10)) ∧ inR ((k : Int) + (1 : Int)) ∧ ∃ (k' : Nat) (o' : Int), ((k : Int) + (1 : Int)) = (k' : Int) ∧ (bitI .or .i64 o ((1 : Int) * 2 ^ (Int.toNat e10))) = o' ∧ (k' ≤ l.length ∧ o' = vsetI (l.take k')) ∧ l.length - k' < l.length - k) ∧ ((inB e10 (0 : Int) (3 : Int)) = false → inR ((k : Int) + (1 : Int)) ∧ ∃ (k' : Nat) (o' : Int), ((k : Int) + (1 : Int)) = (k' : Int) ∧ o = o' ∧ (k' ≤ l.length ∧ o' = vsetI (l.take k')) ∧ l.length - k' < l.length - k)))) ∧ ((decide ((k : Int) < ((l.length : Nat) : Int))) = false → o = (vsetI l) ∧ True)))) ?_
  intro n0
  simp only [List.length_map] at n0
  refine ⟨List.length_map _, ?_⟩
  refine ⟨⟨0, 0, rfl, rfl, Nat.zero_le _, rfl⟩, fun k o ⟨hk, hv⟩ => ?_⟩
  refine ⟨fun c0 => ?_, fun c0 => ?_⟩
  · replace c0 := of_decide_eq_true c0
    refine ⟨by omega, ?_⟩
    refine ⟨rfl, by omega, fun e10 h10 => ?_⟩
    try (obtain rfl := (same_at h10 h10).symm)
    refine ⟨in_impl _ _ _, ?_⟩
    refine ⟨fun c1 => ?_, fun c1 => ?_⟩
    · obtain ⟨w1, w2, w3⟩ := two_in c1
      refine ⟨⟨by omega, by omega⟩, ?_⟩
      refine ⟨by first | exact w1 | exact ⟨by omega, by omega⟩, ?_⟩
      refine ⟨by first | exact w1 | exact ⟨by omega, by omega⟩, ?_⟩
      exact ⟨k + 1, _, rfl, rfl, ⟨by omega, by first | (rw [take_snoc h10, vsetI_snoc, vstI_yes c1, hv]; done) | (rw [take_snoc h10, vsetI_snoc, vstI_no c1, hv]; done)⟩, by omega⟩
    · refine ⟨by first | exact w1 | exact ⟨by omega, by omega⟩, ?_⟩
      exact ⟨k + 1, _, rfl, rfl, ⟨by omega, by first | (rw [take_snoc h10, vsetI_snoc, vstI_yes c1, hv]; done) | (rw [take_snoc h10, vsetI_snoc, vstI_no c1, hv]; done)⟩, by omega⟩
  · replace c0 := of_decide_eq_false c0
    refine ⟨?_, trivial⟩
    · rw [hv, List.take_of_length_le (by omega)]

set_option maxRecDepth 100000 in
set_option maxHeartbeats 4000000 in
theorem vset_spec (l : List Int) : Con Tryz.prog 81 [.one (.sl 3 1 (l.map intD))] (vI (vsetI l)) [] := by
  refine con_x tbOk mixedW Tryz.func81 (by kernel_rfl) (.loop (Nat × Int) (Q2 Nat Int) [3, 4, 5, 6, 7, 8, 9, 10, 11, 12, 13, 14, 15, 16, 17, 18, 19, 20, 21, 22] [] (fun yy0 => [(4, vI (yy0.1 : Int)), (3, vI yy0.2)]) (fun yy0 => []) (fun yy0 => yy0.1 ≤ l.length ∧ yy0.2 = vsetI (l.take yy0.1)) (fun yy0 => l.length - yy0.1) (fun yy0 => .len l.length <| .br (.elem Int intD l (fun e13 => .call (vB (inB e13 (0 : Int) (3 : Int))) [] <| .br (.elem Int intD l (fun e19 => .back [])) (.back []))) (.fin []))) ?_
  refine Eq.mpr (by kernel_rfl : _ = ((l.map intD).length ≤ 9223372036854775807 → (∃ (k : Nat) (o : Int), (0 : Int) = (k : Int) ∧ (0 : Int) = o ∧ k ≤ l.length ∧ o = vsetI (l.take k)) ∧ ∀ (k : Nat) (o : Int), (k ≤ l.length ∧ o = vsetI (l.take k)) → (l.map intD).length = l.length ∧ (((decide ((k : Int) < ((l.length : Nat) : Int))) = true → 0 ≤ (k : Int) ∧ (l.map intD = l.map intD ∧ k < l.length ∧ ∀ e13, l[k]? = some e13 → Con Tryz.prog 148 [.one (.int .i64 e13), .one (.int .i64 (0 : Int)), .one (.int .i64 (3 : Int))] (vB (inB e13 (0 : Int) (3 : Int))) [] ∧ (((inB e13 (0 : Int) (3 : Int)) = true → 0 ≤ (k : Int) ∧ (l.map intD = l.map intD ∧ k < l.length ∧ ∀ e19, l[k]? = some e19 → (0 ≤ e19 ∧ e19 ≤ 64) ∧ inR ((1 : Int) * 2 ^ (Int.toNat e19)) ∧ inR ((k : Int) + (1 : Int)) ∧ ∃ (k' : Nat) (o' : Int), ((k : Int) + (1 : Int)) = (k' : Int) ∧ (bitI .or .i64 o ((1 : Int) * 2 ^ (Int.toNat e19))) = o' ∧ (k' ≤ l.length ∧ o' = vsetI (l.take k')) ∧ l.length - k' < l.length - k)) ∧ ((inB e13 (0 : Int) (3 : Int)) = false → inR ((k : Int) + (1 : Int)) ∧ ∃ (k' : Nat) (o' : Int), ((k : Int) + (1 : Int)) = (k' : Int) ∧ o = o' ∧ (k' ≤ l.length ∧ o' = vsetI (l.take k')) ∧ l.length - k' < l.length - k)))) ∧ ((decide ((k : Int) < ((l.length : Nat) : Int))) = false → o = (vsetI l) ∧ True)))) ?_
  intro n0
  simp only [List.length_map] at n0
  refine ⟨⟨0, 0, rfl, rfl, Nat.zero_le _, rfl⟩, fun k o ⟨hk, hv⟩ => ?_⟩
  refine ⟨List.length_map _, ?_⟩
  refine ⟨fun c0 => ?_, fun c0 => ?_⟩
  · replace c0 := of_decide_eq_true c0
    refine ⟨by omega, ?_⟩
    refine ⟨rfl, by omega, fun e13 h13 => ?_⟩
    try (obtain rfl := (same_at h13 h13).symm)
    refine ⟨in_spec _ _ _, ?_⟩
    refine ⟨fun c1 => ?_, fun c1 => ?_⟩
    · obtain ⟨w1, w2, w3⟩ := two_in c1
      refine ⟨by omega, ?_⟩
      refine ⟨rfl, by omega, fun e19 h19 => ?_⟩
      try (obtain rfl := (same_at h13 h19).symm)
      refine ⟨⟨by omega, by omega⟩, ?_⟩
      refine ⟨by first | exact w1 | exact ⟨by omega, by omega⟩, ?_⟩
      refine ⟨by first | exact w1 | exact ⟨by omega, by omega⟩, ?_⟩
      exact ⟨k + 1, _, rfl, rfl, ⟨by omega, by first | (rw [take_snoc h13, vsetI_snoc, vstI_yes c1, hv]; done) | (rw [take_snoc h13, vsetI_snoc, vstI_no c1, hv]; done)⟩, by omega⟩
    · refine ⟨by first | exact w1 | exact ⟨by omega, by omega⟩, ?_⟩
      exact ⟨k + 1, _, rfl, rfl, ⟨by omega, by first | (rw [take_snoc h13, vsetI_snoc, vstI_yes c1, hv]; done) | (rw [take_snoc h13, vsetI_snoc, vstI_no c1, hv]; done)⟩, by omega⟩
  · replace c0 := of_decide_eq_false c0
    refine ⟨?_, trivial⟩
    · rw [hv, List.take_of_length_le (by omega)]

set_option maxRecDepth 100000 in
set_option maxHeartbeats 4000000 in
theorem clog_impl (n : Int) : Con Tryz.prog 88 [.one (.int .i64 n)] (vI (clog n)) [] := by
  refine con_x tbOk mixedW Tryz.func88 (by kernel_rfl) (.call (vB (inB n (1 : Int) (4096 : Int))) [] <| .br (.fin []) (.loop Nat (Q1 Nat) [3, 7, 8, 9, 10, 11, 12] [] (fun b => [(3, vI (b : Int))]) (fun b => []) (fun b => b ≤ 12 ∧ clogF (12 - b) b n = clogF 12 0 n) (fun b => 12 - b) (fun b => .br (.back []) (.fin [])))) ?_
  refine Eq.mpr (by kernel_rfl : _ = (Con Tryz.prog 149 [.one (.int .i64 n), .one (.int .i64 (1 : Int)), .one (.int .i64 (4096 : Int))] (vB (inB n (1 : Int) (4096 : Int))) [] ∧ (((!(inB n (1 : Int) (4096 : Int))) = true → (-1 : Int) = (clog n) ∧ True) ∧ ((!(inB n (1 : Int) (4096 : Int))) = false → (∃ (b : Nat), (0 : Int) = (b : Int) ∧ b ≤ 12 ∧ clogF (12 - b) b n = clogF 12 0 n) ∧ ∀ (b : Nat), (b ≤ 12 ∧ clogF (12 - b) b n = clogF 12 0 n) → (0 ≤ (b : Int) ∧ (b : Int) ≤ 64) ∧ (inR ((1 : Int) * 2 ^ b) ∧ (((decide (((1 : Int) * 2 ^ b) < n)) = true → inR ((b : Int) + (1 : Int)) ∧ ∃ (b' : Nat), ((b : Int) + (1 : Int)) = (b' : Int) ∧ (b' ≤ 12 ∧ clogF (12 - b') b' n = clogF 12 0 n) ∧ 12 - b' < 12 - b) ∧ ((decide (((1 : Int) * 2 ^ b) < n)) = false → (b : Int) = (clog n) ∧ True))))))) ?_
  refine ⟨in_impl _ _ _, ?_⟩
  refine ⟨fun c0 => ?_, fun c0 => ?_⟩
  · replace c0 := nt c0
    have hn : inB n 1 4096 = false := by simpa using c0
    refine ⟨?_, trivial⟩
    · first | (rw [clog, if_neg (by rw [hn]; decide)]; done) | (rw [clog, if_pos hn, ← hr, w5])
  · replace c0 := nf c0
    have hn : inB n 1 4096 = true := by simpa using c0
    obtain ⟨w1, w2⟩ := inB_true hn
    refine ⟨⟨0, rfl, by omega, rfl⟩, fun b ⟨hb, hr⟩ => ?_⟩
    refine ⟨⟨by omega, by omega⟩, ?_⟩
    refine ⟨by first | exact ⟨by omega, by omega⟩ | (have hp := pow2_le b hb; exact ⟨by omega, by omega⟩), ?_⟩
    refine ⟨fun c1 => ?_, fun c1 => ?_⟩
    · replace c1 := of_decide_eq_true c1
      obtain ⟨w3, w4⟩ := clogF_step w2 hb (by omega)
      refine ⟨by first | exact ⟨by omega, by omega⟩ | (have hp := pow2_le b hb; exact ⟨by omega, by omega⟩), ?_⟩
      exact ⟨b + 1, rfl, ⟨by omega, by rw [w4]; exact hr⟩, by omega⟩
    · replace c1 := of_decide_eq_false c1
      have w5 := clogF_stop (b := b) (n := n) (by omega) (12 - b)
      refine ⟨?_, trivial⟩
      · first | (rw [clog, if_neg (by rw [hn]; decide)]; done) | (rw [clog, if_pos hn, ← hr, w5])

set_option maxRecDepth 100000 in
set_option maxHeartbeats 4000000 in
theorem clog_spec (n : Int) : Con Tryz.prog 82 [.one (.int .i64 n)] (vI (clog n)) [] := by
  refine con_x tbOk mixedW Tryz.func82 (by kernel_rfl) (.call (vB (inB n (1 : Int) (4096 : Int))) [] <| .br (.fin []) (.loop Nat (Q1 Nat) [3, 7, 8, 9, 10, 11, 12] [] (fun b => [(3, vI (b : Int))]) (fun b => []) (fun b => b ≤ 12 ∧ clogF (12 - b) b n = clogF 12 0 n) (fun b => 12 - b) (fun b => .br (.back []) (.fin [])))) ?_
  refine Eq.mpr (by kernel_rfl : _ = (Con Tryz.prog 148 [.one (.int .i64 n), .one (.int .i64 (1 : Int)), .one (.int .i64 (4096 : Int))] (vB (inB n (1 : Int) (4096 : Int))) [] ∧ (((!(inB n (1 : Int) (4096 : Int))) = true → (-1 : Int) = (clog n) ∧ True) ∧ ((!(inB n (1 : Int) (4096 : Int))) = false → (∃ (b : Nat), (0 : Int) = (b : Int) ∧ b ≤ 12 ∧ clogF (12 - b) b n = clogF 12 0 n) ∧ ∀ (b : Nat), (b ≤ 12 ∧ clogF (12 - b) b n = clogF 12 0 n) → (0 ≤ (b : Int) ∧ (b : Int) ≤ 64) ∧ (inR ((1 : Int) * 2 ^ b) ∧ (((decide (((1 : Int) * 2 ^ b) < n)) = true → inR ((b : Int) + (1 : Int)) ∧ ∃ (b' : Nat), ((b : Int) + (1 : Int)) = (b' : Int) ∧ (b' ≤ 12 ∧ clogF (12 - b') b' n = clogF 12 0 n) ∧ 12 - b' < 12 - b) ∧ ((decide (((1 : Int) * 2 ^ b) < n)) = false → (b : Int) = (clog n) ∧ True))))))) ?_
  refine ⟨in_spec _ _ _, ?_⟩
  refine ⟨fun c0 => ?_, fun c0 => ?_⟩
  · replace c0 := nt c0
    have hn : inB n 1 4096 = false := by simpa using c0
    refine ⟨?_, trivial⟩
    · first | (rw [clog, if_neg (by rw [hn]; decide)]; done) | (rw [clog, if_pos hn, ← hr, w5])
  · replace c0 := nf c0
    have hn : inB n 1 4096 = true := by simpa using c0
    obtain ⟨w1, w2⟩ := inB_true hn
    refine ⟨⟨0, rfl, by omega, rfl⟩, fun b ⟨hb, hr⟩ => ?_⟩
    refine ⟨⟨by omega, by omega⟩, ?_⟩
    refine ⟨by first | exact ⟨by omega, by omega⟩ | (have hp := pow2_le b hb; exact ⟨by omega, by omega⟩), ?_⟩
    refine ⟨fun c1 => ?_, fun c1 => ?_⟩
    · replace c1 := of_decide_eq_true c1
      obtain ⟨w3, w4⟩ := clogF_step w2 hb (by omega)
      refine ⟨by first | exact ⟨by omega, by omega⟩ | (have hp := pow2_le b hb; exact ⟨by omega, by omega⟩), ?_⟩
      exact ⟨b + 1, rfl, ⟨by omega, by rw [w4]; exact hr⟩, by omega⟩
    · replace c1 := of_decide_eq_false c1
      have w5 := clogF_stop (b := b) (n := n) (by omega) (12 - b)
      refine ⟨?_, trivial⟩
      · first | (rw [clog, if_neg (by rw [hn]; decide)]; done) | (rw [clog, if_pos hn, ← hr, w5])
end Go.Proofs.YtjlagjhmlmfjeaaGreat
