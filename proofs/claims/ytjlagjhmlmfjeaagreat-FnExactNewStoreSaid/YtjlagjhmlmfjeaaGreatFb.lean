/-
  Valid tables: rows in order.
-/
import Derived.Test.YtjlagjhmlmfjeaaGreatFa
namespace Go.Proofs.YtjlagjhmlmfjeaaGreat
open Go.ChangeShapes Go.WideShapes Go.ChangeAt Go.RowKit
set_option linter.unusedVariables false
set_option linter.unusedSimpArgs false
theorem cmpR_cons (a b : Int) (l m : List Int) : cmpR (a :: l) (b :: m) = if cmpI a b = 0 then cmpR l m else cmpI a b := by
  unfold cmpI
  rw [cmpR]
  by_cases h1 : a < b
  · simp [h1]
  · by_cases h2 : b < a
    · simp [h1, h2]
    · simp [h1, h2]

set_option maxRecDepth 100000 in
set_option maxHeartbeats 4000000 in
theorem cmpS (l m : List Int) : Con Tryz.prog 199 [.one (.sl 3 1 (l.map intD)), .one (.sl 3 1 (m.map intD))] (vI (cmpR l m)) [] := by
  refine con_x tbOk mixedW Tryz.func199 (by kernel_rfl) (.len l.length <| .loop Nat (Q1 Nat) [5, 6, 7, 8, 11, 12, 13, 14, 15, 16, 17, 18, 19, 20, 21, 22, 23, 24, 25, 26, 27, 28, 30] [] (fun k => [(11, vI (k : Int))]) (fun k => []) (fun k => (k ≤ l.length ∧ k ≤ m.length) ∧ cmpR (l.drop k) (m.drop k) = cmpR l m) (fun k => l.length - k) (fun k => .br (.elem Int intD l (fun e14 => .len m.length <| .br (.fin []) (.elem Int intD m (fun e22 => .call (vI (cmpI e14 e22)) [] <| .br (.fin []) (.back []))))) (.len l.length <| .len m.length <| .br (.fin []) (.fin [])))) ?_
  refine Eq.mpr (by kernel_rfl : _ = ((l.map intD).length ≤ 9223372036854775807 → (m.map intD).length ≤ 9223372036854775807 → (l.map intD).length = l.length ∧ ((∃ (k : Nat), (0 : Int) = (k : Int) ∧ (k ≤ l.length ∧ k ≤ m.length) ∧ cmpR (l.drop k) (m.drop k) = cmpR l m) ∧ ∀ (k : Nat), ((k ≤ l.length ∧ k ≤ m.length) ∧ cmpR (l.drop k) (m.drop k) = cmpR l m) → ((decide ((k : Int) < ((l.length : Nat) : Int))) = true → 0 ≤ (k : Int) ∧ (l.map intD = l.map intD ∧ k < l.length ∧ ∀ e14, l[k]? = some e14 → (m.map intD).length = m.length ∧ (((decide (((m.length : Nat) : Int) ≤ (k : Int))) = true → (1 : Int) = (cmpR l m) ∧ True) ∧ ((decide (((m.length : Nat) : Int) ≤ (k : Int))) = false → 0 ≤ (k : Int) ∧ (m.map intD = m.map intD ∧ k < m.length ∧ ∀ e22, m[k]? = some e22 → Con Tryz.prog 226 [.one (.int .i64 e14), .one (.int .i64 e22)] (vI (cmpI e14 e22)) [] ∧ (((!(decide ((cmpI e14 e22) = (0 : Int)))) = true → (cmpI e14 e22) = (cmpR l m) ∧ True) ∧ ((!(decide ((cmpI e14 e22) = (0 : Int)))) = false → inR ((k : Int) + (1 : Int)) ∧ ∃ (k' : Nat), ((k : Int) + (1 : Int)) = (k' : Int) ∧ ((k' ≤ l.length ∧ k' ≤ m.length) ∧ cmpR (l.drop k') (m.drop k') = cmpR l m) ∧ l.length - k' < l.length - k))))))) ∧ ((decide ((k : Int) < ((l.length : Nat) : Int))) = false → (l.map intD).length = l.length ∧ ((m.map intD).length = m.length ∧ (((decide (((l.length : Nat) : Int) < ((m.length : Nat) : Int))) = true → (-1 : Int) = (cmpR l m) ∧ True) ∧ ((decide (((l.length : Nat) : Int) < ((m.length : Nat) : Int))) = false → (0 : Int) = (cmpR l m) ∧ True))))))) ?_
  intro n0 n1
  simp only [List.length_map] at n0 n1
  refine ⟨List.length_map _, ?_⟩
  refine ⟨⟨0, rfl, ⟨Nat.zero_le _, Nat.zero_le _⟩, rfl⟩, fun k ⟨hk, hv⟩ => ?_⟩
  refine ⟨fun c0 => ?_, fun c0 => ?_⟩
  · replace c0 := of_decide_eq_true c0
    obtain ⟨x, hx⟩ := at_some (l := l) (k := k) (by omega)
    refine ⟨by omega, ?_⟩
    refine ⟨rfl, by omega, fun e14 h14 => ?_⟩
    obtain rfl := (same_at hx h14).symm
    refine ⟨List.length_map _, ?_⟩
    refine ⟨fun c1 => ?_, fun c1 => ?_⟩
    · replace c1 := of_decide_eq_true c1
      refine ⟨?_, trivial⟩
      · first | (rw [hd, if_neg c2]; done) | (rw [← hv, cmpR_stop hk (by omega), if_neg (by omega), if_pos (by omega)]; done) | (rw [← hv, cmpR_stop hk (by omega), if_pos (by omega)]; done) | (rw [← hv, cmpR_stop hk (by omega), if_neg (by omega), if_neg (by omega)]; done)
    · replace c1 := of_decide_eq_false c1
      obtain ⟨y, hy⟩ := at_some (l := m) (k := k) (by omega)
      have hd : cmpR l m = if cmpI x y = 0 then cmpR (l.drop (k + 1)) (m.drop (k + 1)) else cmpI x y := by rw [← hv, drop_at hx, drop_at hy, cmpR_cons]
      refine ⟨by omega, ?_⟩
      refine ⟨rfl, by omega, fun e22 h22 => ?_⟩
      obtain rfl := (same_at hy h22).symm
      refine ⟨cmp_int _ _, ?_⟩
      refine ⟨fun c2 => ?_, fun c2 => ?_⟩
      · replace c2 := of_decide_eq_false (nt c2)
        refine ⟨?_, trivial⟩
        · first | (rw [hd, if_neg c2]; done) | (rw [← hv, cmpR_stop hk (by omega), if_neg (by omega), if_pos (by omega)]; done) | (rw [← hv, cmpR_stop hk (by omega), if_pos (by omega)]; done) | (rw [← hv, cmpR_stop hk (by omega), if_neg (by omega), if_neg (by omega)]; done)
      · replace c2 := of_decide_eq_true (nf c2)
        refine ⟨⟨by omega, by omega⟩, ?_⟩
        exact ⟨k + 1, rfl, ⟨by omega, by rw [hd, if_pos c2]⟩, by omega⟩
  · replace c0 := of_decide_eq_false c0
    refine ⟨List.length_map _, ?_⟩
    refine ⟨List.length_map _, ?_⟩
    refine ⟨fun c3 => ?_, fun c3 => ?_⟩
    · replace c3 := of_decide_eq_true c3
      refine ⟨?_, trivial⟩
      · first | (rw [hd, if_neg c2]; done) | (rw [← hv, cmpR_stop hk (by omega), if_neg (by omega), if_pos (by omega)]; done) | (rw [← hv, cmpR_stop hk (by omega), if_pos (by omega)]; done) | (rw [← hv, cmpR_stop hk (by omega), if_neg (by omega), if_neg (by omega)]; done)
    · replace c3 := of_decide_eq_false c3
      refine ⟨?_, trivial⟩
      · first | (rw [hd, if_neg c2]; done) | (rw [← hv, cmpR_stop hk (by omega), if_neg (by omega), if_pos (by omega)]; done) | (rw [← hv, cmpR_stop hk (by omega), if_pos (by omega)]; done) | (rw [← hv, cmpR_stop hk (by omega), if_neg (by omega), if_neg (by omega)]; done)

set_option maxRecDepth 100000 in
set_option maxHeartbeats 4000000 in
theorem cmpRows_impl (l m : List Int) : Con Tryz.prog 182 [.one (.sl 3 1 (l.map intD)), .one (.sl 3 1 (m.map intD))] (vI (cmpR l m)) [] := by
  refine con_x tbOk mixedW Tryz.func182 (by kernel_rfl) (.call (vI (cmpR l m)) [] <| .fin []) ?_
  refine Eq.mpr (by kernel_rfl : _ = ((l.map intD).length ≤ 9223372036854775807 → (m.map intD).length ≤ 9223372036854775807 → Con Tryz.prog 199 [.one (.sl 3 1 (l.map intD)), .one (.sl 3 1 (m.map intD))] (vI (cmpR l m)) [] ∧ (cmpR l m) = (cmpR l m) ∧ True)) ?_
  intro n0 n1
  simp only [List.length_map] at n0 n1
  refine ⟨cmpS _ _, ?_⟩
  exact ⟨rfl, trivial⟩

def ascAt (l : List (List Int)) (i : Nat) : Bool := decide (cmpR (l.getD i []) (l.getD (i + 1) []) < 0)
def ascR (l : List (List Int)) : Bool := (List.range (l.length - 1)).all (ascAt l)
def okTable (t : TableD) : Bool := t.rows.all (okRow t.arity) && (okName t.name && (inB t.arity 1 3 && (decide ((t.rows.length : Int) ≤ 8) && ascR t.rows)))
theorem range_snoc {p : Nat → Bool} {k : Nat} (h : (List.range k).all p = true) (hk : p k = true) : (List.range (k + 1)).all p = true := by
  rw [List.range_succ, List.all_append, h]; simp [hk]
theorem range_stop {p : Nat → Bool} {n k : Nat} (hk : k < n) (h : p k = false) : (List.range n).all p = false := by
  rw [List.all_eq_false]; exact ⟨k, List.mem_range.2 hk, by simp [h]⟩
theorem getD_at {α : Type} {l : List α} {k : Nat} {x y : α} (h : l[k]? = some x) : l.getD k y = x := by simp [List.getD_eq_getElem?_getD, h]

set_option maxRecDepth 100000 in
set_option maxHeartbeats 4000000 in
theorem asc_impl (l : List (List Int)) : Con Tryz.prog 175 [.one (.sl 25 1 (l.map eIntS))] (vB (ascR l)) [] := by
  refine con_x tbOk mixedW Tryz.func175 (by kernel_rfl) (.loop Nat (Q1 Nat) [3, 4, 5, 6, 7, 8, 9, 10, 11, 12, 13, 14, 15, 16, 17, 18, 19, 20] [] (fun k => [(3, vI (((k : Nat) : Int) + 1))]) (fun k => []) (fun k => (k + 1 ≤ l.length ∨ k = 0) ∧ (List.range k).all (ascAt l) = true) (fun k => l.length - k) (fun k => .len l.length <| .br (.elem (List Int) eIntS l (fun e13 => .elem (List Int) eIntS l (fun e17 => .call (vI (cmpR e13 e17)) [] <| .br (.fin []) (.back [])))) (.fin []))) ?_
  refine Eq.mpr (by kernel_rfl : _ = ((l.map eIntS).length ≤ 9223372036854775807 → (∃ (k : Nat), (1 : Int) = (((k : Nat) : Int) + 1) ∧ (k + 1 ≤ l.length ∨ k = 0) ∧ (List.range k).all (ascAt l) = true) ∧ ∀ (k : Nat), ((k + 1 ≤ l.length ∨ k = 0) ∧ (List.range k).all (ascAt l) = true) → (l.map eIntS).length = l.length ∧ (((decide ((((k : Nat) : Int) + 1) < ((l.length : Nat) : Int))) = true → inR ((((k : Nat) : Int) + 1) - (1 : Int)) ∧ (0 ≤ ((((k : Nat) : Int) + 1) - (1 : Int)) ∧ (l.map eIntS = l.map eIntS ∧ ((((k : Nat) : Int) + 1) - (1 : Int)).toNat < l.length ∧ ∀ e13, l[((((k : Nat) : Int) + 1) - (1 : Int)).toNat]? = some e13 → 0 ≤ (((k : Nat) : Int) + 1) ∧ (l.map eIntS = l.map eIntS ∧ k + 1 < l.length ∧ ∀ e17, l[k + 1]? = some e17 → Con Tryz.prog 182 [.one (.sl 3 1 (e13.map intD)), .one (.sl 3 1 (e17.map intD))] (vI (cmpR e13 e17)) [] ∧ (((decide ((0 : Int) ≤ (cmpR e13 e17))) = true → (false) = (ascR l) ∧ True) ∧ ((decide ((0 : Int) ≤ (cmpR e13 e17))) = false → inR ((((k : Nat) : Int) + 1) + (1 : Int)) ∧ ∃ (k' : Nat), ((((k : Nat) : Int) + 1) + (1 : Int)) = (((k' : Nat) : Int) + 1) ∧ ((k' + 1 ≤ l.length ∨ k' = 0) ∧ (List.range k').all (ascAt l) = true) ∧ l.length - k' < l.length - k)))))) ∧ ((decide ((((k : Nat) : Int) + 1) < ((l.length : Nat) : Int))) = false → (true) = (ascR l) ∧ True)))) ?_
  intro n0
  simp only [List.length_map] at n0
  refine ⟨⟨0, rfl, .inr rfl, rfl⟩, fun k ⟨hk, ha⟩ => ?_⟩
  refine ⟨List.length_map _, ?_⟩
  refine ⟨fun c0 => ?_, fun c0 => ?_⟩
  · replace c0 := of_decide_eq_true c0
    refine ⟨⟨by omega, by omega⟩, ?_⟩
    refine ⟨by omega, ?_⟩
    refine ⟨rfl, by omega, fun e13 h13 => ?_⟩
    have i13 : l[k]? = some e13 := by rw [← h13]; congr 1; omega
    refine ⟨by omega, ?_⟩
    refine ⟨rfl, by omega, fun e17 h17 => ?_⟩
    refine ⟨cmpRows_impl _ _, ?_⟩
    refine ⟨fun c1 => ?_, fun c1 => ?_⟩
    · replace c1 := of_decide_eq_true c1
      have hp : ascAt l k = false := by rw [ascAt, getD_at i13, getD_at h17]; simp; omega
      refine ⟨?_, trivial⟩
      · first | (rw [ascR, range_stop (by omega) hp]; done) | (rw [ascR, show l.length - 1 = k by omega, ha]; done)
    · replace c1 := of_decide_eq_false c1
      have hp : ascAt l k = true := by rw [ascAt, getD_at i13, getD_at h17]; simp; omega
      refine ⟨⟨by omega, by omega⟩, ?_⟩
      exact ⟨k + 1, rfl, ⟨by omega, range_snoc ha hp⟩, by omega⟩
  · replace c0 := of_decide_eq_false c0
    refine ⟨?_, trivial⟩
    · first | (rw [ascR, range_stop (by omega) hp]; done) | (rw [ascR, show l.length - 1 = k by omega, ha]; done)
end Go.Proofs.YtjlagjhmlmfjeaaGreat
