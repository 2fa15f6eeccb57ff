/-
  Helpers of dictionaries: members, copies, valid lists.
-/
import Derived.Test.YtepphdhnkaiamaaLXb
namespace Go.Proofs.Ytepphdhnkaiamaa
open Go.ChangeShapes Go.WideShapes Go.ChangeAt Go.RowKit
set_option linter.unusedVariables false
set_option linter.unusedSimpArgs false
set_option maxRecDepth 100000
set_option maxHeartbeats 4000000
abbrev k_cpI (l : List Int) : AV × List (Nat × Rs) := (.own 0, [(0, .arr 3 1 true (l.map intD))])
abbrev K_cpI (l : List Int) : Prop := Con Try.prog 75 [.one (.sl 3 1 (l.map intD))] (k_cpI l).1 (k_cpI l).2
theorem cpI (l : List Int) (hl : l.length ≤ 1048576) : K_cpI l := by
 refine con_y tbOk mixedW Try.func75 (by kernel_rfl) (.app Int intD ([] : List Int) l <| .fin [(0, 500)]) (p := (l.map intD).length ≤ 9223372036854775807 → [] = ([] : List Int).map intD ∧ l.map intD = l.map intD ∧ (∀ x, flatB (intD x) = true) ∧ (([] : List Int).length + l.length) * 8 ≤ 140737488355328 ∧ (([] : List Int) ++ l).map intD = l.map intD ∧ True) (by kernel_rfl) ?_
 intro n0
 simp only [List.length_map] at n0
 refine ⟨rfl, rfl, fun _ => rfl, by simp; omega, ?_⟩
 refine ⟨?_, trivial⟩
 ·simp

theorem anyL_stop {α : Type} {p : α → Bool} {l : List α} {k : Nat} {x : α} (h : l[k]? = some x) (hp : p x = true) : l.any p = true := List.any_eq_true.2 ⟨x, List.mem_of_getElem? h, hp⟩
theorem anyL_snoc {α : Type} {p : α → Bool} {l : List α} {k : Nat} {x : α} (h : l[k]? = some x) (ha : (l.take k).any p = false) (hp : p x = false) : (l.take (k + 1)).any p = false := by
  rw [List.take_add_one, h]
  simp [ha, hp]
theorem anyL_done {α : Type} {p : α → Bool} {l : List α} {k : Nat} (hge : l.length ≤ k) (ha : (l.take k).any p = false) : l.any p = false := by rwa [List.take_of_length_le hge] at ha
theorem upN {p : Nat → Prop} {k : Nat} (ha : ∀ i, i < k → p i) (h : p k) : ∀ i, i < k + 1 → p i := by
  intro i hi
  rcases Nat.lt_or_eq_of_le (Nat.le_of_lt_succ hi) with h' | rfl
  · exact ha i h'
  · exact h
theorem hasI_ok {l : List Int} {n : Nat} (hn : l.length ≤ n) (h : ∀ i, i < n → l.any (isD (i : Nat)) = true) : okPerm l = true := List.all_eq_true.2 fun i hi => h i (by rw [List.mem_range] at hi; omega)
theorem hasI_no {l : List Int} {k : Nat} (hk : k < l.length) (h : l.any (isD (k : Nat)) = false) : okPerm l = false := by
  cases e : okPerm l with
  | false => rfl
  | true => rw [List.all_eq_true.1 e k (List.mem_range.2 hk)] at h; cases h

abbrev K_hasD_spec (l : List Int) (n : Int) : Prop := Con Try.prog 78 [.one (.sl 3 1 (l.map intD)), .one (.int .i64 n)] (vB (l.any (isD n))) []
theorem hasD_spec (l : List Int) (n : Int) : K_hasD_spec l n := by
 refine con_y tbOk mixedW Try.func78 (by kernel_rfl) (.loop Nat (Q1 Nat) [5, 6, 7, 8, 9, 10, 11, 12, 13, 14, 15, 16, 17] [] (fun k => [(5, vI (k : Int))]) (fun k => []) (fun k => k ≤ l.length ∧ (l.take k).any (isD n) = false) (fun k => l.length - k) (fun k => .len l.length <| .br (.elem _ intD l (fun e14 => .br (.fin []) (.back []))) (.fin []))) (p := (l.map intD).length ≤ 9223372036854775807 → (∃ (k : Nat), (0 : Int) = (k : Int) ∧ k ≤ l.length ∧ (l.take k).any (isD n) = false) ∧ ∀ (k : Nat), (k ≤ l.length ∧ (l.take k).any (isD n) = false) → Lm intD l ∧ (((decide ((k : Int) < ((l.length : Nat) : Int))) = true → 0 ≤ (k : Int) ∧ Em intD l k fun e14 => ((decide (e14 = n)) = true → (true) = (l.any (isD n)) ∧ True) ∧ ((decide (e14 = n)) = false → inR ((k : Int) + (1 : Int)) ∧ ∃ (k' : Nat), ((k : Int) + (1 : Int)) = (k' : Int) ∧ (k' ≤ l.length ∧ (l.take k').any (isD n) = false) ∧ l.length - k' < l.length - k)) ∧ ((decide ((k : Int) < ((l.length : Nat) : Int))) = false → (false) = (l.any (isD n)) ∧ True))) (by kernel_rfl) ?_
 intro n0
 simp only [List.length_map] at n0
 refine ⟨⟨0, rfl, Nat.zero_le _, rfl⟩, fun k ⟨hk, ha⟩ => ?_⟩
 refine ⟨List.length_map _, fun c0 => ?_, fun c0 => ?_⟩
 ·replace c0 := yq c0
  refine ⟨by omega, rfl, by omega, fun e14 h14 => ?_⟩
  refine ⟨fun c1 => ?_, fun c1 => ?_⟩
  ·replace c1 := yq c1
   refine ⟨?_, trivial⟩
   ·first | (rw [anyL_stop h14 (decide_eq_true c1)]; done) | (rw [anyL_done (by omega) ha]; done)
  ·replace c1 := nq c1
   refine ⟨⟨by omega, by omega⟩, ?_⟩
   exact ⟨k + 1, rfl, ⟨by omega, anyL_snoc h14 ha (decide_eq_false c1)⟩, by omega⟩
 ·replace c0 := nq c0
  refine ⟨?_, trivial⟩
  ·first | (rw [anyL_stop h14 (decide_eq_true c1)]; done) | (rw [anyL_done (by omega) ha]; done)

abbrev K_allR_spec (l : List RationalD) : Prop := Con Try.prog 79 [.one (.sl 30 2 (l.map eRational))] (vB (l.all validR)) []
theorem allR_spec (l : List RationalD) : K_allR_spec l := by
 refine con_y tbOk mixedW Try.func79 (by kernel_rfl) (.loop Nat (Q1 Nat) [3, 4, 5, 6, 7, 8, 9, 10, 11, 12, 13, 14, 15] [] (fun k => [(3, vI (k : Int))]) (fun k => []) (fun k => k ≤ l.length ∧ (l.take k).all validR = true) (fun k => l.length - k) (fun k => .len l.length <| .br (.elem _ eRational l (fun e12 => .call (vB (validR e12)) [] <| .br (.fin []) (.back []))) (.fin []))) (p := (l.map eRational).length ≤ 9223372036854775807 → (∃ (k : Nat), (0 : Int) = (k : Int) ∧ k ≤ l.length ∧ (l.take k).all validR = true) ∧ ∀ (k : Nat), (k ≤ l.length ∧ (l.take k).all validR = true) → Lm eRational l ∧ (((decide ((k : Int) < ((l.length : Nat) : Int))) = true → 0 ≤ (k : Int) ∧ Em eRational l k fun e12 => K_val_spec e12 ∧ (((!(validR e12)) = true → (false) = (l.all validR) ∧ True) ∧ ((!(validR e12)) = false → inR ((k : Int) + (1 : Int)) ∧ ∃ (k' : Nat), ((k : Int) + (1 : Int)) = (k' : Int) ∧ (k' ≤ l.length ∧ (l.take k').all validR = true) ∧ l.length - k' < l.length - k))) ∧ ((decide ((k : Int) < ((l.length : Nat) : Int))) = false → (true) = (l.all validR) ∧ True))) (by kernel_rfl) ?_
 intro n0
 simp only [List.length_map] at n0
 refine ⟨⟨0, rfl, Nat.zero_le _, rfl⟩, fun k ⟨hk, ha⟩ => ?_⟩
 refine ⟨List.length_map _, fun c0 => ?_, fun c0 => ?_⟩
 ·replace c0 := yq c0
  refine ⟨by omega, rfl, by omega, fun e12 h12 => ?_⟩
  refine ⟨val_spec e12, fun c1 => ?_, fun c1 => ?_⟩
  ·replace c1 := nt c1
   refine ⟨?_, trivial⟩
   ·first | (rw [all_stop h12 c1]; done) | (rw [all_done (by omega) ha]; done)
  ·replace c1 := nf c1
   refine ⟨⟨by omega, by omega⟩, ?_⟩
   exact ⟨k + 1, rfl, ⟨by omega, all_snoc h12 ha c1⟩, by omega⟩
 ·replace c0 := nq c0
  refine ⟨?_, trivial⟩
  ·first | (rw [all_stop h12 c1]; done) | (rw [all_done (by omega) ha]; done)
end Go.Proofs.Ytepphdhnkaiamaa
