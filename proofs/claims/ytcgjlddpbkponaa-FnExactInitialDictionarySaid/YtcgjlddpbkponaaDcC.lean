/-
  Valid dictionaries: the plain law.
-/
import Derived.Test.YtcgjlddpbkponaaDcB
namespace Go.Proofs.Ytcgjlddpbkponaa
open Go.ChangeShapes Go.WideShapes Go.ChangeAt Go.RowKit
set_option linter.unusedVariables false
set_option linter.unusedSimpArgs false
def okPerm (l : List Int) : Bool := (List.range l.length).all fun i => l.any fun x => decide (x = (i : Int))
abbrev sortI (l : List Int) : List Int := l.mergeSort fun x y => decide (x ≤ y)
theorem incl_perm : ∀ (r s : List Int), r.Nodup → (∀ x ∈ r, x ∈ s) → s.length ≤ r.length → s.Perm r
  | [], s, _, _, h => by
    have : s = [] := List.length_eq_zero_iff.1 (by simpa using h)
    rw [this]
  | a :: r, s, hn, hs, hl => by
    have ha : a ∈ s := hs a (by simp)
    have p1 : s.Perm (a :: s.erase a) := List.perm_cons_erase ha
    have hn' := List.nodup_cons.1 hn
    have := incl_perm r (s.erase a) hn'.2 (fun x hx => (List.mem_erase_of_ne (fun (e : x = a) => hn'.1 (by rw [← e]; exact hx))).2 (hs x (by simp [hx]))) (by
      rw [List.length_erase_of_mem ha]
      simp only [List.length_cons] at hl
      omega)
    exact p1.trans (this.cons a)
theorem okPerm_iff (l : List Int) : okPerm l = true ↔ ∀ i, i < l.length → (sortI l)[i]? = some (i : Int) := by
  constructor
  · intro h i hi
    have hp : l.Perm ((List.range l.length).map fun (i : Nat) => (i : Int)) := by
      refine incl_perm _ _ ?_ ?_ (by simp)
      · rw [List.Nodup, List.pairwise_map]
        exact List.nodup_range.imp fun hne he => hne (by omega)
      · intro x hx
        obtain ⟨j, hj, rfl⟩ := List.mem_map.1 hx
        have := List.all_eq_true.1 h j hj
        obtain ⟨y, hy, e⟩ := List.any_eq_true.1 this
        rw [decide_eq_true_eq] at e
        rwa [← e]
    have e : sortI l = (List.range l.length).map fun (i : Nat) => (i : Int) := by
      refine List.Perm.eq_of_pairwise (le := fun x y => decide (x ≤ y) = true) (fun a b _ _ h1 h2 => ?_) (List.pairwise_mergeSort (fun a b c h1 h2 => ?_) (fun a b => ?_) l) ?_ ((List.mergeSort_perm l _).trans hp)
      · simp only [decide_eq_true_eq] at h1 h2; omega
      · simp only [decide_eq_true_eq] at h1 h2 ⊢; omega
      · simp only [Bool.or_eq_true, decide_eq_true_eq]; omega
      · rw [List.pairwise_map]
        exact List.pairwise_lt_range.imp fun h => by simp only [decide_eq_true_eq]; omega
    rw [e]
    simp [hi]
  · intro h
    refine List.all_eq_true.2 fun i hi => ?_
    rw [List.mem_range] at hi
    refine List.any_eq_true.2 ⟨i, ?_, by simp⟩
    exact List.mem_mergeSort.1 (List.mem_of_getElem? (h i hi))
theorem okPerm_no {l : List Int} {k : Nat} {x : Int} (hk : k < l.length) (hx : (sortI l)[k]? = some x) (hne : x ≠ (k : Int)) : okPerm l = false := by
  cases h : okPerm l
  · rfl
  · have := (okPerm_iff l).1 h k hk
    rw [hx] at this
    exact absurd (Option.some.inj this) hne
def okDic (d : DictionaryD) : Bool := decide (d.basic.length ≤ 64) && (inB d.others.length 1 15 && (decide (d.table.length = d.basic.length) && (okPerm (d.basic ++ d.others) && (d.table.all (fun r => okRats r d.others.length) && (okRats d.consts d.basic.length && (okRats d.costs d.others.length && validQ d.value.num d.value.den))))))
theorem chain3 (a b c : Bool) : a = false ∨ (a = true ∧ b = false) ∨ (a = true ∧ b = true ∧ c = false) ∨ (a = true ∧ b = true ∧ c = true) := by cases a <;> cases b <;> cases c <;> simp
theorem neg_true {p : Prop} [Decidable p] (h : decide p = true) : (!decide p) = false := by rw [h]; rfl
theorem neg_false {p : Prop} [Decidable p] (h : decide p = false) : (!decide p) = true := by rw [h]; rfl
end Go.Proofs.Ytcgjlddpbkponaa
