/-
  The order of rows; sorted rows, plainly.
-/
import Derived.Test.YtjlagjhmlmfjeaaGreatSo
namespace Go.Proofs.YtjlagjhmlmfjeaaGreat
open Go.ChangeShapes Go.WideShapes Go.ChangeAt Go.RowKit
set_option linter.unusedVariables false
set_option linter.unusedSimpArgs false
theorem cmpR_self (l : List Int) : cmpR l l = 0 := cmpR_zero.2 rfl
theorem cmpR_anti : ∀ {l m : List Int}, cmpR l m < 0 ↔ 0 < cmpR m l
  | [], [] => by simp [cmpR]
  | [], _ :: _ => by simp [cmpR]
  | _ :: _, [] => by simp [cmpR]
  | a :: l, b :: m => by
    simp only [cmpR]
    by_cases h1 : a < b
    · simp [h1, show ¬ b < a by omega]
    · by_cases h2 : b < a
      · simp [h1, h2]
      · simp only [h1, h2, if_false]; exact cmpR_anti
theorem cmpR_trans : ∀ {l m n : List Int}, cmpR l m < 0 → cmpR m n < 0 → cmpR l n < 0
  | [], [], n, h1, _ => by simp [cmpR] at h1
  | [], _ :: _, [], _, h2 => by simp [cmpR] at h2
  | [], _ :: _, _ :: _, _, _ => by simp [cmpR]
  | _ :: _, [], n, h1, _ => by simp [cmpR] at h1
  | a :: l, b :: m, [], _, h2 => by simp [cmpR] at h2
  | a :: l, b :: m, c :: n, h1, h2 => by
    simp only [cmpR] at *
    rcases Int.lt_trichotomy a b with ab | ab | ab
    · rcases Int.lt_trichotomy b c with bc | bc | bc
      · rw [if_pos (by omega)]; decide
      · subst bc; rw [if_pos ab]; decide
      · rw [if_neg (by omega), if_pos bc] at h2; exact absurd h2 (by decide)
    · subst ab
      rcases Int.lt_trichotomy a c with bc | bc | bc
      · rw [if_pos bc]; decide
      · subst bc
        rw [if_neg (by omega), if_neg (by omega)] at *
        exact cmpR_trans h1 h2
      · rw [if_neg (by omega), if_pos bc] at h2; exact absurd h2 (by decide)
    · rw [if_neg (by omega), if_pos ab] at h1; exact absurd h1 (by decide)
theorem cmpR_ntrans {l m n : List Int} (h1 : ¬ cmpR l m < 0) (h2 : ¬ cmpR m n < 0) : ¬ cmpR l n < 0 := by
  intro h
  by_cases e : cmpR l m = 0
  · rw [cmpR_zero.1 e] at h; exact h2 h
  · exact h2 (cmpR_trans (cmpR_anti.2 (by omega)) h)
def leR (a b : List Int) : Bool := decide (cmpR a b ≤ 0)
theorem leR_iff {a b : List Int} : leR a b = true ↔ ¬ cmpR b a < 0 := by
  rw [leR, decide_eq_true_eq]
  constructor
  · intro h q
    have := cmpR_anti.1 q
    omega
  · intro h
    have : ¬ 0 < cmpR a b := fun q => h (cmpR_anti.2 q)
    omega
theorem leR_antisymm {a b : List Int} (h1 : leR a b = true) (h2 : leR b a = true) : a = b := by
  rw [leR_iff] at h1 h2
  have : ¬ 0 < cmpR a b := fun q => h1 (cmpR_anti.2 q)
  exact cmpR_zero.1 (by omega)
def sortR (l : List (List Int)) : List (List Int) := l.mergeSort leR
theorem sortR_perm (l : List (List Int)) : (sortR l).Perm l := List.mergeSort_perm l leR
theorem sortR_pair (l : List (List Int)) : (sortR l).Pairwise (fun a b => leR a b = true) :=
  List.pairwise_mergeSort (fun a b c h1 h2 => by rw [leR_iff] at *; exact cmpR_ntrans h2 h1) (fun a b => by
    by_cases h : cmpR b a < 0
    · have : leR b a = true := by rw [leR, decide_eq_true_eq]; omega
      simp [this]
    · have : leR a b = true := leR_iff.2 h
      simp [this]) l
theorem sortR_eq {l m : List (List Int)} (hp : m.Perm l) (hs : m.Pairwise (fun a b => leR a b = true)) : m = sortR l :=
  List.Perm.eq_of_pairwise (le := fun a b => leR a b = true) (fun a b _ _ h1 h2 => leR_antisymm h1 h2) hs (sortR_pair l) (hp.trans (sortR_perm l).symm)
theorem sortR_len (l : List (List Int)) : (sortR l).length = l.length := (sortR_perm l).length_eq
end Go.Proofs.YtjlagjhmlmfjeaaGreat
