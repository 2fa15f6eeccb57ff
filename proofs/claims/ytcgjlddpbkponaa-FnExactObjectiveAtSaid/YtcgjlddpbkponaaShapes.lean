/-
  Shapes of slices of the call's own; how many values a nested slice holds.
-/
import Derived.Test.YtcgjlddpbkponaaSlice
import Derived.Test.YtcgjlddpbkponaaOpen
namespace Go.Proofs.Ytcgjlddpbkponaa
open Go.ChangeShapes Go.WideShapes Go.ChangeAt Go.RowKit
theorem ints_shape {w : World} {F : List Nat} {v : Value} {l : List Int} (h : IntsO w F [v] l) : ∃ A c, v = .slice A l.length c := by
  obtain ⟨_, e, o, _⟩ := h
  simp only [List.cons.injEq, and_true] at e
  subst e
  obtain ⟨a, k, h, _⟩ := owns_shape o
  exact ⟨a, k, h⟩
theorem slice_shape {α : Type} {e k : Nat} {O : Od α} {w : World} {F : List Nat} {v : Value} {l : List α} (h : SliceO e k O w F [v] l) : ∃ A c, v = .slice A l.length c := by
  obtain ⟨_, _, _, e, o, _⟩ := h
  simp only [List.cons.injEq, and_true] at e
  subst e
  obtain ⟨a, k, h, _⟩ := owns_shape o
  exact ⟨a, k, h⟩
theorem slice_max {α : Type} {e k : Nat} {O : Od α} {w : World} {F : List Nat} {v : Value} {l : List α} (h : SliceO e k O w F [v] l) : l.length ≤ 9223372036854775807 := by
  obtain ⟨_, _, _, e, o, _⟩ := h
  obtain ⟨a, k, h, h1, h2, _⟩ := owns_shape o
  unfold maxLen at h2
  omega
def iotaL (k : Int) (l : List Int) : List Int := iota k l.length
def cntL {α : Type} (c : α → Nat) (xs : List α) : Nat := xs.length + (xs.map c).sum
theorem cntL_len {α : Type} (c : α → Nat) (xs : List α) : xs.length ≤ cntL c xs := Nat.le_add_right _ _
theorem sum_mem {l : List Nat} {n : Nat} (h : n ∈ l) : n ≤ l.sum := by
  induction l with
  | nil => simp at h
  | cons a l ih =>
    rcases List.mem_cons.1 h with rfl | h
    · simp
    · have := ih h; simp; omega
theorem cntL_mem {α : Type} (c : α → Nat) {xs : List α} {k : Nat} {x : α} (h : xs[k]? = some x) : c x ≤ cntL c xs :=
  Nat.le_trans (sum_mem (List.mem_map.2 ⟨x, List.mem_of_getElem? h, rfl⟩)) (Nat.le_add_left _ _)
theorem slice_form' {α : Type} {k : Nat} {R : Rd α} {w : World} {cs : List Value} {l : List α} (h : SliceR k R w cs l) : ∃ A c, cs = [.slice A l.length c] ∧ l.length ≤ c ∧ c ≤ maxLen := by
  obtain ⟨A, c, hv, h1, h2, _⟩ := h
  exact ⟨A, c, hv, h1, h2⟩
end Go.Proofs.Ytcgjlddpbkponaa
