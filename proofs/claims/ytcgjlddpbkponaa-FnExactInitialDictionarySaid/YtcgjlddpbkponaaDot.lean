/-
  The product of numbers and rationals, program and reference.
-/
import Derived.Test.YtcgjlddpbkponaaQs
import Derived.Test.YtcgjlddpbkponaaRats
import Derived.Deep.DeepCutAuto
namespace Go.Proofs.Ytcgjlddpbkponaa
open Go.ChangeShapes Go.WideShapes Go.ChangeAt Go.RowKit

def dotGo : List Int → List RationalD → Int → Int → Int × Int × Bool
  | n :: l, x :: xs, p, q => if (mulQ n 1 x.num x.den).2.2 = true ∧ (addQ p q (mulQ n 1 x.num x.den).1 (mulQ n 1 x.num x.den).2.1).2.2 = true then dotGo l xs (addQ p q (mulQ n 1 x.num x.den).1 (mulQ n 1 x.num x.den).2.1).1 (addQ p q (mulQ n 1 x.num x.den).1 (mulQ n 1 x.num x.den).2.1).2.1 else (0, 0, false)
  | [], _, p, q => (p, q, true)
  | _ :: _, [], p, q => (p, q, true)
theorem dotGo_cons {l : List Int} {xs : List RationalD} {k : Nat} {n : Int} {x : RationalD} {p q : Int} {m s : Int × Int × Bool} (hl : l[k]? = some n) (hx : xs[k]? = some x) (hm : mulQ n 1 x.num x.den = m) (hs : addQ p q m.1 m.2.1 = s) :
    dotGo (l.drop k) (xs.drop k) p q = if m.2.2 = true ∧ s.2.2 = true then dotGo (l.drop (k + 1)) (xs.drop (k + 1)) s.1 s.2.1 else (0, 0, false) := by
  subst hm
  subst hs
  obtain ⟨h1, rfl⟩ := List.getElem?_eq_some_iff.1 hl
  obtain ⟨h2, rfl⟩ := List.getElem?_eq_some_iff.1 hx
  rw [List.drop_eq_getElem_cons h1, List.drop_eq_getElem_cons h2, dotGo]
theorem dotGo_done {l : List Int} {xs : List RationalD} {k : Nat} {p q : Int} (h : l.length ≤ k ∨ xs.length ≤ k) : dotGo (l.drop k) (xs.drop k) p q = (p, q, true) := by
  rcases h with h | h
  · rw [List.drop_eq_nil_of_le h]; simp [dotGo]
  · rw [List.drop_eq_nil_of_le h]
    cases l.drop k <;> simp [dotGo]

end Go.Proofs.Ytcgjlddpbkponaa
