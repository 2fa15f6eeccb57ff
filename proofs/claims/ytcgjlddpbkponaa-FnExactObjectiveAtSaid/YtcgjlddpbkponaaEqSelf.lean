/-
  Equal slices of ints compare equal.
-/
import Derived.Test.YtcgjlddpbkponaaOwn
namespace Go.Proofs.Ytcgjlddpbkponaa
open Go.ChangeShapes Go.WideShapes Go.ChangeAt Go.RowKit

theorem eqIntS_self (v v' : Value) (l : List Int) (w : World) (h : IntsR w v l) (h' : IntsR w v' l) : Calls Try.prog 63 #[v, v'] w fun e w' => e = .returned (.bool true) ∧ Below w.heap.size w w' :=
  (eqIntS_any v v' l l w h h').mono fun _ _ ⟨he, n, hn⟩ => ⟨by rw [he, eqL_self], by rw [hn]; exact below_drewN (Below.refl _ _) n⟩

end Go.Proofs.Ytcgjlddpbkponaa
