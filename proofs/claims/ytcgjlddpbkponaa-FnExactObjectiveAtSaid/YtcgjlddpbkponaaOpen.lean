/-
  Openers: what an argument's cells read as.
-/
import Derived.Test.YtcgjlddpbkponaaMem
namespace Go.Proofs.Ytcgjlddpbkponaa
open Go.ChangeShapes Go.WideShapes Go.ChangeAt Go.RowKit
section
variable {H : Type} {enc : TypeId × Value → H} {w : World} {base : Nat} {spare : Nat → Bool} {held : Bool}
theorem open_ints {fuel : Nat} {cs : List Value} {x : DataW H × List MemPlace} (h : DataW.trod enc Try.prog w base spare held fuel 22 cs = some x) : ∃ l, SliceR 1 IntR w cs l :=
  trod_slice Try.underlying22 (by kernel_rfl) (by omega) (fun _ _ _ h => trod_int Try.underlying3 h) h
end
end Go.Proofs.Ytcgjlddpbkponaa
