/-
  The walk of FnExactIsDualPoint.
-/
import Derived.Test.YtcgjlddpbkponaaLpM
namespace Go.Proofs.Ytcgjlddpbkponaa.fnExactIsDualPoint
open Go.ChangeShapes Go.WideShapes Go.ChangeAt Go.RowKit
set_option linter.unusedVariables false
theorem walk (w : World) (cs0 : Array Value) (x0 : ProgramD) (h0 : ProgramR w cs0.toList x0) (v1 : Value) (x1 : List RationalD) (h1 : SliceR 2 RationalR w [v1] x1) :
    Calls Try.prog 8 #[.agg cs0, v1] w fun e w' => e = .returned (.bool true) ∧ Below w.heap.size w w' :=
  (lawIsDualPoint x0 x1 (fits_prog h0) (fits_rats h1)).calls (arsRd_agg (rd_prog' h0) (arsRd_one (rd_rats h1) arsRd_nil)) match_bool
end Go.Proofs.Ytcgjlddpbkponaa.fnExactIsDualPoint
