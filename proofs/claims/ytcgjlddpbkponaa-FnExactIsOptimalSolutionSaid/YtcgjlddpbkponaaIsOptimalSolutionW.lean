/-
  The walk of FnExactIsOptimalSolution.
-/
import Derived.Test.YtcgjlddpbkponaaLpQ
namespace Go.Proofs.Ytcgjlddpbkponaa.fnExactIsOptimalSolution
open Go.ChangeShapes Go.WideShapes Go.ChangeAt Go.RowKit
set_option linter.unusedVariables false
theorem walk (w : World) (cs0 : Array Value) (x0 : ProgramD) (h0 : ProgramR w cs0.toList x0) (cs1 : Array Value) (x1 : SolutionD) (h1 : SolutionR w cs1.toList x1) :
    Calls Try.prog 9 #[.agg cs0, .agg cs1] w fun e w' => e = .returned (.bool true) ∧ Below w.heap.size w w' :=
  (lawIsOptimalSolution x0 x1 (fits_prog h0) (fits_sol h1)).calls (arsRd_agg (rd_prog' h0) (arsRd_agg (rd_sol h1) arsRd_nil)) match_bool
end Go.Proofs.Ytcgjlddpbkponaa.fnExactIsOptimalSolution
