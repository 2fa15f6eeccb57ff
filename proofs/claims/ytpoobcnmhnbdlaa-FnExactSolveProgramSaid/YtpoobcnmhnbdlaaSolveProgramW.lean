/-
  The walk of FnExactSolveProgram.
-/
import Derived.Test.YtpoobcnmhnbdlaaP116
namespace Go.Proofs.Ytpoobcnmhnbdlaa.fnExactSolveProgram
open Go.ChangeShapes Go.WideShapes Go.ChangeAt Go.RowKit
set_option linter.unusedVariables false
theorem walk (w : World) (cs0 : Array Value) (x0 : ProgramD) (h0 : RProgram w cs0.toList x0) :
    Calls Try.prog 3 #[.agg cs0] w fun e w' => e = .returned (.bool true) ∧ Below w.heap.size w w' :=
  (lawSolveProgram x0 h0.2).calls (arsRd_agg h0.1 arsRd_nil) match_bool
end Go.Proofs.Ytpoobcnmhnbdlaa.fnExactSolveProgram
