/-
  The walk of FnExactEntropyProgram.
-/
import Derived.Test.YtdfebigfnjfgpaaQE7
namespace Go.Proofs.Ytdfebigfnjfgpaa.fnExactEntropyProgram
open Go.ChangeShapes Go.WideShapes Go.ChangeAt Go.RowKit
set_option linter.unusedVariables false
theorem walk (w : World) (v0 : Value) (x0 : List SizeConstraintD) (h0 : RSizeConstraintS w [v0] x0) (a1 : Int) (fa1 : Fits a1) :
    Calls Try.prog 3 #[v0, .int .i64 a1] w fun e w' => e = .returned (.bool true) ∧ Below w.heap.size w w' :=
  (lawEntropyProgram x0 a1 h0.2 fa1).calls (arsRd_one (rdOne h0.1) (arsRd_one rdV_int arsRd_nil)) match_bool
end Go.Proofs.Ytdfebigfnjfgpaa.fnExactEntropyProgram
