/-
  The walk of FnExactPivotDictionary.
-/
import Derived.Test.YtpoobcnmhnbdlaaP115
import Derived.Test.YtpoobcnmhnbdlaaP116
namespace Go.Proofs.Ytpoobcnmhnbdlaa.fnExactPivotDictionary
open Go.ChangeShapes Go.WideShapes Go.ChangeAt Go.RowKit
set_option linter.unusedVariables false
theorem walk (w : World) (cs0 : Array Value) (x0 : DictionaryD) (h0 : RDictionary w cs0.toList x0) (a1 : Int) (fa1 : Fits a1) (a2 : Int) (fa2 : Fits a2) :
    Calls Try.prog 4 #[.agg cs0, .int .i64 a1, .int .i64 a2] w fun e w' => e = .returned (.bool true) ∧ Below w.heap.size w w' :=
  (lawPivotDictionary x0 a1 a2 h0.2 fa1 fa2).calls (arsRd_agg h0.1 (arsRd_one rdV_int (arsRd_one rdV_int arsRd_nil))) match_bool
end Go.Proofs.Ytpoobcnmhnbdlaa.fnExactPivotDictionary
