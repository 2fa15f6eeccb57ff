/-
  The walk of FnExactElementalRows.
-/
import Derived.Test.YtcfilkhjababjaaEe
import Derived.Test.YtcfilkhjababjaaDb
namespace Go.Proofs.Ytcfilkhjababjaa.fnExactElementalRows
open Go.ChangeShapes Go.WideShapes Go.ChangeAt Go.RowKit
set_option linter.unusedVariables false
theorem walk (w : World) (a0 : Int) (fa0 : Fits a0) :
    Calls Try.prog 4 #[.int .i64 a0] w fun e w' => e = .returned (.bool true) ∧ Below w.heap.size w w' :=
  (lawElementalRows a0 fa0).calls (arsRd_one rdV_int arsRd_nil) match_bool
end Go.Proofs.Ytcfilkhjababjaa.fnExactElementalRows
