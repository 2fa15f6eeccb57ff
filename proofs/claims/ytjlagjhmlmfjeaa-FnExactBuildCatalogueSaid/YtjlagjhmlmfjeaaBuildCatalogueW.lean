/-
  The walk of FnExactBuildCatalogue.
-/
import Derived.Test.YtjlagjhmlmfjeaaGi
import Derived.Test.YtjlagjhmlmfjeaaDb
namespace Go.Proofs.Ytjlagjhmlmfjeaa.fnExactBuildCatalogue
open Go.ChangeShapes Go.WideShapes Go.ChangeAt Go.RowKit
set_option linter.unusedVariables false
theorem walk (w : World) (cs0 : Array Value) (x0 : DatabaseD) (h0 : RDatabase w cs0.toList x0) (a1 : Int) (fa1 : Fits a1) :
    Calls Try.prog 5 #[.agg cs0, .int .i64 a1] w fun e w' => e = .returned (.bool true) ∧ Below w.heap.size w w' :=
  (lawBuildCatalogue x0 a1 h0.2 fa1).calls (arsRd_agg h0.1 (arsRd_one rdV_int arsRd_nil)) match_bool
end Go.Proofs.Ytjlagjhmlmfjeaa.fnExactBuildCatalogue
