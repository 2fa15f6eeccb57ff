/-
  The walk of FnExactIsFresh.
-/
import Derived.Test.YtjlagjhmlmfjeaaGreatMj
import Derived.Test.YtjlagjhmlmfjeaaGreatDb
namespace Go.Proofs.YtjlagjhmlmfjeaaGreat.fnExactIsFresh
open Go.ChangeShapes Go.WideShapes Go.ChangeAt Go.RowKit
set_option linter.unusedVariables false
theorem walk (w : World) (cs0 : Array Value) (x0 : StoreD) (h0 : RStore w cs0.toList x0) (a1 : Int) (fa1 : Fits a1) :
    Calls Tryz.prog 8 #[.agg cs0, .int .i64 a1] w fun e w' => e = .returned (.bool true) ∧ Below w.heap.size w w' :=
  (lawIsFresh x0 a1 h0.2 fa1).calls (arsRd_agg h0.1 (arsRd_one rdV_int arsRd_nil)) match_bool
end Go.Proofs.YtjlagjhmlmfjeaaGreat.fnExactIsFresh
