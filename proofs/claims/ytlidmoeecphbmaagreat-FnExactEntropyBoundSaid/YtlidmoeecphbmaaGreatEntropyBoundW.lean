/-
  The walk of FnExactEntropyBound.
-/
import Derived.Test.YtlidmoeecphbmaaGreateb25
namespace Go.Proofs.YtlidmoeecphbmaaGreat.fnExactEntropyBound
open Go.ChangeShapes Go.WideShapes Go.ChangeAt Go.RowKit
set_option linter.unusedVariables false
theorem walk (w : World) (cs0 : Array Value) (x0 : StoreD) (h0 : RStore w cs0.toList x0) (cs1 : Array Value) (x1 : QueryD) (h1 : RQuery w cs1.toList x1) (a2 : Int) (fa2 : Fits a2) :
    Calls Tryz.prog 3 #[.agg cs0, .agg cs1, .int .i64 a2] w fun e w' => e = .returned (.bool true) ∧ Below w.heap.size w w' :=
  (lawEntropyBound x0 x1 a2 h0.2 h1.2 fa2).calls (arsRd_agg h0.1 (arsRd_agg h1.1 (arsRd_one rdV_int arsRd_nil))) match_bool
end Go.Proofs.YtlidmoeecphbmaaGreat.fnExactEntropyBound
