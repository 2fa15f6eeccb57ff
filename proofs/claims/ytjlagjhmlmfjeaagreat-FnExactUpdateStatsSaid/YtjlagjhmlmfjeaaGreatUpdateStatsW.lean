/-
  The walk of FnExactUpdateStats.
-/
import Derived.Test.YtjlagjhmlmfjeaaGreatJe
import Derived.Test.YtjlagjhmlmfjeaaGreatDb
namespace Go.Proofs.YtjlagjhmlmfjeaaGreat.fnExactUpdateStats
open Go.ChangeShapes Go.WideShapes Go.ChangeAt Go.RowKit
set_option linter.unusedVariables false
theorem walk (w : World) (cs0 : Array Value) (x0 : TableStatsD) (h0 : RTableStats w cs0.toList x0) (cs1 : Array Value) (x1 : UpdateD) (h1 : RUpdate w cs1.toList x1) :
    Calls Tryz.prog 3 #[.agg cs0, .agg cs1] w fun e w' => e = .returned (.bool true) ∧ Below w.heap.size w w' :=
  (lawUpdateStats x0 x1 h0.2 h1.2).calls (arsRd_agg h0.1 (arsRd_agg h1.1 arsRd_nil)) match_bool
end Go.Proofs.YtjlagjhmlmfjeaaGreat.fnExactUpdateStats
