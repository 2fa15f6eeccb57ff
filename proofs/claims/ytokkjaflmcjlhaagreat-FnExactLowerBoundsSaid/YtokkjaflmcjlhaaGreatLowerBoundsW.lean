/-
  The walk of FnExactLowerBounds.
-/
import Derived.Test.YtokkjaflmcjlhaaGreatQD23
namespace Go.Proofs.YtokkjaflmcjlhaaGreat.fnExactLowerBounds
open Go.ChangeShapes Go.WideShapes Go.ChangeAt Go.RowKit
set_option linter.unusedVariables false
theorem walk (w : World) (cs0 : Array Value) (x0 : StoreD) (h0 : RStore w cs0.toList x0) (cs1 : Array Value) (x1 : QueryD) (h1 : RQuery w cs1.toList x1) :
    Calls Tryz.prog 11 #[.agg cs0, .agg cs1] w fun e w' => e = .returned (.bool true) ∧ Below w.heap.size w w' :=
  (lawLowerBounds x0 x1 h0.2 h1.2).calls (arsRd_agg h0.1 (arsRd_agg h1.1 arsRd_nil)) match_bool
end Go.Proofs.YtokkjaflmcjlhaaGreat.fnExactLowerBounds
