/-
  The walk of FnExactUpdateStoreAll.
-/
import Derived.Test.YtokkjaflmcjlhaaGreatQU20
namespace Go.Proofs.YtokkjaflmcjlhaaGreat.fnExactUpdateStoreAll
open Go.ChangeShapes Go.WideShapes Go.ChangeAt Go.RowKit
set_option linter.unusedVariables false
theorem walk (w : World) (cs0 : Array Value) (x0 : StoreD) (h0 : RStore w cs0.toList x0) (v1 : Value) (x1 : List UpdateD) (h1 : RUpdateS w [v1] x1) :
    Calls Tryz.prog 4 #[.agg cs0, v1] w fun e w' => e = .returned (.bool true) ∧ Below w.heap.size w w' :=
  (lawUpdateStoreAll x0 x1 h0.2 h1.2).calls (arsRd_agg h0.1 (arsRd_one (rdOne h1.1) arsRd_nil)) match_bool
end Go.Proofs.YtokkjaflmcjlhaaGreat.fnExactUpdateStoreAll
