/-
  The walk of FnExactUpdateStore.
-/
import Derived.Test.YtokkjaflmcjlhaaGreatQUpdateStore0
import Derived.Test.YtokkjaflmcjlhaaGreatQUpdateStore1
import Derived.Test.YtokkjaflmcjlhaaGreatQUpdateStore2
import Derived.Test.YtokkjaflmcjlhaaGreatQUpdateStore3
import Derived.Test.YtokkjaflmcjlhaaGreatQUpdateStore4
import Derived.Test.YtokkjaflmcjlhaaGreatQUpdateStore5
import Derived.Test.YtokkjaflmcjlhaaGreatQUpdateStore6
import Derived.Test.YtokkjaflmcjlhaaGreatQUpdateStore7
import Derived.Test.YtokkjaflmcjlhaaGreatQUpdateStore8
import Derived.Test.YtokkjaflmcjlhaaGreatQUpdateStore9
import Derived.Test.YtokkjaflmcjlhaaGreatQUpdateStore10
import Derived.Test.YtokkjaflmcjlhaaGreatQUpdateStore11
import Derived.Test.YtokkjaflmcjlhaaGreatQUpdateStore12
import Derived.Test.YtokkjaflmcjlhaaGreatQUpdateStore13
import Derived.Test.YtokkjaflmcjlhaaGreatQUpdateStore14
import Derived.Test.YtokkjaflmcjlhaaGreatQUpdateStore15
import Derived.Test.YtokkjaflmcjlhaaGreatQUpdateStore16
import Derived.Test.YtokkjaflmcjlhaaGreatQUpdateStore17
import Derived.Test.YtokkjaflmcjlhaaGreatQUpdateStore18
import Derived.Test.YtokkjaflmcjlhaaGreatQUpdateStore19
import Derived.Test.YtokkjaflmcjlhaaGreatQUpdateStore20
namespace Go.Proofs.YtokkjaflmcjlhaaGreat.fnExactUpdateStore
open Go.ChangeShapes Go.WideShapes Go.ChangeAt Go.RowKit
set_option linter.unusedVariables false
theorem walk (w : World) (cs0 : Array Value) (x0 : StoreD) (h0 : RStore w cs0.toList x0) (cs1 : Array Value) (x1 : UpdateD) (h1 : RUpdate w cs1.toList x1) :
    Calls Tryz.prog 3 #[.agg cs0, .agg cs1] w fun e w' => e = .returned (.bool true) ∧ Below w.heap.size w w' :=
  (lawUpdateStore x0 x1 h0.2 h1.2).calls (arsRd_agg h0.1 (arsRd_agg h1.1 arsRd_nil)) match_bool
end Go.Proofs.YtokkjaflmcjlhaaGreat.fnExactUpdateStore
