/-
  The walk of FnExactAtomDegree.
-/
import Derived.Test.YtokkjaflmcjlhaaGreatQAtomDegree0
import Derived.Test.YtokkjaflmcjlhaaGreatQAtomDegree1
import Derived.Test.YtokkjaflmcjlhaaGreatQAtomDegree2
import Derived.Test.YtokkjaflmcjlhaaGreatQAtomDegree3
import Derived.Test.YtokkjaflmcjlhaaGreatQAtomDegree4
import Derived.Test.YtokkjaflmcjlhaaGreatQAtomDegree5
import Derived.Test.YtokkjaflmcjlhaaGreatQAtomDegree6
import Derived.Test.YtokkjaflmcjlhaaGreatQAtomDegree7
import Derived.Test.YtokkjaflmcjlhaaGreatQAtomDegree8
import Derived.Test.YtokkjaflmcjlhaaGreatQAtomDegree9
import Derived.Test.YtokkjaflmcjlhaaGreatQAtomDegree10
import Derived.Test.YtokkjaflmcjlhaaGreatQAtomDegree11
import Derived.Test.YtokkjaflmcjlhaaGreatQAtomDegree12
import Derived.Test.YtokkjaflmcjlhaaGreatQAtomDegree13
import Derived.Test.YtokkjaflmcjlhaaGreatQAtomDegree14
import Derived.Test.YtokkjaflmcjlhaaGreatQAtomDegree15
import Derived.Test.YtokkjaflmcjlhaaGreatQAtomDegree16
import Derived.Test.YtokkjaflmcjlhaaGreatQAtomDegree17
namespace Go.Proofs.YtokkjaflmcjlhaaGreat.fnExactAtomDegree
open Go.ChangeShapes Go.WideShapes Go.ChangeAt Go.RowKit
set_option linter.unusedVariables false
theorem walk (w : World) (cs0 : Array Value) (x0 : StoreD) (h0 : RStore w cs0.toList x0) (cs1 : Array Value) (x1 : QueryD) (h1 : RQuery w cs1.toList x1) (a2 : Int) (fa2 : Fits a2) (v3 : Value) (x3 : List Int) (h3 : RIntS w [v3] x3) :
    Calls Tryz.prog 6 #[.agg cs0, .agg cs1, .int .i64 a2, v3] w fun e w' => e = .returned (.bool true) ∧ Below w.heap.size w w' :=
  (lawAtomDegree x0 x1 a2 x3 h0.2 h1.2 fa2 h3.2).calls (arsRd_agg h0.1 (arsRd_agg h1.1 (arsRd_one rdV_int (arsRd_one (rdOne h3.1) arsRd_nil)))) match_bool
end Go.Proofs.YtokkjaflmcjlhaaGreat.fnExactAtomDegree
