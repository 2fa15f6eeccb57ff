/-
  The walk of FnExactIsEntropyProof.
-/
import Derived.Test.YtdfebigfnjfgpaaGreatQI24
import Derived.Test.YtdfebigfnjfgpaaGreatQI25
namespace Go.Proofs.YtdfebigfnjfgpaaGreat.fnExactIsEntropyProof
open Go.ChangeShapes Go.WideShapes Go.ChangeAt Go.RowKit
set_option linter.unusedVariables false
theorem walk (w : World) (cs0 : Array Value) (x0 : StoreD) (h0 : RStore w cs0.toList x0) (cs1 : Array Value) (x1 : QueryD) (h1 : RQuery w cs1.toList x1) (a2 : Int) (fa2 : Fits a2) (cs3 : Array Value) (x3 : RationalD) (h3 : RRational w cs3.toList x3) (v4 : Value) (x4 : List RationalD) (h4 : RRationalS w [v4] x4) :
    Calls Tryz.prog 4 #[.agg cs0, .agg cs1, .int .i64 a2, .agg cs3, v4] w fun e w' => e = .returned (.bool true) ∧ Below w.heap.size w w' :=
  (lawIsEntropyProof x0 x1 a2 x3 x4 h0.2 h1.2 fa2 h3.2 h4.2).calls (arsRd_agg h0.1 (arsRd_agg h1.1 (arsRd_one rdV_int (arsRd_agg h3.1 (arsRd_one (rdOne h4.1) arsRd_nil))))) match_bool
end Go.Proofs.YtdfebigfnjfgpaaGreat.fnExactIsEntropyProof
