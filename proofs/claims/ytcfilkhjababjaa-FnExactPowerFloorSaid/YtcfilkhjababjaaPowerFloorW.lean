/-
  The walk of FnExactPowerFloor.
-/
import Derived.Test.YtcfilkhjababjaaPb
import Derived.Test.YtcfilkhjababjaaDb
namespace Go.Proofs.Ytcfilkhjababjaa.fnExactPowerFloor
open Go.ChangeShapes Go.WideShapes Go.ChangeAt Go.RowKit
set_option linter.unusedVariables false
theorem walk (w : World) (cs0 : Array Value) (x0 : RationalD) (h0 : RRational w cs0.toList x0) :
    Calls Try.prog 3 #[.agg cs0] w fun e w' => e = .returned (.bool true) ∧ Below w.heap.size w w' :=
  (lawPowerFloor x0 h0.2).calls (arsRd_agg h0.1 arsRd_nil) match_bool
end Go.Proofs.Ytcfilkhjababjaa.fnExactPowerFloor
