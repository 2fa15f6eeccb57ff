/-
  The walk of FnExactFormatStats.
-/
import Derived.Test.YtgamjlgfnmpcjaaGreatDoorst5
import Derived.Test.YtgamjlgfnmpcjaaGreatDoorst7
namespace Go.Proofs.YtgamjlgfnmpcjaaGreatDoor.fnExactFormatStats
open Go.ChangeShapes Go.WideShapes Go.ChangeAt Go.RowKit
set_option linter.unusedVariables false
theorem walk (w : World) (cs0 : Array Value) (x0 : TableStatsD) (h0 : RTableStats w cs0.toList x0) :
    Calls Tryz.prog 3 #[.agg cs0] w fun e w' => e = .returned (.bool true) ∧ Below w.heap.size w w' :=
  (lawFormatStats x0 h0.2).calls (arsRd_agg h0.1 arsRd_nil) match_bool
end Go.Proofs.YtgamjlgfnmpcjaaGreatDoor.fnExactFormatStats
