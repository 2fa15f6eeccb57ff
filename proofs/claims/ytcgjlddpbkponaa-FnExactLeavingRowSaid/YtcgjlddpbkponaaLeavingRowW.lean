/-
  The walk of FnExactLeavingRow.
-/
import Derived.Test.YtcgjlddpbkponaaXb
namespace Go.Proofs.Ytcgjlddpbkponaa.fnExactLeavingRow
open Go.ChangeShapes Go.WideShapes Go.ChangeAt Go.RowKit
set_option linter.unusedVariables false
theorem walk (w : World) (cs0 : Array Value) (x0 : DictionaryD) (h0 : DictionaryR w cs0.toList x0) (a1 : Int) (fa1 : Fits a1) :
    Calls Try.prog 12 #[.agg cs0, .int .i64 a1] w fun e w' => e = .returned (.bool true) ∧ Below w.heap.size w w' :=
  (lawLeavingRow x0 a1 (fits_dic h0)).calls (arsRd_agg (rd_dic h0) (arsRd_one rdV_int arsRd_nil)) match_bool
end Go.Proofs.Ytcgjlddpbkponaa.fnExactLeavingRow
