/-
  The walk of FnExactEnteringColumn.
-/
import Derived.Test.YtcgjlddpbkponaaXb
namespace Go.Proofs.Ytcgjlddpbkponaa.fnExactEnteringColumn
open Go.ChangeShapes Go.WideShapes Go.ChangeAt Go.RowKit
set_option linter.unusedVariables false
theorem walk (w : World) (cs0 : Array Value) (x0 : DictionaryD) (h0 : DictionaryR w cs0.toList x0) :
    Calls Try.prog 11 #[.agg cs0] w fun e w' => e = .returned (.bool true) ∧ Below w.heap.size w w' :=
  (lawEnteringColumn x0 (fits_dic h0)).calls (arsRd_agg (rd_dic h0) arsRd_nil) match_bool
end Go.Proofs.Ytcgjlddpbkponaa.fnExactEnteringColumn
