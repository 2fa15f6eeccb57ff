/-
  The walk of FnExactInitialDictionary.
-/
import Derived.Test.YtcgjlddpbkponaaXd
namespace Go.Proofs.Ytcgjlddpbkponaa.fnExactInitialDictionary
open Go.ChangeShapes Go.WideShapes Go.ChangeAt Go.RowKit
set_option linter.unusedVariables false
theorem walk (w : World) (cs0 : Array Value) (x0 : ProgramD) (h0 : ProgramR w cs0.toList x0) :
    Calls Try.prog 6 #[.agg cs0] w fun e w' => e = .returned (.bool true) ∧ Below w.heap.size w w' :=
  (lawInitialDictionary x0 (fits_prog h0)).calls (arsRd_agg (rd_prog' h0) arsRd_nil) match_bool
end Go.Proofs.Ytcgjlddpbkponaa.fnExactInitialDictionary
