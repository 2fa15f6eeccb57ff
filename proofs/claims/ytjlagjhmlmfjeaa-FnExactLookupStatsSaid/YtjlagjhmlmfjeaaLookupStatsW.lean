/-
  The walk of FnExactLookupStats.
-/
import Derived.Test.YtjlagjhmlmfjeaaHf
import Derived.Test.YtjlagjhmlmfjeaaDb
namespace Go.Proofs.Ytjlagjhmlmfjeaa.fnExactLookupStats
open Go.ChangeShapes Go.WideShapes Go.ChangeAt Go.RowKit
set_option linter.unusedVariables false
theorem walk (w : World) (cs0 : Array Value) (x0 : CatalogueD) (h0 : RCatalogue w cs0.toList x0) (a1 : ByteArray) (fa1 : FStr a1) :
    Calls Try.prog 6 #[.agg cs0, .string a1] w fun e w' => e = .returned (.bool true) ∧ Below w.heap.size w w' :=
  (lawLookupStats x0 a1 h0.2 fa1).calls (arsRd_agg h0.1 (arsRd_one rdV_str arsRd_nil)) match_bool
end Go.Proofs.Ytjlagjhmlmfjeaa.fnExactLookupStats
