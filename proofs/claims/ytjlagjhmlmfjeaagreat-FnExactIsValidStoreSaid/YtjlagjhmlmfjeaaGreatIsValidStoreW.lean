/-
  The walk of FnExactIsValidStore.
-/
import Derived.Test.YtjlagjhmlmfjeaaGreatMh
import Derived.Test.YtjlagjhmlmfjeaaGreatDb
namespace Go.Proofs.YtjlagjhmlmfjeaaGreat.fnExactIsValidStore
open Go.ChangeShapes Go.WideShapes Go.ChangeAt Go.RowKit
set_option linter.unusedVariables false
theorem walk (w : World) (cs0 : Array Value) (x0 : StoreD) (h0 : RStore w cs0.toList x0) :
    Calls Tryz.prog 7 #[.agg cs0] w fun e w' => e = .returned (.bool true) ∧ Below w.heap.size w w' :=
  (lawIsValidStore x0 h0.2).calls (arsRd_agg h0.1 arsRd_nil) match_bool
end Go.Proofs.YtjlagjhmlmfjeaaGreat.fnExactIsValidStore
