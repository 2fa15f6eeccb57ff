/-
  The walk of FnExactNewStore.
-/
import Derived.Test.YtjlagjhmlmfjeaaGreatNc
import Derived.Test.YtjlagjhmlmfjeaaGreatDb
namespace Go.Proofs.YtjlagjhmlmfjeaaGreat.fnExactNewStore
open Go.ChangeShapes Go.WideShapes Go.ChangeAt Go.RowKit
set_option linter.unusedVariables false
theorem walk (w : World) (cs0 : Array Value) (x0 : DatabaseD) (h0 : RDatabase w cs0.toList x0) (v1 : Value) (x1 : List DependencyD) (h1 : RDependencyS w [v1] x1) (v2 : Value) (x2 : List InclusionD) (h2 : RInclusionS w [v2] x2) :
    Calls Tryz.prog 9 #[.agg cs0, v1, v2] w fun e w' => e = .returned (.bool true) ∧ Below w.heap.size w w' :=
  (lawNewStore x0 x1 x2 h0.2 h1.2 h2.2).calls (arsRd_agg h0.1 (arsRd_one (rdOne h1.1) (arsRd_one (rdOne h2.1) arsRd_nil))) match_bool
end Go.Proofs.YtjlagjhmlmfjeaaGreat.fnExactNewStore
