/-
  The walk of FnExactTableConstraints.
-/
import Derived.Test.YtjlagjhmlmfjeaaGreatLc
import Derived.Test.YtjlagjhmlmfjeaaGreatDb
namespace Go.Proofs.YtjlagjhmlmfjeaaGreat.fnExactTableConstraints
open Go.ChangeShapes Go.WideShapes Go.ChangeAt Go.RowKit
set_option linter.unusedVariables false
theorem walk (w : World) (cs0 : Array Value) (x0 : TableStatsD) (h0 : RTableStats w cs0.toList x0) (cs1 : Array Value) (x1 : AtomD) (h1 : RAtom w cs1.toList x1) :
    Calls Tryz.prog 6 #[.agg cs0, .agg cs1] w fun e w' => e = .returned (.bool true) ∧ Below w.heap.size w w' :=
  (lawTableConstraints x0 x1 h0.2 h1.2).calls (arsRd_agg h0.1 (arsRd_agg h1.1 arsRd_nil)) match_bool
end Go.Proofs.YtjlagjhmlmfjeaaGreat.fnExactTableConstraints
