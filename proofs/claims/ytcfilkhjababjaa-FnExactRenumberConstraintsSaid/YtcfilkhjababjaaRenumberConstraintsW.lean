/-
  The walk of FnExactRenumberConstraints.
-/
import Derived.Test.YtcfilkhjababjaaRb
import Derived.Test.YtcfilkhjababjaaDb
namespace Go.Proofs.Ytcfilkhjababjaa.fnExactRenumberConstraints
open Go.ChangeShapes Go.WideShapes Go.ChangeAt Go.RowKit
set_option linter.unusedVariables false
theorem walk (w : World) (v0 : Value) (x0 : List SizeConstraintD) (h0 : RSizeConstraintS w [v0] x0) (v1 : Value) (x1 : List Int) (h1 : RIntS w [v1] x1) :
    Calls Try.prog 5 #[v0, v1] w fun e w' => e = .returned (.bool true) ∧ Below w.heap.size w w' :=
  (lawRenumberConstraints x0 x1 h0.2 h1.2).calls (arsRd_one (rdOne h0.1) (arsRd_one (rdOne h1.1) arsRd_nil)) match_bool
end Go.Proofs.Ytcfilkhjababjaa.fnExactRenumberConstraints
