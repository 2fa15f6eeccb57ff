/-
  The walk of FnEntropyProof.
-/
import Derived.Test.YtgamjlgfnmpcjaaGreatep6
namespace Go.Proofs.YtgamjlgfnmpcjaaGreat.fnEntropyProof
open Go.ChangeShapes Go.WideShapes Go.ChangeAt Go.RowKit
set_option linter.unusedVariables false
theorem walk (w : World) (v0 : Value) (x0 : List Int) (h0 : RByteS w [v0] x0) :
    Calls Tryz.prog 3 #[v0] w fun e w' => e = .returned (.bool true) ∧ Below w.heap.size w w' :=
  (lawFnEntropyProof x0 h0.2).calls (arsRd_one (rdOne h0.1) arsRd_nil) match_bool
end Go.Proofs.YtgamjlgfnmpcjaaGreat.fnEntropyProof
