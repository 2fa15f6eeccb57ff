/-
  The walk of FnExactFormatBox.
-/
import Derived.Test.YtcfilkhjababjaaBc
import Derived.Test.YtcfilkhjababjaaDb
namespace Go.Proofs.Ytcfilkhjababjaa.fnExactFormatBox
open Go.ChangeShapes Go.WideShapes Go.ChangeAt Go.RowKit
set_option linter.unusedVariables false
theorem walk (w : World) (cs0 : Array Value) (x0 : BoxD) (h0 : RBox w cs0.toList x0) :
    Calls Try.prog 6 #[.agg cs0] w fun e w' => e = .returned (.bool true) ∧ Below w.heap.size w w' :=
  (lawFormatBox x0 h0.2).calls (arsRd_agg h0.1 arsRd_nil) match_bool
end Go.Proofs.Ytcfilkhjababjaa.fnExactFormatBox
