/-
  The law on power floors.
-/
import Derived.Test.YtcfilkhjababjaaPa
import Derived.Test.YtcfilkhjababjaaDc
namespace Go.Proofs.Ytcfilkhjababjaa
open Go.ChangeShapes Go.WideShapes Go.ChangeAt Go.RowKit
set_option linter.unusedVariables false
set_option linter.unusedSimpArgs false
set_option maxRecDepth 100000 in
set_option maxHeartbeats 4000000 in
theorem lawPowerFloor (a : RationalD) (ha : FRational a) : Con Try.prog 3 [.agg [.int .i64 a.num, .int .i64 a.den]] (vB true) [] := by
  refine con_x tbOk mixedW Try.func3 (by kernel_rfl) (.call (.agg [vI a.num, vI a.den]) [] <| .call (vI (powFl a)) [] <| .call (.agg [vI a.num, vI a.den]) [] <| .call (vI (powFl a)) [] <| .no <| .fin []) ?_
  refine Eq.mpr (by kernel_rfl : _ = (Con Try.prog 15 [.agg [.int .i64 a.num, .int .i64 a.den]] (.agg [vI a.num, vI a.den]) [] ∧ Con Try.prog 14 [.agg [.int .i64 a.num, .int .i64 a.den]] (vI (powFl a)) [] ∧ Con Try.prog 15 [.agg [.int .i64 a.num, .int .i64 a.den]] (.agg [vI a.num, vI a.den]) [] ∧ Con Try.prog 16 [.agg [.int .i64 a.num, .int .i64 a.den]] (vI (powFl a)) [] ∧ (!(decide ((powFl a) = (powFl a)))) = false ∧ (true) = true ∧ True)) ?_
  refine ⟨to_Rational a, ?_⟩
  refine ⟨pf_spec a, ?_⟩
  refine ⟨to_Rational a, ?_⟩
  refine ⟨pf_impl a, ?_⟩
  refine ⟨by simp, ?_⟩
  refine ⟨?_, trivial⟩
  · rfl
end Go.Proofs.Ytcfilkhjababjaa
