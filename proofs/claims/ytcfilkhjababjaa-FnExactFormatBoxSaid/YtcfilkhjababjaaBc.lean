/-
  The law FnExactFormatBox.
-/
import Derived.Test.YtcfilkhjababjaaBb
import Derived.Test.YtcfilkhjababjaaDc
import Derived.Test.YtcfilkhjababjaaDd
import Derived.Test.YtcfilkhjababjaaDe
namespace Go.Proofs.Ytcfilkhjababjaa
open Go.ChangeShapes Go.WideShapes Go.ChangeAt Go.RowKit
set_option linter.unusedVariables false
set_option linter.unusedSimpArgs false
set_option maxRecDepth 100000 in
set_option maxHeartbeats 4000000 in
theorem lawFormatBox (a0 : BoxD) (h0 : FBox a0) : Con Try.prog 6 [.agg [.sl 3 1 (a0.low.map intD), .sl 3 1 (a0.high.map intD)]] (vB true) [] := by
  refine con_x tbOk mixedW Try.func6 (by kernel_rfl) (.call (vI (szStep (cBox a0) (1048576 : Int))) [] <| .br (.fin []) (.call (.agg [.own 0, .own 1]) [(0, .arr 3 1 true (a0.low.map intD)), (1, .arr 3 1 true (a0.high.map intD))] <| .call (.p none (.str (fmtBox a0))) [] <| .call (.agg [.own 0, .own 1]) [(0, .arr 3 1 true (a0.low.map intD)), (1, .arr 3 1 true (a0.high.map intD))] <| .call (.p none (.str (fmtBox a0))) [] <| .no <| .call (.agg [.own 0, .own 1]) [(0, .arr 3 1 true (a0.low.map intD)), (1, .arr 3 1 true (a0.high.map intD))] <| .call (vB true) [] <| .fin [])) ?_
  refine Eq.mpr (by kernel_rfl : _ = ((a0.low.map intD).length ≤ 9223372036854775807 → (a0.high.map intD).length ≤ 9223372036854775807 → Con Try.prog 32 [.agg [.sl 3 1 (a0.low.map intD), .sl 3 1 (a0.high.map intD)], .one (.int .i64 (1048576 : Int))] (vI (szStep (cBox a0) (1048576 : Int))) [] ∧ (((decide ((szStep (cBox a0) (1048576 : Int)) < (0 : Int))) = true → (true) = true ∧ True) ∧ ((decide ((szStep (cBox a0) (1048576 : Int)) < (0 : Int))) = false → Con Try.prog 34 [.agg [.sl 3 1 (a0.low.map intD), .sl 3 1 (a0.high.map intD)]] (.agg [.own 0, .own 1]) [(0, .arr 3 1 true (a0.low.map intD)), (1, .arr 3 1 true (a0.high.map intD))] ∧ Con Try.prog 33 [.agg [.sl 3 1 (a0.low.map intD), .sl 3 1 (a0.high.map intD)]] (.p none (.str (fmtBox a0))) [] ∧ Con Try.prog 34 [.agg [.sl 3 1 (a0.low.map intD), .sl 3 1 (a0.high.map intD)]] (.agg [.own 0, .own 1]) [(0, .arr 3 1 true (a0.low.map intD)), (1, .arr 3 1 true (a0.high.map intD))] ∧ Con Try.prog 35 [.agg [.sl 3 1 (a0.low.map intD), .sl 3 1 (a0.high.map intD)]] (.p none (.str (fmtBox a0))) [] ∧ (!((fmtBox a0).toList == (fmtBox a0).toList)) = false ∧ Con Try.prog 34 [.agg [.sl 3 1 (a0.low.map intD), .sl 3 1 (a0.high.map intD)]] (.agg [.own 0, .own 1]) [(0, .arr 3 1 true (a0.low.map intD)), (1, .arr 3 1 true (a0.high.map intD))] ∧ Con Try.prog 36 [.agg [.sl 3 1 (a0.low.map intD), .sl 3 1 (a0.high.map intD)], .agg [.sl 3 1 (a0.low.map intD), .sl 3 1 (a0.high.map intD)]] (vB true) [] ∧ (true) = true ∧ True)))) ?_
  intro n0 n1
  simp only [List.length_map] at n0 n1
  refine ⟨sz_Box a0 _ (by first | assumption | exact hf) (by omega) (by omega), ?_⟩
  refine ⟨fun c0 => ?_, fun c0 => ?_⟩
  · replace c0 := of_decide_eq_true c0
    refine ⟨?_, trivial⟩
    · rfl
  · replace c0 := of_decide_eq_false c0
    try (have y0 := sz_ok c0; try rw [szStep_yes y0] at *)
    refine ⟨to_Box a0 (by first | omega | (have := cBoxS_el ‹x[k]? = some _›; omega)), ?_⟩
    refine ⟨fbox_spec a0, ?_⟩
    refine ⟨to_Box a0 (by first | omega | (have := cBoxS_el ‹x[k]? = some _›; omega)), ?_⟩
    refine ⟨fbox_impl a0, ?_⟩
    refine ⟨by first | (simp; done) | (simp; omega) | (simp [*]; done), ?_⟩
    refine ⟨to_Box a0 (by first | omega | (have := cBoxS_el ‹x[k]? = some _›; omega)), ?_⟩
    refine ⟨by first | exact eq_Box a0 | exact eq_Box _, ?_⟩
    refine ⟨?_, trivial⟩
    · rfl
end Go.Proofs.Ytcfilkhjababjaa
