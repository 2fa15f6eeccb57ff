/-
  The law FnExactStatsDegree.
-/
import Derived.Test.YtjlagjhmlmfjeaaGreatIc
import Derived.Test.YtjlagjhmlmfjeaaGreatDc
import Derived.Test.YtjlagjhmlmfjeaaGreatDd
import Derived.Test.YtjlagjhmlmfjeaaGreatDe
namespace Go.Proofs.YtjlagjhmlmfjeaaGreat
open Go.ChangeShapes Go.WideShapes Go.ChangeAt Go.RowKit
set_option linter.unusedVariables false
set_option linter.unusedSimpArgs false
set_option maxRecDepth 100000 in
set_option maxHeartbeats 4000000 in
theorem lawStatsDegree (a0 : TableStatsD) (a1 : List Int) (h0 : FTableStats a0) (h1 : FIntS a1) : Con Tryz.prog 4 [.agg [.str a0.name, .int .i64 a0.arity, .int .i64 a0.rowCount, .sl 157 3 (a0.groups.map eGroupStats)], .one (.sl 3 1 (a1.map intD))] (vB true) [] := by
  refine con_x tbOk mixedW Tryz.func4 (by kernel_rfl) (.len a1.length <| .br (.fin []) (.call (vI (szStep (cTableStats a0) (1048576 : Int))) [] <| .br (.fin []) (.call (.agg [.p none (.str a0.name), vI a0.arity, vI a0.rowCount, .own 0]) [(0, .arr 157 3 true (a0.groups.map eGroupStats))] <| .call (.own 0) [(0, .arr 3 1 true (a1.map intD))] <| .call (vI ((seqS a0 a1).getD 0 0)) [] <| .call (.agg [.p none (.str a0.name), vI a0.arity, vI a0.rowCount, .own 0]) [(0, .arr 157 3 true (a0.groups.map eGroupStats))] <| .call (.own 0) [(0, .arr 3 1 true (a1.map intD))] <| .call (vI ((seqS a0 a1).getD 0 0)) [] <| .no <| .call (.agg [.p none (.str a0.name), vI a0.arity, vI a0.rowCount, .own 0]) [(0, .arr 157 3 true (a0.groups.map eGroupStats))] <| .call (vB true) [] <| .call (.own 0) [(0, .arr 3 1 true (a1.map intD))] <| .call (vB true) [] <| .fin []))) ?_
  refine Eq.mpr (by kernel_rfl : _ = ((a0.groups.map eGroupStats).length ≤ 9223372036854775807 → (a1.map intD).length ≤ 9223372036854775807 → (a1.map intD).length = a1.length ∧ (((decide ((1048576 : Int) < ((a1.length : Nat) : Int))) = true → (true) = true ∧ True) ∧ ((decide ((1048576 : Int) < ((a1.length : Nat) : Int))) = false → Con Tryz.prog 10 [.agg [.str a0.name, .int .i64 a0.arity, .int .i64 a0.rowCount, .sl 157 3 (a0.groups.map eGroupStats)], .one (.int .i64 (1048576 : Int))] (vI (szStep (cTableStats a0) (1048576 : Int))) [] ∧ (((decide ((szStep (cTableStats a0) (1048576 : Int)) < (0 : Int))) = true → (true) = true ∧ True) ∧ ((decide ((szStep (cTableStats a0) (1048576 : Int)) < (0 : Int))) = false → Con Tryz.prog 13 [.agg [.str a0.name, .int .i64 a0.arity, .int .i64 a0.rowCount, .sl 157 3 (a0.groups.map eGroupStats)]] (.agg [.p none (.str a0.name), vI a0.arity, vI a0.rowCount, .own 0]) [(0, .arr 157 3 true (a0.groups.map eGroupStats))] ∧ Con Tryz.prog 22 [.one (.sl 3 1 (a1.map intD))] (.own 0) [(0, .arr 3 1 true (a1.map intD))] ∧ Con Tryz.prog 21 [.agg [.str a0.name, .int .i64 a0.arity, .int .i64 a0.rowCount, .sl 157 3 (a0.groups.map eGroupStats)], .one (.sl 3 1 (a1.map intD))] (vI ((seqS a0 a1).getD 0 0)) [] ∧ Con Tryz.prog 13 [.agg [.str a0.name, .int .i64 a0.arity, .int .i64 a0.rowCount, .sl 157 3 (a0.groups.map eGroupStats)]] (.agg [.p none (.str a0.name), vI a0.arity, vI a0.rowCount, .own 0]) [(0, .arr 157 3 true (a0.groups.map eGroupStats))] ∧ Con Tryz.prog 22 [.one (.sl 3 1 (a1.map intD))] (.own 0) [(0, .arr 3 1 true (a1.map intD))] ∧ Con Tryz.prog 23 [.agg [.str a0.name, .int .i64 a0.arity, .int .i64 a0.rowCount, .sl 157 3 (a0.groups.map eGroupStats)], .one (.sl 3 1 (a1.map intD))] (vI ((seqS a0 a1).getD 0 0)) [] ∧ (!(decide (((seqS a0 a1).getD 0 0) = ((seqS a0 a1).getD 0 0)))) = false ∧ Con Tryz.prog 13 [.agg [.str a0.name, .int .i64 a0.arity, .int .i64 a0.rowCount, .sl 157 3 (a0.groups.map eGroupStats)]] (.agg [.p none (.str a0.name), vI a0.arity, vI a0.rowCount, .own 0]) [(0, .arr 157 3 true (a0.groups.map eGroupStats))] ∧ Con Tryz.prog 16 [.agg [.str a0.name, .int .i64 a0.arity, .int .i64 a0.rowCount, .sl 157 3 (a0.groups.map eGroupStats)], .agg [.str a0.name, .int .i64 a0.arity, .int .i64 a0.rowCount, .sl 157 3 (a0.groups.map eGroupStats)]] (vB true) [] ∧ Con Tryz.prog 22 [.one (.sl 3 1 (a1.map intD))] (.own 0) [(0, .arr 3 1 true (a1.map intD))] ∧ Con Tryz.prog 24 [.one (.sl 3 1 (a1.map intD)), .one (.sl 3 1 (a1.map intD))] (vB true) [] ∧ (true) = true ∧ True)))))) ?_
  intro n0 n1
  simp only [List.length_map] at n0 n1
  have z1 : cIntS a1 = a1.length := rfl
  refine ⟨List.length_map _, ?_⟩
  refine ⟨fun c0 => ?_, fun c0 => ?_⟩
  · replace c0 := of_decide_eq_true c0
    refine ⟨?_, trivial⟩
    · rfl
  · replace c0 := of_decide_eq_false c0
    try (have y0 := sz_ok c0; try rw [szStep_yes y0] at *)
    refine ⟨sz_TableStats a0 _ (by first | assumption | exact hf) (by omega) (by omega), ?_⟩
    refine ⟨fun c1 => ?_, fun c1 => ?_⟩
    · replace c1 := of_decide_eq_true c1
      refine ⟨?_, trivial⟩
      · rfl
    · replace c1 := of_decide_eq_false c1
      try (have y1 := sz_ok c1; try rw [szStep_yes y1] at *)
      refine ⟨to_TableStats a0 (by first | omega | (have := cTableStatsS_el ‹x[k]? = some _›; omega)), ?_⟩
      refine ⟨to_IntS a1 (by first | omega | (have := cIntSS_el ‹x[k]? = some _›; omega)), ?_⟩
      refine ⟨sdeg_spec _ _ (by omega) (by omega), ?_⟩
      refine ⟨to_TableStats a0 (by first | omega | (have := cTableStatsS_el ‹x[k]? = some _›; omega)), ?_⟩
      refine ⟨to_IntS a1 (by first | omega | (have := cIntSS_el ‹x[k]? = some _›; omega)), ?_⟩
      refine ⟨sdeg_impl _ _ (by omega) (by omega), ?_⟩
      refine ⟨by first | (simp; done) | (simp; omega) | (simp [*]; done), ?_⟩
      refine ⟨to_TableStats a0 (by first | omega | (have := cTableStatsS_el ‹x[k]? = some _›; omega)), ?_⟩
      refine ⟨by first | exact eq_TableStats a0 | exact eq_TableStats _, ?_⟩
      refine ⟨to_IntS a1 (by first | omega | (have := cIntSS_el ‹x[k]? = some _›; omega)), ?_⟩
      refine ⟨by first | exact eq_IntS a1 | exact eq_IntS _, ?_⟩
      refine ⟨?_, trivial⟩
      · rfl
end Go.Proofs.YtjlagjhmlmfjeaaGreat
