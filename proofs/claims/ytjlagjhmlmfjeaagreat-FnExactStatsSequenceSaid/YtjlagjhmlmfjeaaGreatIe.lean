/-
  The law FnExactStatsSequence.
-/
import Derived.Test.YtjlagjhmlmfjeaaGreatIc
import Derived.Test.YtjlagjhmlmfjeaaGreatDn
import Derived.Test.YtjlagjhmlmfjeaaGreatDo
import Derived.Test.YtjlagjhmlmfjeaaGreatDc
import Derived.Test.YtjlagjhmlmfjeaaGreatDd
import Derived.Test.YtjlagjhmlmfjeaaGreatDe
namespace Go.Proofs.YtjlagjhmlmfjeaaGreat
open Go.ChangeShapes Go.WideShapes Go.ChangeAt Go.RowKit
set_option linter.unusedVariables false
set_option linter.unusedSimpArgs false
set_option maxRecDepth 100000 in
set_option maxHeartbeats 4000000 in
theorem lawStatsSequence (a0 : TableStatsD) (a1 : List Int) (h0 : FTableStats a0) (h1 : FIntS a1) : Con Tryz.prog 5 [.agg [.str a0.name, .int .i64 a0.arity, .int .i64 a0.rowCount, .sl 157 3 (a0.groups.map eGroupStats)], .one (.sl 3 1 (a1.map intD))] (vB true) [] := by
  refine con_x tbOk mixedW Tryz.func5 (by kernel_rfl) (.len a1.length <| .br (.fin []) (.call (vI (szStep (cTableStats a0) (1048576 : Int))) [] <| .br (.fin []) (.call (.agg [.p none (.str a0.name), vI a0.arity, vI a0.rowCount, .p none (.sl 157 3 (a0.groups.map eGroupStats))]) [] <| .call (.p none (.sl 3 1 (a1.map intD))) [] <| .call (.p none (.sl 3 1 ((seqS a0 a1).map intD))) [] <| .call (.agg [.p none (.str a0.name), vI a0.arity, vI a0.rowCount, .own 0]) [(0, .arr 157 3 true (a0.groups.map eGroupStats))] <| .call (.own 0) [(0, .arr 3 1 true (a1.map intD))] <| .call (.own 0) [(0, .arr 3 1 true ((seqS a0 a1).map intD))] <| .call (vB true) [] <| .call (.agg [.p none (.str a0.name), vI a0.arity, vI a0.rowCount, .own 0]) [(0, .arr 157 3 true (a0.groups.map eGroupStats))] <| .call (vB true) [] <| .call (.own 0) [(0, .arr 3 1 true (a1.map intD))] <| .call (vB true) [] <| .callx [.agg [.p none (.str a0.name), vI a0.arity, vI a0.rowCount, .own 0], vI (1 : Int)] [(0, .arr 157 3 true (a0.groups.map eGroupStats))] [(0, 2800)] (vI ((1 : Int) + ((stTableStats a0 : Nat) : Int))) [(0, .arr 157 3 true (((mtTableStats (1 : Int) a0).groups).map eGroupStats))] <| .callx [.own 0, vI ((1 : Int) + ((stTableStats a0 : Nat) : Int))] [(0, .arr 3 1 true (a1.map intD))] [(0, 3000)] (vI (((1 : Int) + ((stTableStats a0 : Nat) : Int)) + ((sIntS a1 : Nat) : Int))) [(0, .arr 3 1 true ((mIntS ((1 : Int) + ((stTableStats a0 : Nat) : Int)) a1).map intD))] <| .no <| .call (vB true) [] <| .callx [.own 0, vI (1 : Int)] [(0, .arr 3 1 true ((seqS a0 a1).map intD))] [(0, 3300)] (vI ((1 : Int) + ((sIntS (seqS a0 a1) : Nat) : Int))) [(0, .arr 3 1 true ((mIntS (1 : Int) (seqS a0 a1)).map intD))] <| .call (vI ((1 : Int) + ((sIntS (seqS a0 a1) : Nat) : Int))) [] <| .no <| .no <| .call (.agg [.p none (.str a0.name), vI a0.arity, vI a0.rowCount, .own 0]) [(0, .arr 157 3 true (a0.groups.map eGroupStats))] <| .call (.own 0) [(0, .arr 3 1 true (a1.map intD))] <| .call (.own 0) [(0, .arr 3 1 true ((seqS a0 a1).map intD))] <| .call (vB true) [] <| .call (vI ((1 : Int) + ((sIntS (seqS a0 a1) : Nat) : Int))) [] <| .no <| .no <| .fin []))) ?_
  refine Eq.mpr (by kernel_rfl : _ = ((a0.groups.map eGroupStats).length ≤ 9223372036854775807 → (a1.map intD).length ≤ 9223372036854775807 → (a1.map intD).length = a1.length ∧ (((decide ((1048576 : Int) < ((a1.length : Nat) : Int))) = true → (true) = true ∧ True) ∧ ((decide ((1048576 : Int) < ((a1.length : Nat) : Int))) = false → Con Tryz.prog 10 [.agg [.str a0.name, .int .i64 a0.arity, .int .i64 a0.rowCount, .sl 157 3 (a0.groups.map eGroupStats)], .one (.int .i64 (1048576 : Int))] (vI (szStep (cTableStats a0) (1048576 : Int))) [] ∧ (((decide ((szStep (cTableStats a0) (1048576 : Int)) < (0 : Int))) = true → (true) = true ∧ True) ∧ ((decide ((szStep (cTableStats a0) (1048576 : Int)) < (0 : Int))) = false → Con Tryz.prog 13 [.agg [.str a0.name, .int .i64 a0.arity, .int .i64 a0.rowCount, .sl 157 3 (a0.groups.map eGroupStats)]] (.agg [.p none (.str a0.name), vI a0.arity, vI a0.rowCount, .p none (.sl 157 3 (a0.groups.map eGroupStats))]) [] ∧ Con Tryz.prog 22 [.one (.sl 3 1 (a1.map intD))] (.p none (.sl 3 1 (a1.map intD))) [] ∧ Con Tryz.prog 25 [.agg [.str a0.name, .int .i64 a0.arity, .int .i64 a0.rowCount, .sl 157 3 (a0.groups.map eGroupStats)], .one (.sl 3 1 (a1.map intD))] (.p none (.sl 3 1 ((seqS a0 a1).map intD))) [] ∧ Con Tryz.prog 13 [.agg [.str a0.name, .int .i64 a0.arity, .int .i64 a0.rowCount, .sl 157 3 (a0.groups.map eGroupStats)]] (.agg [.p none (.str a0.name), vI a0.arity, vI a0.rowCount, .own 0]) [(0, .arr 157 3 true (a0.groups.map eGroupStats))] ∧ Con Tryz.prog 22 [.one (.sl 3 1 (a1.map intD))] (.own 0) [(0, .arr 3 1 true (a1.map intD))] ∧ Con Tryz.prog 26 [.agg [.str a0.name, .int .i64 a0.arity, .int .i64 a0.rowCount, .sl 157 3 (a0.groups.map eGroupStats)], .one (.sl 3 1 (a1.map intD))] (.own 0) [(0, .arr 3 1 true ((seqS a0 a1).map intD))] ∧ Con Tryz.prog 24 [.one (.sl 3 1 ((seqS a0 a1).map intD)), .one (.sl 3 1 ((seqS a0 a1).map intD))] (vB true) [] ∧ Con Tryz.prog 13 [.agg [.str a0.name, .int .i64 a0.arity, .int .i64 a0.rowCount, .sl 157 3 (a0.groups.map eGroupStats)]] (.agg [.p none (.str a0.name), vI a0.arity, vI a0.rowCount, .own 0]) [(0, .arr 157 3 true (a0.groups.map eGroupStats))] ∧ Con Tryz.prog 16 [.agg [.str a0.name, .int .i64 a0.arity, .int .i64 a0.rowCount, .sl 157 3 (a0.groups.map eGroupStats)], .agg [.str a0.name, .int .i64 a0.arity, .int .i64 a0.rowCount, .sl 157 3 (a0.groups.map eGroupStats)]] (vB true) [] ∧ Con Tryz.prog 22 [.one (.sl 3 1 (a1.map intD))] (.own 0) [(0, .arr 3 1 true (a1.map intD))] ∧ Con Tryz.prog 24 [.one (.sl 3 1 (a1.map intD)), .one (.sl 3 1 (a1.map intD))] (vB true) [] ∧ Con2 Tryz.prog 18 [.agg [.p none (.str a0.name), vI a0.arity, vI a0.rowCount, .own 0], vI (1 : Int)] [(0, .arr 157 3 true (a0.groups.map eGroupStats))] (vI ((1 : Int) + ((stTableStats a0 : Nat) : Int))) [(0, .arr 157 3 true (((mtTableStats (1 : Int) a0).groups).map eGroupStats))] ∧ a0.name = a0.name ∧ a0.arity = a0.arity ∧ a0.rowCount = a0.rowCount ∧ (1 : Int) = (1 : Int) ∧ a0.groups.map eGroupStats = a0.groups.map eGroupStats ∧ Con2 Tryz.prog 27 [.own 0, vI ((1 : Int) + ((stTableStats a0 : Nat) : Int))] [(0, .arr 3 1 true (a1.map intD))] (vI (((1 : Int) + ((stTableStats a0 : Nat) : Int)) + ((sIntS a1 : Nat) : Int))) [(0, .arr 3 1 true ((mIntS ((1 : Int) + ((stTableStats a0 : Nat) : Int)) a1).map intD))] ∧ ((1 : Int) + ((stTableStats a0 : Nat) : Int)) = ((1 : Int) + ((stTableStats a0 : Nat) : Int)) ∧ a1.map intD = a1.map intD ∧ (decide ((((1 : Int) + ((stTableStats a0 : Nat) : Int)) + ((sIntS a1 : Nat) : Int)) < (0 : Int))) = false ∧ Con Tryz.prog 24 [.one (.sl 3 1 ((seqS a0 a1).map intD)), .one (.sl 3 1 ((seqS a0 a1).map intD))] (vB true) [] ∧ Con2 Tryz.prog 27 [.own 0, vI (1 : Int)] [(0, .arr 3 1 true ((seqS a0 a1).map intD))] (vI ((1 : Int) + ((sIntS (seqS a0 a1) : Nat) : Int))) [(0, .arr 3 1 true ((mIntS (1 : Int) (seqS a0 a1)).map intD))] ∧ (1 : Int) = (1 : Int) ∧ (seqS a0 a1).map intD = (seqS a0 a1).map intD ∧ Con Tryz.prog 28 [.one (.sl 3 1 ((mIntS (1 : Int) (seqS a0 a1)).map intD)), .one (.int .i64 (1 : Int))] (vI ((1 : Int) + ((sIntS (seqS a0 a1) : Nat) : Int))) [] ∧ (decide (((1 : Int) + ((sIntS (seqS a0 a1) : Nat) : Int)) < (0 : Int))) = false ∧ (!(decide (((1 : Int) + ((sIntS (seqS a0 a1) : Nat) : Int)) = ((1 : Int) + ((sIntS (seqS a0 a1) : Nat) : Int))))) = false ∧ Con Tryz.prog 13 [.agg [.str a0.name, .int .i64 a0.arity, .int .i64 a0.rowCount, .sl 157 3 (a0.groups.map eGroupStats)]] (.agg [.p none (.str a0.name), vI a0.arity, vI a0.rowCount, .own 0]) [(0, .arr 157 3 true (a0.groups.map eGroupStats))] ∧ Con Tryz.prog 22 [.one (.sl 3 1 (a1.map intD))] (.own 0) [(0, .arr 3 1 true (a1.map intD))] ∧ Con Tryz.prog 26 [.agg [.str a0.name, .int .i64 a0.arity, .int .i64 a0.rowCount, .sl 157 3 (a0.groups.map eGroupStats)], .one (.sl 3 1 (a1.map intD))] (.own 0) [(0, .arr 3 1 true ((seqS a0 a1).map intD))] ∧ Con Tryz.prog 24 [.one (.sl 3 1 ((seqS a0 a1).map intD)), .one (.sl 3 1 ((seqS a0 a1).map intD))] (vB true) [] ∧ Con Tryz.prog 28 [.one (.sl 3 1 ((mIntS (1 : Int) (seqS a0 a1)).map intD)), .one (.int .i64 (1 : Int))] (vI ((1 : Int) + ((sIntS (seqS a0 a1) : Nat) : Int))) [] ∧ (decide (((1 : Int) + ((sIntS (seqS a0 a1) : Nat) : Int)) < (0 : Int))) = false ∧ (!(decide (((1 : Int) + ((sIntS (seqS a0 a1) : Nat) : Int)) = ((1 : Int) + ((sIntS (seqS a0 a1) : Nat) : Int))))) = false ∧ (true) = true ∧ True)))))) ?_
  intro n0 n1
  simp only [List.length_map] at n0 n1
  have z1 : cIntS a1 = a1.length := rfl
  refine ⟨List.length_map _, ?_⟩
  refine ⟨fun c0 => ?_, fun c0 => ?_⟩
  · replace c0 := of_decide_eq_true c0
    refine ⟨?_, trivial⟩
    · rfl
  · replace c0 := of_decide_eq_false c0
    try (have y0 := sz_ok c0; try rw [szStep_yes y0] at *)
    refine ⟨sz_TableStats a0 _ (by first | assumption | exact hf) (by omega) (by omega), ?_⟩
    refine ⟨fun c1 => ?_, fun c1 => ?_⟩
    · replace c1 := of_decide_eq_true c1
      refine ⟨?_, trivial⟩
      · rfl
    · replace c1 := of_decide_eq_false c1
      try (have y1 := sz_ok c1; try rw [szStep_yes y1] at *)
      have f1 := seqS_len a0 a1
      have f2 := sIntS_le (seqS a0 a1)
      have f3 : cIntS (seqS a0 a1) = (seqS a0 a1).length := rfl
      have sa0 := stTableStats_le a0
      have sa1 := sIntS_le a1
      refine ⟨con_stl (to_TableStats a0 (by first | omega | (have := cTableStatsS_el ‹x[k]? = some _›; omega))) rfl, ?_⟩
      refine ⟨con_stl (to_IntS a1 (by first | omega | (have := cIntSS_el ‹x[k]? = some _›; omega))) rfl, ?_⟩
      refine ⟨seq_spec _ _ (by omega) (by omega), ?_⟩
      refine ⟨to_TableStats a0 (by first | omega | (have := cTableStatsS_el ‹x[k]? = some _›; omega)), ?_⟩
      refine ⟨to_IntS a1 (by first | omega | (have := cIntSS_el ‹x[k]? = some _›; omega)), ?_⟩
      refine ⟨seq_impl _ _ (by omega) (by omega), ?_⟩
      refine ⟨by first | exact eq_IntS (seqS a0 a1) | exact eq_IntS _, ?_⟩
      refine ⟨to_TableStats a0 (by first | omega | (have := cTableStatsS_el ‹x[k]? = some _›; omega)), ?_⟩
      refine ⟨by first | exact eq_TableStats a0 | exact eq_TableStats _, ?_⟩
      refine ⟨to_IntS a1 (by first | omega | (have := cIntSS_el ‹x[k]? = some _›; omega)), ?_⟩
      refine ⟨by first | exact eq_IntS a1 | exact eq_IntS _, ?_⟩
      refine ⟨mk_TableStats _ _ (by omega) (by first | omega | (dsimp only; omega)), rfl, rfl, rfl, rfl, rfl, ?_⟩
      refine ⟨mk_IntS _ _ (by omega) (by first | omega | (dsimp only; omega)), rfl, rfl, ?_⟩
      refine ⟨by first | (simp; done) | (simp; omega) | (simp [*]; done), ?_⟩
      refine ⟨by first | exact eq_IntS (seqS a0 a1) | exact eq_IntS _, ?_⟩
      refine ⟨mk_IntS _ _ (by omega) (by first | omega | (dsimp only; omega)), rfl, rfl, ?_⟩
      refine ⟨hd_IntS _ _ (by omega) (by first | omega | (dsimp only; omega)), ?_⟩
      refine ⟨by first | (simp; done) | (simp; omega) | (simp [*]; done), ?_⟩
      refine ⟨by first | (simp; done) | (simp; omega) | (simp [*]; done), ?_⟩
      refine ⟨to_TableStats a0 (by first | omega | (have := cTableStatsS_el ‹x[k]? = some _›; omega)), ?_⟩
      refine ⟨to_IntS a1 (by first | omega | (have := cIntSS_el ‹x[k]? = some _›; omega)), ?_⟩
      refine ⟨seq_impl _ _ (by omega) (by omega), ?_⟩
      refine ⟨by first | exact eq_IntS (seqS a0 a1) | exact eq_IntS _, ?_⟩
      refine ⟨hd_IntS _ _ (by omega) (by first | omega | (dsimp only; omega)), ?_⟩
      refine ⟨by first | (simp; done) | (simp; omega) | (simp [*]; done), ?_⟩
      refine ⟨by first | (simp; done) | (simp; omega) | (simp [*]; done), ?_⟩
      refine ⟨?_, trivial⟩
      · rfl
end Go.Proofs.YtjlagjhmlmfjeaaGreat
