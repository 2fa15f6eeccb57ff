/-
  The law FnExactBuildCatalogue.
-/
import Derived.Test.YtjlagjhmlmfjeaaGj
import Derived.Test.YtjlagjhmlmfjeaaDn
import Derived.Test.YtjlagjhmlmfjeaaDo
import Derived.Test.YtjlagjhmlmfjeaaDc
import Derived.Test.YtjlagjhmlmfjeaaDd
import Derived.Test.YtjlagjhmlmfjeaaDe
namespace Go.Proofs.Ytjlagjhmlmfjeaa
open Go.ChangeShapes Go.WideShapes Go.ChangeAt Go.RowKit
set_option linter.unusedVariables false
set_option linter.unusedSimpArgs false
set_option maxRecDepth 100000 in
set_option maxHeartbeats 4000000 in
theorem lawBuildCatalogue (a0 : DatabaseD) (a1 : Int) (h0 : FDatabase a0) (h1 : Fits a1) : Con Try.prog 5 [.agg [.sl 90 3 (a0.tables.map eTable)], .one (.int .i64 a1)] (vB true) [] := by
  refine con_x tbOk mixedW Try.func5 (by kernel_rfl) (.call (vI (szStep (cDatabase a0) (1048576 : Int))) [] <| .br (.fin []) (.call (.agg [.own 0]) [(0, .arr 90 3 true (a0.tables.map eTable))] <| .call (.tup [.agg [vI (((catOf a0 a1).1).version), .own 0], vB ((catOf a0 a1).2)]) [(0, .arr 60 4 true ((((catOf a0 a1).1).tables).map eTableStats))] <| .call (.agg [.own 0]) [(0, .arr 90 3 true (a0.tables.map eTable))] <| .call (.tup [.agg [vI (((catOf a0 a1).1).version), .own 0], vB ((catOf a0 a1).2)]) [(0, .arr 60 4 true ((((catOf a0 a1).1).tables).map eTableStats))] <| .call (vB true) [] <| .lit <| .lit <| .lit <| .lit <| .no <| .call (.agg [.own 0]) [(0, .arr 90 3 true (a0.tables.map eTable))] <| .call (vB true) [] <| .callx [.agg [.own 0], vI (1 : Int)] [(0, .arr 90 3 true (a0.tables.map eTable))] [(0, 2900)] (vI ((1 : Int) + ((stDatabase a0 : Nat) : Int))) [(0, .arr 90 3 true (((mtDatabase (1 : Int) a0).tables).map eTable))] <| .no <| .call (vB true) [] <| .lit <| .lit <| .lit <| .lit <| .lit <| .lit <| .no <| .callx [.agg [vI (((catOf a0 a1).1).version), .own 0], vI (1 : Int)] [(0, .arr 60 4 true ((((catOf a0 a1).1).tables).map eTableStats))] [(0, 3300)] (vI ((1 : Int) + ((stCatalogue ((catOf a0 a1).1) : Nat) : Int))) [(0, .arr 60 4 true (((mtCatalogue (1 : Int) ((catOf a0 a1).1)).tables).map eTableStats))] <| .call (vI ((1 : Int) + ((stCatalogue ((catOf a0 a1).1) : Nat) : Int))) [] <| .no <| .no <| .call (.agg [.own 0]) [(0, .arr 90 3 true (a0.tables.map eTable))] <| .call (.tup [.agg [vI (((catOf a0 a1).1).version), .own 0], vB ((catOf a0 a1).2)]) [(0, .arr 60 4 true ((((catOf a0 a1).1).tables).map eTableStats))] <| .call (vB true) [] <| .lit <| .lit <| .lit <| .lit <| .no <| .call (vI ((1 : Int) + ((stCatalogue ((catOf a0 a1).1) : Nat) : Int))) [] <| .no <| .no <| .fin [])) ?_
  refine Eq.mpr (by kernel_rfl : _ = ((a0.tables.map eTable).length ≤ 9223372036854775807 → Con Try.prog 17 [.agg [.sl 90 3 (a0.tables.map eTable)], .one (.int .i64 (1048576 : Int))] (vI (szStep (cDatabase a0) (1048576 : Int))) [] ∧ (((decide ((szStep (cDatabase a0) (1048576 : Int)) < (0 : Int))) = true → (true) = true ∧ True) ∧ ((decide ((szStep (cDatabase a0) (1048576 : Int)) < (0 : Int))) = false → Con Try.prog 19 [.agg [.sl 90 3 (a0.tables.map eTable)]] (.agg [.own 0]) [(0, .arr 90 3 true (a0.tables.map eTable))] ∧ Con Try.prog 18 [.agg [.sl 90 3 (a0.tables.map eTable)], .one (.int .i64 a1)] (.tup [.agg [vI (((catOf a0 a1).1).version), .own 0], vB ((catOf a0 a1).2)]) [(0, .arr 60 4 true ((((catOf a0 a1).1).tables).map eTableStats))] ∧ Con Try.prog 19 [.agg [.sl 90 3 (a0.tables.map eTable)]] (.agg [.own 0]) [(0, .arr 90 3 true (a0.tables.map eTable))] ∧ Con Try.prog 20 [.agg [.sl 90 3 (a0.tables.map eTable)], .one (.int .i64 a1)] (.tup [.agg [vI (((catOf a0 a1).1).version), .own 0], vB ((catOf a0 a1).2)]) [(0, .arr 60 4 true ((((catOf a0 a1).1).tables).map eTableStats))] ∧ Con Try.prog 11 [.agg [.int .i64 (((catOf a0 a1).1).version), .sl 60 4 ((((catOf a0 a1).1).tables).map eTableStats)], .agg [.int .i64 (((catOf a0 a1).1).version), .sl 60 4 ((((catOf a0 a1).1).tables).map eTableStats)]] (vB true) [] ∧ (!(((catOf a0 a1).2) == ((catOf a0 a1).2))) = false ∧ Con Try.prog 19 [.agg [.sl 90 3 (a0.tables.map eTable)]] (.agg [.own 0]) [(0, .arr 90 3 true (a0.tables.map eTable))] ∧ Con Try.prog 21 [.agg [.sl 90 3 (a0.tables.map eTable)], .agg [.sl 90 3 (a0.tables.map eTable)]] (vB true) [] ∧ Con2 Try.prog 22 [.agg [.own 0], vI (1 : Int)] [(0, .arr 90 3 true (a0.tables.map eTable))] (vI ((1 : Int) + ((stDatabase a0 : Nat) : Int))) [(0, .arr 90 3 true (((mtDatabase (1 : Int) a0).tables).map eTable))] ∧ (1 : Int) = (1 : Int) ∧ a0.tables.map eTable = a0.tables.map eTable ∧ (decide (((1 : Int) + ((stDatabase a0 : Nat) : Int)) < (0 : Int))) = false ∧ Con Try.prog 11 [.agg [.int .i64 (((catOf a0 a1).1).version), .sl 60 4 ((((catOf a0 a1).1).tables).map eTableStats)], .agg [.int .i64 (((catOf a0 a1).1).version), .sl 60 4 ((((catOf a0 a1).1).tables).map eTableStats)]] (vB true) [] ∧ (!(((catOf a0 a1).2) == ((catOf a0 a1).2))) = false ∧ Con2 Try.prog 23 [.agg [vI (((catOf a0 a1).1).version), .own 0], vI (1 : Int)] [(0, .arr 60 4 true ((((catOf a0 a1).1).tables).map eTableStats))] (vI ((1 : Int) + ((stCatalogue ((catOf a0 a1).1) : Nat) : Int))) [(0, .arr 60 4 true (((mtCatalogue (1 : Int) ((catOf a0 a1).1)).tables).map eTableStats))] ∧ (((catOf a0 a1).1).version) = (((catOf a0 a1).1).version) ∧ (1 : Int) = (1 : Int) ∧ (((catOf a0 a1).1).tables).map eTableStats = (((catOf a0 a1).1).tables).map eTableStats ∧ Con Try.prog 24 [.agg [.int .i64 (((catOf a0 a1).1).version), .sl 60 4 (((mtCatalogue (1 : Int) ((catOf a0 a1).1)).tables).map eTableStats)], .one (.int .i64 (1 : Int))] (vI ((1 : Int) + ((stCatalogue ((catOf a0 a1).1) : Nat) : Int))) [] ∧ (decide (((1 : Int) + ((stCatalogue ((catOf a0 a1).1) : Nat) : Int)) < (0 : Int))) = false ∧ (!(decide (((1 : Int) + ((stCatalogue ((catOf a0 a1).1) : Nat) : Int)) = ((1 : Int) + ((stCatalogue ((catOf a0 a1).1) : Nat) : Int))))) = false ∧ Con Try.prog 19 [.agg [.sl 90 3 (a0.tables.map eTable)]] (.agg [.own 0]) [(0, .arr 90 3 true (a0.tables.map eTable))] ∧ Con Try.prog 20 [.agg [.sl 90 3 (a0.tables.map eTable)], .one (.int .i64 a1)] (.tup [.agg [vI (((catOf a0 a1).1).version), .own 0], vB ((catOf a0 a1).2)]) [(0, .arr 60 4 true ((((catOf a0 a1).1).tables).map eTableStats))] ∧ Con Try.prog 11 [.agg [.int .i64 (((catOf a0 a1).1).version), .sl 60 4 ((((catOf a0 a1).1).tables).map eTableStats)], .agg [.int .i64 (((catOf a0 a1).1).version), .sl 60 4 ((((catOf a0 a1).1).tables).map eTableStats)]] (vB true) [] ∧ (!(((catOf a0 a1).2) == ((catOf a0 a1).2))) = false ∧ Con Try.prog 24 [.agg [.int .i64 (((catOf a0 a1).1).version), .sl 60 4 (((mtCatalogue (1 : Int) ((catOf a0 a1).1)).tables).map eTableStats)], .one (.int .i64 (1 : Int))] (vI ((1 : Int) + ((stCatalogue ((catOf a0 a1).1) : Nat) : Int))) [] ∧ (decide (((1 : Int) + ((stCatalogue ((catOf a0 a1).1) : Nat) : Int)) < (0 : Int))) = false ∧ (!(decide (((1 : Int) + ((stCatalogue ((catOf a0 a1).1) : Nat) : Int)) = ((1 : Int) + ((stCatalogue ((catOf a0 a1).1) : Nat) : Int))))) = false ∧ (true) = true ∧ True)))) ?_
  intro n0
  simp only [List.length_map] at n0
  refine ⟨sz_Database a0 _ (by first | assumption | exact hf) (by omega) (by omega), ?_⟩
  refine ⟨fun c0 => ?_, fun c0 => ?_⟩
  · replace c0 := of_decide_eq_true c0
    refine ⟨?_, trivial⟩
    · rfl
  · replace c0 := of_decide_eq_false c0
    try (have y0 := sz_ok c0; try rw [szStep_yes y0] at *)
    have f1 := cat_small a0 a1
    have f2 := stCatalogue_le (catOf a0 a1).1
    refine ⟨to_Database a0 (by first | omega | (have := cDatabaseS_el ‹x[k]? = some _›; omega)), ?_⟩
    refine ⟨cat_spec a0 a1, ?_⟩
    refine ⟨to_Database a0 (by first | omega | (have := cDatabaseS_el ‹x[k]? = some _›; omega)), ?_⟩
    refine ⟨cat_impl a0 a1, ?_⟩
    refine ⟨by first | exact eq_Catalogue ((catOf a0 a1).1) | exact eq_Catalogue _, ?_⟩
    refine ⟨by first | (simp; done) | (simp; omega) | (simp [*]; done), ?_⟩
    refine ⟨to_Database a0 (by first | omega | (have := cDatabaseS_el ‹x[k]? = some _›; omega)), ?_⟩
    refine ⟨by first | exact eq_Database a0 | exact eq_Database _, ?_⟩
    refine ⟨mk_Database _ _ (by omega) (by first | omega | (dsimp only; omega)), rfl, rfl, ?_⟩
    refine ⟨by first | (simp; done) | (simp; omega) | (simp [*]; done), ?_⟩
    refine ⟨by first | exact eq_Catalogue ((catOf a0 a1).1) | exact eq_Catalogue _, ?_⟩
    refine ⟨by first | (simp; done) | (simp; omega) | (simp [*]; done), ?_⟩
    refine ⟨mk_Catalogue _ _ (by omega) (by first | omega | (dsimp only; omega)), rfl, rfl, rfl, ?_⟩
    refine ⟨hd_Catalogue _ _ (by omega) (by first | omega | (dsimp only; omega)), ?_⟩
    refine ⟨by first | (simp; done) | (simp; omega) | (simp [*]; done), ?_⟩
    refine ⟨by first | (simp; done) | (simp; omega) | (simp [*]; done), ?_⟩
    refine ⟨to_Database a0 (by first | omega | (have := cDatabaseS_el ‹x[k]? = some _›; omega)), ?_⟩
    refine ⟨cat_impl a0 a1, ?_⟩
    refine ⟨by first | exact eq_Catalogue ((catOf a0 a1).1) | exact eq_Catalogue _, ?_⟩
    refine ⟨by first | (simp; done) | (simp; omega) | (simp [*]; done), ?_⟩
    refine ⟨hd_Catalogue _ _ (by omega) (by first | omega | (dsimp only; omega)), ?_⟩
    refine ⟨by first | (simp; done) | (simp; omega) | (simp [*]; done), ?_⟩
    refine ⟨by first | (simp; done) | (simp; omega) | (simp [*]; done), ?_⟩
    refine ⟨?_, trivial⟩
    · rfl
end Go.Proofs.Ytjlagjhmlmfjeaa
