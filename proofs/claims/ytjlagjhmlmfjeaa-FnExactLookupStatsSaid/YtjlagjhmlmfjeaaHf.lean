/-
  The law FnExactLookupStats.
-/
import Derived.Test.YtjlagjhmlmfjeaaHe
import Derived.Test.YtjlagjhmlmfjeaaDn
import Derived.Test.YtjlagjhmlmfjeaaDo
import Derived.Test.YtjlagjhmlmfjeaaDc
import Derived.Test.YtjlagjhmlmfjeaaDd
import Derived.Test.YtjlagjhmlmfjeaaDe
namespace Go.Proofs.Ytjlagjhmlmfjeaa
open Go.ChangeShapes Go.WideShapes Go.ChangeAt Go.RowKit
set_option linter.unusedVariables false
set_option linter.unusedSimpArgs false
set_option maxRecDepth 100000 in
set_option maxHeartbeats 4000000 in
theorem lawLookupStats (a0 : CatalogueD) (a1 : ByteArray) (h0 : FCatalogue a0) (h1 : FStr a1) : Con Try.prog 6 [.agg [.int .i64 a0.version, .sl 60 4 (a0.tables.map eTableStats)], .one (.str a1)] (vB true) [] := by
  refine con_x tbOk mixedW Try.func6 (by kernel_rfl) (.br (.fin []) (.call (vI (szStep (cCatalogue a0) (1048576 : Int))) [] <| .br (.fin []) (.call (.agg [vI a0.version, .own 0]) [(0, .arr 60 4 true (a0.tables.map eTableStats))] <| .call (.tup [.agg [.p none (.str (((lookS a0 a1).1).name)), vI (((lookS a0 a1).1).arity), vI (((lookS a0 a1).1).rowCount), .own 0], vB ((lookS a0 a1).2)]) [(0, .arr 104 3 true ((((lookS a0 a1).1).groups).map eGroupStats))] <| .call (.agg [vI a0.version, .own 0]) [(0, .arr 60 4 true (a0.tables.map eTableStats))] <| .call (.tup [.agg [.p none (.str (((lookS a0 a1).1).name)), vI (((lookS a0 a1).1).arity), vI (((lookS a0 a1).1).rowCount), .own 0], vB ((lookS a0 a1).2)]) [(0, .arr 104 3 true ((((lookS a0 a1).1).groups).map eGroupStats))] <| .call (vB true) [] <| .lit <| .lit <| .lit <| .lit <| .no <| .call (.agg [vI a0.version, .own 0]) [(0, .arr 60 4 true (a0.tables.map eTableStats))] <| .call (vB true) [] <| .callx [.agg [vI a0.version, .own 0], vI (1 : Int)] [(0, .arr 60 4 true (a0.tables.map eTableStats))] [(0, 3200)] (vI ((1 : Int) + ((stCatalogue a0 : Nat) : Int))) [(0, .arr 60 4 true (((mtCatalogue (1 : Int) a0).tables).map eTableStats))] <| .no <| .call (vB true) [] <| .lit <| .lit <| .lit <| .lit <| .lit <| .lit <| .no <| .callx [.agg [.p none (.str (((lookS a0 a1).1).name)), vI (((lookS a0 a1).1).arity), vI (((lookS a0 a1).1).rowCount), .own 0], vI (1 : Int)] [(0, .arr 104 3 true ((((lookS a0 a1).1).groups).map eGroupStats))] [(0, 3600)] (vI ((1 : Int) + ((stTableStats ((lookS a0 a1).1) : Nat) : Int))) [(0, .arr 104 3 true (((mtTableStats (1 : Int) ((lookS a0 a1).1)).groups).map eGroupStats))] <| .call (vI ((1 : Int) + ((stTableStats ((lookS a0 a1).1) : Nat) : Int))) [] <| .no <| .no <| .call (.agg [vI a0.version, .own 0]) [(0, .arr 60 4 true (a0.tables.map eTableStats))] <| .call (.tup [.agg [.p none (.str (((lookS a0 a1).1).name)), vI (((lookS a0 a1).1).arity), vI (((lookS a0 a1).1).rowCount), .own 0], vB ((lookS a0 a1).2)]) [(0, .arr 104 3 true ((((lookS a0 a1).1).groups).map eGroupStats))] <| .call (vB true) [] <| .lit <| .lit <| .lit <| .lit <| .no <| .call (vI ((1 : Int) + ((stTableStats ((lookS a0 a1).1) : Nat) : Int))) [] <| .no <| .no <| .fin []))) ?_
  refine Eq.mpr (by kernel_rfl : _ = ((a0.tables.map eTableStats).length ≤ 9223372036854775807 → ((decide ((1048576 : Int) < ((a1.size : Nat) : Int))) = true → (true) = true ∧ True) ∧ ((decide ((1048576 : Int) < ((a1.size : Nat) : Int))) = false → Con Try.prog 7 [.agg [.int .i64 a0.version, .sl 60 4 (a0.tables.map eTableStats)], .one (.int .i64 (1048576 : Int))] (vI (szStep (cCatalogue a0) (1048576 : Int))) [] ∧ (((decide ((szStep (cCatalogue a0) (1048576 : Int)) < (0 : Int))) = true → (true) = true ∧ True) ∧ ((decide ((szStep (cCatalogue a0) (1048576 : Int)) < (0 : Int))) = false → Con Try.prog 9 [.agg [.int .i64 a0.version, .sl 60 4 (a0.tables.map eTableStats)]] (.agg [vI a0.version, .own 0]) [(0, .arr 60 4 true (a0.tables.map eTableStats))] ∧ Con Try.prog 25 [.agg [.int .i64 a0.version, .sl 60 4 (a0.tables.map eTableStats)], .one (.str a1)] (.tup [.agg [.p none (.str (((lookS a0 a1).1).name)), vI (((lookS a0 a1).1).arity), vI (((lookS a0 a1).1).rowCount), .own 0], vB ((lookS a0 a1).2)]) [(0, .arr 104 3 true ((((lookS a0 a1).1).groups).map eGroupStats))] ∧ Con Try.prog 9 [.agg [.int .i64 a0.version, .sl 60 4 (a0.tables.map eTableStats)]] (.agg [vI a0.version, .own 0]) [(0, .arr 60 4 true (a0.tables.map eTableStats))] ∧ Con Try.prog 26 [.agg [.int .i64 a0.version, .sl 60 4 (a0.tables.map eTableStats)], .one (.str a1)] (.tup [.agg [.p none (.str (((lookS a0 a1).1).name)), vI (((lookS a0 a1).1).arity), vI (((lookS a0 a1).1).rowCount), .own 0], vB ((lookS a0 a1).2)]) [(0, .arr 104 3 true ((((lookS a0 a1).1).groups).map eGroupStats))] ∧ Con Try.prog 27 [.agg [.str (((lookS a0 a1).1).name), .int .i64 (((lookS a0 a1).1).arity), .int .i64 (((lookS a0 a1).1).rowCount), .sl 104 3 ((((lookS a0 a1).1).groups).map eGroupStats)], .agg [.str (((lookS a0 a1).1).name), .int .i64 (((lookS a0 a1).1).arity), .int .i64 (((lookS a0 a1).1).rowCount), .sl 104 3 ((((lookS a0 a1).1).groups).map eGroupStats)]] (vB true) [] ∧ (!(((lookS a0 a1).2) == ((lookS a0 a1).2))) = false ∧ Con Try.prog 9 [.agg [.int .i64 a0.version, .sl 60 4 (a0.tables.map eTableStats)]] (.agg [vI a0.version, .own 0]) [(0, .arr 60 4 true (a0.tables.map eTableStats))] ∧ Con Try.prog 11 [.agg [.int .i64 a0.version, .sl 60 4 (a0.tables.map eTableStats)], .agg [.int .i64 a0.version, .sl 60 4 (a0.tables.map eTableStats)]] (vB true) [] ∧ Con2 Try.prog 23 [.agg [vI a0.version, .own 0], vI (1 : Int)] [(0, .arr 60 4 true (a0.tables.map eTableStats))] (vI ((1 : Int) + ((stCatalogue a0 : Nat) : Int))) [(0, .arr 60 4 true (((mtCatalogue (1 : Int) a0).tables).map eTableStats))] ∧ a0.version = a0.version ∧ (1 : Int) = (1 : Int) ∧ a0.tables.map eTableStats = a0.tables.map eTableStats ∧ (decide (((1 : Int) + ((stCatalogue a0 : Nat) : Int)) < (0 : Int))) = false ∧ Con Try.prog 27 [.agg [.str (((lookS a0 a1).1).name), .int .i64 (((lookS a0 a1).1).arity), .int .i64 (((lookS a0 a1).1).rowCount), .sl 104 3 ((((lookS a0 a1).1).groups).map eGroupStats)], .agg [.str (((lookS a0 a1).1).name), .int .i64 (((lookS a0 a1).1).arity), .int .i64 (((lookS a0 a1).1).rowCount), .sl 104 3 ((((lookS a0 a1).1).groups).map eGroupStats)]] (vB true) [] ∧ (!(((lookS a0 a1).2) == ((lookS a0 a1).2))) = false ∧ Con2 Try.prog 28 [.agg [.p none (.str (((lookS a0 a1).1).name)), vI (((lookS a0 a1).1).arity), vI (((lookS a0 a1).1).rowCount), .own 0], vI (1 : Int)] [(0, .arr 104 3 true ((((lookS a0 a1).1).groups).map eGroupStats))] (vI ((1 : Int) + ((stTableStats ((lookS a0 a1).1) : Nat) : Int))) [(0, .arr 104 3 true (((mtTableStats (1 : Int) ((lookS a0 a1).1)).groups).map eGroupStats))] ∧ (((lookS a0 a1).1).name) = (((lookS a0 a1).1).name) ∧ (((lookS a0 a1).1).arity) = (((lookS a0 a1).1).arity) ∧ (((lookS a0 a1).1).rowCount) = (((lookS a0 a1).1).rowCount) ∧ (1 : Int) = (1 : Int) ∧ (((lookS a0 a1).1).groups).map eGroupStats = (((lookS a0 a1).1).groups).map eGroupStats ∧ Con Try.prog 29 [.agg [.str (((lookS a0 a1).1).name), .int .i64 (((lookS a0 a1).1).arity), .int .i64 (((lookS a0 a1).1).rowCount), .sl 104 3 (((mtTableStats (1 : Int) ((lookS a0 a1).1)).groups).map eGroupStats)], .one (.int .i64 (1 : Int))] (vI ((1 : Int) + ((stTableStats ((lookS a0 a1).1) : Nat) : Int))) [] ∧ (decide (((1 : Int) + ((stTableStats ((lookS a0 a1).1) : Nat) : Int)) < (0 : Int))) = false ∧ (!(decide (((1 : Int) + ((stTableStats ((lookS a0 a1).1) : Nat) : Int)) = ((1 : Int) + ((stTableStats ((lookS a0 a1).1) : Nat) : Int))))) = false ∧ Con Try.prog 9 [.agg [.int .i64 a0.version, .sl 60 4 (a0.tables.map eTableStats)]] (.agg [vI a0.version, .own 0]) [(0, .arr 60 4 true (a0.tables.map eTableStats))] ∧ Con Try.prog 26 [.agg [.int .i64 a0.version, .sl 60 4 (a0.tables.map eTableStats)], .one (.str a1)] (.tup [.agg [.p none (.str (((lookS a0 a1).1).name)), vI (((lookS a0 a1).1).arity), vI (((lookS a0 a1).1).rowCount), .own 0], vB ((lookS a0 a1).2)]) [(0, .arr 104 3 true ((((lookS a0 a1).1).groups).map eGroupStats))] ∧ Con Try.prog 27 [.agg [.str (((lookS a0 a1).1).name), .int .i64 (((lookS a0 a1).1).arity), .int .i64 (((lookS a0 a1).1).rowCount), .sl 104 3 ((((lookS a0 a1).1).groups).map eGroupStats)], .agg [.str (((lookS a0 a1).1).name), .int .i64 (((lookS a0 a1).1).arity), .int .i64 (((lookS a0 a1).1).rowCount), .sl 104 3 ((((lookS a0 a1).1).groups).map eGroupStats)]] (vB true) [] ∧ (!(((lookS a0 a1).2) == ((lookS a0 a1).2))) = false ∧ Con Try.prog 29 [.agg [.str (((lookS a0 a1).1).name), .int .i64 (((lookS a0 a1).1).arity), .int .i64 (((lookS a0 a1).1).rowCount), .sl 104 3 (((mtTableStats (1 : Int) ((lookS a0 a1).1)).groups).map eGroupStats)], .one (.int .i64 (1 : Int))] (vI ((1 : Int) + ((stTableStats ((lookS a0 a1).1) : Nat) : Int))) [] ∧ (decide (((1 : Int) + ((stTableStats ((lookS a0 a1).1) : Nat) : Int)) < (0 : Int))) = false ∧ (!(decide (((1 : Int) + ((stTableStats ((lookS a0 a1).1) : Nat) : Int)) = ((1 : Int) + ((stTableStats ((lookS a0 a1).1) : Nat) : Int))))) = false ∧ (true) = true ∧ True))))) ?_
  intro n0
  simp only [List.length_map] at n0
  refine ⟨fun c0 => ?_, fun c0 => ?_⟩
  · replace c0 := of_decide_eq_true c0
    refine ⟨?_, trivial⟩
    · rfl
  · replace c0 := of_decide_eq_false c0
    try (have y0 := sz_ok c0; try rw [szStep_yes y0] at *)
    refine ⟨sz_Catalogue a0 _ (by first | assumption | exact hf) (by omega) (by omega), ?_⟩
    refine ⟨fun c1 => ?_, fun c1 => ?_⟩
    · replace c1 := of_decide_eq_true c1
      refine ⟨?_, trivial⟩
      · rfl
    · replace c1 := of_decide_eq_false c1
      try (have y1 := sz_ok c1; try rw [szStep_yes y1] at *)
      have f1 := lookS_small a0 a1
      have f2 := stTableStats_le (lookS a0 a1).1
      refine ⟨to_Catalogue a0 (by first | omega | (have := cCatalogueS_el ‹x[k]? = some _›; omega)), ?_⟩
      refine ⟨look_spec a0 a1 (by omega), ?_⟩
      refine ⟨to_Catalogue a0 (by first | omega | (have := cCatalogueS_el ‹x[k]? = some _›; omega)), ?_⟩
      refine ⟨look_impl a0 a1 (by omega), ?_⟩
      refine ⟨by first | exact eq_TableStats ((lookS a0 a1).1) | exact eq_TableStats _, ?_⟩
      refine ⟨by first | (simp; done) | (simp; omega) | (simp [*]; done), ?_⟩
      refine ⟨to_Catalogue a0 (by first | omega | (have := cCatalogueS_el ‹x[k]? = some _›; omega)), ?_⟩
      refine ⟨by first | exact eq_Catalogue a0 | exact eq_Catalogue _, ?_⟩
      refine ⟨mk_Catalogue _ _ (by omega) (by first | omega | (dsimp only; omega)), rfl, rfl, rfl, ?_⟩
      refine ⟨by first | (simp; done) | (simp; omega) | (simp [*]; done), ?_⟩
      refine ⟨by first | exact eq_TableStats ((lookS a0 a1).1) | exact eq_TableStats _, ?_⟩
      refine ⟨by first | (simp; done) | (simp; omega) | (simp [*]; done), ?_⟩
      refine ⟨mk_TableStats _ _ (by omega) (by first | omega | (dsimp only; omega)), rfl, rfl, rfl, rfl, rfl, ?_⟩
      refine ⟨hd_TableStats _ _ (by omega) (by first | omega | (dsimp only; omega)), ?_⟩
      refine ⟨by first | (simp; done) | (simp; omega) | (simp [*]; done), ?_⟩
      refine ⟨by first | (simp; done) | (simp; omega) | (simp [*]; done), ?_⟩
      refine ⟨to_Catalogue a0 (by first | omega | (have := cCatalogueS_el ‹x[k]? = some _›; omega)), ?_⟩
      refine ⟨look_impl a0 a1 (by omega), ?_⟩
      refine ⟨by first | exact eq_TableStats ((lookS a0 a1).1) | exact eq_TableStats _, ?_⟩
      refine ⟨by first | (simp; done) | (simp; omega) | (simp [*]; done), ?_⟩
      refine ⟨hd_TableStats _ _ (by omega) (by first | omega | (dsimp only; omega)), ?_⟩
      refine ⟨by first | (simp; done) | (simp; omega) | (simp [*]; done), ?_⟩
      refine ⟨by first | (simp; done) | (simp; omega) | (simp [*]; done), ?_⟩
      refine ⟨?_, trivial⟩
      · rfl
end Go.Proofs.Ytjlagjhmlmfjeaa
