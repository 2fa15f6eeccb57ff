/-
  The law on equal catalogues.
-/
import Derived.Test.YtjlagjhmlmfjeaaEb
import Derived.Test.YtjlagjhmlmfjeaaDc
import Derived.Test.YtjlagjhmlmfjeaaDd
import Derived.Test.YtjlagjhmlmfjeaaDe
namespace Go.Proofs.Ytjlagjhmlmfjeaa
open Go.ChangeShapes Go.WideShapes Go.ChangeAt Go.RowKit
set_option linter.unusedVariables false
set_option linter.unusedSimpArgs false
set_option maxRecDepth 100000 in
set_option maxHeartbeats 4000000 in
theorem lawEqualCatalogues (a b : CatalogueD) (ha : FCatalogue a) (hb : FCatalogue b) : Con Try.prog 3 [.agg [.int .i64 a.version, .sl 60 4 (a.tables.map eTableStats)], .agg [.int .i64 b.version, .sl 60 4 (b.tables.map eTableStats)]] (vB true) [] := by
  refine con_x tbOk mixedW Try.func3 (by kernel_rfl) (.call (vI (szStep (cCatalogue a) (1048576 : Int))) [] <| .br (.fin []) (.call (vI (szStep (cCatalogue b) (szStep (cCatalogue a) (1048576 : Int)))) [] <| .br (.fin []) (.call (.agg [vI a.version, .own 0]) [(0, .arr 60 4 true (a.tables.map eTableStats))] <| .call (.agg [vI b.version, .own 0]) [(0, .arr 60 4 true (b.tables.map eTableStats))] <| .call (vB (decide (a = b))) [] <| .call (.agg [vI a.version, .own 0]) [(0, .arr 60 4 true (a.tables.map eTableStats))] <| .call (.agg [vI b.version, .own 0]) [(0, .arr 60 4 true (b.tables.map eTableStats))] <| .call (vB (decide (a = b))) [] <| .no <| .call (.agg [vI a.version, .own 0]) [(0, .arr 60 4 true (a.tables.map eTableStats))] <| .call (vB true) [] <| .call (.agg [vI b.version, .own 0]) [(0, .arr 60 4 true (b.tables.map eTableStats))] <| .call (vB true) [] <| .fin []))) ?_
  refine Eq.mpr (by kernel_rfl : _ = ((a.tables.map eTableStats).length ≤ 9223372036854775807 → (b.tables.map eTableStats).length ≤ 9223372036854775807 → Con Try.prog 7 [.agg [.int .i64 a.version, .sl 60 4 (a.tables.map eTableStats)], .one (.int .i64 (1048576 : Int))] (vI (szStep (cCatalogue a) (1048576 : Int))) [] ∧ (((decide ((szStep (cCatalogue a) (1048576 : Int)) < (0 : Int))) = true → (true) = true ∧ True) ∧ ((decide ((szStep (cCatalogue a) (1048576 : Int)) < (0 : Int))) = false → Con Try.prog 7 [.agg [.int .i64 b.version, .sl 60 4 (b.tables.map eTableStats)], .one (.int .i64 (szStep (cCatalogue a) (1048576 : Int)))] (vI (szStep (cCatalogue b) (szStep (cCatalogue a) (1048576 : Int)))) [] ∧ (((decide ((szStep (cCatalogue b) (szStep (cCatalogue a) (1048576 : Int))) < (0 : Int))) = true → (true) = true ∧ True) ∧ ((decide ((szStep (cCatalogue b) (szStep (cCatalogue a) (1048576 : Int))) < (0 : Int))) = false → Con Try.prog 9 [.agg [.int .i64 a.version, .sl 60 4 (a.tables.map eTableStats)]] (.agg [vI a.version, .own 0]) [(0, .arr 60 4 true (a.tables.map eTableStats))] ∧ Con Try.prog 9 [.agg [.int .i64 b.version, .sl 60 4 (b.tables.map eTableStats)]] (.agg [vI b.version, .own 0]) [(0, .arr 60 4 true (b.tables.map eTableStats))] ∧ Con Try.prog 8 [.agg [.int .i64 a.version, .sl 60 4 (a.tables.map eTableStats)], .agg [.int .i64 b.version, .sl 60 4 (b.tables.map eTableStats)]] (vB (decide (a = b))) [] ∧ Con Try.prog 9 [.agg [.int .i64 a.version, .sl 60 4 (a.tables.map eTableStats)]] (.agg [vI a.version, .own 0]) [(0, .arr 60 4 true (a.tables.map eTableStats))] ∧ Con Try.prog 9 [.agg [.int .i64 b.version, .sl 60 4 (b.tables.map eTableStats)]] (.agg [vI b.version, .own 0]) [(0, .arr 60 4 true (b.tables.map eTableStats))] ∧ Con Try.prog 10 [.agg [.int .i64 a.version, .sl 60 4 (a.tables.map eTableStats)], .agg [.int .i64 b.version, .sl 60 4 (b.tables.map eTableStats)]] (vB (decide (a = b))) [] ∧ (!((decide (a = b)) == (decide (a = b)))) = false ∧ Con Try.prog 9 [.agg [.int .i64 a.version, .sl 60 4 (a.tables.map eTableStats)]] (.agg [vI a.version, .own 0]) [(0, .arr 60 4 true (a.tables.map eTableStats))] ∧ Con Try.prog 11 [.agg [.int .i64 a.version, .sl 60 4 (a.tables.map eTableStats)], .agg [.int .i64 a.version, .sl 60 4 (a.tables.map eTableStats)]] (vB true) [] ∧ Con Try.prog 9 [.agg [.int .i64 b.version, .sl 60 4 (b.tables.map eTableStats)]] (.agg [vI b.version, .own 0]) [(0, .arr 60 4 true (b.tables.map eTableStats))] ∧ Con Try.prog 11 [.agg [.int .i64 b.version, .sl 60 4 (b.tables.map eTableStats)], .agg [.int .i64 b.version, .sl 60 4 (b.tables.map eTableStats)]] (vB true) [] ∧ (true) = true ∧ True)))))) ?_
  intro n0 n1
  simp only [List.length_map] at n0 n1
  refine ⟨sz_Catalogue a _ (by first | assumption | exact hf) (by omega) (by omega), ?_⟩
  refine ⟨fun c0 => ?_, fun c0 => ?_⟩
  · replace c0 := of_decide_eq_true c0
    refine ⟨?_, trivial⟩
    · rfl
  · replace c0 := of_decide_eq_false c0
    have y0 := sz_ok c0
    rw [szStep_yes y0] at *
    refine ⟨sz_Catalogue b _ (by first | assumption | exact hf) (by omega) (by omega), ?_⟩
    refine ⟨fun c1 => ?_, fun c1 => ?_⟩
    · replace c1 := of_decide_eq_true c1
      refine ⟨?_, trivial⟩
      · rfl
    · replace c1 := of_decide_eq_false c1
      have y1 := sz_ok c1
      refine ⟨to_Catalogue a (by first | omega | (have := cCatalogueS_el ‹x[k]? = some _›; omega)), ?_⟩
      refine ⟨to_Catalogue b (by first | omega | (have := cCatalogueS_el ‹x[k]? = some _›; omega)), ?_⟩
      refine ⟨eqCat_spec _ _ (by omega), ?_⟩
      refine ⟨to_Catalogue a (by first | omega | (have := cCatalogueS_el ‹x[k]? = some _›; omega)), ?_⟩
      refine ⟨to_Catalogue b (by first | omega | (have := cCatalogueS_el ‹x[k]? = some _›; omega)), ?_⟩
      refine ⟨eqCat_impl _ _, ?_⟩
      refine ⟨by simp, ?_⟩
      refine ⟨to_Catalogue a (by first | omega | (have := cCatalogueS_el ‹x[k]? = some _›; omega)), ?_⟩
      refine ⟨by first | exact eq_Catalogue a | exact eq_Catalogue _, ?_⟩
      refine ⟨to_Catalogue b (by first | omega | (have := cCatalogueS_el ‹x[k]? = some _›; omega)), ?_⟩
      refine ⟨by first | exact eq_Catalogue b | exact eq_Catalogue _, ?_⟩
      refine ⟨?_, trivial⟩
      · rfl
end Go.Proofs.Ytjlagjhmlmfjeaa
