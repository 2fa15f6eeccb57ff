/-
  The law FnExactIsFresh.
-/
import Derived.Test.YtjlagjhmlmfjeaaGreatMi
import Derived.Test.YtjlagjhmlmfjeaaGreatDc
import Derived.Test.YtjlagjhmlmfjeaaGreatDd
import Derived.Test.YtjlagjhmlmfjeaaGreatDe
namespace Go.Proofs.YtjlagjhmlmfjeaaGreat
open Go.ChangeShapes Go.WideShapes Go.ChangeAt Go.RowKit
set_option linter.unusedVariables false
set_option linter.unusedSimpArgs false
set_option maxRecDepth 100000 in
set_option maxHeartbeats 4000000 in
theorem lawIsFresh (a0 : StoreD) (a1 : Int) (h0 : FStore a0) (h1 : Fits a1) : Con Tryz.prog 8 [.agg [.sl 107 3 (a0.database.tables.map eTable), .int .i64 a0.catalogue.version, .sl 32 4 (a0.catalogue.tables.map eTableStats), .sl 142 3 (a0.dependencies.map eDependency), .sl 144 4 (a0.inclusions.map eInclusion)], .one (.int .i64 a1)] (vB true) [] := by
  refine con_x tbOk mixedW Tryz.func8 (by kernel_rfl) (.call (vI (szStep (cStore a0) (1048576 : Int))) [] <| .br (.fin []) (.call (.agg [.own 0, vI a0.catalogue.version, .own 1, .own 2, .own 3]) [(0, .arr 107 3 true (a0.database.tables.map eTable)), (1, .arr 32 4 true (a0.catalogue.tables.map eTableStats)), (2, .arr 142 3 true (a0.dependencies.map eDependency)), (3, .arr 144 4 true (a0.inclusions.map eInclusion))] <| .call (vB (okStore a0 && decide (a0.catalogue.version = a1))) [] <| .call (.agg [.own 0, vI a0.catalogue.version, .own 1, .own 2, .own 3]) [(0, .arr 107 3 true (a0.database.tables.map eTable)), (1, .arr 32 4 true (a0.catalogue.tables.map eTableStats)), (2, .arr 142 3 true (a0.dependencies.map eDependency)), (3, .arr 144 4 true (a0.inclusions.map eInclusion))] <| .call (vB (okStore a0 && decide (a0.catalogue.version = a1))) [] <| .no <| .call (.agg [.own 0, vI a0.catalogue.version, .own 1, .own 2, .own 3]) [(0, .arr 107 3 true (a0.database.tables.map eTable)), (1, .arr 32 4 true (a0.catalogue.tables.map eTableStats)), (2, .arr 142 3 true (a0.dependencies.map eDependency)), (3, .arr 144 4 true (a0.inclusions.map eInclusion))] <| .call (vB true) [] <| .fin [])) ?_
  refine Eq.mpr (by kernel_rfl : _ = ((a0.database.tables.map eTable).length ≤ 9223372036854775807 → (a0.catalogue.tables.map eTableStats).length ≤ 9223372036854775807 → (a0.dependencies.map eDependency).length ≤ 9223372036854775807 → (a0.inclusions.map eInclusion).length ≤ 9223372036854775807 → Con Tryz.prog 38 [.agg [.sl 107 3 (a0.database.tables.map eTable), .int .i64 a0.catalogue.version, .sl 32 4 (a0.catalogue.tables.map eTableStats), .sl 142 3 (a0.dependencies.map eDependency), .sl 144 4 (a0.inclusions.map eInclusion)], .one (.int .i64 (1048576 : Int))] (vI (szStep (cStore a0) (1048576 : Int))) [] ∧ (((decide ((szStep (cStore a0) (1048576 : Int)) < (0 : Int))) = true → (true) = true ∧ True) ∧ ((decide ((szStep (cStore a0) (1048576 : Int)) < (0 : Int))) = false → Con Tryz.prog 40 [.agg [.sl 107 3 (a0.database.tables.map eTable), .int .i64 a0.catalogue.version, .sl 32 4 (a0.catalogue.tables.map eTableStats), .sl 142 3 (a0.dependencies.map eDependency), .sl 144 4 (a0.inclusions.map eInclusion)]] (.agg [.own 0, vI a0.catalogue.version, .own 1, .own 2, .own 3]) [(0, .arr 107 3 true (a0.database.tables.map eTable)), (1, .arr 32 4 true (a0.catalogue.tables.map eTableStats)), (2, .arr 142 3 true (a0.dependencies.map eDependency)), (3, .arr 144 4 true (a0.inclusions.map eInclusion))] ∧ Con Tryz.prog 43 [.agg [.sl 107 3 (a0.database.tables.map eTable), .int .i64 a0.catalogue.version, .sl 32 4 (a0.catalogue.tables.map eTableStats), .sl 142 3 (a0.dependencies.map eDependency), .sl 144 4 (a0.inclusions.map eInclusion)], .one (.int .i64 a1)] (vB (okStore a0 && decide (a0.catalogue.version = a1))) [] ∧ Con Tryz.prog 40 [.agg [.sl 107 3 (a0.database.tables.map eTable), .int .i64 a0.catalogue.version, .sl 32 4 (a0.catalogue.tables.map eTableStats), .sl 142 3 (a0.dependencies.map eDependency), .sl 144 4 (a0.inclusions.map eInclusion)]] (.agg [.own 0, vI a0.catalogue.version, .own 1, .own 2, .own 3]) [(0, .arr 107 3 true (a0.database.tables.map eTable)), (1, .arr 32 4 true (a0.catalogue.tables.map eTableStats)), (2, .arr 142 3 true (a0.dependencies.map eDependency)), (3, .arr 144 4 true (a0.inclusions.map eInclusion))] ∧ Con Tryz.prog 44 [.agg [.sl 107 3 (a0.database.tables.map eTable), .int .i64 a0.catalogue.version, .sl 32 4 (a0.catalogue.tables.map eTableStats), .sl 142 3 (a0.dependencies.map eDependency), .sl 144 4 (a0.inclusions.map eInclusion)], .one (.int .i64 a1)] (vB (okStore a0 && decide (a0.catalogue.version = a1))) [] ∧ (!((okStore a0 && decide (a0.catalogue.version = a1)) == (okStore a0 && decide (a0.catalogue.version = a1)))) = false ∧ Con Tryz.prog 40 [.agg [.sl 107 3 (a0.database.tables.map eTable), .int .i64 a0.catalogue.version, .sl 32 4 (a0.catalogue.tables.map eTableStats), .sl 142 3 (a0.dependencies.map eDependency), .sl 144 4 (a0.inclusions.map eInclusion)]] (.agg [.own 0, vI a0.catalogue.version, .own 1, .own 2, .own 3]) [(0, .arr 107 3 true (a0.database.tables.map eTable)), (1, .arr 32 4 true (a0.catalogue.tables.map eTableStats)), (2, .arr 142 3 true (a0.dependencies.map eDependency)), (3, .arr 144 4 true (a0.inclusions.map eInclusion))] ∧ Con Tryz.prog 42 [.agg [.sl 107 3 (a0.database.tables.map eTable), .int .i64 a0.catalogue.version, .sl 32 4 (a0.catalogue.tables.map eTableStats), .sl 142 3 (a0.dependencies.map eDependency), .sl 144 4 (a0.inclusions.map eInclusion)], .agg [.sl 107 3 (a0.database.tables.map eTable), .int .i64 a0.catalogue.version, .sl 32 4 (a0.catalogue.tables.map eTableStats), .sl 142 3 (a0.dependencies.map eDependency), .sl 144 4 (a0.inclusions.map eInclusion)]] (vB true) [] ∧ (true) = true ∧ True)))) ?_
  intro n0 n1 n2 n3
  simp only [List.length_map] at n0 n1 n2 n3
  refine ⟨sz_Store a0 _ (by first | assumption | exact hf) (by omega) (by omega), ?_⟩
  refine ⟨fun c0 => ?_, fun c0 => ?_⟩
  · replace c0 := of_decide_eq_true c0
    refine ⟨?_, trivial⟩
    · rfl
  · replace c0 := of_decide_eq_false c0
    try (have y0 := sz_ok c0; try rw [szStep_yes y0] at *)
    refine ⟨to_Store a0 (by first | omega | (have := cStoreS_el ‹x[k]? = some _›; omega)), ?_⟩
    refine ⟨fresh_spec _ _ (by omega), ?_⟩
    refine ⟨to_Store a0 (by first | omega | (have := cStoreS_el ‹x[k]? = some _›; omega)), ?_⟩
    refine ⟨fresh_impl _ _ (by omega), ?_⟩
    refine ⟨by first | (simp; done) | (simp; omega) | (simp [*]; done), ?_⟩
    refine ⟨to_Store a0 (by first | omega | (have := cStoreS_el ‹x[k]? = some _›; omega)), ?_⟩
    refine ⟨by first | exact eq_Store a0 | exact eq_Store _, ?_⟩
    refine ⟨?_, trivial⟩
    · rfl
end Go.Proofs.YtjlagjhmlmfjeaaGreat
