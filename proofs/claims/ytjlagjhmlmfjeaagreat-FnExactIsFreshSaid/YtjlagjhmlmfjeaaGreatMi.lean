/-
  Fresh plans, both sides.
-/
import Derived.Test.YtjlagjhmlmfjeaaGreatMg
namespace Go.Proofs.YtjlagjhmlmfjeaaGreat
open Go.ChangeShapes Go.WideShapes Go.ChangeAt Go.RowKit
set_option linter.unusedVariables false
set_option linter.unusedSimpArgs false
set_option maxRecDepth 100000 in
set_option maxHeartbeats 4000000 in
theorem fresh_impl (s : StoreD) (v : Int) (hc : cStore s ≤ 1048576) : Con Tryz.prog 44 [.agg [.sl 107 3 (s.database.tables.map eTable), .int .i64 s.catalogue.version, .sl 32 4 (s.catalogue.tables.map eTableStats), .sl 142 3 (s.dependencies.map eDependency), .sl 144 4 (s.inclusions.map eInclusion)], .one (.int .i64 v)] (vB (okStore s && decide (s.catalogue.version = v))) [] := by
  refine con_x tbOk mixedW Tryz.func44 (by kernel_rfl) (.br (.call (vB (okStore s)) [] <| .fin []) (.fin [])) ?_
  refine Eq.mpr (by kernel_rfl : _ = ((s.database.tables.map eTable).length ≤ 9223372036854775807 → (s.catalogue.tables.map eTableStats).length ≤ 9223372036854775807 → (s.dependencies.map eDependency).length ≤ 9223372036854775807 → (s.inclusions.map eInclusion).length ≤ 9223372036854775807 → ((decide (s.catalogue.version = v)) = true → Con Tryz.prog 41 [.agg [.sl 107 3 (s.database.tables.map eTable), .int .i64 s.catalogue.version, .sl 32 4 (s.catalogue.tables.map eTableStats), .sl 142 3 (s.dependencies.map eDependency), .sl 144 4 (s.inclusions.map eInclusion)]] (vB (okStore s)) [] ∧ (okStore s) = (okStore s && decide (s.catalogue.version = v)) ∧ True) ∧ ((decide (s.catalogue.version = v)) = false → (false) = (okStore s && decide (s.catalogue.version = v)) ∧ True))) ?_
  intro n0 n1 n2 n3
  simp only [List.length_map] at n0 n1 n2 n3
  refine ⟨fun g10 => ?_, fun g10 => ?_⟩
  · replace g10 := of_decide_eq_true g10
    refine ⟨okSt_impl _ (by omega), ?_⟩
    refine ⟨?_, trivial⟩
    · first | (simp [*]; done) | (simp_all; done)
  · replace g10 := of_decide_eq_false g10
    refine ⟨?_, trivial⟩
    · first | (simp [*]; done) | (simp_all; done)

set_option maxRecDepth 100000 in
set_option maxHeartbeats 4000000 in
theorem fresh_spec (s : StoreD) (v : Int) (hc : cStore s ≤ 1048576) : Con Tryz.prog 43 [.agg [.sl 107 3 (s.database.tables.map eTable), .int .i64 s.catalogue.version, .sl 32 4 (s.catalogue.tables.map eTableStats), .sl 142 3 (s.dependencies.map eDependency), .sl 144 4 (s.inclusions.map eInclusion)], .one (.int .i64 v)] (vB (okStore s && decide (s.catalogue.version = v))) [] := by
  refine con_x tbOk mixedW Tryz.func43 (by kernel_rfl) (.call (vB (okStore s)) [] <| .br (.fin []) (.fin [])) ?_
  refine Eq.mpr (by kernel_rfl : _ = ((s.database.tables.map eTable).length ≤ 9223372036854775807 → (s.catalogue.tables.map eTableStats).length ≤ 9223372036854775807 → (s.dependencies.map eDependency).length ≤ 9223372036854775807 → (s.inclusions.map eInclusion).length ≤ 9223372036854775807 → Con Tryz.prog 39 [.agg [.sl 107 3 (s.database.tables.map eTable), .int .i64 s.catalogue.version, .sl 32 4 (s.catalogue.tables.map eTableStats), .sl 142 3 (s.dependencies.map eDependency), .sl 144 4 (s.inclusions.map eInclusion)]] (vB (okStore s)) [] ∧ (((okStore s) = true → (decide (s.catalogue.version = v)) = (okStore s && decide (s.catalogue.version = v)) ∧ True) ∧ ((okStore s) = false → (false) = (okStore s && decide (s.catalogue.version = v)) ∧ True)))) ?_
  intro n0 n1 n2 n3
  simp only [List.length_map] at n0 n1 n2 n3
  refine ⟨okSt_spec _ (by omega), ?_⟩
  refine ⟨fun g7 => ?_, fun g7 => ?_⟩
  · refine ⟨?_, trivial⟩
    · first | (simp [*]; done) | (simp_all; done)
  · refine ⟨?_, trivial⟩
    · first | (simp [*]; done) | (simp_all; done)
end Go.Proofs.YtjlagjhmlmfjeaaGreat
