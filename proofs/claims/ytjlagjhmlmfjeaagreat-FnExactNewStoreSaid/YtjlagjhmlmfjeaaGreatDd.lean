/-
  The laws' helpers: equal data are equal.
-/
import Derived.Test.YtjlagjhmlmfjeaaGreatDa
namespace Go.Proofs.YtjlagjhmlmfjeaaGreat
open Go.ChangeShapes Go.WideShapes Go.ChangeAt Go.RowKit
set_option linter.unusedVariables false
set_option linter.unusedSimpArgs false
set_option maxRecDepth 100000 in
set_option maxHeartbeats 4000000 in
theorem eq_IntS (x : List Int) : Con Tryz.prog 24 [.one (.sl 3 1 (x.map intD)), .one (.sl 3 1 (x.map intD))] (vB true) [] := by
  refine con_x tbOk mixedW Tryz.func24 (by kernel_rfl) (.len x.length <| .len x.length <| .no <| .loop Nat (Q1 Nat) [5, 11, 12, 13, 14, 15, 16, 17, 18, 19, 20, 21, 22, 23, 24, 25] [] (fun k => [(5, vI (k : Int))]) (fun k => []) (fun k => k ≤ x.length) (fun k => x.length - k) (fun k => .len x.length <| .br (.elem Int intD x (fun e19 => .elem Int intD x (fun e23 => .no <| .back []))) (.fin []))) ?_
  refine Eq.mpr (by kernel_rfl : _ = ((x.map intD).length ≤ 9223372036854775807 → (x.map intD).length ≤ 9223372036854775807 → (x.map intD).length = x.length ∧ ((x.map intD).length = x.length ∧ ((!(decide (((x.length : Nat) : Int) = ((x.length : Nat) : Int)))) = false ∧ ((∃ (k : Nat), (0 : Int) = (k : Int) ∧ k ≤ x.length) ∧ ∀ (k : Nat), k ≤ x.length → (x.map intD).length = x.length ∧ (((decide ((k : Int) < ((x.length : Nat) : Int))) = true → 0 ≤ (k : Int) ∧ (x.map intD = x.map intD ∧ k < x.length ∧ ∀ e19, x[k]? = some e19 → 0 ≤ (k : Int) ∧ (x.map intD = x.map intD ∧ k < x.length ∧ ∀ e23, x[k]? = some e23 → (!(decide (e19 = e23))) = false ∧ inR ((k : Int) + (1 : Int)) ∧ ∃ (k' : Nat), ((k : Int) + (1 : Int)) = (k' : Int) ∧ k' ≤ x.length ∧ x.length - k' < x.length - k))) ∧ ((decide ((k : Int) < ((x.length : Nat) : Int))) = false → (true) = true ∧ True))))))) ?_
  intro n0 n1
  simp only [List.length_map] at n0 n1
  refine ⟨List.length_map _, ?_⟩
  refine ⟨List.length_map _, ?_⟩
  refine ⟨by simp, ?_⟩
  refine ⟨⟨0, rfl, Nat.zero_le _⟩, fun k hk => ?_⟩
  refine ⟨List.length_map _, ?_⟩
  refine ⟨fun c1 => ?_, fun c1 => ?_⟩
  · replace c1 := of_decide_eq_true c1
    obtain ⟨y, hy⟩ := at_some (l := x) (k := k) (by omega)
    refine ⟨by omega, ?_⟩
    refine ⟨rfl, by omega, fun e19 h19 => ?_⟩
    try (obtain rfl := same_at hy h19)
    refine ⟨by omega, ?_⟩
    refine ⟨rfl, by omega, fun e23 h23 => ?_⟩
    try (obtain rfl := same_at hy h23)
    refine ⟨by simp, ?_⟩
    refine ⟨⟨by omega, by omega⟩, ?_⟩
    exact ⟨k + 1, rfl, by omega, by omega⟩
  · replace c1 := of_decide_eq_false c1
    refine ⟨?_, trivial⟩
    · rfl

set_option maxRecDepth 100000 in
set_option maxHeartbeats 4000000 in
theorem eq_IntSS (x : List (List Int)) : Con Tryz.prog 186 [.one (.sl 25 1 (x.map eIntS)), .one (.sl 25 1 (x.map eIntS))] (vB true) [] := by
  refine con_x tbOk mixedW Tryz.func186 (by kernel_rfl) (.len x.length <| .len x.length <| .no <| .loop Nat (Q1 Nat) [5, 11, 12, 13, 14, 15, 16, 17, 18, 19, 20, 21, 22, 23, 24, 25, 26] [] (fun k => [(5, vI (k : Int))]) (fun k => []) (fun k => k ≤ x.length) (fun k => x.length - k) (fun k => .len x.length <| .br (.elem (List Int) eIntS x (fun e19 => .elem (List Int) eIntS x (fun e23 => .call (vB true) [] <| .back []))) (.fin []))) ?_
  refine Eq.mpr (by kernel_rfl : _ = ((x.map eIntS).length ≤ 9223372036854775807 → (x.map eIntS).length ≤ 9223372036854775807 → (x.map eIntS).length = x.length ∧ ((x.map eIntS).length = x.length ∧ ((!(decide (((x.length : Nat) : Int) = ((x.length : Nat) : Int)))) = false ∧ ((∃ (k : Nat), (0 : Int) = (k : Int) ∧ k ≤ x.length) ∧ ∀ (k : Nat), k ≤ x.length → (x.map eIntS).length = x.length ∧ (((decide ((k : Int) < ((x.length : Nat) : Int))) = true → 0 ≤ (k : Int) ∧ (x.map eIntS = x.map eIntS ∧ k < x.length ∧ ∀ e19, x[k]? = some e19 → 0 ≤ (k : Int) ∧ (x.map eIntS = x.map eIntS ∧ k < x.length ∧ ∀ e23, x[k]? = some e23 → Con Tryz.prog 24 [.one (.sl 3 1 (e19.map intD)), .one (.sl 3 1 (e23.map intD))] (vB true) [] ∧ inR ((k : Int) + (1 : Int)) ∧ ∃ (k' : Nat), ((k : Int) + (1 : Int)) = (k' : Int) ∧ k' ≤ x.length ∧ x.length - k' < x.length - k))) ∧ ((decide ((k : Int) < ((x.length : Nat) : Int))) = false → (true) = true ∧ True))))))) ?_
  intro n0 n1
  simp only [List.length_map] at n0 n1
  refine ⟨List.length_map _, ?_⟩
  refine ⟨List.length_map _, ?_⟩
  refine ⟨by simp, ?_⟩
  refine ⟨⟨0, rfl, Nat.zero_le _⟩, fun k hk => ?_⟩
  refine ⟨List.length_map _, ?_⟩
  refine ⟨fun c1 => ?_, fun c1 => ?_⟩
  · replace c1 := of_decide_eq_true c1
    obtain ⟨y, hy⟩ := at_some (l := x) (k := k) (by omega)
    refine ⟨by omega, ?_⟩
    refine ⟨rfl, by omega, fun e19 h19 => ?_⟩
    try (obtain rfl := same_at hy h19)
    refine ⟨by omega, ?_⟩
    refine ⟨rfl, by omega, fun e23 h23 => ?_⟩
    try (obtain rfl := same_at hy h23)
    refine ⟨by first | exact eq_IntS e19 | exact eq_IntS _, ?_⟩
    refine ⟨⟨by omega, by omega⟩, ?_⟩
    exact ⟨k + 1, rfl, by omega, by omega⟩
  · replace c1 := of_decide_eq_false c1
    refine ⟨?_, trivial⟩
    · rfl

set_option maxRecDepth 100000 in
set_option maxHeartbeats 4000000 in
theorem eq_Table (x : TableD) : Con Tryz.prog 165 [.agg [.str x.name, .int .i64 x.arity, .sl 25 1 (x.rows.map eIntS)], .agg [.str x.name, .int .i64 x.arity, .sl 25 1 (x.rows.map eIntS)]] (vB true) [] := by
  refine con_x tbOk mixedW Tryz.func165 (by kernel_rfl) (.no <| .no <| .call (vB true) [] <| .fin []) ?_
  refine Eq.mpr (by kernel_rfl : _ = ((x.rows.map eIntS).length ≤ 9223372036854775807 → (x.rows.map eIntS).length ≤ 9223372036854775807 → (!(x.name.toList == x.name.toList)) = false ∧ (!(decide (x.arity = x.arity))) = false ∧ Con Tryz.prog 186 [.one (.sl 25 1 (x.rows.map eIntS)), .one (.sl 25 1 (x.rows.map eIntS))] (vB true) [] ∧ (true) = true ∧ True)) ?_
  intro n0 n1
  simp only [List.length_map] at n0 n1
  refine ⟨by simp, ?_⟩
  refine ⟨by simp, ?_⟩
  refine ⟨by first | exact eq_IntSS x.rows | exact eq_IntSS _, ?_⟩
  refine ⟨?_, trivial⟩
  · rfl

set_option maxRecDepth 100000 in
set_option maxHeartbeats 4000000 in
theorem eq_TableS (x : List TableD) : Con Tryz.prog 108 [.one (.sl 107 3 (x.map eTable)), .one (.sl 107 3 (x.map eTable))] (vB true) [] := by
  refine con_x tbOk mixedW Tryz.func108 (by kernel_rfl) (.len x.length <| .len x.length <| .no <| .loop Nat (Q1 Nat) [5, 11, 12, 13, 14, 15, 16, 17, 18, 19, 20, 21, 22, 23, 24, 25, 26] [] (fun k => [(5, vI (k : Int))]) (fun k => []) (fun k => k ≤ x.length) (fun k => x.length - k) (fun k => .len x.length <| .br (.elem TableD eTable x (fun e19 => .elem TableD eTable x (fun e23 => .call (vB true) [] <| .back []))) (.fin []))) ?_
  refine Eq.mpr (by kernel_rfl : _ = ((x.map eTable).length ≤ 9223372036854775807 → (x.map eTable).length ≤ 9223372036854775807 → (x.map eTable).length = x.length ∧ ((x.map eTable).length = x.length ∧ ((!(decide (((x.length : Nat) : Int) = ((x.length : Nat) : Int)))) = false ∧ ((∃ (k : Nat), (0 : Int) = (k : Int) ∧ k ≤ x.length) ∧ ∀ (k : Nat), k ≤ x.length → (x.map eTable).length = x.length ∧ (((decide ((k : Int) < ((x.length : Nat) : Int))) = true → 0 ≤ (k : Int) ∧ (x.map eTable = x.map eTable ∧ k < x.length ∧ ∀ e19, x[k]? = some e19 → 0 ≤ (k : Int) ∧ (x.map eTable = x.map eTable ∧ k < x.length ∧ ∀ e23, x[k]? = some e23 → Con Tryz.prog 165 [.agg [.str e19.name, .int .i64 e19.arity, .sl 25 1 (e19.rows.map eIntS)], .agg [.str e23.name, .int .i64 e23.arity, .sl 25 1 (e23.rows.map eIntS)]] (vB true) [] ∧ inR ((k : Int) + (1 : Int)) ∧ ∃ (k' : Nat), ((k : Int) + (1 : Int)) = (k' : Int) ∧ k' ≤ x.length ∧ x.length - k' < x.length - k))) ∧ ((decide ((k : Int) < ((x.length : Nat) : Int))) = false → (true) = true ∧ True))))))) ?_
  intro n0 n1
  simp only [List.length_map] at n0 n1
  refine ⟨List.length_map _, ?_⟩
  refine ⟨List.length_map _, ?_⟩
  refine ⟨by simp, ?_⟩
  refine ⟨⟨0, rfl, Nat.zero_le _⟩, fun k hk => ?_⟩
  refine ⟨List.length_map _, ?_⟩
  refine ⟨fun c1 => ?_, fun c1 => ?_⟩
  · replace c1 := of_decide_eq_true c1
    obtain ⟨y, hy⟩ := at_some (l := x) (k := k) (by omega)
    refine ⟨by omega, ?_⟩
    refine ⟨rfl, by omega, fun e19 h19 => ?_⟩
    try (obtain rfl := same_at hy h19)
    refine ⟨by omega, ?_⟩
    refine ⟨rfl, by omega, fun e23 h23 => ?_⟩
    try (obtain rfl := same_at hy h23)
    refine ⟨by first | exact eq_Table e19 | exact eq_Table _, ?_⟩
    refine ⟨⟨by omega, by omega⟩, ?_⟩
    exact ⟨k + 1, rfl, by omega, by omega⟩
  · replace c1 := of_decide_eq_false c1
    refine ⟨?_, trivial⟩
    · rfl

set_option maxRecDepth 100000 in
set_option maxHeartbeats 4000000 in
theorem eq_Database (x : DatabaseD) : Con Tryz.prog 53 [.agg [.sl 107 3 (x.tables.map eTable)], .agg [.sl 107 3 (x.tables.map eTable)]] (vB true) [] := by
  refine con_x tbOk mixedW Tryz.func53 (by kernel_rfl) (.call (vB true) [] <| .fin []) ?_
  refine Eq.mpr (by kernel_rfl : _ = ((x.tables.map eTable).length ≤ 9223372036854775807 → (x.tables.map eTable).length ≤ 9223372036854775807 → Con Tryz.prog 108 [.one (.sl 107 3 (x.tables.map eTable)), .one (.sl 107 3 (x.tables.map eTable))] (vB true) [] ∧ (true) = true ∧ True)) ?_
  intro n0 n1
  simp only [List.length_map] at n0 n1
  refine ⟨by first | exact eq_TableS x.tables | exact eq_TableS _, ?_⟩
  refine ⟨?_, trivial⟩
  · rfl

set_option maxRecDepth 100000 in
set_option maxHeartbeats 4000000 in
theorem eq_GroupStats (x : GroupStatsD) : Con Tryz.prog 142 [.agg [.sl 3 1 (x.columns.map intD), .sl 25 1 (x.values.map eIntS), .sl 3 1 (x.counts.map intD)], .agg [.sl 3 1 (x.columns.map intD), .sl 25 1 (x.values.map eIntS), .sl 3 1 (x.counts.map intD)]] (vB true) [] := by
  refine con_x tbOk mixedW Tryz.func142 (by kernel_rfl) (.call (vB true) [] <| .call (vB true) [] <| .call (vB true) [] <| .fin []) ?_
  refine Eq.mpr (by kernel_rfl : _ = ((x.columns.map intD).length ≤ 9223372036854775807 → (x.values.map eIntS).length ≤ 9223372036854775807 → (x.counts.map intD).length ≤ 9223372036854775807 → (x.columns.map intD).length ≤ 9223372036854775807 → (x.values.map eIntS).length ≤ 9223372036854775807 → (x.counts.map intD).length ≤ 9223372036854775807 → Con Tryz.prog 24 [.one (.sl 3 1 (x.columns.map intD)), .one (.sl 3 1 (x.columns.map intD))] (vB true) [] ∧ Con Tryz.prog 186 [.one (.sl 25 1 (x.values.map eIntS)), .one (.sl 25 1 (x.values.map eIntS))] (vB true) [] ∧ Con Tryz.prog 24 [.one (.sl 3 1 (x.counts.map intD)), .one (.sl 3 1 (x.counts.map intD))] (vB true) [] ∧ (true) = true ∧ True)) ?_
  intro n0 n1 n2 n3 n4 n5
  simp only [List.length_map] at n0 n1 n2 n3 n4 n5
  refine ⟨by first | exact eq_IntS x.columns | exact eq_IntS _, ?_⟩
  refine ⟨by first | exact eq_IntSS x.values | exact eq_IntSS _, ?_⟩
  refine ⟨by first | exact eq_IntS x.counts | exact eq_IntS _, ?_⟩
  refine ⟨?_, trivial⟩
  · rfl

set_option maxRecDepth 100000 in
set_option maxHeartbeats 4000000 in
theorem eq_GroupStatsS (x : List GroupStatsD) : Con Tryz.prog 75 [.one (.sl 157 3 (x.map eGroupStats)), .one (.sl 157 3 (x.map eGroupStats))] (vB true) [] := by
  refine con_x tbOk mixedW Tryz.func75 (by kernel_rfl) (.len x.length <| .len x.length <| .no <| .loop Nat (Q1 Nat) [5, 11, 12, 13, 14, 15, 16, 17, 18, 19, 20, 21, 22, 23, 24, 25, 26] [] (fun k => [(5, vI (k : Int))]) (fun k => []) (fun k => k ≤ x.length) (fun k => x.length - k) (fun k => .len x.length <| .br (.elem GroupStatsD eGroupStats x (fun e19 => .elem GroupStatsD eGroupStats x (fun e23 => .call (vB true) [] <| .back []))) (.fin []))) ?_
  refine Eq.mpr (by kernel_rfl : _ = ((x.map eGroupStats).length ≤ 9223372036854775807 → (x.map eGroupStats).length ≤ 9223372036854775807 → (x.map eGroupStats).length = x.length ∧ ((x.map eGroupStats).length = x.length ∧ ((!(decide (((x.length : Nat) : Int) = ((x.length : Nat) : Int)))) = false ∧ ((∃ (k : Nat), (0 : Int) = (k : Int) ∧ k ≤ x.length) ∧ ∀ (k : Nat), k ≤ x.length → (x.map eGroupStats).length = x.length ∧ (((decide ((k : Int) < ((x.length : Nat) : Int))) = true → 0 ≤ (k : Int) ∧ (x.map eGroupStats = x.map eGroupStats ∧ k < x.length ∧ ∀ e19, x[k]? = some e19 → 0 ≤ (k : Int) ∧ (x.map eGroupStats = x.map eGroupStats ∧ k < x.length ∧ ∀ e23, x[k]? = some e23 → Con Tryz.prog 142 [.agg [.sl 3 1 (e19.columns.map intD), .sl 25 1 (e19.values.map eIntS), .sl 3 1 (e19.counts.map intD)], .agg [.sl 3 1 (e23.columns.map intD), .sl 25 1 (e23.values.map eIntS), .sl 3 1 (e23.counts.map intD)]] (vB true) [] ∧ inR ((k : Int) + (1 : Int)) ∧ ∃ (k' : Nat), ((k : Int) + (1 : Int)) = (k' : Int) ∧ k' ≤ x.length ∧ x.length - k' < x.length - k))) ∧ ((decide ((k : Int) < ((x.length : Nat) : Int))) = false → (true) = true ∧ True))))))) ?_
  intro n0 n1
  simp only [List.length_map] at n0 n1
  refine ⟨List.length_map _, ?_⟩
  refine ⟨List.length_map _, ?_⟩
  refine ⟨by simp, ?_⟩
  refine ⟨⟨0, rfl, Nat.zero_le _⟩, fun k hk => ?_⟩
  refine ⟨List.length_map _, ?_⟩
  refine ⟨fun c1 => ?_, fun c1 => ?_⟩
  · replace c1 := of_decide_eq_true c1
    obtain ⟨y, hy⟩ := at_some (l := x) (k := k) (by omega)
    refine ⟨by omega, ?_⟩
    refine ⟨rfl, by omega, fun e19 h19 => ?_⟩
    try (obtain rfl := same_at hy h19)
    refine ⟨by omega, ?_⟩
    refine ⟨rfl, by omega, fun e23 h23 => ?_⟩
    try (obtain rfl := same_at hy h23)
    refine ⟨by first | exact eq_GroupStats e19 | exact eq_GroupStats _, ?_⟩
    refine ⟨⟨by omega, by omega⟩, ?_⟩
    exact ⟨k + 1, rfl, by omega, by omega⟩
  · replace c1 := of_decide_eq_false c1
    refine ⟨?_, trivial⟩
    · rfl

set_option maxRecDepth 100000 in
set_option maxHeartbeats 4000000 in
theorem eq_TableStats (x : TableStatsD) : Con Tryz.prog 16 [.agg [.str x.name, .int .i64 x.arity, .int .i64 x.rowCount, .sl 157 3 (x.groups.map eGroupStats)], .agg [.str x.name, .int .i64 x.arity, .int .i64 x.rowCount, .sl 157 3 (x.groups.map eGroupStats)]] (vB true) [] := by
  refine con_x tbOk mixedW Tryz.func16 (by kernel_rfl) (.no <| .no <| .no <| .call (vB true) [] <| .fin []) ?_
  refine Eq.mpr (by kernel_rfl : _ = ((x.groups.map eGroupStats).length ≤ 9223372036854775807 → (x.groups.map eGroupStats).length ≤ 9223372036854775807 → (!(x.name.toList == x.name.toList)) = false ∧ (!(decide (x.arity = x.arity))) = false ∧ (!(decide (x.rowCount = x.rowCount))) = false ∧ Con Tryz.prog 75 [.one (.sl 157 3 (x.groups.map eGroupStats)), .one (.sl 157 3 (x.groups.map eGroupStats))] (vB true) [] ∧ (true) = true ∧ True)) ?_
  intro n0 n1
  simp only [List.length_map] at n0 n1
  refine ⟨by simp, ?_⟩
  refine ⟨by simp, ?_⟩
  refine ⟨by simp, ?_⟩
  refine ⟨by first | exact eq_GroupStatsS x.groups | exact eq_GroupStatsS _, ?_⟩
  refine ⟨?_, trivial⟩
  · rfl

set_option maxRecDepth 100000 in
set_option maxHeartbeats 4000000 in
theorem eq_TableStatsS (x : List TableStatsD) : Con Tryz.prog 159 [.one (.sl 32 4 (x.map eTableStats)), .one (.sl 32 4 (x.map eTableStats))] (vB true) [] := by
  refine con_x tbOk mixedW Tryz.func159 (by kernel_rfl) (.len x.length <| .len x.length <| .no <| .loop Nat (Q1 Nat) [5, 11, 12, 13, 14, 15, 16, 17, 18, 19, 20, 21, 22, 23, 24, 25, 26] [] (fun k => [(5, vI (k : Int))]) (fun k => []) (fun k => k ≤ x.length) (fun k => x.length - k) (fun k => .len x.length <| .br (.elem TableStatsD eTableStats x (fun e19 => .elem TableStatsD eTableStats x (fun e23 => .call (vB true) [] <| .back []))) (.fin []))) ?_
  refine Eq.mpr (by kernel_rfl : _ = ((x.map eTableStats).length ≤ 9223372036854775807 → (x.map eTableStats).length ≤ 9223372036854775807 → (x.map eTableStats).length = x.length ∧ ((x.map eTableStats).length = x.length ∧ ((!(decide (((x.length : Nat) : Int) = ((x.length : Nat) : Int)))) = false ∧ ((∃ (k : Nat), (0 : Int) = (k : Int) ∧ k ≤ x.length) ∧ ∀ (k : Nat), k ≤ x.length → (x.map eTableStats).length = x.length ∧ (((decide ((k : Int) < ((x.length : Nat) : Int))) = true → 0 ≤ (k : Int) ∧ (x.map eTableStats = x.map eTableStats ∧ k < x.length ∧ ∀ e19, x[k]? = some e19 → 0 ≤ (k : Int) ∧ (x.map eTableStats = x.map eTableStats ∧ k < x.length ∧ ∀ e23, x[k]? = some e23 → Con Tryz.prog 16 [.agg [.str e19.name, .int .i64 e19.arity, .int .i64 e19.rowCount, .sl 157 3 (e19.groups.map eGroupStats)], .agg [.str e23.name, .int .i64 e23.arity, .int .i64 e23.rowCount, .sl 157 3 (e23.groups.map eGroupStats)]] (vB true) [] ∧ inR ((k : Int) + (1 : Int)) ∧ ∃ (k' : Nat), ((k : Int) + (1 : Int)) = (k' : Int) ∧ k' ≤ x.length ∧ x.length - k' < x.length - k))) ∧ ((decide ((k : Int) < ((x.length : Nat) : Int))) = false → (true) = true ∧ True))))))) ?_
  intro n0 n1
  simp only [List.length_map] at n0 n1
  refine ⟨List.length_map _, ?_⟩
  refine ⟨List.length_map _, ?_⟩
  refine ⟨by simp, ?_⟩
  refine ⟨⟨0, rfl, Nat.zero_le _⟩, fun k hk => ?_⟩
  refine ⟨List.length_map _, ?_⟩
  refine ⟨fun c1 => ?_, fun c1 => ?_⟩
  · replace c1 := of_decide_eq_true c1
    obtain ⟨y, hy⟩ := at_some (l := x) (k := k) (by omega)
    refine ⟨by omega, ?_⟩
    refine ⟨rfl, by omega, fun e19 h19 => ?_⟩
    try (obtain rfl := same_at hy h19)
    refine ⟨by omega, ?_⟩
    refine ⟨rfl, by omega, fun e23 h23 => ?_⟩
    try (obtain rfl := same_at hy h23)
    refine ⟨by first | exact eq_TableStats e19 | exact eq_TableStats _, ?_⟩
    refine ⟨⟨by omega, by omega⟩, ?_⟩
    exact ⟨k + 1, rfl, by omega, by omega⟩
  · replace c1 := of_decide_eq_false c1
    refine ⟨?_, trivial⟩
    · rfl

set_option maxRecDepth 100000 in
set_option maxHeartbeats 4000000 in
theorem eq_Catalogue (x : CatalogueD) : Con Tryz.prog 98 [.agg [.int .i64 x.version, .sl 32 4 (x.tables.map eTableStats)], .agg [.int .i64 x.version, .sl 32 4 (x.tables.map eTableStats)]] (vB true) [] := by
  refine con_x tbOk mixedW Tryz.func98 (by kernel_rfl) (.no <| .call (vB true) [] <| .fin []) ?_
  refine Eq.mpr (by kernel_rfl : _ = ((x.tables.map eTableStats).length ≤ 9223372036854775807 → (x.tables.map eTableStats).length ≤ 9223372036854775807 → (!(decide (x.version = x.version))) = false ∧ Con Tryz.prog 159 [.one (.sl 32 4 (x.tables.map eTableStats)), .one (.sl 32 4 (x.tables.map eTableStats))] (vB true) [] ∧ (true) = true ∧ True)) ?_
  intro n0 n1
  simp only [List.length_map] at n0 n1
  refine ⟨by simp, ?_⟩
  refine ⟨by first | exact eq_TableStatsS x.tables | exact eq_TableStatsS _, ?_⟩
  refine ⟨?_, trivial⟩
  · rfl

set_option maxRecDepth 100000 in
set_option maxHeartbeats 4000000 in
theorem eq_Dependency (x : DependencyD) : Con Tryz.prog 109 [.agg [.str x.name, .sl 3 1 (x.src.map intD), .int .i64 x.dst], .agg [.str x.name, .sl 3 1 (x.src.map intD), .int .i64 x.dst]] (vB true) [] := by
  refine con_x tbOk mixedW Tryz.func109 (by kernel_rfl) (.no <| .call (vB true) [] <| .lit <| .no <| .fin []) ?_
  refine Eq.mpr (by kernel_rfl : _ = ((x.src.map intD).length ≤ 9223372036854775807 → (x.src.map intD).length ≤ 9223372036854775807 → (!(x.name.toList == x.name.toList)) = false ∧ Con Tryz.prog 24 [.one (.sl 3 1 (x.src.map intD)), .one (.sl 3 1 (x.src.map intD))] (vB true) [] ∧ (!(decide (x.dst = x.dst))) = false ∧ (true) = true ∧ True)) ?_
  intro n0 n1
  simp only [List.length_map] at n0 n1
  refine ⟨by simp, ?_⟩
  refine ⟨by first | exact eq_IntS x.src | exact eq_IntS _, ?_⟩
  refine ⟨by simp, ?_⟩
  refine ⟨?_, trivial⟩
  · rfl

set_option maxRecDepth 100000 in
set_option maxHeartbeats 4000000 in
theorem eq_DependencyS (x : List DependencyD) : Con Tryz.prog 54 [.one (.sl 142 3 (x.map eDependency)), .one (.sl 142 3 (x.map eDependency))] (vB true) [] := by
  refine con_x tbOk mixedW Tryz.func54 (by kernel_rfl) (.len x.length <| .len x.length <| .no <| .loop Nat (Q1 Nat) [5, 11, 12, 13, 14, 15, 16, 17, 18, 19, 20, 21, 22, 23, 24, 25, 26] [] (fun k => [(5, vI (k : Int))]) (fun k => []) (fun k => k ≤ x.length) (fun k => x.length - k) (fun k => .len x.length <| .br (.elem DependencyD eDependency x (fun e19 => .elem DependencyD eDependency x (fun e23 => .call (vB true) [] <| .back []))) (.fin []))) ?_
  refine Eq.mpr (by kernel_rfl : _ = ((x.map eDependency).length ≤ 9223372036854775807 → (x.map eDependency).length ≤ 9223372036854775807 → (x.map eDependency).length = x.length ∧ ((x.map eDependency).length = x.length ∧ ((!(decide (((x.length : Nat) : Int) = ((x.length : Nat) : Int)))) = false ∧ ((∃ (k : Nat), (0 : Int) = (k : Int) ∧ k ≤ x.length) ∧ ∀ (k : Nat), k ≤ x.length → (x.map eDependency).length = x.length ∧ (((decide ((k : Int) < ((x.length : Nat) : Int))) = true → 0 ≤ (k : Int) ∧ (x.map eDependency = x.map eDependency ∧ k < x.length ∧ ∀ e19, x[k]? = some e19 → 0 ≤ (k : Int) ∧ (x.map eDependency = x.map eDependency ∧ k < x.length ∧ ∀ e23, x[k]? = some e23 → Con Tryz.prog 109 [.agg [.str e19.name, .sl 3 1 (e19.src.map intD), .int .i64 e19.dst], .agg [.str e23.name, .sl 3 1 (e23.src.map intD), .int .i64 e23.dst]] (vB true) [] ∧ inR ((k : Int) + (1 : Int)) ∧ ∃ (k' : Nat), ((k : Int) + (1 : Int)) = (k' : Int) ∧ k' ≤ x.length ∧ x.length - k' < x.length - k))) ∧ ((decide ((k : Int) < ((x.length : Nat) : Int))) = false → (true) = true ∧ True))))))) ?_
  intro n0 n1
  simp only [List.length_map] at n0 n1
  refine ⟨List.length_map _, ?_⟩
  refine ⟨List.length_map _, ?_⟩
  refine ⟨by simp, ?_⟩
  refine ⟨⟨0, rfl, Nat.zero_le _⟩, fun k hk => ?_⟩
  refine ⟨List.length_map _, ?_⟩
  refine ⟨fun c1 => ?_, fun c1 => ?_⟩
  · replace c1 := of_decide_eq_true c1
    obtain ⟨y, hy⟩ := at_some (l := x) (k := k) (by omega)
    refine ⟨by omega, ?_⟩
    refine ⟨rfl, by omega, fun e19 h19 => ?_⟩
    try (obtain rfl := same_at hy h19)
    refine ⟨by omega, ?_⟩
    refine ⟨rfl, by omega, fun e23 h23 => ?_⟩
    try (obtain rfl := same_at hy h23)
    refine ⟨by first | exact eq_Dependency e19 | exact eq_Dependency _, ?_⟩
    refine ⟨⟨by omega, by omega⟩, ?_⟩
    exact ⟨k + 1, rfl, by omega, by omega⟩
  · replace c1 := of_decide_eq_false c1
    refine ⟨?_, trivial⟩
    · rfl

set_option maxRecDepth 100000 in
set_option maxHeartbeats 4000000 in
theorem eq_Inclusion (x : InclusionD) : Con Tryz.prog 110 [.agg [.str x.name, .int .i64 x.column, .str x.into, .int .i64 x.intoColumn], .agg [.str x.name, .int .i64 x.column, .str x.into, .int .i64 x.intoColumn]] (vB true) [] := by
  refine con_x tbOk mixedW Tryz.func110 (by kernel_rfl) (.no <| .no <| .no <| .no <| .fin []) ?_
  refine Eq.mpr (by kernel_rfl : _ = ((!(x.name.toList == x.name.toList)) = false ∧ (!(decide (x.column = x.column))) = false ∧ (!(x.into.toList == x.into.toList)) = false ∧ (!(decide (x.intoColumn = x.intoColumn))) = false ∧ (true) = true ∧ True)) ?_
  refine ⟨by simp, ?_⟩
  refine ⟨by simp, ?_⟩
  refine ⟨by simp, ?_⟩
  refine ⟨by simp, ?_⟩
  refine ⟨?_, trivial⟩
  · rfl

set_option maxRecDepth 100000 in
set_option maxHeartbeats 4000000 in
theorem eq_InclusionS (x : List InclusionD) : Con Tryz.prog 55 [.one (.sl 144 4 (x.map eInclusion)), .one (.sl 144 4 (x.map eInclusion))] (vB true) [] := by
  refine con_x tbOk mixedW Tryz.func55 (by kernel_rfl) (.len x.length <| .len x.length <| .no <| .loop Nat (Q1 Nat) [5, 11, 12, 13, 14, 15, 16, 17, 18, 19, 20, 21, 22, 23, 24, 25, 26] [] (fun k => [(5, vI (k : Int))]) (fun k => []) (fun k => k ≤ x.length) (fun k => x.length - k) (fun k => .len x.length <| .br (.elem InclusionD eInclusion x (fun e19 => .elem InclusionD eInclusion x (fun e23 => .call (vB true) [] <| .back []))) (.fin []))) ?_
  refine Eq.mpr (by kernel_rfl : _ = ((x.map eInclusion).length ≤ 9223372036854775807 → (x.map eInclusion).length ≤ 9223372036854775807 → (x.map eInclusion).length = x.length ∧ ((x.map eInclusion).length = x.length ∧ ((!(decide (((x.length : Nat) : Int) = ((x.length : Nat) : Int)))) = false ∧ ((∃ (k : Nat), (0 : Int) = (k : Int) ∧ k ≤ x.length) ∧ ∀ (k : Nat), k ≤ x.length → (x.map eInclusion).length = x.length ∧ (((decide ((k : Int) < ((x.length : Nat) : Int))) = true → 0 ≤ (k : Int) ∧ (x.map eInclusion = x.map eInclusion ∧ k < x.length ∧ ∀ e19, x[k]? = some e19 → 0 ≤ (k : Int) ∧ (x.map eInclusion = x.map eInclusion ∧ k < x.length ∧ ∀ e23, x[k]? = some e23 → Con Tryz.prog 110 [.agg [.str e19.name, .int .i64 e19.column, .str e19.into, .int .i64 e19.intoColumn], .agg [.str e23.name, .int .i64 e23.column, .str e23.into, .int .i64 e23.intoColumn]] (vB true) [] ∧ inR ((k : Int) + (1 : Int)) ∧ ∃ (k' : Nat), ((k : Int) + (1 : Int)) = (k' : Int) ∧ k' ≤ x.length ∧ x.length - k' < x.length - k))) ∧ ((decide ((k : Int) < ((x.length : Nat) : Int))) = false → (true) = true ∧ True))))))) ?_
  intro n0 n1
  simp only [List.length_map] at n0 n1
  refine ⟨List.length_map _, ?_⟩
  refine ⟨List.length_map _, ?_⟩
  refine ⟨by simp, ?_⟩
  refine ⟨⟨0, rfl, Nat.zero_le _⟩, fun k hk => ?_⟩
  refine ⟨List.length_map _, ?_⟩
  refine ⟨fun c1 => ?_, fun c1 => ?_⟩
  · replace c1 := of_decide_eq_true c1
    obtain ⟨y, hy⟩ := at_some (l := x) (k := k) (by omega)
    refine ⟨by omega, ?_⟩
    refine ⟨rfl, by omega, fun e19 h19 => ?_⟩
    try (obtain rfl := same_at hy h19)
    refine ⟨by omega, ?_⟩
    refine ⟨rfl, by omega, fun e23 h23 => ?_⟩
    try (obtain rfl := same_at hy h23)
    refine ⟨by first | exact eq_Inclusion e19 | exact eq_Inclusion _, ?_⟩
    refine ⟨⟨by omega, by omega⟩, ?_⟩
    exact ⟨k + 1, rfl, by omega, by omega⟩
  · replace c1 := of_decide_eq_false c1
    refine ⟨?_, trivial⟩
    · rfl

set_option maxRecDepth 100000 in
set_option maxHeartbeats 4000000 in
theorem eq_Store (x : StoreD) : Con Tryz.prog 42 [.agg [.sl 107 3 (x.database.tables.map eTable), .int .i64 x.catalogue.version, .sl 32 4 (x.catalogue.tables.map eTableStats), .sl 142 3 (x.dependencies.map eDependency), .sl 144 4 (x.inclusions.map eInclusion)], .agg [.sl 107 3 (x.database.tables.map eTable), .int .i64 x.catalogue.version, .sl 32 4 (x.catalogue.tables.map eTableStats), .sl 142 3 (x.dependencies.map eDependency), .sl 144 4 (x.inclusions.map eInclusion)]] (vB true) [] := by
  refine con_x tbOk mixedW Tryz.func42 (by kernel_rfl) (.call (vB true) [] <| .call (vB true) [] <| .call (vB true) [] <| .call (vB true) [] <| .fin []) ?_
  refine Eq.mpr (by kernel_rfl : _ = ((x.database.tables.map eTable).length ≤ 9223372036854775807 → (x.catalogue.tables.map eTableStats).length ≤ 9223372036854775807 → (x.dependencies.map eDependency).length ≤ 9223372036854775807 → (x.inclusions.map eInclusion).length ≤ 9223372036854775807 → (x.database.tables.map eTable).length ≤ 9223372036854775807 → (x.catalogue.tables.map eTableStats).length ≤ 9223372036854775807 → (x.dependencies.map eDependency).length ≤ 9223372036854775807 → (x.inclusions.map eInclusion).length ≤ 9223372036854775807 → Con Tryz.prog 53 [.agg [.sl 107 3 (x.database.tables.map eTable)], .agg [.sl 107 3 (x.database.tables.map eTable)]] (vB true) [] ∧ Con Tryz.prog 98 [.agg [.int .i64 x.catalogue.version, .sl 32 4 (x.catalogue.tables.map eTableStats)], .agg [.int .i64 x.catalogue.version, .sl 32 4 (x.catalogue.tables.map eTableStats)]] (vB true) [] ∧ Con Tryz.prog 54 [.one (.sl 142 3 (x.dependencies.map eDependency)), .one (.sl 142 3 (x.dependencies.map eDependency))] (vB true) [] ∧ Con Tryz.prog 55 [.one (.sl 144 4 (x.inclusions.map eInclusion)), .one (.sl 144 4 (x.inclusions.map eInclusion))] (vB true) [] ∧ (true) = true ∧ True)) ?_
  intro n0 n1 n2 n3 n4 n5 n6 n7
  simp only [List.length_map] at n0 n1 n2 n3 n4 n5 n6 n7
  refine ⟨by first | exact eq_Database x.database | exact eq_Database _, ?_⟩
  refine ⟨by first | exact eq_Catalogue x.catalogue | exact eq_Catalogue _, ?_⟩
  refine ⟨by first | exact eq_DependencyS x.dependencies | exact eq_DependencyS _, ?_⟩
  refine ⟨by first | exact eq_InclusionS x.inclusions | exact eq_InclusionS _, ?_⟩
  refine ⟨?_, trivial⟩
  · rfl
end Go.Proofs.YtjlagjhmlmfjeaaGreat
