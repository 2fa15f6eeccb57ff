/-
  Contracts and plain laws, joined: part 19.
-/
import Derived.Test.YtokkjaflmcjlhaaGreatQUpdateStore3
namespace Go.Proofs.YtokkjaflmcjlhaaGreat
open Go.ChangeShapes Go.WideShapes Go.ChangeAt Go.RowKit
set_option linter.unusedVariables false
set_option linter.unusedSimpArgs false
set_option maxRecDepth 100000
set_option maxHeartbeats 4000000
abbrev K_eq_IntS (x : List Int) : Prop := Con Tryz.prog 38 [.one (.sl 3 1 (x.map intD)), .one (.sl 3 1 (x.map intD))] (vB true) []
theorem eq_IntS (x : List Int) : K_eq_IntS x := by
 refine con_x tbOk mixedW Tryz.func38 (by kernel_rfl) (.len x.length <| .len x.length <| .no <| .loop Nat (Q1 Nat) [5, 11, 12, 13, 14, 15, 16, 17, 18, 19, 20, 21, 22, 23, 24, 25] [] (fun k => [(5, vI (k : Int))]) (fun k => []) (fun k => k ≤ x.length) (fun k => x.length - k) (fun k => .len x.length <| .br (.elem _ intD x (fun e19 => .elem _ intD x (fun e23 => .no <| .back []))) (.fin []))) ?_
 refine Eq.mpr (by kernel_rfl : _ = ((x.map intD).length ≤ 9223372036854775807 → (x.map intD).length ≤ 9223372036854775807 → Lm intD x ∧ (Lm intD x ∧ ((!(decide (((x.length : Nat) : Int) = ((x.length : Nat) : Int)))) = false ∧ ((∃ (k : Nat), (0 : Int) = (k : Int) ∧ k ≤ x.length) ∧ ∀ (k : Nat), k ≤ x.length → Lm intD x ∧ (((decide ((k : Int) < ((x.length : Nat) : Int))) = true → 0 ≤ (k : Int) ∧ Em intD x k fun e19 => 0 ≤ (k : Int) ∧ Em intD x k fun e23 => (!(decide (e19 = e23))) = false ∧ inR ((k : Int) + (1 : Int)) ∧ ∃ (k' : Nat), ((k : Int) + (1 : Int)) = (k' : Int) ∧ k' ≤ x.length ∧ x.length - k' < x.length - k) ∧ ((decide ((k : Int) < ((x.length : Nat) : Int))) = false → (true) = true ∧ True))))))) ?_
 intro n0 n1
 simp only [List.length_map] at n0 n1
 refine ⟨List.length_map _, List.length_map _, by simp, ⟨0, rfl, Nat.zero_le _⟩, fun k hk => ?_⟩
 refine ⟨List.length_map _, fun c1 => ?_, fun c1 => ?_⟩
 ·replace c1 := yq c1
  obtain ⟨y, hy⟩ := at_some (l := x) (k := k) (by omega)
  refine ⟨by omega, rfl, by omega, fun e19 h19 => ?_⟩
  try (obtain rfl := same_at hy h19)
  refine ⟨by omega, rfl, by omega, fun e23 h23 => ?_⟩
  try (obtain rfl := same_at hy h23)
  refine ⟨by simp, ⟨by omega, by omega⟩, ?_⟩
  exact ⟨k + 1, rfl, by omega, by omega⟩
 ·replace c1 := nq c1
  refine ⟨?_, trivial⟩
  ·rfl
abbrev K_eq_IntSS (x : List (List Int)) : Prop := Con Tryz.prog 274 [.one (.sl 32 1 (x.map eIntS)), .one (.sl 32 1 (x.map eIntS))] (vB true) []
theorem eq_IntSS (x : List (List Int)) : K_eq_IntSS x := by
 refine con_x tbOk mixedW Tryz.func274 (by kernel_rfl) (.len x.length <| .len x.length <| .no <| .loop Nat (Q1 Nat) [5, 11, 12, 13, 14, 15, 16, 17, 18, 19, 20, 21, 22, 23, 24, 25, 26] [] (fun k => [(5, vI (k : Int))]) (fun k => []) (fun k => k ≤ x.length) (fun k => x.length - k) (fun k => .len x.length <| .br (.elem _ eIntS x (fun e19 => .elem _ eIntS x (fun e23 => .call (vB true) [] <| .back []))) (.fin []))) ?_
 refine Eq.mpr (by kernel_rfl : _ = ((x.map eIntS).length ≤ 9223372036854775807 → (x.map eIntS).length ≤ 9223372036854775807 → Lm eIntS x ∧ (Lm eIntS x ∧ ((!(decide (((x.length : Nat) : Int) = ((x.length : Nat) : Int)))) = false ∧ ((∃ (k : Nat), (0 : Int) = (k : Int) ∧ k ≤ x.length) ∧ ∀ (k : Nat), k ≤ x.length → Lm eIntS x ∧ (((decide ((k : Int) < ((x.length : Nat) : Int))) = true → 0 ≤ (k : Int) ∧ Em eIntS x k fun e19 => 0 ≤ (k : Int) ∧ Em eIntS x k fun e23 => Con Tryz.prog 38 [.one (.sl 3 1 (e19.map intD)), .one (.sl 3 1 (e23.map intD))] (vB true) [] ∧ inR ((k : Int) + (1 : Int)) ∧ ∃ (k' : Nat), ((k : Int) + (1 : Int)) = (k' : Int) ∧ k' ≤ x.length ∧ x.length - k' < x.length - k) ∧ ((decide ((k : Int) < ((x.length : Nat) : Int))) = false → (true) = true ∧ True))))))) ?_
 intro n0 n1
 simp only [List.length_map] at n0 n1
 refine ⟨List.length_map _, List.length_map _, by simp, ⟨0, rfl, Nat.zero_le _⟩, fun k hk => ?_⟩
 refine ⟨List.length_map _, fun c1 => ?_, fun c1 => ?_⟩
 ·replace c1 := yq c1
  obtain ⟨y, hy⟩ := at_some (l := x) (k := k) (by omega)
  refine ⟨by omega, rfl, by omega, fun e19 h19 => ?_⟩
  try (obtain rfl := same_at hy h19)
  refine ⟨by omega, rfl, by omega, fun e23 h23 => ?_⟩
  try (obtain rfl := same_at hy h23)
  refine ⟨by first | exact eq_IntS e19 | exact eq_IntS _, ⟨by omega, by omega⟩, ?_⟩
  exact ⟨k + 1, rfl, by omega, by omega⟩
 ·replace c1 := nq c1
  refine ⟨?_, trivial⟩
  ·rfl
abbrev K_eq_Table (x : TableD) : Prop := Con Tryz.prog 237 [.agg [.str x.name, .int .i64 x.arity, .sl 32 1 (x.rows.map eIntS)], .agg [.str x.name, .int .i64 x.arity, .sl 32 1 (x.rows.map eIntS)]] (vB true) []
theorem eq_Table (x : TableD) : K_eq_Table x := by
 refine con_x tbOk mixedW Tryz.func237 (by kernel_rfl) (.no <| .no <| .call (vB true) [] <| .fin []) ?_
 refine Eq.mpr (by kernel_rfl : _ = ((x.rows.map eIntS).length ≤ 9223372036854775807 → (x.rows.map eIntS).length ≤ 9223372036854775807 → (!(x.name.toList == x.name.toList)) = false ∧ (!(decide (x.arity = x.arity))) = false ∧ K_eq_IntSS x.rows ∧ (true) = true ∧ True)) ?_
 intro n0 n1
 simp only [List.length_map] at n0 n1
 refine ⟨by simp, by simp, by first | exact eq_IntSS x.rows | exact eq_IntSS _, ?_, trivial⟩
 ·rfl
abbrev K_eq_TableS (x : List TableD) : Prop := Con Tryz.prog 156 [.one (.sl 162 3 (x.map eTable)), .one (.sl 162 3 (x.map eTable))] (vB true) []
theorem eq_TableS (x : List TableD) : K_eq_TableS x := by
 refine con_x tbOk mixedW Tryz.func156 (by kernel_rfl) (.len x.length <| .len x.length <| .no <| .loop Nat (Q1 Nat) [5, 11, 12, 13, 14, 15, 16, 17, 18, 19, 20, 21, 22, 23, 24, 25, 26] [] (fun k => [(5, vI (k : Int))]) (fun k => []) (fun k => k ≤ x.length) (fun k => x.length - k) (fun k => .len x.length <| .br (.elem _ eTable x (fun e19 => .elem _ eTable x (fun e23 => .call (vB true) [] <| .back []))) (.fin []))) ?_
 refine Eq.mpr (by kernel_rfl : _ = ((x.map eTable).length ≤ 9223372036854775807 → (x.map eTable).length ≤ 9223372036854775807 → Lm eTable x ∧ (Lm eTable x ∧ ((!(decide (((x.length : Nat) : Int) = ((x.length : Nat) : Int)))) = false ∧ ((∃ (k : Nat), (0 : Int) = (k : Int) ∧ k ≤ x.length) ∧ ∀ (k : Nat), k ≤ x.length → Lm eTable x ∧ (((decide ((k : Int) < ((x.length : Nat) : Int))) = true → 0 ≤ (k : Int) ∧ Em eTable x k fun e19 => 0 ≤ (k : Int) ∧ Em eTable x k fun e23 => Con Tryz.prog 237 [.agg [.str e19.name, .int .i64 e19.arity, .sl 32 1 (e19.rows.map eIntS)], .agg [.str e23.name, .int .i64 e23.arity, .sl 32 1 (e23.rows.map eIntS)]] (vB true) [] ∧ inR ((k : Int) + (1 : Int)) ∧ ∃ (k' : Nat), ((k : Int) + (1 : Int)) = (k' : Int) ∧ k' ≤ x.length ∧ x.length - k' < x.length - k) ∧ ((decide ((k : Int) < ((x.length : Nat) : Int))) = false → (true) = true ∧ True))))))) ?_
 intro n0 n1
 simp only [List.length_map] at n0 n1
 refine ⟨List.length_map _, List.length_map _, by simp, ⟨0, rfl, Nat.zero_le _⟩, fun k hk => ?_⟩
 refine ⟨List.length_map _, fun c1 => ?_, fun c1 => ?_⟩
 ·replace c1 := yq c1
  obtain ⟨y, hy⟩ := at_some (l := x) (k := k) (by omega)
  refine ⟨by omega, rfl, by omega, fun e19 h19 => ?_⟩
  try (obtain rfl := same_at hy h19)
  refine ⟨by omega, rfl, by omega, fun e23 h23 => ?_⟩
  try (obtain rfl := same_at hy h23)
  refine ⟨by first | exact eq_Table e19 | exact eq_Table _, ⟨by omega, by omega⟩, ?_⟩
  exact ⟨k + 1, rfl, by omega, by omega⟩
 ·replace c1 := nq c1
  refine ⟨?_, trivial⟩
  ·rfl
abbrev K_eq_Database (x : DatabaseD) : Prop := Con Tryz.prog 77 [.agg [.sl 162 3 (x.tables.map eTable)], .agg [.sl 162 3 (x.tables.map eTable)]] (vB true) []
theorem eq_Database (x : DatabaseD) : K_eq_Database x := by
 refine con_x tbOk mixedW Tryz.func77 (by kernel_rfl) (.call (vB true) [] <| .fin []) ?_
 refine Eq.mpr (by kernel_rfl : _ = ((x.tables.map eTable).length ≤ 9223372036854775807 → (x.tables.map eTable).length ≤ 9223372036854775807 → K_eq_TableS x.tables ∧ (true) = true ∧ True)) ?_
 intro n0 n1
 simp only [List.length_map] at n0 n1
 refine ⟨by first | exact eq_TableS x.tables | exact eq_TableS _, ?_, trivial⟩
 ·rfl
abbrev K_eq_Update (x : UpdateD) : Prop := Con Tryz.prog 20 [.agg [.str x.name, .bool x.ins, .sl 3 1 (x.row.map intD)], .agg [.str x.name, .bool x.ins, .sl 3 1 (x.row.map intD)]] (vB true) []
theorem eq_Update (x : UpdateD) : K_eq_Update x := by
 refine con_x tbOk mixedW Tryz.func20 (by kernel_rfl) (.no <| .no <| .call (vB true) [] <| .fin []) ?_
 refine Eq.mpr (by kernel_rfl : _ = ((x.row.map intD).length ≤ 9223372036854775807 → (x.row.map intD).length ≤ 9223372036854775807 → (!(x.name.toList == x.name.toList)) = false ∧ (!(x.ins == x.ins)) = false ∧ K_eq_IntS x.row ∧ (true) = true ∧ True)) ?_
 intro n0 n1
 simp only [List.length_map] at n0 n1
 refine ⟨by simp, by simp, by first | exact eq_IntS x.row | exact eq_IntS _, ?_, trivial⟩
 ·rfl
abbrev K_eq_GroupStats (x : GroupStatsD) : Prop := Con Tryz.prog 286 [.agg [.sl 3 1 (x.columns.map intD), .sl 32 1 (x.values.map eIntS), .sl 3 1 (x.counts.map intD)], .agg [.sl 3 1 (x.columns.map intD), .sl 32 1 (x.values.map eIntS), .sl 3 1 (x.counts.map intD)]] (vB true) []
theorem eq_GroupStats (x : GroupStatsD) : K_eq_GroupStats x := by
 refine con_x tbOk mixedW Tryz.func286 (by kernel_rfl) (.call (vB true) [] <| .call (vB true) [] <| .call (vB true) [] <| .fin []) ?_
 refine Eq.mpr (by kernel_rfl : _ = ((x.columns.map intD).length ≤ 9223372036854775807 → (x.values.map eIntS).length ≤ 9223372036854775807 → (x.counts.map intD).length ≤ 9223372036854775807 → (x.columns.map intD).length ≤ 9223372036854775807 → (x.values.map eIntS).length ≤ 9223372036854775807 → (x.counts.map intD).length ≤ 9223372036854775807 → K_eq_IntS x.columns ∧ K_eq_IntSS x.values ∧ K_eq_IntS x.counts ∧ (true) = true ∧ True)) ?_
 intro n0 n1 n2 n3 n4 n5
 simp only [List.length_map] at n0 n1 n2 n3 n4 n5
 refine ⟨by first | exact eq_IntS x.columns | exact eq_IntS _, by first | exact eq_IntSS x.values | exact eq_IntSS _, by first | exact eq_IntS x.counts | exact eq_IntS _, ?_, trivial⟩
 ·rfl
abbrev K_eq_GroupStatsS (x : List GroupStatsD) : Prop := Con Tryz.prog 275 [.one (.sl 218 3 (x.map eGroupStats)), .one (.sl 218 3 (x.map eGroupStats))] (vB true) []
theorem eq_GroupStatsS (x : List GroupStatsD) : K_eq_GroupStatsS x := by
 refine con_x tbOk mixedW Tryz.func275 (by kernel_rfl) (.len x.length <| .len x.length <| .no <| .loop Nat (Q1 Nat) [5, 11, 12, 13, 14, 15, 16, 17, 18, 19, 20, 21, 22, 23, 24, 25, 26] [] (fun k => [(5, vI (k : Int))]) (fun k => []) (fun k => k ≤ x.length) (fun k => x.length - k) (fun k => .len x.length <| .br (.elem _ eGroupStats x (fun e19 => .elem _ eGroupStats x (fun e23 => .call (vB true) [] <| .back []))) (.fin []))) ?_
 refine Eq.mpr (by kernel_rfl : _ = ((x.map eGroupStats).length ≤ 9223372036854775807 → (x.map eGroupStats).length ≤ 9223372036854775807 → Lm eGroupStats x ∧ (Lm eGroupStats x ∧ ((!(decide (((x.length : Nat) : Int) = ((x.length : Nat) : Int)))) = false ∧ ((∃ (k : Nat), (0 : Int) = (k : Int) ∧ k ≤ x.length) ∧ ∀ (k : Nat), k ≤ x.length → Lm eGroupStats x ∧ (((decide ((k : Int) < ((x.length : Nat) : Int))) = true → 0 ≤ (k : Int) ∧ Em eGroupStats x k fun e19 => 0 ≤ (k : Int) ∧ Em eGroupStats x k fun e23 => Con Tryz.prog 286 [.agg [.sl 3 1 (e19.columns.map intD), .sl 32 1 (e19.values.map eIntS), .sl 3 1 (e19.counts.map intD)], .agg [.sl 3 1 (e23.columns.map intD), .sl 32 1 (e23.values.map eIntS), .sl 3 1 (e23.counts.map intD)]] (vB true) [] ∧ inR ((k : Int) + (1 : Int)) ∧ ∃ (k' : Nat), ((k : Int) + (1 : Int)) = (k' : Int) ∧ k' ≤ x.length ∧ x.length - k' < x.length - k) ∧ ((decide ((k : Int) < ((x.length : Nat) : Int))) = false → (true) = true ∧ True))))))) ?_
 intro n0 n1
 simp only [List.length_map] at n0 n1
 refine ⟨List.length_map _, List.length_map _, by simp, ⟨0, rfl, Nat.zero_le _⟩, fun k hk => ?_⟩
 refine ⟨List.length_map _, fun c1 => ?_, fun c1 => ?_⟩
 ·replace c1 := yq c1
  obtain ⟨y, hy⟩ := at_some (l := x) (k := k) (by omega)
  refine ⟨by omega, rfl, by omega, fun e19 h19 => ?_⟩
  try (obtain rfl := same_at hy h19)
  refine ⟨by omega, rfl, by omega, fun e23 h23 => ?_⟩
  try (obtain rfl := same_at hy h23)
  refine ⟨by first | exact eq_GroupStats e19 | exact eq_GroupStats _, ⟨by omega, by omega⟩, ?_⟩
  exact ⟨k + 1, rfl, by omega, by omega⟩
 ·replace c1 := nq c1
  refine ⟨?_, trivial⟩
  ·rfl
abbrev K_eq_TableStats (x : TableStatsD) : Prop := Con Tryz.prog 238 [.agg [.str x.name, .int .i64 x.arity, .int .i64 x.rowCount, .sl 218 3 (x.groups.map eGroupStats)], .agg [.str x.name, .int .i64 x.arity, .int .i64 x.rowCount, .sl 218 3 (x.groups.map eGroupStats)]] (vB true) []
theorem eq_TableStats (x : TableStatsD) : K_eq_TableStats x := by
 refine con_x tbOk mixedW Tryz.func238 (by kernel_rfl) (.no <| .no <| .no <| .call (vB true) [] <| .fin []) ?_
 refine Eq.mpr (by kernel_rfl : _ = ((x.groups.map eGroupStats).length ≤ 9223372036854775807 → (x.groups.map eGroupStats).length ≤ 9223372036854775807 → (!(x.name.toList == x.name.toList)) = false ∧ (!(decide (x.arity = x.arity))) = false ∧ (!(decide (x.rowCount = x.rowCount))) = false ∧ K_eq_GroupStatsS x.groups ∧ (true) = true ∧ True)) ?_
 intro n0 n1
 simp only [List.length_map] at n0 n1
 refine ⟨by simp, by simp, by simp, by first | exact eq_GroupStatsS x.groups | exact eq_GroupStatsS _, ?_, trivial⟩
 ·rfl
abbrev K_eq_TableStatsS (x : List TableStatsD) : Prop := Con Tryz.prog 157 [.one (.sl 121 4 (x.map eTableStats)), .one (.sl 121 4 (x.map eTableStats))] (vB true) []
theorem eq_TableStatsS (x : List TableStatsD) : K_eq_TableStatsS x := by
 refine con_x tbOk mixedW Tryz.func157 (by kernel_rfl) (.len x.length <| .len x.length <| .no <| .loop Nat (Q1 Nat) [5, 11, 12, 13, 14, 15, 16, 17, 18, 19, 20, 21, 22, 23, 24, 25, 26] [] (fun k => [(5, vI (k : Int))]) (fun k => []) (fun k => k ≤ x.length) (fun k => x.length - k) (fun k => .len x.length <| .br (.elem _ eTableStats x (fun e19 => .elem _ eTableStats x (fun e23 => .call (vB true) [] <| .back []))) (.fin []))) ?_
 refine Eq.mpr (by kernel_rfl : _ = ((x.map eTableStats).length ≤ 9223372036854775807 → (x.map eTableStats).length ≤ 9223372036854775807 → Lm eTableStats x ∧ (Lm eTableStats x ∧ ((!(decide (((x.length : Nat) : Int) = ((x.length : Nat) : Int)))) = false ∧ ((∃ (k : Nat), (0 : Int) = (k : Int) ∧ k ≤ x.length) ∧ ∀ (k : Nat), k ≤ x.length → Lm eTableStats x ∧ (((decide ((k : Int) < ((x.length : Nat) : Int))) = true → 0 ≤ (k : Int) ∧ Em eTableStats x k fun e19 => 0 ≤ (k : Int) ∧ Em eTableStats x k fun e23 => Con Tryz.prog 238 [.agg [.str e19.name, .int .i64 e19.arity, .int .i64 e19.rowCount, .sl 218 3 (e19.groups.map eGroupStats)], .agg [.str e23.name, .int .i64 e23.arity, .int .i64 e23.rowCount, .sl 218 3 (e23.groups.map eGroupStats)]] (vB true) [] ∧ inR ((k : Int) + (1 : Int)) ∧ ∃ (k' : Nat), ((k : Int) + (1 : Int)) = (k' : Int) ∧ k' ≤ x.length ∧ x.length - k' < x.length - k) ∧ ((decide ((k : Int) < ((x.length : Nat) : Int))) = false → (true) = true ∧ True))))))) ?_
 intro n0 n1
 simp only [List.length_map] at n0 n1
 refine ⟨List.length_map _, List.length_map _, by simp, ⟨0, rfl, Nat.zero_le _⟩, fun k hk => ?_⟩
 refine ⟨List.length_map _, fun c1 => ?_, fun c1 => ?_⟩
 ·replace c1 := yq c1
  obtain ⟨y, hy⟩ := at_some (l := x) (k := k) (by omega)
  refine ⟨by omega, rfl, by omega, fun e19 h19 => ?_⟩
  try (obtain rfl := same_at hy h19)
  refine ⟨by omega, rfl, by omega, fun e23 h23 => ?_⟩
  try (obtain rfl := same_at hy h23)
  refine ⟨by first | exact eq_TableStats e19 | exact eq_TableStats _, ⟨by omega, by omega⟩, ?_⟩
  exact ⟨k + 1, rfl, by omega, by omega⟩
 ·replace c1 := nq c1
  refine ⟨?_, trivial⟩
  ·rfl
abbrev K_eq_Catalogue (x : CatalogueD) : Prop := Con Tryz.prog 78 [.agg [.int .i64 x.version, .sl 121 4 (x.tables.map eTableStats)], .agg [.int .i64 x.version, .sl 121 4 (x.tables.map eTableStats)]] (vB true) []
theorem eq_Catalogue (x : CatalogueD) : K_eq_Catalogue x := by
 refine con_x tbOk mixedW Tryz.func78 (by kernel_rfl) (.no <| .call (vB true) [] <| .fin []) ?_
 refine Eq.mpr (by kernel_rfl : _ = ((x.tables.map eTableStats).length ≤ 9223372036854775807 → (x.tables.map eTableStats).length ≤ 9223372036854775807 → (!(decide (x.version = x.version))) = false ∧ K_eq_TableStatsS x.tables ∧ (true) = true ∧ True)) ?_
 intro n0 n1
 simp only [List.length_map] at n0 n1
 refine ⟨by simp, by first | exact eq_TableStatsS x.tables | exact eq_TableStatsS _, ?_, trivial⟩
 ·rfl
abbrev K_eq_Dependency (x : DependencyD) : Prop := Con Tryz.prog 158 [.agg [.str x.name, .sl 3 1 (x.src.map intD), .int .i64 x.dst], .agg [.str x.name, .sl 3 1 (x.src.map intD), .int .i64 x.dst]] (vB true) []
theorem eq_Dependency (x : DependencyD) : K_eq_Dependency x := by
 refine con_x tbOk mixedW Tryz.func158 (by kernel_rfl) (.no <| .call (vB true) [] <| .lit <| .no <| .fin []) ?_
 refine Eq.mpr (by kernel_rfl : _ = ((x.src.map intD).length ≤ 9223372036854775807 → (x.src.map intD).length ≤ 9223372036854775807 → (!(x.name.toList == x.name.toList)) = false ∧ K_eq_IntS x.src ∧ (!(decide (x.dst = x.dst))) = false ∧ (true) = true ∧ True)) ?_
 intro n0 n1
 simp only [List.length_map] at n0 n1
 refine ⟨by simp, by first | exact eq_IntS x.src | exact eq_IntS _, by simp, ?_, trivial⟩
 ·rfl
abbrev K_eq_DependencyS (x : List DependencyD) : Prop := Con Tryz.prog 79 [.one (.sl 168 3 (x.map eDependency)), .one (.sl 168 3 (x.map eDependency))] (vB true) []
theorem eq_DependencyS (x : List DependencyD) : K_eq_DependencyS x := by
 refine con_x tbOk mixedW Tryz.func79 (by kernel_rfl) (.len x.length <| .len x.length <| .no <| .loop Nat (Q1 Nat) [5, 11, 12, 13, 14, 15, 16, 17, 18, 19, 20, 21, 22, 23, 24, 25, 26] [] (fun k => [(5, vI (k : Int))]) (fun k => []) (fun k => k ≤ x.length) (fun k => x.length - k) (fun k => .len x.length <| .br (.elem _ eDependency x (fun e19 => .elem _ eDependency x (fun e23 => .call (vB true) [] <| .back []))) (.fin []))) ?_
 refine Eq.mpr (by kernel_rfl : _ = ((x.map eDependency).length ≤ 9223372036854775807 → (x.map eDependency).length ≤ 9223372036854775807 → Lm eDependency x ∧ (Lm eDependency x ∧ ((!(decide (((x.length : Nat) : Int) = ((x.length : Nat) : Int)))) = false ∧ ((∃ (k : Nat), (0 : Int) = (k : Int) ∧ k ≤ x.length) ∧ ∀ (k : Nat), k ≤ x.length → Lm eDependency x ∧ (((decide ((k : Int) < ((x.length : Nat) : Int))) = true → 0 ≤ (k : Int) ∧ Em eDependency x k fun e19 => 0 ≤ (k : Int) ∧ Em eDependency x k fun e23 => Con Tryz.prog 158 [.agg [.str e19.name, .sl 3 1 (e19.src.map intD), .int .i64 e19.dst], .agg [.str e23.name, .sl 3 1 (e23.src.map intD), .int .i64 e23.dst]] (vB true) [] ∧ inR ((k : Int) + (1 : Int)) ∧ ∃ (k' : Nat), ((k : Int) + (1 : Int)) = (k' : Int) ∧ k' ≤ x.length ∧ x.length - k' < x.length - k) ∧ ((decide ((k : Int) < ((x.length : Nat) : Int))) = false → (true) = true ∧ True))))))) ?_
 intro n0 n1
 simp only [List.length_map] at n0 n1
 refine ⟨List.length_map _, List.length_map _, by simp, ⟨0, rfl, Nat.zero_le _⟩, fun k hk => ?_⟩
 refine ⟨List.length_map _, fun c1 => ?_, fun c1 => ?_⟩
 ·replace c1 := yq c1
  obtain ⟨y, hy⟩ := at_some (l := x) (k := k) (by omega)
  refine ⟨by omega, rfl, by omega, fun e19 h19 => ?_⟩
  try (obtain rfl := same_at hy h19)
  refine ⟨by omega, rfl, by omega, fun e23 h23 => ?_⟩
  try (obtain rfl := same_at hy h23)
  refine ⟨by first | exact eq_Dependency e19 | exact eq_Dependency _, ⟨by omega, by omega⟩, ?_⟩
  exact ⟨k + 1, rfl, by omega, by omega⟩
 ·replace c1 := nq c1
  refine ⟨?_, trivial⟩
  ·rfl
abbrev K_eq_Inclusion (x : InclusionD) : Prop := Con Tryz.prog 159 [.agg [.str x.name, .int .i64 x.column, .str x.into, .int .i64 x.intoColumn], .agg [.str x.name, .int .i64 x.column, .str x.into, .int .i64 x.intoColumn]] (vB true) []
theorem eq_Inclusion (x : InclusionD) : K_eq_Inclusion x := by
 refine con_x tbOk mixedW Tryz.func159 (by kernel_rfl) (.no <| .no <| .no <| .no <| .fin []) ?_
 refine Eq.mpr (by kernel_rfl : _ = ((!(x.name.toList == x.name.toList)) = false ∧ (!(decide (x.column = x.column))) = false ∧ (!(x.into.toList == x.into.toList)) = false ∧ (!(decide (x.intoColumn = x.intoColumn))) = false ∧ (true) = true ∧ True)) ?_
 refine ⟨by simp, by simp, by simp, by simp, ?_, trivial⟩
 ·rfl
abbrev K_eq_InclusionS (x : List InclusionD) : Prop := Con Tryz.prog 80 [.one (.sl 170 4 (x.map eInclusion)), .one (.sl 170 4 (x.map eInclusion))] (vB true) []
theorem eq_InclusionS (x : List InclusionD) : K_eq_InclusionS x := by
 refine con_x tbOk mixedW Tryz.func80 (by kernel_rfl) (.len x.length <| .len x.length <| .no <| .loop Nat (Q1 Nat) [5, 11, 12, 13, 14, 15, 16, 17, 18, 19, 20, 21, 22, 23, 24, 25, 26] [] (fun k => [(5, vI (k : Int))]) (fun k => []) (fun k => k ≤ x.length) (fun k => x.length - k) (fun k => .len x.length <| .br (.elem _ eInclusion x (fun e19 => .elem _ eInclusion x (fun e23 => .call (vB true) [] <| .back []))) (.fin []))) ?_
 refine Eq.mpr (by kernel_rfl : _ = ((x.map eInclusion).length ≤ 9223372036854775807 → (x.map eInclusion).length ≤ 9223372036854775807 → Lm eInclusion x ∧ (Lm eInclusion x ∧ ((!(decide (((x.length : Nat) : Int) = ((x.length : Nat) : Int)))) = false ∧ ((∃ (k : Nat), (0 : Int) = (k : Int) ∧ k ≤ x.length) ∧ ∀ (k : Nat), k ≤ x.length → Lm eInclusion x ∧ (((decide ((k : Int) < ((x.length : Nat) : Int))) = true → 0 ≤ (k : Int) ∧ Em eInclusion x k fun e19 => 0 ≤ (k : Int) ∧ Em eInclusion x k fun e23 => Con Tryz.prog 159 [.agg [.str e19.name, .int .i64 e19.column, .str e19.into, .int .i64 e19.intoColumn], .agg [.str e23.name, .int .i64 e23.column, .str e23.into, .int .i64 e23.intoColumn]] (vB true) [] ∧ inR ((k : Int) + (1 : Int)) ∧ ∃ (k' : Nat), ((k : Int) + (1 : Int)) = (k' : Int) ∧ k' ≤ x.length ∧ x.length - k' < x.length - k) ∧ ((decide ((k : Int) < ((x.length : Nat) : Int))) = false → (true) = true ∧ True))))))) ?_
 intro n0 n1
 simp only [List.length_map] at n0 n1
 refine ⟨List.length_map _, List.length_map _, by simp, ⟨0, rfl, Nat.zero_le _⟩, fun k hk => ?_⟩
 refine ⟨List.length_map _, fun c1 => ?_, fun c1 => ?_⟩
 ·replace c1 := yq c1
  obtain ⟨y, hy⟩ := at_some (l := x) (k := k) (by omega)
  refine ⟨by omega, rfl, by omega, fun e19 h19 => ?_⟩
  try (obtain rfl := same_at hy h19)
  refine ⟨by omega, rfl, by omega, fun e23 h23 => ?_⟩
  try (obtain rfl := same_at hy h23)
  refine ⟨by first | exact eq_Inclusion e19 | exact eq_Inclusion _, ⟨by omega, by omega⟩, ?_⟩
  exact ⟨k + 1, rfl, by omega, by omega⟩
 ·replace c1 := nq c1
  refine ⟨?_, trivial⟩
  ·rfl
abbrev K_eq_Store (x : StoreD) : Prop := Con Tryz.prog 19 [.agg [.sl 162 3 (x.database.tables.map eTable), .int .i64 x.catalogue.version, .sl 121 4 (x.catalogue.tables.map eTableStats), .sl 168 3 (x.dependencies.map eDependency), .sl 170 4 (x.inclusions.map eInclusion)], .agg [.sl 162 3 (x.database.tables.map eTable), .int .i64 x.catalogue.version, .sl 121 4 (x.catalogue.tables.map eTableStats), .sl 168 3 (x.dependencies.map eDependency), .sl 170 4 (x.inclusions.map eInclusion)]] (vB true) []
theorem eq_Store (x : StoreD) : K_eq_Store x := by
 refine con_x tbOk mixedW Tryz.func19 (by kernel_rfl) (.call (vB true) [] <| .call (vB true) [] <| .call (vB true) [] <| .call (vB true) [] <| .fin []) ?_
 refine Eq.mpr (by kernel_rfl : _ = ((x.database.tables.map eTable).length ≤ 9223372036854775807 → (x.catalogue.tables.map eTableStats).length ≤ 9223372036854775807 → (x.dependencies.map eDependency).length ≤ 9223372036854775807 → (x.inclusions.map eInclusion).length ≤ 9223372036854775807 → (x.database.tables.map eTable).length ≤ 9223372036854775807 → (x.catalogue.tables.map eTableStats).length ≤ 9223372036854775807 → (x.dependencies.map eDependency).length ≤ 9223372036854775807 → (x.inclusions.map eInclusion).length ≤ 9223372036854775807 → K_eq_Database x.database ∧ K_eq_Catalogue x.catalogue ∧ K_eq_DependencyS x.dependencies ∧ K_eq_InclusionS x.inclusions ∧ (true) = true ∧ True)) ?_
 intro n0 n1 n2 n3 n4 n5 n6 n7
 simp only [List.length_map] at n0 n1 n2 n3 n4 n5 n6 n7
 refine ⟨by first | exact eq_Database x.database | exact eq_Database _, by first | exact eq_Catalogue x.catalogue | exact eq_Catalogue _, by first | exact eq_DependencyS x.dependencies | exact eq_DependencyS _, by first | exact eq_InclusionS x.inclusions | exact eq_InclusionS _, ?_, trivial⟩
 ·rfl
end Go.Proofs.YtokkjaflmcjlhaaGreat
