/-
  The laws' helpers: copies.
-/
import Derived.Test.YtjlagjhmlmfjeaaGreatDa
namespace Go.Proofs.YtjlagjhmlmfjeaaGreat
open Go.ChangeShapes Go.WideShapes Go.ChangeAt Go.RowKit
set_option linter.unusedVariables false
set_option linter.unusedSimpArgs false
set_option maxRecDepth 100000 in
set_option maxHeartbeats 4000000 in
theorem to_IntS (x : List Int) (hc : cIntS x ≤ 1048576) : Con Tryz.prog 22 [.one (.sl 3 1 (x.map intD))] (.own 0) [(0, .arr 3 1 true (x.map intD))] := by
  refine con_x tbOk mixedW Tryz.func22 (by kernel_rfl) (.len x.length <| .mk x.length [.int .i64 (0 : Int)] ((List.replicate x.length (0 : Int)).map intD) <| .loop (Nat × (List Int)) (Q2 Nat (List Int)) [3, 4, 8, 9, 10, 11, 12, 13, 14, 15, 16, 17, 18, 19, 20] [700] (fun yy0 => [(3, .own 700), (4, vI (yy0.1 : Int))]) (fun yy0 => [(700, some (.arr 3 1 true (yy0.2.map intD)))]) (fun yy0 => yy0.1 ≤ x.length ∧ yy0.2 = x.take yy0.1 ++ List.replicate (x.length - yy0.1) (0 : Int)) (fun yy0 => x.length - yy0.1) (fun yy0 => .len x.length <| .br (.elem Int intD x (fun e18 => .len yy0.2.length <| .set Int intD yy0.2 (fun s5_7 => e18) (fun s5_7 => .back [(700, 700)]))) (.fin [(0, 700)]))) ?_
  refine Eq.mpr (by kernel_rfl : _ = ((x.map intD).length ≤ 9223372036854775807 → (x.map intD).length = x.length ∧ (((x.length : Nat) : Int) = ((x.length : Nat) : Int) ∧ ((x.length : Nat) : Int) = ((x.length : Nat) : Int) ∧ 8 * x.length ≤ 281474976710656 ∧ x.length ≤ 9223372036854775807 ∧ List.replicate x.length [.int .i64 (0 : Int)] = (List.replicate x.length (0 : Int)).map intD ∧ ((∃ (k : Nat) (out : List Int), (0 : Int) = (k : Int) ∧ (List.replicate x.length (0 : Int)).map intD = out.map intD ∧ k ≤ x.length ∧ out = x.take k ++ List.replicate (x.length - k) (0 : Int)) ∧ ∀ (k : Nat) (out : List Int), (k ≤ x.length ∧ out = x.take k ++ List.replicate (x.length - k) (0 : Int)) → (x.map intD).length = x.length ∧ (((decide ((k : Int) < ((x.length : Nat) : Int))) = true → 0 ≤ (k : Int) ∧ (x.map intD = x.map intD ∧ k < x.length ∧ ∀ e18, x[k]? = some e18 → 0 ≤ (k : Int) ∧ (out.map intD).length = out.length ∧ (k : Int) < ((out.length : Nat) : Int) ∧ (out.map intD = out.map intD ∧ k < out.length ∧ ∀ s5_7, out[k]? = some s5_7 → flatB (intD s5_7) = true ∧ 0 + 1 ≤ (intD s5_7).length ∧ (intD s5_7).take 0 ++ [.int .i64 e18] ++ (intD s5_7).drop (0 + 1) = intD e18 ∧ inR ((k : Int) + (1 : Int)) ∧ ∃ (k' : Nat) (out' : List Int), ((k : Int) + (1 : Int)) = (k' : Int) ∧ (out.set k e18).map intD = out'.map intD ∧ (k' ≤ x.length ∧ out' = x.take k' ++ List.replicate (x.length - k') (0 : Int)) ∧ x.length - k' < x.length - k))) ∧ ((decide ((k : Int) < ((x.length : Nat) : Int))) = false → out.map intD = x.map intD ∧ True)))))) ?_
  intro n0
  simp only [List.length_map] at n0
  refine ⟨List.length_map _, ?_⟩
  refine ⟨rfl, rfl, by have := cIntS_len x; omega, by have := cIntS_len x; omega, by first | (rw [List.map_replicate]; done) | (rw [List.map_replicate]; rfl), ?_⟩
  refine ⟨⟨0, List.replicate x.length (0 : Int), rfl, rfl, Nat.zero_le _, by simp⟩, fun k out ⟨hk, ho⟩ => ?_⟩
  have hl : out.length = x.length := by rw [ho]; exact fill_len hk
  refine ⟨List.length_map _, ?_⟩
  refine ⟨fun c0 => ?_, fun c0 => ?_⟩
  · replace c0 := of_decide_eq_true c0
    refine ⟨by omega, ?_⟩
    refine ⟨rfl, by omega, fun e18 h18 => ?_⟩
    refine ⟨by omega, List.length_map _, by omega, ?_⟩
    refine ⟨rfl, by omega, fun s5_7 hs5_7 => ⟨rfl, Nat.le_of_ble_eq_true rfl, rfl, ?_⟩⟩
    refine ⟨⟨by omega, by omega⟩, ?_⟩
    exact ⟨k + 1, out.set k e18, rfl, rfl, ⟨by omega, by rw [ho]; exact fill_step ‹x[k]? = some _›⟩, by omega⟩
  · replace c0 := of_decide_eq_false c0
    refine ⟨?_, trivial⟩
    · rw [ho, fill_done hk (by omega)]

set_option maxRecDepth 100000 in
set_option maxHeartbeats 4000000 in
theorem to_IntSS (x : List (List Int)) (hc : cIntSS x ≤ 1048576) : Con Tryz.prog 173 [.one (.sl 25 1 (x.map eIntS))] (.own 0) [(0, .arr 25 1 true (x.map eIntS))] := by
  refine con_x tbOk mixedW Tryz.func173 (by kernel_rfl) (.len x.length <| .mk x.length [.sl 3 1 (([] : List Int).map intD)] ((List.replicate x.length ([] : List Int)).map eIntS) <| .loop (Nat × (List (List Int))) (Q2 Nat (List (List Int))) [3, 4, 8, 9, 10, 11, 12, 13, 14, 15, 16, 17, 18, 19, 20, 21] [700, 2000] (fun yy0 => [(3, .own 700), (4, vI (yy0.1 : Int))]) (fun yy0 => [(700, some (.arr 25 1 true (yy0.2.map eIntS)))]) (fun yy0 => yy0.1 ≤ x.length ∧ yy0.2 = x.take yy0.1 ++ List.replicate (x.length - yy0.1) ([] : List Int)) (fun yy0 => x.length - yy0.1) (fun yy0 => .len x.length <| .br (.elem (List Int) eIntS x (fun e18 => .call (.own 0) [(0, .arr 3 1 true (e18.map intD))] <| .len yy0.2.length <| .setm (List Int) eIntS yy0.2 (fun s5_8 => e18) (fun s5_8 => .back [(700, 700)]))) (.fin [(0, 700)]))) ?_
  refine Eq.mpr (by kernel_rfl : _ = ((x.map eIntS).length ≤ 9223372036854775807 → (x.map eIntS).length = x.length ∧ (((x.length : Nat) : Int) = ((x.length : Nat) : Int) ∧ ((x.length : Nat) : Int) = ((x.length : Nat) : Int) ∧ 24 * x.length ≤ 281474976710656 ∧ x.length ≤ 9223372036854775807 ∧ List.replicate x.length [.sl 3 1 (([] : List Int).map intD)] = (List.replicate x.length ([] : List Int)).map eIntS ∧ ((∃ (k : Nat) (out : List (List Int)), (0 : Int) = (k : Int) ∧ (List.replicate x.length ([] : List Int)).map eIntS = out.map eIntS ∧ k ≤ x.length ∧ out = x.take k ++ List.replicate (x.length - k) ([] : List Int)) ∧ ∀ (k : Nat) (out : List (List Int)), (k ≤ x.length ∧ out = x.take k ++ List.replicate (x.length - k) ([] : List Int)) → (x.map eIntS).length = x.length ∧ (((decide ((k : Int) < ((x.length : Nat) : Int))) = true → 0 ≤ (k : Int) ∧ (x.map eIntS = x.map eIntS ∧ k < x.length ∧ ∀ e18, x[k]? = some e18 → Con Tryz.prog 22 [.one (.sl 3 1 (e18.map intD))] (.own 0) [(0, .arr 3 1 true (e18.map intD))] ∧ (0 ≤ (k : Int) ∧ (out.map eIntS).length = out.length ∧ (k : Int) < ((out.length : Nat) : Int) ∧ (out.map eIntS = out.map eIntS ∧ k < out.length ∧ ∀ s5_8, out[k]? = some s5_8 → 0 + 1 ≤ (eIntS s5_8).length ∧ (eIntS s5_8).take 0 ++ ((eIntS e18).drop 0).take 1 ++ (eIntS s5_8).drop (0 + 1) = eIntS e18 ∧ e18.map intD = e18.map intD ∧ inR ((k : Int) + (1 : Int)) ∧ ∃ (k' : Nat) (out' : List (List Int)), ((k : Int) + (1 : Int)) = (k' : Int) ∧ (out.set k e18).map eIntS = out'.map eIntS ∧ (k' ≤ x.length ∧ out' = x.take k' ++ List.replicate (x.length - k') ([] : List Int)) ∧ x.length - k' < x.length - k)))) ∧ ((decide ((k : Int) < ((x.length : Nat) : Int))) = false → out.map eIntS = x.map eIntS ∧ True)))))) ?_
  intro n0
  simp only [List.length_map] at n0
  refine ⟨List.length_map _, ?_⟩
  refine ⟨rfl, rfl, by have := cIntSS_len x; omega, by have := cIntSS_len x; omega, by first | (rw [List.map_replicate]; done) | (rw [List.map_replicate]; rfl), ?_⟩
  refine ⟨⟨0, List.replicate x.length ([] : List Int), rfl, rfl, Nat.zero_le _, by simp⟩, fun k out ⟨hk, ho⟩ => ?_⟩
  have hl : out.length = x.length := by rw [ho]; exact fill_len hk
  refine ⟨List.length_map _, ?_⟩
  refine ⟨fun c0 => ?_, fun c0 => ?_⟩
  · replace c0 := of_decide_eq_true c0
    refine ⟨by omega, ?_⟩
    refine ⟨rfl, by omega, fun e18 h18 => ?_⟩
    refine ⟨to_IntS e18 (by first | omega | (have := cIntSS_el ‹x[k]? = some _›; omega)), ?_⟩
    refine ⟨by omega, List.length_map _, by omega, ?_⟩
    refine ⟨rfl, by omega, fun s5_8 hs5_8 => ?_⟩
    refine ⟨Nat.le_of_ble_eq_true rfl, rfl, rfl, ?_⟩
    refine ⟨⟨by omega, by omega⟩, ?_⟩
    exact ⟨k + 1, out.set k e18, rfl, rfl, ⟨by omega, by rw [ho]; exact fill_step ‹x[k]? = some _›⟩, by omega⟩
  · replace c0 := of_decide_eq_false c0
    refine ⟨?_, trivial⟩
    · rw [ho, fill_done hk (by omega)]

set_option maxRecDepth 100000 in
set_option maxHeartbeats 4000000 in
theorem to_Table (x : TableD) (hc : cTable x ≤ 1048576) : Con Tryz.prog 161 [.agg [.str x.name, .int .i64 x.arity, .sl 25 1 (x.rows.map eIntS)]] (.agg [.p none (.str x.name), vI x.arity, .own 0]) [(0, .arr 25 1 true (x.rows.map eIntS))] := by
  refine con_x tbOk mixedW Tryz.func161 (by kernel_rfl) (.call (.own 0) [(0, .arr 25 1 true (x.rows.map eIntS))] <| .fin [(0, 1200)]) ?_
  refine Eq.mpr (by kernel_rfl : _ = ((x.rows.map eIntS).length ≤ 9223372036854775807 → Con Tryz.prog 173 [.one (.sl 25 1 (x.rows.map eIntS))] (.own 0) [(0, .arr 25 1 true (x.rows.map eIntS))] ∧ x.name = x.name ∧ x.arity = x.arity ∧ x.rows.map eIntS = x.rows.map eIntS ∧ True)) ?_
  intro n0
  simp only [List.length_map] at n0
  unfold cTable at hc
  refine ⟨to_IntSS x.rows (by first | omega | (have := cIntSSS_el ‹x[k]? = some _›; omega)), ?_⟩
  exact ⟨rfl, rfl, rfl, trivial⟩

set_option maxRecDepth 100000 in
set_option maxHeartbeats 4000000 in
theorem to_TableS (x : List TableD) (hc : cTableS x ≤ 1048576) : Con Tryz.prog 104 [.one (.sl 107 3 (x.map eTable))] (.own 0) [(0, .arr 107 3 true (x.map eTable))] := by
  refine con_x tbOk mixedW Tryz.func104 (by kernel_rfl) (.len x.length <| .mk x.length [.str zTable.name, .int .i64 zTable.arity, .sl 25 1 (zTable.rows.map eIntS)] ((List.replicate x.length zTable).map eTable) <| .loop (Nat × (List TableD)) (Q2 Nat (List TableD)) [3, 4, 8, 9, 10, 11, 12, 13, 14, 15, 16, 17, 18, 19, 20, 21] [700, 2000] (fun yy0 => [(3, .own 700), (4, vI (yy0.1 : Int))]) (fun yy0 => [(700, some (.arr 107 3 true (yy0.2.map eTable)))]) (fun yy0 => yy0.1 ≤ x.length ∧ yy0.2 = x.take yy0.1 ++ List.replicate (x.length - yy0.1) zTable) (fun yy0 => x.length - yy0.1) (fun yy0 => .len x.length <| .br (.elem TableD eTable x (fun e18 => .call (.agg [.p none (.str e18.name), vI e18.arity, .own 0]) [(0, .arr 25 1 true (e18.rows.map eIntS))] <| .len yy0.2.length <| .setm TableD eTable yy0.2 (fun s5_8 => e18) (fun s5_8 => .back [(700, 700)]))) (.fin [(0, 700)]))) ?_
  refine Eq.mpr (by kernel_rfl : _ = ((x.map eTable).length ≤ 9223372036854775807 → (x.map eTable).length = x.length ∧ (((x.length : Nat) : Int) = ((x.length : Nat) : Int) ∧ ((x.length : Nat) : Int) = ((x.length : Nat) : Int) ∧ 48 * x.length ≤ 281474976710656 ∧ x.length ≤ 9223372036854775807 ∧ List.replicate x.length [.str zTable.name, .int .i64 zTable.arity, .sl 25 1 (zTable.rows.map eIntS)] = (List.replicate x.length zTable).map eTable ∧ ((∃ (k : Nat) (out : List TableD), (0 : Int) = (k : Int) ∧ (List.replicate x.length zTable).map eTable = out.map eTable ∧ k ≤ x.length ∧ out = x.take k ++ List.replicate (x.length - k) zTable) ∧ ∀ (k : Nat) (out : List TableD), (k ≤ x.length ∧ out = x.take k ++ List.replicate (x.length - k) zTable) → (x.map eTable).length = x.length ∧ (((decide ((k : Int) < ((x.length : Nat) : Int))) = true → 0 ≤ (k : Int) ∧ (x.map eTable = x.map eTable ∧ k < x.length ∧ ∀ e18, x[k]? = some e18 → Con Tryz.prog 161 [.agg [.str e18.name, .int .i64 e18.arity, .sl 25 1 (e18.rows.map eIntS)]] (.agg [.p none (.str e18.name), vI e18.arity, .own 0]) [(0, .arr 25 1 true (e18.rows.map eIntS))] ∧ (0 ≤ (k : Int) ∧ (out.map eTable).length = out.length ∧ (k : Int) < ((out.length : Nat) : Int) ∧ (out.map eTable = out.map eTable ∧ k < out.length ∧ ∀ s5_8, out[k]? = some s5_8 → 0 + 3 ≤ (eTable s5_8).length ∧ (eTable s5_8).take 0 ++ ((eTable e18).drop 0).take 3 ++ (eTable s5_8).drop (0 + 3) = eTable e18 ∧ e18.name = e18.name ∧ e18.arity = e18.arity ∧ e18.rows.map eIntS = e18.rows.map eIntS ∧ inR ((k : Int) + (1 : Int)) ∧ ∃ (k' : Nat) (out' : List TableD), ((k : Int) + (1 : Int)) = (k' : Int) ∧ (out.set k e18).map eTable = out'.map eTable ∧ (k' ≤ x.length ∧ out' = x.take k' ++ List.replicate (x.length - k') zTable) ∧ x.length - k' < x.length - k)))) ∧ ((decide ((k : Int) < ((x.length : Nat) : Int))) = false → out.map eTable = x.map eTable ∧ True)))))) ?_
  intro n0
  simp only [List.length_map] at n0
  refine ⟨List.length_map _, ?_⟩
  refine ⟨rfl, rfl, by have := cTableS_len x; omega, by have := cTableS_len x; omega, by first | (rw [List.map_replicate]; done) | (rw [List.map_replicate]; rfl), ?_⟩
  refine ⟨⟨0, List.replicate x.length zTable, rfl, rfl, Nat.zero_le _, by simp⟩, fun k out ⟨hk, ho⟩ => ?_⟩
  have hl : out.length = x.length := by rw [ho]; exact fill_len hk
  refine ⟨List.length_map _, ?_⟩
  refine ⟨fun c0 => ?_, fun c0 => ?_⟩
  · replace c0 := of_decide_eq_true c0
    refine ⟨by omega, ?_⟩
    refine ⟨rfl, by omega, fun e18 h18 => ?_⟩
    refine ⟨to_Table e18 (by first | omega | (have := cTableS_el ‹x[k]? = some _›; omega)), ?_⟩
    refine ⟨by omega, List.length_map _, by omega, ?_⟩
    refine ⟨rfl, by omega, fun s5_8 hs5_8 => ?_⟩
    refine ⟨Nat.le_of_ble_eq_true rfl, rfl, rfl, rfl, rfl, ?_⟩
    refine ⟨⟨by omega, by omega⟩, ?_⟩
    exact ⟨k + 1, out.set k e18, rfl, rfl, ⟨by omega, by rw [ho]; exact fill_step ‹x[k]? = some _›⟩, by omega⟩
  · replace c0 := of_decide_eq_false c0
    refine ⟨?_, trivial⟩
    · rw [ho, fill_done hk (by omega)]

set_option maxRecDepth 100000 in
set_option maxHeartbeats 4000000 in
theorem to_Database (x : DatabaseD) (hc : cDatabase x ≤ 1048576) : Con Tryz.prog 49 [.agg [.sl 107 3 (x.tables.map eTable)]] (.agg [.own 0]) [(0, .arr 107 3 true (x.tables.map eTable))] := by
  refine con_x tbOk mixedW Tryz.func49 (by kernel_rfl) (.call (.own 0) [(0, .arr 107 3 true (x.tables.map eTable))] <| .fin [(0, 600)]) ?_
  refine Eq.mpr (by kernel_rfl : _ = ((x.tables.map eTable).length ≤ 9223372036854775807 → Con Tryz.prog 104 [.one (.sl 107 3 (x.tables.map eTable))] (.own 0) [(0, .arr 107 3 true (x.tables.map eTable))] ∧ x.tables.map eTable = x.tables.map eTable ∧ True)) ?_
  intro n0
  simp only [List.length_map] at n0
  unfold cDatabase at hc
  refine ⟨to_TableS x.tables (by first | omega | (have := cTableSS_el ‹x[k]? = some _›; omega)), ?_⟩
  exact ⟨rfl, trivial⟩

set_option maxRecDepth 100000 in
set_option maxHeartbeats 4000000 in
theorem to_GroupStats (x : GroupStatsD) (hc : cGroupStats x ≤ 1048576) : Con Tryz.prog 129 [.agg [.sl 3 1 (x.columns.map intD), .sl 25 1 (x.values.map eIntS), .sl 3 1 (x.counts.map intD)]] (.agg [.own 0, .own 1, .own 2]) [(0, .arr 3 1 true (x.columns.map intD)), (1, .arr 25 1 true (x.values.map eIntS)), (2, .arr 3 1 true (x.counts.map intD))] := by
  refine con_x tbOk mixedW Tryz.func129 (by kernel_rfl) (.call (.own 0) [(0, .arr 3 1 true (x.columns.map intD))] <| .call (.own 0) [(0, .arr 25 1 true (x.values.map eIntS))] <| .call (.own 0) [(0, .arr 3 1 true (x.counts.map intD))] <| .fin [(0, 600), (1, 1000), (2, 1400)]) ?_
  refine Eq.mpr (by kernel_rfl : _ = ((x.columns.map intD).length ≤ 9223372036854775807 → (x.values.map eIntS).length ≤ 9223372036854775807 → (x.counts.map intD).length ≤ 9223372036854775807 → Con Tryz.prog 22 [.one (.sl 3 1 (x.columns.map intD))] (.own 0) [(0, .arr 3 1 true (x.columns.map intD))] ∧ Con Tryz.prog 173 [.one (.sl 25 1 (x.values.map eIntS))] (.own 0) [(0, .arr 25 1 true (x.values.map eIntS))] ∧ Con Tryz.prog 22 [.one (.sl 3 1 (x.counts.map intD))] (.own 0) [(0, .arr 3 1 true (x.counts.map intD))] ∧ x.columns.map intD = x.columns.map intD ∧ x.values.map eIntS = x.values.map eIntS ∧ x.counts.map intD = x.counts.map intD ∧ True)) ?_
  intro n0 n1 n2
  simp only [List.length_map] at n0 n1 n2
  unfold cGroupStats at hc
  refine ⟨to_IntS x.columns (by first | omega | (have := cIntSS_el ‹x[k]? = some _›; omega)), ?_⟩
  refine ⟨to_IntSS x.values (by first | omega | (have := cIntSSS_el ‹x[k]? = some _›; omega)), ?_⟩
  refine ⟨to_IntS x.counts (by first | omega | (have := cIntSS_el ‹x[k]? = some _›; omega)), ?_⟩
  exact ⟨rfl, rfl, rfl, trivial⟩

set_option maxRecDepth 100000 in
set_option maxHeartbeats 4000000 in
theorem to_GroupStatsS (x : List GroupStatsD) (hc : cGroupStatsS x ≤ 1048576) : Con Tryz.prog 69 [.one (.sl 157 3 (x.map eGroupStats))] (.own 0) [(0, .arr 157 3 true (x.map eGroupStats))] := by
  refine con_x tbOk mixedW Tryz.func69 (by kernel_rfl) (.len x.length <| .mk x.length [.sl 3 1 (zGroupStats.columns.map intD), .sl 25 1 (zGroupStats.values.map eIntS), .sl 3 1 (zGroupStats.counts.map intD)] ((List.replicate x.length zGroupStats).map eGroupStats) <| .loop (Nat × (List GroupStatsD)) (Q2 Nat (List GroupStatsD)) [3, 4, 8, 9, 10, 11, 12, 13, 14, 15, 16, 17, 18, 19, 20, 21] [700, 2000, 2001, 2002] (fun yy0 => [(3, .own 700), (4, vI (yy0.1 : Int))]) (fun yy0 => [(700, some (.arr 157 3 true (yy0.2.map eGroupStats)))]) (fun yy0 => yy0.1 ≤ x.length ∧ yy0.2 = x.take yy0.1 ++ List.replicate (x.length - yy0.1) zGroupStats) (fun yy0 => x.length - yy0.1) (fun yy0 => .len x.length <| .br (.elem GroupStatsD eGroupStats x (fun e18 => .call (.agg [.own 0, .own 1, .own 2]) [(0, .arr 3 1 true (e18.columns.map intD)), (1, .arr 25 1 true (e18.values.map eIntS)), (2, .arr 3 1 true (e18.counts.map intD))] <| .len yy0.2.length <| .setm GroupStatsD eGroupStats yy0.2 (fun s5_8 => e18) (fun s5_8 => .back [(700, 700)]))) (.fin [(0, 700)]))) ?_
  refine Eq.mpr (by kernel_rfl : _ = ((x.map eGroupStats).length ≤ 9223372036854775807 → (x.map eGroupStats).length = x.length ∧ (((x.length : Nat) : Int) = ((x.length : Nat) : Int) ∧ ((x.length : Nat) : Int) = ((x.length : Nat) : Int) ∧ 72 * x.length ≤ 281474976710656 ∧ x.length ≤ 9223372036854775807 ∧ List.replicate x.length [.sl 3 1 (zGroupStats.columns.map intD), .sl 25 1 (zGroupStats.values.map eIntS), .sl 3 1 (zGroupStats.counts.map intD)] = (List.replicate x.length zGroupStats).map eGroupStats ∧ ((∃ (k : Nat) (out : List GroupStatsD), (0 : Int) = (k : Int) ∧ (List.replicate x.length zGroupStats).map eGroupStats = out.map eGroupStats ∧ k ≤ x.length ∧ out = x.take k ++ List.replicate (x.length - k) zGroupStats) ∧ ∀ (k : Nat) (out : List GroupStatsD), (k ≤ x.length ∧ out = x.take k ++ List.replicate (x.length - k) zGroupStats) → (x.map eGroupStats).length = x.length ∧ (((decide ((k : Int) < ((x.length : Nat) : Int))) = true → 0 ≤ (k : Int) ∧ (x.map eGroupStats = x.map eGroupStats ∧ k < x.length ∧ ∀ e18, x[k]? = some e18 → Con Tryz.prog 129 [.agg [.sl 3 1 (e18.columns.map intD), .sl 25 1 (e18.values.map eIntS), .sl 3 1 (e18.counts.map intD)]] (.agg [.own 0, .own 1, .own 2]) [(0, .arr 3 1 true (e18.columns.map intD)), (1, .arr 25 1 true (e18.values.map eIntS)), (2, .arr 3 1 true (e18.counts.map intD))] ∧ (0 ≤ (k : Int) ∧ (out.map eGroupStats).length = out.length ∧ (k : Int) < ((out.length : Nat) : Int) ∧ (out.map eGroupStats = out.map eGroupStats ∧ k < out.length ∧ ∀ s5_8, out[k]? = some s5_8 → 0 + 3 ≤ (eGroupStats s5_8).length ∧ (eGroupStats s5_8).take 0 ++ ((eGroupStats e18).drop 0).take 3 ++ (eGroupStats s5_8).drop (0 + 3) = eGroupStats e18 ∧ e18.columns.map intD = e18.columns.map intD ∧ e18.values.map eIntS = e18.values.map eIntS ∧ e18.counts.map intD = e18.counts.map intD ∧ inR ((k : Int) + (1 : Int)) ∧ ∃ (k' : Nat) (out' : List GroupStatsD), ((k : Int) + (1 : Int)) = (k' : Int) ∧ (out.set k e18).map eGroupStats = out'.map eGroupStats ∧ (k' ≤ x.length ∧ out' = x.take k' ++ List.replicate (x.length - k') zGroupStats) ∧ x.length - k' < x.length - k)))) ∧ ((decide ((k : Int) < ((x.length : Nat) : Int))) = false → out.map eGroupStats = x.map eGroupStats ∧ True)))))) ?_
  intro n0
  simp only [List.length_map] at n0
  refine ⟨List.length_map _, ?_⟩
  refine ⟨rfl, rfl, by have := cGroupStatsS_len x; omega, by have := cGroupStatsS_len x; omega, by first | (rw [List.map_replicate]; done) | (rw [List.map_replicate]; rfl), ?_⟩
  refine ⟨⟨0, List.replicate x.length zGroupStats, rfl, rfl, Nat.zero_le _, by simp⟩, fun k out ⟨hk, ho⟩ => ?_⟩
  have hl : out.length = x.length := by rw [ho]; exact fill_len hk
  refine ⟨List.length_map _, ?_⟩
  refine ⟨fun c0 => ?_, fun c0 => ?_⟩
  · replace c0 := of_decide_eq_true c0
    refine ⟨by omega, ?_⟩
    refine ⟨rfl, by omega, fun e18 h18 => ?_⟩
    refine ⟨to_GroupStats e18 (by first | omega | (have := cGroupStatsS_el ‹x[k]? = some _›; omega)), ?_⟩
    refine ⟨by omega, List.length_map _, by omega, ?_⟩
    refine ⟨rfl, by omega, fun s5_8 hs5_8 => ?_⟩
    refine ⟨Nat.le_of_ble_eq_true rfl, rfl, rfl, rfl, rfl, ?_⟩
    refine ⟨⟨by omega, by omega⟩, ?_⟩
    exact ⟨k + 1, out.set k e18, rfl, rfl, ⟨by omega, by rw [ho]; exact fill_step ‹x[k]? = some _›⟩, by omega⟩
  · replace c0 := of_decide_eq_false c0
    refine ⟨?_, trivial⟩
    · rw [ho, fill_done hk (by omega)]

set_option maxRecDepth 100000 in
set_option maxHeartbeats 4000000 in
theorem to_TableStats (x : TableStatsD) (hc : cTableStats x ≤ 1048576) : Con Tryz.prog 13 [.agg [.str x.name, .int .i64 x.arity, .int .i64 x.rowCount, .sl 157 3 (x.groups.map eGroupStats)]] (.agg [.p none (.str x.name), vI x.arity, vI x.rowCount, .own 0]) [(0, .arr 157 3 true (x.groups.map eGroupStats))] := by
  refine con_x tbOk mixedW Tryz.func13 (by kernel_rfl) (.call (.own 0) [(0, .arr 157 3 true (x.groups.map eGroupStats))] <| .fin [(0, 1500)]) ?_
  refine Eq.mpr (by kernel_rfl : _ = ((x.groups.map eGroupStats).length ≤ 9223372036854775807 → Con Tryz.prog 69 [.one (.sl 157 3 (x.groups.map eGroupStats))] (.own 0) [(0, .arr 157 3 true (x.groups.map eGroupStats))] ∧ x.name = x.name ∧ x.arity = x.arity ∧ x.rowCount = x.rowCount ∧ x.groups.map eGroupStats = x.groups.map eGroupStats ∧ True)) ?_
  intro n0
  simp only [List.length_map] at n0
  unfold cTableStats at hc
  refine ⟨to_GroupStatsS x.groups (by first | omega | (have := cGroupStatsSS_el ‹x[k]? = some _›; omega)), ?_⟩
  exact ⟨rfl, rfl, rfl, rfl, trivial⟩

set_option maxRecDepth 100000 in
set_option maxHeartbeats 4000000 in
theorem to_TableStatsS (x : List TableStatsD) (hc : cTableStatsS x ≤ 1048576) : Con Tryz.prog 154 [.one (.sl 32 4 (x.map eTableStats))] (.own 0) [(0, .arr 32 4 true (x.map eTableStats))] := by
  refine con_x tbOk mixedW Tryz.func154 (by kernel_rfl) (.len x.length <| .mk x.length [.str zTableStats.name, .int .i64 zTableStats.arity, .int .i64 zTableStats.rowCount, .sl 157 3 (zTableStats.groups.map eGroupStats)] ((List.replicate x.length zTableStats).map eTableStats) <| .loop (Nat × (List TableStatsD)) (Q2 Nat (List TableStatsD)) [3, 4, 8, 9, 10, 11, 12, 13, 14, 15, 16, 17, 18, 19, 20, 21] [700, 2000] (fun yy0 => [(3, .own 700), (4, vI (yy0.1 : Int))]) (fun yy0 => [(700, some (.arr 32 4 true (yy0.2.map eTableStats)))]) (fun yy0 => yy0.1 ≤ x.length ∧ yy0.2 = x.take yy0.1 ++ List.replicate (x.length - yy0.1) zTableStats) (fun yy0 => x.length - yy0.1) (fun yy0 => .len x.length <| .br (.elem TableStatsD eTableStats x (fun e18 => .call (.agg [.p none (.str e18.name), vI e18.arity, vI e18.rowCount, .own 0]) [(0, .arr 157 3 true (e18.groups.map eGroupStats))] <| .len yy0.2.length <| .setm TableStatsD eTableStats yy0.2 (fun s5_8 => e18) (fun s5_8 => .back [(700, 700)]))) (.fin [(0, 700)]))) ?_
  refine Eq.mpr (by kernel_rfl : _ = ((x.map eTableStats).length ≤ 9223372036854775807 → (x.map eTableStats).length = x.length ∧ (((x.length : Nat) : Int) = ((x.length : Nat) : Int) ∧ ((x.length : Nat) : Int) = ((x.length : Nat) : Int) ∧ 56 * x.length ≤ 281474976710656 ∧ x.length ≤ 9223372036854775807 ∧ List.replicate x.length [.str zTableStats.name, .int .i64 zTableStats.arity, .int .i64 zTableStats.rowCount, .sl 157 3 (zTableStats.groups.map eGroupStats)] = (List.replicate x.length zTableStats).map eTableStats ∧ ((∃ (k : Nat) (out : List TableStatsD), (0 : Int) = (k : Int) ∧ (List.replicate x.length zTableStats).map eTableStats = out.map eTableStats ∧ k ≤ x.length ∧ out = x.take k ++ List.replicate (x.length - k) zTableStats) ∧ ∀ (k : Nat) (out : List TableStatsD), (k ≤ x.length ∧ out = x.take k ++ List.replicate (x.length - k) zTableStats) → (x.map eTableStats).length = x.length ∧ (((decide ((k : Int) < ((x.length : Nat) : Int))) = true → 0 ≤ (k : Int) ∧ (x.map eTableStats = x.map eTableStats ∧ k < x.length ∧ ∀ e18, x[k]? = some e18 → Con Tryz.prog 13 [.agg [.str e18.name, .int .i64 e18.arity, .int .i64 e18.rowCount, .sl 157 3 (e18.groups.map eGroupStats)]] (.agg [.p none (.str e18.name), vI e18.arity, vI e18.rowCount, .own 0]) [(0, .arr 157 3 true (e18.groups.map eGroupStats))] ∧ (0 ≤ (k : Int) ∧ (out.map eTableStats).length = out.length ∧ (k : Int) < ((out.length : Nat) : Int) ∧ (out.map eTableStats = out.map eTableStats ∧ k < out.length ∧ ∀ s5_8, out[k]? = some s5_8 → 0 + 4 ≤ (eTableStats s5_8).length ∧ (eTableStats s5_8).take 0 ++ ((eTableStats e18).drop 0).take 4 ++ (eTableStats s5_8).drop (0 + 4) = eTableStats e18 ∧ e18.name = e18.name ∧ e18.arity = e18.arity ∧ e18.rowCount = e18.rowCount ∧ e18.groups.map eGroupStats = e18.groups.map eGroupStats ∧ inR ((k : Int) + (1 : Int)) ∧ ∃ (k' : Nat) (out' : List TableStatsD), ((k : Int) + (1 : Int)) = (k' : Int) ∧ (out.set k e18).map eTableStats = out'.map eTableStats ∧ (k' ≤ x.length ∧ out' = x.take k' ++ List.replicate (x.length - k') zTableStats) ∧ x.length - k' < x.length - k)))) ∧ ((decide ((k : Int) < ((x.length : Nat) : Int))) = false → out.map eTableStats = x.map eTableStats ∧ True)))))) ?_
  intro n0
  simp only [List.length_map] at n0
  refine ⟨List.length_map _, ?_⟩
  refine ⟨rfl, rfl, by have := cTableStatsS_len x; omega, by have := cTableStatsS_len x; omega, by first | (rw [List.map_replicate]; done) | (rw [List.map_replicate]; rfl), ?_⟩
  refine ⟨⟨0, List.replicate x.length zTableStats, rfl, rfl, Nat.zero_le _, by simp⟩, fun k out ⟨hk, ho⟩ => ?_⟩
  have hl : out.length = x.length := by rw [ho]; exact fill_len hk
  refine ⟨List.length_map _, ?_⟩
  refine ⟨fun c0 => ?_, fun c0 => ?_⟩
  · replace c0 := of_decide_eq_true c0
    refine ⟨by omega, ?_⟩
    refine ⟨rfl, by omega, fun e18 h18 => ?_⟩
    refine ⟨to_TableStats e18 (by first | omega | (have := cTableStatsS_el ‹x[k]? = some _›; omega)), ?_⟩
    refine ⟨by omega, List.length_map _, by omega, ?_⟩
    refine ⟨rfl, by omega, fun s5_8 hs5_8 => ?_⟩
    refine ⟨Nat.le_of_ble_eq_true rfl, rfl, rfl, rfl, rfl, rfl, ?_⟩
    refine ⟨⟨by omega, by omega⟩, ?_⟩
    exact ⟨k + 1, out.set k e18, rfl, rfl, ⟨by omega, by rw [ho]; exact fill_step ‹x[k]? = some _›⟩, by omega⟩
  · replace c0 := of_decide_eq_false c0
    refine ⟨?_, trivial⟩
    · rw [ho, fill_done hk (by omega)]

set_option maxRecDepth 100000 in
set_option maxHeartbeats 4000000 in
theorem to_Catalogue (x : CatalogueD) (hc : cCatalogue x ≤ 1048576) : Con Tryz.prog 94 [.agg [.int .i64 x.version, .sl 32 4 (x.tables.map eTableStats)]] (.agg [vI x.version, .own 0]) [(0, .arr 32 4 true (x.tables.map eTableStats))] := by
  refine con_x tbOk mixedW Tryz.func94 (by kernel_rfl) (.call (.own 0) [(0, .arr 32 4 true (x.tables.map eTableStats))] <| .fin [(0, 900)]) ?_
  refine Eq.mpr (by kernel_rfl : _ = ((x.tables.map eTableStats).length ≤ 9223372036854775807 → Con Tryz.prog 154 [.one (.sl 32 4 (x.tables.map eTableStats))] (.own 0) [(0, .arr 32 4 true (x.tables.map eTableStats))] ∧ x.version = x.version ∧ x.tables.map eTableStats = x.tables.map eTableStats ∧ True)) ?_
  intro n0
  simp only [List.length_map] at n0
  unfold cCatalogue at hc
  refine ⟨to_TableStatsS x.tables (by first | omega | (have := cTableStatsSS_el ‹x[k]? = some _›; omega)), ?_⟩
  exact ⟨rfl, rfl, trivial⟩

set_option maxRecDepth 100000 in
set_option maxHeartbeats 4000000 in
theorem to_Dependency (x : DependencyD) (hc : cDependency x ≤ 1048576) : Con Tryz.prog 105 [.agg [.str x.name, .sl 3 1 (x.src.map intD), .int .i64 x.dst]] (.agg [.p none (.str x.name), .own 0, vI x.dst]) [(0, .arr 3 1 true (x.src.map intD))] := by
  refine con_x tbOk mixedW Tryz.func105 (by kernel_rfl) (.call (.own 0) [(0, .arr 3 1 true (x.src.map intD))] <| .fin [(0, 900)]) ?_
  refine Eq.mpr (by kernel_rfl : _ = ((x.src.map intD).length ≤ 9223372036854775807 → Con Tryz.prog 22 [.one (.sl 3 1 (x.src.map intD))] (.own 0) [(0, .arr 3 1 true (x.src.map intD))] ∧ x.name = x.name ∧ x.dst = x.dst ∧ x.src.map intD = x.src.map intD ∧ True)) ?_
  intro n0
  simp only [List.length_map] at n0
  unfold cDependency at hc
  refine ⟨to_IntS x.src (by first | omega | (have := cIntSS_el ‹x[k]? = some _›; omega)), ?_⟩
  exact ⟨rfl, rfl, rfl, trivial⟩

set_option maxRecDepth 100000 in
set_option maxHeartbeats 4000000 in
theorem to_DependencyS (x : List DependencyD) (hc : cDependencyS x ≤ 1048576) : Con Tryz.prog 50 [.one (.sl 142 3 (x.map eDependency))] (.own 0) [(0, .arr 142 3 true (x.map eDependency))] := by
  refine con_x tbOk mixedW Tryz.func50 (by kernel_rfl) (.len x.length <| .mk x.length [.str zDependency.name, .sl 3 1 (zDependency.src.map intD), .int .i64 zDependency.dst] ((List.replicate x.length zDependency).map eDependency) <| .loop (Nat × (List DependencyD)) (Q2 Nat (List DependencyD)) [3, 4, 8, 9, 10, 11, 12, 13, 14, 15, 16, 17, 18, 19, 20, 21] [700, 2000] (fun yy0 => [(3, .own 700), (4, vI (yy0.1 : Int))]) (fun yy0 => [(700, some (.arr 142 3 true (yy0.2.map eDependency)))]) (fun yy0 => yy0.1 ≤ x.length ∧ yy0.2 = x.take yy0.1 ++ List.replicate (x.length - yy0.1) zDependency) (fun yy0 => x.length - yy0.1) (fun yy0 => .len x.length <| .br (.elem DependencyD eDependency x (fun e18 => .call (.agg [.p none (.str e18.name), .own 0, vI e18.dst]) [(0, .arr 3 1 true (e18.src.map intD))] <| .len yy0.2.length <| .setm DependencyD eDependency yy0.2 (fun s5_8 => e18) (fun s5_8 => .back [(700, 700)]))) (.fin [(0, 700)]))) ?_
  refine Eq.mpr (by kernel_rfl : _ = ((x.map eDependency).length ≤ 9223372036854775807 → (x.map eDependency).length = x.length ∧ (((x.length : Nat) : Int) = ((x.length : Nat) : Int) ∧ ((x.length : Nat) : Int) = ((x.length : Nat) : Int) ∧ 48 * x.length ≤ 281474976710656 ∧ x.length ≤ 9223372036854775807 ∧ List.replicate x.length [.str zDependency.name, .sl 3 1 (zDependency.src.map intD), .int .i64 zDependency.dst] = (List.replicate x.length zDependency).map eDependency ∧ ((∃ (k : Nat) (out : List DependencyD), (0 : Int) = (k : Int) ∧ (List.replicate x.length zDependency).map eDependency = out.map eDependency ∧ k ≤ x.length ∧ out = x.take k ++ List.replicate (x.length - k) zDependency) ∧ ∀ (k : Nat) (out : List DependencyD), (k ≤ x.length ∧ out = x.take k ++ List.replicate (x.length - k) zDependency) → (x.map eDependency).length = x.length ∧ (((decide ((k : Int) < ((x.length : Nat) : Int))) = true → 0 ≤ (k : Int) ∧ (x.map eDependency = x.map eDependency ∧ k < x.length ∧ ∀ e18, x[k]? = some e18 → Con Tryz.prog 105 [.agg [.str e18.name, .sl 3 1 (e18.src.map intD), .int .i64 e18.dst]] (.agg [.p none (.str e18.name), .own 0, vI e18.dst]) [(0, .arr 3 1 true (e18.src.map intD))] ∧ (0 ≤ (k : Int) ∧ (out.map eDependency).length = out.length ∧ (k : Int) < ((out.length : Nat) : Int) ∧ (out.map eDependency = out.map eDependency ∧ k < out.length ∧ ∀ s5_8, out[k]? = some s5_8 → 0 + 3 ≤ (eDependency s5_8).length ∧ (eDependency s5_8).take 0 ++ ((eDependency e18).drop 0).take 3 ++ (eDependency s5_8).drop (0 + 3) = eDependency e18 ∧ e18.name = e18.name ∧ e18.src.map intD = e18.src.map intD ∧ e18.dst = e18.dst ∧ inR ((k : Int) + (1 : Int)) ∧ ∃ (k' : Nat) (out' : List DependencyD), ((k : Int) + (1 : Int)) = (k' : Int) ∧ (out.set k e18).map eDependency = out'.map eDependency ∧ (k' ≤ x.length ∧ out' = x.take k' ++ List.replicate (x.length - k') zDependency) ∧ x.length - k' < x.length - k)))) ∧ ((decide ((k : Int) < ((x.length : Nat) : Int))) = false → out.map eDependency = x.map eDependency ∧ True)))))) ?_
  intro n0
  simp only [List.length_map] at n0
  refine ⟨List.length_map _, ?_⟩
  refine ⟨rfl, rfl, by have := cDependencyS_len x; omega, by have := cDependencyS_len x; omega, by first | (rw [List.map_replicate]; done) | (rw [List.map_replicate]; rfl), ?_⟩
  refine ⟨⟨0, List.replicate x.length zDependency, rfl, rfl, Nat.zero_le _, by simp⟩, fun k out ⟨hk, ho⟩ => ?_⟩
  have hl : out.length = x.length := by rw [ho]; exact fill_len hk
  refine ⟨List.length_map _, ?_⟩
  refine ⟨fun c0 => ?_, fun c0 => ?_⟩
  · replace c0 := of_decide_eq_true c0
    refine ⟨by omega, ?_⟩
    refine ⟨rfl, by omega, fun e18 h18 => ?_⟩
    refine ⟨to_Dependency e18 (by first | omega | (have := cDependencyS_el ‹x[k]? = some _›; omega)), ?_⟩
    refine ⟨by omega, List.length_map _, by omega, ?_⟩
    refine ⟨rfl, by omega, fun s5_8 hs5_8 => ?_⟩
    refine ⟨Nat.le_of_ble_eq_true rfl, rfl, rfl, rfl, rfl, ?_⟩
    refine ⟨⟨by omega, by omega⟩, ?_⟩
    exact ⟨k + 1, out.set k e18, rfl, rfl, ⟨by omega, by rw [ho]; exact fill_step ‹x[k]? = some _›⟩, by omega⟩
  · replace c0 := of_decide_eq_false c0
    refine ⟨?_, trivial⟩
    · rw [ho, fill_done hk (by omega)]

set_option maxRecDepth 100000 in
set_option maxHeartbeats 4000000 in
theorem to_Inclusion (x : InclusionD) (hc : cInclusion x ≤ 1048576) : Con Tryz.prog 106 [.agg [.str x.name, .int .i64 x.column, .str x.into, .int .i64 x.intoColumn]] (.agg [.p none (.str x.name), vI x.column, .p none (.str x.into), vI x.intoColumn]) [] := by
  refine con_x tbOk mixedW Tryz.func106 (by kernel_rfl) (.fin []) ?_
  refine Eq.mpr (by kernel_rfl : _ = (x.name = x.name ∧ x.column = x.column ∧ x.into = x.into ∧ x.intoColumn = x.intoColumn ∧ True)) ?_
  unfold cInclusion at hc
  exact ⟨rfl, rfl, rfl, rfl, trivial⟩

set_option maxRecDepth 100000 in
set_option maxHeartbeats 4000000 in
theorem to_InclusionS (x : List InclusionD) (hc : cInclusionS x ≤ 1048576) : Con Tryz.prog 51 [.one (.sl 144 4 (x.map eInclusion))] (.own 0) [(0, .arr 144 4 true (x.map eInclusion))] := by
  refine con_x tbOk mixedW Tryz.func51 (by kernel_rfl) (.len x.length <| .mk x.length [.str zInclusion.name, .int .i64 zInclusion.column, .str zInclusion.into, .int .i64 zInclusion.intoColumn] ((List.replicate x.length zInclusion).map eInclusion) <| .loop (Nat × (List InclusionD)) (Q2 Nat (List InclusionD)) [3, 4, 8, 9, 10, 11, 12, 13, 14, 15, 16, 17, 18, 19, 20, 21] [700] (fun yy0 => [(3, .own 700), (4, vI (yy0.1 : Int))]) (fun yy0 => [(700, some (.arr 144 4 true (yy0.2.map eInclusion)))]) (fun yy0 => yy0.1 ≤ x.length ∧ yy0.2 = x.take yy0.1 ++ List.replicate (x.length - yy0.1) zInclusion) (fun yy0 => x.length - yy0.1) (fun yy0 => .len x.length <| .br (.elem InclusionD eInclusion x (fun e18 => .call (.agg [.p none (.str e18.name), vI e18.column, .p none (.str e18.into), vI e18.intoColumn]) [] <| .len yy0.2.length <| .set InclusionD eInclusion yy0.2 (fun s5_8 => e18) (fun s5_8 => .back [(700, 700)]))) (.fin [(0, 700)]))) ?_
  refine Eq.mpr (by kernel_rfl : _ = ((x.map eInclusion).length ≤ 9223372036854775807 → (x.map eInclusion).length = x.length ∧ (((x.length : Nat) : Int) = ((x.length : Nat) : Int) ∧ ((x.length : Nat) : Int) = ((x.length : Nat) : Int) ∧ 48 * x.length ≤ 281474976710656 ∧ x.length ≤ 9223372036854775807 ∧ List.replicate x.length [.str zInclusion.name, .int .i64 zInclusion.column, .str zInclusion.into, .int .i64 zInclusion.intoColumn] = (List.replicate x.length zInclusion).map eInclusion ∧ ((∃ (k : Nat) (out : List InclusionD), (0 : Int) = (k : Int) ∧ (List.replicate x.length zInclusion).map eInclusion = out.map eInclusion ∧ k ≤ x.length ∧ out = x.take k ++ List.replicate (x.length - k) zInclusion) ∧ ∀ (k : Nat) (out : List InclusionD), (k ≤ x.length ∧ out = x.take k ++ List.replicate (x.length - k) zInclusion) → (x.map eInclusion).length = x.length ∧ (((decide ((k : Int) < ((x.length : Nat) : Int))) = true → 0 ≤ (k : Int) ∧ (x.map eInclusion = x.map eInclusion ∧ k < x.length ∧ ∀ e18, x[k]? = some e18 → Con Tryz.prog 106 [.agg [.str e18.name, .int .i64 e18.column, .str e18.into, .int .i64 e18.intoColumn]] (.agg [.p none (.str e18.name), vI e18.column, .p none (.str e18.into), vI e18.intoColumn]) [] ∧ (0 ≤ (k : Int) ∧ (out.map eInclusion).length = out.length ∧ (k : Int) < ((out.length : Nat) : Int) ∧ (out.map eInclusion = out.map eInclusion ∧ k < out.length ∧ ∀ s5_8, out[k]? = some s5_8 → flatB (eInclusion s5_8) = true ∧ 0 + 4 ≤ (eInclusion s5_8).length ∧ (eInclusion s5_8).take 0 ++ [.str e18.name, .int .i64 e18.column, .str e18.into, .int .i64 e18.intoColumn] ++ (eInclusion s5_8).drop (0 + 4) = eInclusion e18 ∧ inR ((k : Int) + (1 : Int)) ∧ ∃ (k' : Nat) (out' : List InclusionD), ((k : Int) + (1 : Int)) = (k' : Int) ∧ (out.set k e18).map eInclusion = out'.map eInclusion ∧ (k' ≤ x.length ∧ out' = x.take k' ++ List.replicate (x.length - k') zInclusion) ∧ x.length - k' < x.length - k)))) ∧ ((decide ((k : Int) < ((x.length : Nat) : Int))) = false → out.map eInclusion = x.map eInclusion ∧ True)))))) ?_
  intro n0
  simp only [List.length_map] at n0
  refine ⟨List.length_map _, ?_⟩
  refine ⟨rfl, rfl, by have := cInclusionS_len x; omega, by have := cInclusionS_len x; omega, by first | (rw [List.map_replicate]; done) | (rw [List.map_replicate]; rfl), ?_⟩
  refine ⟨⟨0, List.replicate x.length zInclusion, rfl, rfl, Nat.zero_le _, by simp⟩, fun k out ⟨hk, ho⟩ => ?_⟩
  have hl : out.length = x.length := by rw [ho]; exact fill_len hk
  refine ⟨List.length_map _, ?_⟩
  refine ⟨fun c0 => ?_, fun c0 => ?_⟩
  · replace c0 := of_decide_eq_true c0
    refine ⟨by omega, ?_⟩
    refine ⟨rfl, by omega, fun e18 h18 => ?_⟩
    refine ⟨to_Inclusion e18 (by first | omega | (have := cInclusionS_el ‹x[k]? = some _›; omega)), ?_⟩
    refine ⟨by omega, List.length_map _, by omega, ?_⟩
    refine ⟨rfl, by omega, fun s5_8 hs5_8 => ⟨rfl, Nat.le_of_ble_eq_true rfl, rfl, ?_⟩⟩
    refine ⟨⟨by omega, by omega⟩, ?_⟩
    exact ⟨k + 1, out.set k e18, rfl, rfl, ⟨by omega, by rw [ho]; exact fill_step ‹x[k]? = some _›⟩, by omega⟩
  · replace c0 := of_decide_eq_false c0
    refine ⟨?_, trivial⟩
    · rw [ho, fill_done hk (by omega)]

set_option maxRecDepth 100000 in
set_option maxHeartbeats 4000000 in
theorem to_Store (x : StoreD) (hc : cStore x ≤ 1048576) : Con Tryz.prog 40 [.agg [.sl 107 3 (x.database.tables.map eTable), .int .i64 x.catalogue.version, .sl 32 4 (x.catalogue.tables.map eTableStats), .sl 142 3 (x.dependencies.map eDependency), .sl 144 4 (x.inclusions.map eInclusion)]] (.agg [.own 0, vI x.catalogue.version, .own 1, .own 2, .own 3]) [(0, .arr 107 3 true (x.database.tables.map eTable)), (1, .arr 32 4 true (x.catalogue.tables.map eTableStats)), (2, .arr 142 3 true (x.dependencies.map eDependency)), (3, .arr 144 4 true (x.inclusions.map eInclusion))] := by
  refine con_x tbOk mixedW Tryz.func40 (by kernel_rfl) (.call (.agg [.own 0]) [(0, .arr 107 3 true (x.database.tables.map eTable))] <| .call (.agg [vI x.catalogue.version, .own 0]) [(0, .arr 32 4 true (x.catalogue.tables.map eTableStats))] <| .call (.own 0) [(0, .arr 142 3 true (x.dependencies.map eDependency))] <| .call (.own 0) [(0, .arr 144 4 true (x.inclusions.map eInclusion))] <| .fin [(0, 600), (1, 1000), (2, 1400), (3, 1800)]) ?_
  refine Eq.mpr (by kernel_rfl : _ = ((x.database.tables.map eTable).length ≤ 9223372036854775807 → (x.catalogue.tables.map eTableStats).length ≤ 9223372036854775807 → (x.dependencies.map eDependency).length ≤ 9223372036854775807 → (x.inclusions.map eInclusion).length ≤ 9223372036854775807 → Con Tryz.prog 49 [.agg [.sl 107 3 (x.database.tables.map eTable)]] (.agg [.own 0]) [(0, .arr 107 3 true (x.database.tables.map eTable))] ∧ Con Tryz.prog 94 [.agg [.int .i64 x.catalogue.version, .sl 32 4 (x.catalogue.tables.map eTableStats)]] (.agg [vI x.catalogue.version, .own 0]) [(0, .arr 32 4 true (x.catalogue.tables.map eTableStats))] ∧ Con Tryz.prog 50 [.one (.sl 142 3 (x.dependencies.map eDependency))] (.own 0) [(0, .arr 142 3 true (x.dependencies.map eDependency))] ∧ Con Tryz.prog 51 [.one (.sl 144 4 (x.inclusions.map eInclusion))] (.own 0) [(0, .arr 144 4 true (x.inclusions.map eInclusion))] ∧ x.catalogue.version = x.catalogue.version ∧ x.database.tables.map eTable = x.database.tables.map eTable ∧ x.catalogue.tables.map eTableStats = x.catalogue.tables.map eTableStats ∧ x.dependencies.map eDependency = x.dependencies.map eDependency ∧ x.inclusions.map eInclusion = x.inclusions.map eInclusion ∧ True)) ?_
  intro n0 n1 n2 n3
  simp only [List.length_map] at n0 n1 n2 n3
  unfold cStore at hc
  refine ⟨to_Database x.database (by first | omega | (have := cDatabaseS_el ‹x[k]? = some _›; omega)), ?_⟩
  refine ⟨to_Catalogue x.catalogue (by first | omega | (have := cCatalogueS_el ‹x[k]? = some _›; omega)), ?_⟩
  refine ⟨to_DependencyS x.dependencies (by first | omega | (have := cDependencySS_el ‹x[k]? = some _›; omega)), ?_⟩
  refine ⟨to_InclusionS x.inclusions (by first | omega | (have := cInclusionSS_el ‹x[k]? = some _›; omega)), ?_⟩
  exact ⟨rfl, rfl, rfl, rfl, rfl, trivial⟩
end Go.Proofs.YtjlagjhmlmfjeaaGreat
