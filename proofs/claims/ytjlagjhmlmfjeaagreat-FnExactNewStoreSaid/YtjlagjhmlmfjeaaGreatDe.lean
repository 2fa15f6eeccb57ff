/-
  The laws' helpers: sizes.
-/
import Derived.Test.YtjlagjhmlmfjeaaGreatDa
namespace Go.Proofs.YtjlagjhmlmfjeaaGreat
open Go.ChangeShapes Go.WideShapes Go.ChangeAt Go.RowKit
set_option linter.unusedVariables false
set_option linter.unusedSimpArgs false
set_option maxRecDepth 100000 in
set_option maxHeartbeats 4000000 in
theorem sz_IntS (x : List Int) (m : Int) (hf : FIntS x) (h0 : 0 ≤ m) (h1 : m ≤ 1048576) : Con Tryz.prog 62 [.one (.sl 3 1 (x.map intD)), .one (.int .i64 m)] (vI (szStep (cIntS x) m)) [] := by
  refine con_x tbOk mixedW Tryz.func62 (by kernel_rfl) (.len x.length <| .br (.fin []) (.fin [])) ?_
  refine Eq.mpr (by kernel_rfl : _ = ((x.map intD).length ≤ 9223372036854775807 → (x.map intD).length = x.length ∧ (inR (m - ((x.length : Nat) : Int)) ∧ (((decide ((m - ((x.length : Nat) : Int)) < (0 : Int))) = true → (-1 : Int) = (szStep (cIntS x) m) ∧ True) ∧ ((decide ((m - ((x.length : Nat) : Int)) < (0 : Int))) = false → (m - ((x.length : Nat) : Int)) = (szStep (cIntS x) m) ∧ True))))) ?_
  intro n0
  simp only [List.length_map] at n0
  refine ⟨List.length_map _, ?_⟩
  refine ⟨⟨by omega, by omega⟩, ?_⟩
  refine ⟨fun c0 => ?_, fun c0 => ?_⟩
  · replace c0 := of_decide_eq_true c0
    refine ⟨?_, trivial⟩
    · unfold cIntS; first | (rw [szStep_no (by omega)]; done) | (rw [szStep_yes (by omega)]; done)
  · replace c0 := of_decide_eq_false c0
    refine ⟨?_, trivial⟩
    · unfold cIntS; first | (rw [szStep_no (by omega)]; done) | (rw [szStep_yes (by omega)]; done)

set_option maxRecDepth 100000 in
set_option maxHeartbeats 4000000 in
theorem sz_IntSS (x : List (List Int)) (m : Int) (hf : FIntSS x) (h0 : 0 ≤ m) (h1 : m ≤ 1048576) : Con Tryz.prog 169 [.one (.sl 25 1 (x.map eIntS)), .one (.int .i64 m)] (vI (szStep (cIntSS x) m)) [] := by
  refine con_x tbOk mixedW Tryz.func169 (by kernel_rfl) (.len x.length <| .br (.fin []) (.loop (Nat × Int) (Q2 Nat Int) [1, 5, 12, 13, 14, 15, 16, 17, 18, 19, 20, 21, 22, 23, 24, 25] [] (fun yy0 => [(5, vI (yy0.1 : Int)), (1, vI yy0.2)]) (fun yy0 => []) (fun yy0 => yy0.1 ≤ x.length ∧ yy0.2 = m - x.length - (sumL cIntS (x.take yy0.1) : Nat) ∧ 0 ≤ yy0.2) (fun yy0 => x.length - yy0.1) (fun yy0 => .len x.length <| .br (.elem (List Int) eIntS x (fun e20 => .call (vI (szStep (cIntS e20) yy0.2)) [] <| .br (.fin []) (.back []))) (.fin [])))) ?_
  refine Eq.mpr (by kernel_rfl : _ = ((x.map eIntS).length ≤ 9223372036854775807 → (x.map eIntS).length = x.length ∧ (inR (m - ((x.length : Nat) : Int)) ∧ (((decide ((m - ((x.length : Nat) : Int)) < (0 : Int))) = true → (-1 : Int) = (szStep (cIntSS x) m) ∧ True) ∧ ((decide ((m - ((x.length : Nat) : Int)) < (0 : Int))) = false → (∃ (k : Nat) (z : Int), (0 : Int) = (k : Int) ∧ (m - ((x.length : Nat) : Int)) = z ∧ k ≤ x.length ∧ z = m - x.length - (sumL cIntS (x.take k) : Nat) ∧ 0 ≤ z) ∧ ∀ (k : Nat) (z : Int), (k ≤ x.length ∧ z = m - x.length - (sumL cIntS (x.take k) : Nat) ∧ 0 ≤ z) → (x.map eIntS).length = x.length ∧ (((decide ((k : Int) < ((x.length : Nat) : Int))) = true → 0 ≤ (k : Int) ∧ (x.map eIntS = x.map eIntS ∧ k < x.length ∧ ∀ e20, x[k]? = some e20 → Con Tryz.prog 62 [.one (.sl 3 1 (e20.map intD)), .one (.int .i64 z)] (vI (szStep (cIntS e20) z)) [] ∧ (((decide ((szStep (cIntS e20) z) < (0 : Int))) = true → (-1 : Int) = (szStep (cIntSS x) m) ∧ True) ∧ ((decide ((szStep (cIntS e20) z) < (0 : Int))) = false → inR ((k : Int) + (1 : Int)) ∧ ∃ (k' : Nat) (z' : Int), ((k : Int) + (1 : Int)) = (k' : Int) ∧ (szStep (cIntS e20) z) = z' ∧ (k' ≤ x.length ∧ z' = m - x.length - (sumL cIntS (x.take k') : Nat) ∧ 0 ≤ z') ∧ x.length - k' < x.length - k)))) ∧ ((decide ((k : Int) < ((x.length : Nat) : Int))) = false → z = (szStep (cIntSS x) m) ∧ True))))))) ?_
  intro n0
  simp only [List.length_map] at n0
  have hS : cIntSS x = x.length + sumL cIntS x := rfl
  refine ⟨List.length_map _, ?_⟩
  refine ⟨⟨by omega, by omega⟩, ?_⟩
  refine ⟨fun c0 => ?_, fun c0 => ?_⟩
  · replace c0 := of_decide_eq_true c0
    refine ⟨?_, trivial⟩
    · first | (rw [szStep_no (by omega)]; done) | (rw [szStep_yes (by omega)]; done) | (rw [szStep_yes (by omega)]; omega)
  · replace c0 := of_decide_eq_false c0
    refine ⟨⟨0, m - ((x.length : Nat) : Int), rfl, rfl, Nat.zero_le _, by simp [sumL], by omega⟩, fun k z ⟨hk, hz, hz0⟩ => ?_⟩
    refine ⟨List.length_map _, ?_⟩
    refine ⟨fun c1 => ?_, fun c1 => ?_⟩
    · replace c1 := of_decide_eq_true c1
      obtain ⟨y, hy⟩ := at_some (l := x) (k := k) (by omega)
      have hfy := hf y (List.mem_of_getElem? hy)
      refine ⟨by omega, ?_⟩
      refine ⟨rfl, by omega, fun e20 h20 => ?_⟩
      obtain rfl := same_at hy h20
      refine ⟨sz_IntS e20 _ (by first | assumption | exact hf) (by omega) (by omega), ?_⟩
      refine ⟨fun c2 => ?_, fun c2 => ?_⟩
      · replace c2 := of_decide_eq_true c2
        have y3 := sz_bad c2
        have y4 := sumL_snoc cIntS ‹x[k]? = some _›
        have y5 := sumL_le cIntS x (k + 1)
        refine ⟨?_, trivial⟩
        · first | (rw [szStep_no (by omega)]; done) | (rw [szStep_yes (by omega)]; done) | (rw [szStep_yes (by omega)]; omega)
      · replace c2 := of_decide_eq_false c2
        have y2 := szStep_yes (sz_ok c2)
        have y3 := sz_ok c2
        have y4 := sumL_snoc cIntS ‹x[k]? = some _›
        refine ⟨⟨by omega, by omega⟩, ?_⟩
        exact ⟨k + 1, szStep (cIntS e20) z, rfl, rfl, ⟨by omega, by rw [y2, y4, hz]; omega, by rw [y2]; omega⟩, by omega⟩
    · replace c1 := of_decide_eq_false c1
      have y6 : k = x.length := by omega
      rw [y6, List.take_length] at hz
      refine ⟨?_, trivial⟩
      · first | (rw [szStep_no (by omega)]; done) | (rw [szStep_yes (by omega)]; done) | (rw [szStep_yes (by omega)]; omega)

set_option maxRecDepth 100000 in
set_option maxHeartbeats 4000000 in
theorem sz_Table (x : TableD) (m : Int) (hf : FTable x) (h0 : 0 ≤ m) (h1 : m ≤ 1048576) : Con Tryz.prog 160 [.agg [.str x.name, .int .i64 x.arity, .sl 25 1 (x.rows.map eIntS)], .one (.int .i64 m)] (vI (szStep (cTable x) m)) [] := by
  refine con_x tbOk mixedW Tryz.func160 (by kernel_rfl) (.br (.fin []) (.call (vI (szStep (cIntSS x.rows) (m - ((x.name.size : Nat) : Int)))) [] <| .br (.fin []) (.fin []))) ?_
  refine Eq.mpr (by kernel_rfl : _ = ((x.rows.map eIntS).length ≤ 9223372036854775807 → inR (m - ((x.name.size : Nat) : Int)) ∧ (((decide ((m - ((x.name.size : Nat) : Int)) < (0 : Int))) = true → (-1 : Int) = (szStep (cTable x) m) ∧ True) ∧ ((decide ((m - ((x.name.size : Nat) : Int)) < (0 : Int))) = false → Con Tryz.prog 169 [.one (.sl 25 1 (x.rows.map eIntS)), .one (.int .i64 (m - ((x.name.size : Nat) : Int)))] (vI (szStep (cIntSS x.rows) (m - ((x.name.size : Nat) : Int)))) [] ∧ (((decide ((szStep (cIntSS x.rows) (m - ((x.name.size : Nat) : Int))) < (0 : Int))) = true → (-1 : Int) = (szStep (cTable x) m) ∧ True) ∧ ((decide ((szStep (cIntSS x.rows) (m - ((x.name.size : Nat) : Int))) < (0 : Int))) = false → (szStep (cIntSS x.rows) (m - ((x.name.size : Nat) : Int))) = (szStep (cTable x) m) ∧ True)))))) ?_
  intro n0
  simp only [List.length_map] at n0
  obtain ⟨f_name, f_arity, f_rows⟩ := hf
  have hmx : maxLen = 9223372036854775807 := rfl
  have g_name : x.name.size ≤ maxLen := f_name
  refine ⟨⟨by omega, by omega⟩, ?_⟩
  refine ⟨fun c0 => ?_, fun c0 => ?_⟩
  · replace c0 := of_decide_eq_true c0
    refine ⟨?_, trivial⟩
    · unfold cTable; first | (rw [szStep_no (by omega)]; done) | (rw [szStep_yes (by omega)]; done) | (rw [szStep_yes (by omega)]; omega)
  · replace c0 := of_decide_eq_false c0
    refine ⟨sz_IntSS x.rows _ (by first | assumption | exact hf) (by omega) (by omega), ?_⟩
    refine ⟨fun c1 => ?_, fun c1 => ?_⟩
    · replace c1 := of_decide_eq_true c1
      have y1 := sz_bad c1
      refine ⟨?_, trivial⟩
      · unfold cTable; first | (rw [szStep_no (by omega)]; done) | (rw [szStep_yes (by omega)]; done) | (rw [szStep_yes (by omega)]; omega)
    · replace c1 := of_decide_eq_false c1
      have y1 := sz_ok c1
      rw [szStep_yes y1] at *
      refine ⟨?_, trivial⟩
      · unfold cTable; first | (rw [szStep_no (by omega)]; done) | (rw [szStep_yes (by omega)]; done) | (rw [szStep_yes (by omega)]; omega)

set_option maxRecDepth 100000 in
set_option maxHeartbeats 4000000 in
theorem sz_TableS (x : List TableD) (m : Int) (hf : FTableS x) (h0 : 0 ≤ m) (h1 : m ≤ 1048576) : Con Tryz.prog 99 [.one (.sl 107 3 (x.map eTable)), .one (.int .i64 m)] (vI (szStep (cTableS x) m)) [] := by
  refine con_x tbOk mixedW Tryz.func99 (by kernel_rfl) (.len x.length <| .br (.fin []) (.loop (Nat × Int) (Q2 Nat Int) [1, 5, 12, 13, 14, 15, 16, 17, 18, 19, 20, 21, 22, 23, 24, 25] [] (fun yy0 => [(5, vI (yy0.1 : Int)), (1, vI yy0.2)]) (fun yy0 => []) (fun yy0 => yy0.1 ≤ x.length ∧ yy0.2 = m - x.length - (sumL cTable (x.take yy0.1) : Nat) ∧ 0 ≤ yy0.2) (fun yy0 => x.length - yy0.1) (fun yy0 => .len x.length <| .br (.elem TableD eTable x (fun e20 => .call (vI (szStep (cTable e20) yy0.2)) [] <| .br (.fin []) (.back []))) (.fin [])))) ?_
  refine Eq.mpr (by kernel_rfl : _ = ((x.map eTable).length ≤ 9223372036854775807 → (x.map eTable).length = x.length ∧ (inR (m - ((x.length : Nat) : Int)) ∧ (((decide ((m - ((x.length : Nat) : Int)) < (0 : Int))) = true → (-1 : Int) = (szStep (cTableS x) m) ∧ True) ∧ ((decide ((m - ((x.length : Nat) : Int)) < (0 : Int))) = false → (∃ (k : Nat) (z : Int), (0 : Int) = (k : Int) ∧ (m - ((x.length : Nat) : Int)) = z ∧ k ≤ x.length ∧ z = m - x.length - (sumL cTable (x.take k) : Nat) ∧ 0 ≤ z) ∧ ∀ (k : Nat) (z : Int), (k ≤ x.length ∧ z = m - x.length - (sumL cTable (x.take k) : Nat) ∧ 0 ≤ z) → (x.map eTable).length = x.length ∧ (((decide ((k : Int) < ((x.length : Nat) : Int))) = true → 0 ≤ (k : Int) ∧ (x.map eTable = x.map eTable ∧ k < x.length ∧ ∀ e20, x[k]? = some e20 → Con Tryz.prog 160 [.agg [.str e20.name, .int .i64 e20.arity, .sl 25 1 (e20.rows.map eIntS)], .one (.int .i64 z)] (vI (szStep (cTable e20) z)) [] ∧ (((decide ((szStep (cTable e20) z) < (0 : Int))) = true → (-1 : Int) = (szStep (cTableS x) m) ∧ True) ∧ ((decide ((szStep (cTable e20) z) < (0 : Int))) = false → inR ((k : Int) + (1 : Int)) ∧ ∃ (k' : Nat) (z' : Int), ((k : Int) + (1 : Int)) = (k' : Int) ∧ (szStep (cTable e20) z) = z' ∧ (k' ≤ x.length ∧ z' = m - x.length - (sumL cTable (x.take k') : Nat) ∧ 0 ≤ z') ∧ x.length - k' < x.length - k)))) ∧ ((decide ((k : Int) < ((x.length : Nat) : Int))) = false → z = (szStep (cTableS x) m) ∧ True))))))) ?_
  intro n0
  simp only [List.length_map] at n0
  have hS : cTableS x = x.length + sumL cTable x := rfl
  refine ⟨List.length_map _, ?_⟩
  refine ⟨⟨by omega, by omega⟩, ?_⟩
  refine ⟨fun c0 => ?_, fun c0 => ?_⟩
  · replace c0 := of_decide_eq_true c0
    refine ⟨?_, trivial⟩
    · first | (rw [szStep_no (by omega)]; done) | (rw [szStep_yes (by omega)]; done) | (rw [szStep_yes (by omega)]; omega)
  · replace c0 := of_decide_eq_false c0
    refine ⟨⟨0, m - ((x.length : Nat) : Int), rfl, rfl, Nat.zero_le _, by simp [sumL], by omega⟩, fun k z ⟨hk, hz, hz0⟩ => ?_⟩
    refine ⟨List.length_map _, ?_⟩
    refine ⟨fun c1 => ?_, fun c1 => ?_⟩
    · replace c1 := of_decide_eq_true c1
      obtain ⟨y, hy⟩ := at_some (l := x) (k := k) (by omega)
      have hfy := hf y (List.mem_of_getElem? hy)
      refine ⟨by omega, ?_⟩
      refine ⟨rfl, by omega, fun e20 h20 => ?_⟩
      obtain rfl := same_at hy h20
      refine ⟨sz_Table e20 _ (by first | assumption | exact hf) (by omega) (by omega), ?_⟩
      refine ⟨fun c2 => ?_, fun c2 => ?_⟩
      · replace c2 := of_decide_eq_true c2
        have y3 := sz_bad c2
        have y4 := sumL_snoc cTable ‹x[k]? = some _›
        have y5 := sumL_le cTable x (k + 1)
        refine ⟨?_, trivial⟩
        · first | (rw [szStep_no (by omega)]; done) | (rw [szStep_yes (by omega)]; done) | (rw [szStep_yes (by omega)]; omega)
      · replace c2 := of_decide_eq_false c2
        have y2 := szStep_yes (sz_ok c2)
        have y3 := sz_ok c2
        have y4 := sumL_snoc cTable ‹x[k]? = some _›
        refine ⟨⟨by omega, by omega⟩, ?_⟩
        exact ⟨k + 1, szStep (cTable e20) z, rfl, rfl, ⟨by omega, by rw [y2, y4, hz]; omega, by rw [y2]; omega⟩, by omega⟩
    · replace c1 := of_decide_eq_false c1
      have y6 : k = x.length := by omega
      rw [y6, List.take_length] at hz
      refine ⟨?_, trivial⟩
      · first | (rw [szStep_no (by omega)]; done) | (rw [szStep_yes (by omega)]; done) | (rw [szStep_yes (by omega)]; omega)

set_option maxRecDepth 100000 in
set_option maxHeartbeats 4000000 in
theorem sz_Database (x : DatabaseD) (m : Int) (hf : FDatabase x) (h0 : 0 ≤ m) (h1 : m ≤ 1048576) : Con Tryz.prog 45 [.agg [.sl 107 3 (x.tables.map eTable)], .one (.int .i64 m)] (vI (szStep (cDatabase x) m)) [] := by
  refine con_x tbOk mixedW Tryz.func45 (by kernel_rfl) (.call (vI (szStep (cTableS x.tables) m)) [] <| .br (.fin []) (.fin [])) ?_
  refine Eq.mpr (by kernel_rfl : _ = ((x.tables.map eTable).length ≤ 9223372036854775807 → Con Tryz.prog 99 [.one (.sl 107 3 (x.tables.map eTable)), .one (.int .i64 m)] (vI (szStep (cTableS x.tables) m)) [] ∧ (((decide ((szStep (cTableS x.tables) m) < (0 : Int))) = true → (-1 : Int) = (szStep (cDatabase x) m) ∧ True) ∧ ((decide ((szStep (cTableS x.tables) m) < (0 : Int))) = false → (szStep (cTableS x.tables) m) = (szStep (cDatabase x) m) ∧ True)))) ?_
  intro n0
  simp only [List.length_map] at n0
  have f_tables := hf
  have hmx : maxLen = 9223372036854775807 := rfl
  refine ⟨sz_TableS x.tables _ (by first | assumption | exact hf) (by omega) (by omega), ?_⟩
  refine ⟨fun c0 => ?_, fun c0 => ?_⟩
  · replace c0 := of_decide_eq_true c0
    have y0 := sz_bad c0
    refine ⟨?_, trivial⟩
    · unfold cDatabase; first | (rw [szStep_no (by omega)]; done) | (rw [szStep_yes (by omega)]; done) | (rw [szStep_yes (by omega)]; omega)
  · replace c0 := of_decide_eq_false c0
    have y0 := sz_ok c0
    rw [szStep_yes y0] at *
    refine ⟨?_, trivial⟩
    · unfold cDatabase; first | (rw [szStep_no (by omega)]; done) | (rw [szStep_yes (by omega)]; done) | (rw [szStep_yes (by omega)]; omega)

set_option maxRecDepth 100000 in
set_option maxHeartbeats 4000000 in
theorem sz_GroupStats (x : GroupStatsD) (m : Int) (hf : FGroupStats x) (h0 : 0 ≤ m) (h1 : m ≤ 1048576) : Con Tryz.prog 118 [.agg [.sl 3 1 (x.columns.map intD), .sl 25 1 (x.values.map eIntS), .sl 3 1 (x.counts.map intD)], .one (.int .i64 m)] (vI (szStep (cGroupStats x) m)) [] := by
  refine con_x tbOk mixedW Tryz.func118 (by kernel_rfl) (.call (vI (szStep (cIntS x.columns) m)) [] <| .br (.fin []) (.call (vI (szStep (cIntSS x.values) (szStep (cIntS x.columns) m))) [] <| .br (.fin []) (.call (vI (szStep (cIntS x.counts) (szStep (cIntSS x.values) (szStep (cIntS x.columns) m)))) [] <| .br (.fin []) (.fin [])))) ?_
  refine Eq.mpr (by kernel_rfl : _ = ((x.columns.map intD).length ≤ 9223372036854775807 → (x.values.map eIntS).length ≤ 9223372036854775807 → (x.counts.map intD).length ≤ 9223372036854775807 → Con Tryz.prog 62 [.one (.sl 3 1 (x.columns.map intD)), .one (.int .i64 m)] (vI (szStep (cIntS x.columns) m)) [] ∧ (((decide ((szStep (cIntS x.columns) m) < (0 : Int))) = true → (-1 : Int) = (szStep (cGroupStats x) m) ∧ True) ∧ ((decide ((szStep (cIntS x.columns) m) < (0 : Int))) = false → Con Tryz.prog 169 [.one (.sl 25 1 (x.values.map eIntS)), .one (.int .i64 (szStep (cIntS x.columns) m))] (vI (szStep (cIntSS x.values) (szStep (cIntS x.columns) m))) [] ∧ (((decide ((szStep (cIntSS x.values) (szStep (cIntS x.columns) m)) < (0 : Int))) = true → (-1 : Int) = (szStep (cGroupStats x) m) ∧ True) ∧ ((decide ((szStep (cIntSS x.values) (szStep (cIntS x.columns) m)) < (0 : Int))) = false → Con Tryz.prog 62 [.one (.sl 3 1 (x.counts.map intD)), .one (.int .i64 (szStep (cIntSS x.values) (szStep (cIntS x.columns) m)))] (vI (szStep (cIntS x.counts) (szStep (cIntSS x.values) (szStep (cIntS x.columns) m)))) [] ∧ (((decide ((szStep (cIntS x.counts) (szStep (cIntSS x.values) (szStep (cIntS x.columns) m))) < (0 : Int))) = true → (-1 : Int) = (szStep (cGroupStats x) m) ∧ True) ∧ ((decide ((szStep (cIntS x.counts) (szStep (cIntSS x.values) (szStep (cIntS x.columns) m))) < (0 : Int))) = false → (szStep (cIntS x.counts) (szStep (cIntSS x.values) (szStep (cIntS x.columns) m))) = (szStep (cGroupStats x) m) ∧ True)))))))) ?_
  intro n0 n1 n2
  simp only [List.length_map] at n0 n1 n2
  obtain ⟨f_columns, f_values, f_counts⟩ := hf
  have hmx : maxLen = 9223372036854775807 := rfl
  refine ⟨sz_IntS x.columns _ (by first | assumption | exact hf) (by omega) (by omega), ?_⟩
  refine ⟨fun c0 => ?_, fun c0 => ?_⟩
  · replace c0 := of_decide_eq_true c0
    have y0 := sz_bad c0
    refine ⟨?_, trivial⟩
    · unfold cGroupStats; first | (rw [szStep_no (by omega)]; done) | (rw [szStep_yes (by omega)]; done) | (rw [szStep_yes (by omega)]; omega)
  · replace c0 := of_decide_eq_false c0
    have y0 := sz_ok c0
    rw [szStep_yes y0] at *
    refine ⟨sz_IntSS x.values _ (by first | assumption | exact hf) (by omega) (by omega), ?_⟩
    refine ⟨fun c1 => ?_, fun c1 => ?_⟩
    · replace c1 := of_decide_eq_true c1
      have y1 := sz_bad c1
      refine ⟨?_, trivial⟩
      · unfold cGroupStats; first | (rw [szStep_no (by omega)]; done) | (rw [szStep_yes (by omega)]; done) | (rw [szStep_yes (by omega)]; omega)
    · replace c1 := of_decide_eq_false c1
      have y1 := sz_ok c1
      rw [szStep_yes y1] at *
      refine ⟨sz_IntS x.counts _ (by first | assumption | exact hf) (by omega) (by omega), ?_⟩
      refine ⟨fun c2 => ?_, fun c2 => ?_⟩
      · replace c2 := of_decide_eq_true c2
        have y2 := sz_bad c2
        refine ⟨?_, trivial⟩
        · unfold cGroupStats; first | (rw [szStep_no (by omega)]; done) | (rw [szStep_yes (by omega)]; done) | (rw [szStep_yes (by omega)]; omega)
      · replace c2 := of_decide_eq_false c2
        have y2 := sz_ok c2
        rw [szStep_yes y2] at *
        refine ⟨?_, trivial⟩
        · unfold cGroupStats; first | (rw [szStep_no (by omega)]; done) | (rw [szStep_yes (by omega)]; done) | (rw [szStep_yes (by omega)]; omega)

set_option maxRecDepth 100000 in
set_option maxHeartbeats 4000000 in
theorem sz_GroupStatsS (x : List GroupStatsD) (m : Int) (hf : FGroupStatsS x) (h0 : 0 ≤ m) (h1 : m ≤ 1048576) : Con Tryz.prog 61 [.one (.sl 157 3 (x.map eGroupStats)), .one (.int .i64 m)] (vI (szStep (cGroupStatsS x) m)) [] := by
  refine con_x tbOk mixedW Tryz.func61 (by kernel_rfl) (.len x.length <| .br (.fin []) (.loop (Nat × Int) (Q2 Nat Int) [1, 5, 12, 13, 14, 15, 16, 17, 18, 19, 20, 21, 22, 23, 24, 25] [] (fun yy0 => [(5, vI (yy0.1 : Int)), (1, vI yy0.2)]) (fun yy0 => []) (fun yy0 => yy0.1 ≤ x.length ∧ yy0.2 = m - x.length - (sumL cGroupStats (x.take yy0.1) : Nat) ∧ 0 ≤ yy0.2) (fun yy0 => x.length - yy0.1) (fun yy0 => .len x.length <| .br (.elem GroupStatsD eGroupStats x (fun e20 => .call (vI (szStep (cGroupStats e20) yy0.2)) [] <| .br (.fin []) (.back []))) (.fin [])))) ?_
  refine Eq.mpr (by kernel_rfl : _ = ((x.map eGroupStats).length ≤ 9223372036854775807 → (x.map eGroupStats).length = x.length ∧ (inR (m - ((x.length : Nat) : Int)) ∧ (((decide ((m - ((x.length : Nat) : Int)) < (0 : Int))) = true → (-1 : Int) = (szStep (cGroupStatsS x) m) ∧ True) ∧ ((decide ((m - ((x.length : Nat) : Int)) < (0 : Int))) = false → (∃ (k : Nat) (z : Int), (0 : Int) = (k : Int) ∧ (m - ((x.length : Nat) : Int)) = z ∧ k ≤ x.length ∧ z = m - x.length - (sumL cGroupStats (x.take k) : Nat) ∧ 0 ≤ z) ∧ ∀ (k : Nat) (z : Int), (k ≤ x.length ∧ z = m - x.length - (sumL cGroupStats (x.take k) : Nat) ∧ 0 ≤ z) → (x.map eGroupStats).length = x.length ∧ (((decide ((k : Int) < ((x.length : Nat) : Int))) = true → 0 ≤ (k : Int) ∧ (x.map eGroupStats = x.map eGroupStats ∧ k < x.length ∧ ∀ e20, x[k]? = some e20 → Con Tryz.prog 118 [.agg [.sl 3 1 (e20.columns.map intD), .sl 25 1 (e20.values.map eIntS), .sl 3 1 (e20.counts.map intD)], .one (.int .i64 z)] (vI (szStep (cGroupStats e20) z)) [] ∧ (((decide ((szStep (cGroupStats e20) z) < (0 : Int))) = true → (-1 : Int) = (szStep (cGroupStatsS x) m) ∧ True) ∧ ((decide ((szStep (cGroupStats e20) z) < (0 : Int))) = false → inR ((k : Int) + (1 : Int)) ∧ ∃ (k' : Nat) (z' : Int), ((k : Int) + (1 : Int)) = (k' : Int) ∧ (szStep (cGroupStats e20) z) = z' ∧ (k' ≤ x.length ∧ z' = m - x.length - (sumL cGroupStats (x.take k') : Nat) ∧ 0 ≤ z') ∧ x.length - k' < x.length - k)))) ∧ ((decide ((k : Int) < ((x.length : Nat) : Int))) = false → z = (szStep (cGroupStatsS x) m) ∧ True))))))) ?_
  intro n0
  simp only [List.length_map] at n0
  have hS : cGroupStatsS x = x.length + sumL cGroupStats x := rfl
  refine ⟨List.length_map _, ?_⟩
  refine ⟨⟨by omega, by omega⟩, ?_⟩
  refine ⟨fun c0 => ?_, fun c0 => ?_⟩
  · replace c0 := of_decide_eq_true c0
    refine ⟨?_, trivial⟩
    · first | (rw [szStep_no (by omega)]; done) | (rw [szStep_yes (by omega)]; done) | (rw [szStep_yes (by omega)]; omega)
  · replace c0 := of_decide_eq_false c0
    refine ⟨⟨0, m - ((x.length : Nat) : Int), rfl, rfl, Nat.zero_le _, by simp [sumL], by omega⟩, fun k z ⟨hk, hz, hz0⟩ => ?_⟩
    refine ⟨List.length_map _, ?_⟩
    refine ⟨fun c1 => ?_, fun c1 => ?_⟩
    · replace c1 := of_decide_eq_true c1
      obtain ⟨y, hy⟩ := at_some (l := x) (k := k) (by omega)
      have hfy := hf y (List.mem_of_getElem? hy)
      refine ⟨by omega, ?_⟩
      refine ⟨rfl, by omega, fun e20 h20 => ?_⟩
      obtain rfl := same_at hy h20
      refine ⟨sz_GroupStats e20 _ (by first | assumption | exact hf) (by omega) (by omega), ?_⟩
      refine ⟨fun c2 => ?_, fun c2 => ?_⟩
      · replace c2 := of_decide_eq_true c2
        have y3 := sz_bad c2
        have y4 := sumL_snoc cGroupStats ‹x[k]? = some _›
        have y5 := sumL_le cGroupStats x (k + 1)
        refine ⟨?_, trivial⟩
        · first | (rw [szStep_no (by omega)]; done) | (rw [szStep_yes (by omega)]; done) | (rw [szStep_yes (by omega)]; omega)
      · replace c2 := of_decide_eq_false c2
        have y2 := szStep_yes (sz_ok c2)
        have y3 := sz_ok c2
        have y4 := sumL_snoc cGroupStats ‹x[k]? = some _›
        refine ⟨⟨by omega, by omega⟩, ?_⟩
        exact ⟨k + 1, szStep (cGroupStats e20) z, rfl, rfl, ⟨by omega, by rw [y2, y4, hz]; omega, by rw [y2]; omega⟩, by omega⟩
    · replace c1 := of_decide_eq_false c1
      have y6 : k = x.length := by omega
      rw [y6, List.take_length] at hz
      refine ⟨?_, trivial⟩
      · first | (rw [szStep_no (by omega)]; done) | (rw [szStep_yes (by omega)]; done) | (rw [szStep_yes (by omega)]; omega)

set_option maxRecDepth 100000 in
set_option maxHeartbeats 4000000 in
theorem sz_TableStats (x : TableStatsD) (m : Int) (hf : FTableStats x) (h0 : 0 ≤ m) (h1 : m ≤ 1048576) : Con Tryz.prog 10 [.agg [.str x.name, .int .i64 x.arity, .int .i64 x.rowCount, .sl 157 3 (x.groups.map eGroupStats)], .one (.int .i64 m)] (vI (szStep (cTableStats x) m)) [] := by
  refine con_x tbOk mixedW Tryz.func10 (by kernel_rfl) (.br (.fin []) (.call (vI (szStep (cGroupStatsS x.groups) (m - ((x.name.size : Nat) : Int)))) [] <| .br (.fin []) (.fin []))) ?_
  refine Eq.mpr (by kernel_rfl : _ = ((x.groups.map eGroupStats).length ≤ 9223372036854775807 → inR (m - ((x.name.size : Nat) : Int)) ∧ (((decide ((m - ((x.name.size : Nat) : Int)) < (0 : Int))) = true → (-1 : Int) = (szStep (cTableStats x) m) ∧ True) ∧ ((decide ((m - ((x.name.size : Nat) : Int)) < (0 : Int))) = false → Con Tryz.prog 61 [.one (.sl 157 3 (x.groups.map eGroupStats)), .one (.int .i64 (m - ((x.name.size : Nat) : Int)))] (vI (szStep (cGroupStatsS x.groups) (m - ((x.name.size : Nat) : Int)))) [] ∧ (((decide ((szStep (cGroupStatsS x.groups) (m - ((x.name.size : Nat) : Int))) < (0 : Int))) = true → (-1 : Int) = (szStep (cTableStats x) m) ∧ True) ∧ ((decide ((szStep (cGroupStatsS x.groups) (m - ((x.name.size : Nat) : Int))) < (0 : Int))) = false → (szStep (cGroupStatsS x.groups) (m - ((x.name.size : Nat) : Int))) = (szStep (cTableStats x) m) ∧ True)))))) ?_
  intro n0
  simp only [List.length_map] at n0
  obtain ⟨f_name, f_arity, f_rowCount, f_groups⟩ := hf
  have hmx : maxLen = 9223372036854775807 := rfl
  have g_name : x.name.size ≤ maxLen := f_name
  refine ⟨⟨by omega, by omega⟩, ?_⟩
  refine ⟨fun c0 => ?_, fun c0 => ?_⟩
  · replace c0 := of_decide_eq_true c0
    refine ⟨?_, trivial⟩
    · unfold cTableStats; first | (rw [szStep_no (by omega)]; done) | (rw [szStep_yes (by omega)]; done) | (rw [szStep_yes (by omega)]; omega)
  · replace c0 := of_decide_eq_false c0
    refine ⟨sz_GroupStatsS x.groups _ (by first | assumption | exact hf) (by omega) (by omega), ?_⟩
    refine ⟨fun c1 => ?_, fun c1 => ?_⟩
    · replace c1 := of_decide_eq_true c1
      have y1 := sz_bad c1
      refine ⟨?_, trivial⟩
      · unfold cTableStats; first | (rw [szStep_no (by omega)]; done) | (rw [szStep_yes (by omega)]; done) | (rw [szStep_yes (by omega)]; omega)
    · replace c1 := of_decide_eq_false c1
      have y1 := sz_ok c1
      rw [szStep_yes y1] at *
      refine ⟨?_, trivial⟩
      · unfold cTableStats; first | (rw [szStep_no (by omega)]; done) | (rw [szStep_yes (by omega)]; done) | (rw [szStep_yes (by omega)]; omega)

set_option maxRecDepth 100000 in
set_option maxHeartbeats 4000000 in
theorem sz_TableStatsS (x : List TableStatsD) (m : Int) (hf : FTableStatsS x) (h0 : 0 ≤ m) (h1 : m ≤ 1048576) : Con Tryz.prog 150 [.one (.sl 32 4 (x.map eTableStats)), .one (.int .i64 m)] (vI (szStep (cTableStatsS x) m)) [] := by
  refine con_x tbOk mixedW Tryz.func150 (by kernel_rfl) (.len x.length <| .br (.fin []) (.loop (Nat × Int) (Q2 Nat Int) [1, 5, 12, 13, 14, 15, 16, 17, 18, 19, 20, 21, 22, 23, 24, 25] [] (fun yy0 => [(5, vI (yy0.1 : Int)), (1, vI yy0.2)]) (fun yy0 => []) (fun yy0 => yy0.1 ≤ x.length ∧ yy0.2 = m - x.length - (sumL cTableStats (x.take yy0.1) : Nat) ∧ 0 ≤ yy0.2) (fun yy0 => x.length - yy0.1) (fun yy0 => .len x.length <| .br (.elem TableStatsD eTableStats x (fun e20 => .call (vI (szStep (cTableStats e20) yy0.2)) [] <| .br (.fin []) (.back []))) (.fin [])))) ?_
  refine Eq.mpr (by kernel_rfl : _ = ((x.map eTableStats).length ≤ 9223372036854775807 → (x.map eTableStats).length = x.length ∧ (inR (m - ((x.length : Nat) : Int)) ∧ (((decide ((m - ((x.length : Nat) : Int)) < (0 : Int))) = true → (-1 : Int) = (szStep (cTableStatsS x) m) ∧ True) ∧ ((decide ((m - ((x.length : Nat) : Int)) < (0 : Int))) = false → (∃ (k : Nat) (z : Int), (0 : Int) = (k : Int) ∧ (m - ((x.length : Nat) : Int)) = z ∧ k ≤ x.length ∧ z = m - x.length - (sumL cTableStats (x.take k) : Nat) ∧ 0 ≤ z) ∧ ∀ (k : Nat) (z : Int), (k ≤ x.length ∧ z = m - x.length - (sumL cTableStats (x.take k) : Nat) ∧ 0 ≤ z) → (x.map eTableStats).length = x.length ∧ (((decide ((k : Int) < ((x.length : Nat) : Int))) = true → 0 ≤ (k : Int) ∧ (x.map eTableStats = x.map eTableStats ∧ k < x.length ∧ ∀ e20, x[k]? = some e20 → Con Tryz.prog 10 [.agg [.str e20.name, .int .i64 e20.arity, .int .i64 e20.rowCount, .sl 157 3 (e20.groups.map eGroupStats)], .one (.int .i64 z)] (vI (szStep (cTableStats e20) z)) [] ∧ (((decide ((szStep (cTableStats e20) z) < (0 : Int))) = true → (-1 : Int) = (szStep (cTableStatsS x) m) ∧ True) ∧ ((decide ((szStep (cTableStats e20) z) < (0 : Int))) = false → inR ((k : Int) + (1 : Int)) ∧ ∃ (k' : Nat) (z' : Int), ((k : Int) + (1 : Int)) = (k' : Int) ∧ (szStep (cTableStats e20) z) = z' ∧ (k' ≤ x.length ∧ z' = m - x.length - (sumL cTableStats (x.take k') : Nat) ∧ 0 ≤ z') ∧ x.length - k' < x.length - k)))) ∧ ((decide ((k : Int) < ((x.length : Nat) : Int))) = false → z = (szStep (cTableStatsS x) m) ∧ True))))))) ?_
  intro n0
  simp only [List.length_map] at n0
  have hS : cTableStatsS x = x.length + sumL cTableStats x := rfl
  refine ⟨List.length_map _, ?_⟩
  refine ⟨⟨by omega, by omega⟩, ?_⟩
  refine ⟨fun c0 => ?_, fun c0 => ?_⟩
  · replace c0 := of_decide_eq_true c0
    refine ⟨?_, trivial⟩
    · first | (rw [szStep_no (by omega)]; done) | (rw [szStep_yes (by omega)]; done) | (rw [szStep_yes (by omega)]; omega)
  · replace c0 := of_decide_eq_false c0
    refine ⟨⟨0, m - ((x.length : Nat) : Int), rfl, rfl, Nat.zero_le _, by simp [sumL], by omega⟩, fun k z ⟨hk, hz, hz0⟩ => ?_⟩
    refine ⟨List.length_map _, ?_⟩
    refine ⟨fun c1 => ?_, fun c1 => ?_⟩
    · replace c1 := of_decide_eq_true c1
      obtain ⟨y, hy⟩ := at_some (l := x) (k := k) (by omega)
      have hfy := hf y (List.mem_of_getElem? hy)
      refine ⟨by omega, ?_⟩
      refine ⟨rfl, by omega, fun e20 h20 => ?_⟩
      obtain rfl := same_at hy h20
      refine ⟨sz_TableStats e20 _ (by first | assumption | exact hf) (by omega) (by omega), ?_⟩
      refine ⟨fun c2 => ?_, fun c2 => ?_⟩
      · replace c2 := of_decide_eq_true c2
        have y3 := sz_bad c2
        have y4 := sumL_snoc cTableStats ‹x[k]? = some _›
        have y5 := sumL_le cTableStats x (k + 1)
        refine ⟨?_, trivial⟩
        · first | (rw [szStep_no (by omega)]; done) | (rw [szStep_yes (by omega)]; done) | (rw [szStep_yes (by omega)]; omega)
      · replace c2 := of_decide_eq_false c2
        have y2 := szStep_yes (sz_ok c2)
        have y3 := sz_ok c2
        have y4 := sumL_snoc cTableStats ‹x[k]? = some _›
        refine ⟨⟨by omega, by omega⟩, ?_⟩
        exact ⟨k + 1, szStep (cTableStats e20) z, rfl, rfl, ⟨by omega, by rw [y2, y4, hz]; omega, by rw [y2]; omega⟩, by omega⟩
    · replace c1 := of_decide_eq_false c1
      have y6 : k = x.length := by omega
      rw [y6, List.take_length] at hz
      refine ⟨?_, trivial⟩
      · first | (rw [szStep_no (by omega)]; done) | (rw [szStep_yes (by omega)]; done) | (rw [szStep_yes (by omega)]; omega)

set_option maxRecDepth 100000 in
set_option maxHeartbeats 4000000 in
theorem sz_Catalogue (x : CatalogueD) (m : Int) (hf : FCatalogue x) (h0 : 0 ≤ m) (h1 : m ≤ 1048576) : Con Tryz.prog 90 [.agg [.int .i64 x.version, .sl 32 4 (x.tables.map eTableStats)], .one (.int .i64 m)] (vI (szStep (cCatalogue x) m)) [] := by
  refine con_x tbOk mixedW Tryz.func90 (by kernel_rfl) (.call (vI (szStep (cTableStatsS x.tables) m)) [] <| .br (.fin []) (.fin [])) ?_
  refine Eq.mpr (by kernel_rfl : _ = ((x.tables.map eTableStats).length ≤ 9223372036854775807 → Con Tryz.prog 150 [.one (.sl 32 4 (x.tables.map eTableStats)), .one (.int .i64 m)] (vI (szStep (cTableStatsS x.tables) m)) [] ∧ (((decide ((szStep (cTableStatsS x.tables) m) < (0 : Int))) = true → (-1 : Int) = (szStep (cCatalogue x) m) ∧ True) ∧ ((decide ((szStep (cTableStatsS x.tables) m) < (0 : Int))) = false → (szStep (cTableStatsS x.tables) m) = (szStep (cCatalogue x) m) ∧ True)))) ?_
  intro n0
  simp only [List.length_map] at n0
  obtain ⟨f_version, f_tables⟩ := hf
  have hmx : maxLen = 9223372036854775807 := rfl
  refine ⟨sz_TableStatsS x.tables _ (by first | assumption | exact hf) (by omega) (by omega), ?_⟩
  refine ⟨fun c0 => ?_, fun c0 => ?_⟩
  · replace c0 := of_decide_eq_true c0
    have y0 := sz_bad c0
    refine ⟨?_, trivial⟩
    · unfold cCatalogue; first | (rw [szStep_no (by omega)]; done) | (rw [szStep_yes (by omega)]; done) | (rw [szStep_yes (by omega)]; omega)
  · replace c0 := of_decide_eq_false c0
    have y0 := sz_ok c0
    rw [szStep_yes y0] at *
    refine ⟨?_, trivial⟩
    · unfold cCatalogue; first | (rw [szStep_no (by omega)]; done) | (rw [szStep_yes (by omega)]; done) | (rw [szStep_yes (by omega)]; omega)

set_option maxRecDepth 100000 in
set_option maxHeartbeats 4000000 in
theorem sz_Dependency (x : DependencyD) (m : Int) (hf : FDependency x) (h0 : 0 ≤ m) (h1 : m ≤ 1048576) : Con Tryz.prog 100 [.agg [.str x.name, .sl 3 1 (x.src.map intD), .int .i64 x.dst], .one (.int .i64 m)] (vI (szStep (cDependency x) m)) [] := by
  refine con_x tbOk mixedW Tryz.func100 (by kernel_rfl) (.br (.fin []) (.call (vI (szStep (cIntS x.src) (m - ((x.name.size : Nat) : Int)))) [] <| .br (.fin []) (.fin []))) ?_
  refine Eq.mpr (by kernel_rfl : _ = ((x.src.map intD).length ≤ 9223372036854775807 → inR (m - ((x.name.size : Nat) : Int)) ∧ (((decide ((m - ((x.name.size : Nat) : Int)) < (0 : Int))) = true → (-1 : Int) = (szStep (cDependency x) m) ∧ True) ∧ ((decide ((m - ((x.name.size : Nat) : Int)) < (0 : Int))) = false → Con Tryz.prog 62 [.one (.sl 3 1 (x.src.map intD)), .one (.int .i64 (m - ((x.name.size : Nat) : Int)))] (vI (szStep (cIntS x.src) (m - ((x.name.size : Nat) : Int)))) [] ∧ (((decide ((szStep (cIntS x.src) (m - ((x.name.size : Nat) : Int))) < (0 : Int))) = true → (-1 : Int) = (szStep (cDependency x) m) ∧ True) ∧ ((decide ((szStep (cIntS x.src) (m - ((x.name.size : Nat) : Int))) < (0 : Int))) = false → (szStep (cIntS x.src) (m - ((x.name.size : Nat) : Int))) = (szStep (cDependency x) m) ∧ True)))))) ?_
  intro n0
  simp only [List.length_map] at n0
  obtain ⟨f_name, f_src, f_dst⟩ := hf
  have hmx : maxLen = 9223372036854775807 := rfl
  have g_name : x.name.size ≤ maxLen := f_name
  refine ⟨⟨by omega, by omega⟩, ?_⟩
  refine ⟨fun c0 => ?_, fun c0 => ?_⟩
  · replace c0 := of_decide_eq_true c0
    refine ⟨?_, trivial⟩
    · unfold cDependency; first | (rw [szStep_no (by omega)]; done) | (rw [szStep_yes (by omega)]; done) | (rw [szStep_yes (by omega)]; omega)
  · replace c0 := of_decide_eq_false c0
    refine ⟨sz_IntS x.src _ (by first | assumption | exact hf) (by omega) (by omega), ?_⟩
    refine ⟨fun c1 => ?_, fun c1 => ?_⟩
    · replace c1 := of_decide_eq_true c1
      have y1 := sz_bad c1
      refine ⟨?_, trivial⟩
      · unfold cDependency; first | (rw [szStep_no (by omega)]; done) | (rw [szStep_yes (by omega)]; done) | (rw [szStep_yes (by omega)]; omega)
    · replace c1 := of_decide_eq_false c1
      have y1 := sz_ok c1
      rw [szStep_yes y1] at *
      refine ⟨?_, trivial⟩
      · unfold cDependency; first | (rw [szStep_no (by omega)]; done) | (rw [szStep_yes (by omega)]; done) | (rw [szStep_yes (by omega)]; omega)

set_option maxRecDepth 100000 in
set_option maxHeartbeats 4000000 in
theorem sz_DependencyS (x : List DependencyD) (m : Int) (hf : FDependencyS x) (h0 : 0 ≤ m) (h1 : m ≤ 1048576) : Con Tryz.prog 46 [.one (.sl 142 3 (x.map eDependency)), .one (.int .i64 m)] (vI (szStep (cDependencyS x) m)) [] := by
  refine con_x tbOk mixedW Tryz.func46 (by kernel_rfl) (.len x.length <| .br (.fin []) (.loop (Nat × Int) (Q2 Nat Int) [1, 5, 12, 13, 14, 15, 16, 17, 18, 19, 20, 21, 22, 23, 24, 25] [] (fun yy0 => [(5, vI (yy0.1 : Int)), (1, vI yy0.2)]) (fun yy0 => []) (fun yy0 => yy0.1 ≤ x.length ∧ yy0.2 = m - x.length - (sumL cDependency (x.take yy0.1) : Nat) ∧ 0 ≤ yy0.2) (fun yy0 => x.length - yy0.1) (fun yy0 => .len x.length <| .br (.elem DependencyD eDependency x (fun e20 => .call (vI (szStep (cDependency e20) yy0.2)) [] <| .br (.fin []) (.back []))) (.fin [])))) ?_
  refine Eq.mpr (by kernel_rfl : _ = ((x.map eDependency).length ≤ 9223372036854775807 → (x.map eDependency).length = x.length ∧ (inR (m - ((x.length : Nat) : Int)) ∧ (((decide ((m - ((x.length : Nat) : Int)) < (0 : Int))) = true → (-1 : Int) = (szStep (cDependencyS x) m) ∧ True) ∧ ((decide ((m - ((x.length : Nat) : Int)) < (0 : Int))) = false → (∃ (k : Nat) (z : Int), (0 : Int) = (k : Int) ∧ (m - ((x.length : Nat) : Int)) = z ∧ k ≤ x.length ∧ z = m - x.length - (sumL cDependency (x.take k) : Nat) ∧ 0 ≤ z) ∧ ∀ (k : Nat) (z : Int), (k ≤ x.length ∧ z = m - x.length - (sumL cDependency (x.take k) : Nat) ∧ 0 ≤ z) → (x.map eDependency).length = x.length ∧ (((decide ((k : Int) < ((x.length : Nat) : Int))) = true → 0 ≤ (k : Int) ∧ (x.map eDependency = x.map eDependency ∧ k < x.length ∧ ∀ e20, x[k]? = some e20 → Con Tryz.prog 100 [.agg [.str e20.name, .sl 3 1 (e20.src.map intD), .int .i64 e20.dst], .one (.int .i64 z)] (vI (szStep (cDependency e20) z)) [] ∧ (((decide ((szStep (cDependency e20) z) < (0 : Int))) = true → (-1 : Int) = (szStep (cDependencyS x) m) ∧ True) ∧ ((decide ((szStep (cDependency e20) z) < (0 : Int))) = false → inR ((k : Int) + (1 : Int)) ∧ ∃ (k' : Nat) (z' : Int), ((k : Int) + (1 : Int)) = (k' : Int) ∧ (szStep (cDependency e20) z) = z' ∧ (k' ≤ x.length ∧ z' = m - x.length - (sumL cDependency (x.take k') : Nat) ∧ 0 ≤ z') ∧ x.length - k' < x.length - k)))) ∧ ((decide ((k : Int) < ((x.length : Nat) : Int))) = false → z = (szStep (cDependencyS x) m) ∧ True))))))) ?_
  intro n0
  simp only [List.length_map] at n0
  have hS : cDependencyS x = x.length + sumL cDependency x := rfl
  refine ⟨List.length_map _, ?_⟩
  refine ⟨⟨by omega, by omega⟩, ?_⟩
  refine ⟨fun c0 => ?_, fun c0 => ?_⟩
  · replace c0 := of_decide_eq_true c0
    refine ⟨?_, trivial⟩
    · first | (rw [szStep_no (by omega)]; done) | (rw [szStep_yes (by omega)]; done) | (rw [szStep_yes (by omega)]; omega)
  · replace c0 := of_decide_eq_false c0
    refine ⟨⟨0, m - ((x.length : Nat) : Int), rfl, rfl, Nat.zero_le _, by simp [sumL], by omega⟩, fun k z ⟨hk, hz, hz0⟩ => ?_⟩
    refine ⟨List.length_map _, ?_⟩
    refine ⟨fun c1 => ?_, fun c1 => ?_⟩
    · replace c1 := of_decide_eq_true c1
      obtain ⟨y, hy⟩ := at_some (l := x) (k := k) (by omega)
      have hfy := hf y (List.mem_of_getElem? hy)
      refine ⟨by omega, ?_⟩
      refine ⟨rfl, by omega, fun e20 h20 => ?_⟩
      obtain rfl := same_at hy h20
      refine ⟨sz_Dependency e20 _ (by first | assumption | exact hf) (by omega) (by omega), ?_⟩
      refine ⟨fun c2 => ?_, fun c2 => ?_⟩
      · replace c2 := of_decide_eq_true c2
        have y3 := sz_bad c2
        have y4 := sumL_snoc cDependency ‹x[k]? = some _›
        have y5 := sumL_le cDependency x (k + 1)
        refine ⟨?_, trivial⟩
        · first | (rw [szStep_no (by omega)]; done) | (rw [szStep_yes (by omega)]; done) | (rw [szStep_yes (by omega)]; omega)
      · replace c2 := of_decide_eq_false c2
        have y2 := szStep_yes (sz_ok c2)
        have y3 := sz_ok c2
        have y4 := sumL_snoc cDependency ‹x[k]? = some _›
        refine ⟨⟨by omega, by omega⟩, ?_⟩
        exact ⟨k + 1, szStep (cDependency e20) z, rfl, rfl, ⟨by omega, by rw [y2, y4, hz]; omega, by rw [y2]; omega⟩, by omega⟩
    · replace c1 := of_decide_eq_false c1
      have y6 : k = x.length := by omega
      rw [y6, List.take_length] at hz
      refine ⟨?_, trivial⟩
      · first | (rw [szStep_no (by omega)]; done) | (rw [szStep_yes (by omega)]; done) | (rw [szStep_yes (by omega)]; omega)

set_option maxRecDepth 100000 in
set_option maxHeartbeats 4000000 in
theorem sz_Inclusion (x : InclusionD) (m : Int) (hf : FInclusion x) (h0 : 0 ≤ m) (h1 : m ≤ 1048576) : Con Tryz.prog 101 [.agg [.str x.name, .int .i64 x.column, .str x.into, .int .i64 x.intoColumn], .one (.int .i64 m)] (vI (szStep (cInclusion x) m)) [] := by
  refine con_x tbOk mixedW Tryz.func101 (by kernel_rfl) (.br (.fin []) (.br (.fin []) (.fin []))) ?_
  refine Eq.mpr (by kernel_rfl : _ = (inR (m - ((x.name.size : Nat) : Int)) ∧ (((decide ((m - ((x.name.size : Nat) : Int)) < (0 : Int))) = true → (-1 : Int) = (szStep (cInclusion x) m) ∧ True) ∧ ((decide ((m - ((x.name.size : Nat) : Int)) < (0 : Int))) = false → inR ((m - ((x.name.size : Nat) : Int)) - ((x.into.size : Nat) : Int)) ∧ (((decide (((m - ((x.name.size : Nat) : Int)) - ((x.into.size : Nat) : Int)) < (0 : Int))) = true → (-1 : Int) = (szStep (cInclusion x) m) ∧ True) ∧ ((decide (((m - ((x.name.size : Nat) : Int)) - ((x.into.size : Nat) : Int)) < (0 : Int))) = false → ((m - ((x.name.size : Nat) : Int)) - ((x.into.size : Nat) : Int)) = (szStep (cInclusion x) m) ∧ True)))))) ?_
  obtain ⟨f_name, f_column, f_into, f_intoColumn⟩ := hf
  have hmx : maxLen = 9223372036854775807 := rfl
  have g_name : x.name.size ≤ maxLen := f_name
  have g_into : x.into.size ≤ maxLen := f_into
  refine ⟨⟨by omega, by omega⟩, ?_⟩
  refine ⟨fun c0 => ?_, fun c0 => ?_⟩
  · replace c0 := of_decide_eq_true c0
    refine ⟨?_, trivial⟩
    · unfold cInclusion; first | (rw [szStep_no (by omega)]; done) | (rw [szStep_yes (by omega)]; done) | (rw [szStep_yes (by omega)]; omega)
  · replace c0 := of_decide_eq_false c0
    refine ⟨⟨by omega, by omega⟩, ?_⟩
    refine ⟨fun c1 => ?_, fun c1 => ?_⟩
    · replace c1 := of_decide_eq_true c1
      refine ⟨?_, trivial⟩
      · unfold cInclusion; first | (rw [szStep_no (by omega)]; done) | (rw [szStep_yes (by omega)]; done) | (rw [szStep_yes (by omega)]; omega)
    · replace c1 := of_decide_eq_false c1
      refine ⟨?_, trivial⟩
      · unfold cInclusion; first | (rw [szStep_no (by omega)]; done) | (rw [szStep_yes (by omega)]; done) | (rw [szStep_yes (by omega)]; omega)

set_option maxRecDepth 100000 in
set_option maxHeartbeats 4000000 in
theorem sz_InclusionS (x : List InclusionD) (m : Int) (hf : FInclusionS x) (h0 : 0 ≤ m) (h1 : m ≤ 1048576) : Con Tryz.prog 47 [.one (.sl 144 4 (x.map eInclusion)), .one (.int .i64 m)] (vI (szStep (cInclusionS x) m)) [] := by
  refine con_x tbOk mixedW Tryz.func47 (by kernel_rfl) (.len x.length <| .br (.fin []) (.loop (Nat × Int) (Q2 Nat Int) [1, 5, 12, 13, 14, 15, 16, 17, 18, 19, 20, 21, 22, 23, 24, 25] [] (fun yy0 => [(5, vI (yy0.1 : Int)), (1, vI yy0.2)]) (fun yy0 => []) (fun yy0 => yy0.1 ≤ x.length ∧ yy0.2 = m - x.length - (sumL cInclusion (x.take yy0.1) : Nat) ∧ 0 ≤ yy0.2) (fun yy0 => x.length - yy0.1) (fun yy0 => .len x.length <| .br (.elem InclusionD eInclusion x (fun e20 => .call (vI (szStep (cInclusion e20) yy0.2)) [] <| .br (.fin []) (.back []))) (.fin [])))) ?_
  refine Eq.mpr (by kernel_rfl : _ = ((x.map eInclusion).length ≤ 9223372036854775807 → (x.map eInclusion).length = x.length ∧ (inR (m - ((x.length : Nat) : Int)) ∧ (((decide ((m - ((x.length : Nat) : Int)) < (0 : Int))) = true → (-1 : Int) = (szStep (cInclusionS x) m) ∧ True) ∧ ((decide ((m - ((x.length : Nat) : Int)) < (0 : Int))) = false → (∃ (k : Nat) (z : Int), (0 : Int) = (k : Int) ∧ (m - ((x.length : Nat) : Int)) = z ∧ k ≤ x.length ∧ z = m - x.length - (sumL cInclusion (x.take k) : Nat) ∧ 0 ≤ z) ∧ ∀ (k : Nat) (z : Int), (k ≤ x.length ∧ z = m - x.length - (sumL cInclusion (x.take k) : Nat) ∧ 0 ≤ z) → (x.map eInclusion).length = x.length ∧ (((decide ((k : Int) < ((x.length : Nat) : Int))) = true → 0 ≤ (k : Int) ∧ (x.map eInclusion = x.map eInclusion ∧ k < x.length ∧ ∀ e20, x[k]? = some e20 → Con Tryz.prog 101 [.agg [.str e20.name, .int .i64 e20.column, .str e20.into, .int .i64 e20.intoColumn], .one (.int .i64 z)] (vI (szStep (cInclusion e20) z)) [] ∧ (((decide ((szStep (cInclusion e20) z) < (0 : Int))) = true → (-1 : Int) = (szStep (cInclusionS x) m) ∧ True) ∧ ((decide ((szStep (cInclusion e20) z) < (0 : Int))) = false → inR ((k : Int) + (1 : Int)) ∧ ∃ (k' : Nat) (z' : Int), ((k : Int) + (1 : Int)) = (k' : Int) ∧ (szStep (cInclusion e20) z) = z' ∧ (k' ≤ x.length ∧ z' = m - x.length - (sumL cInclusion (x.take k') : Nat) ∧ 0 ≤ z') ∧ x.length - k' < x.length - k)))) ∧ ((decide ((k : Int) < ((x.length : Nat) : Int))) = false → z = (szStep (cInclusionS x) m) ∧ True))))))) ?_
  intro n0
  simp only [List.length_map] at n0
  have hS : cInclusionS x = x.length + sumL cInclusion x := rfl
  refine ⟨List.length_map _, ?_⟩
  refine ⟨⟨by omega, by omega⟩, ?_⟩
  refine ⟨fun c0 => ?_, fun c0 => ?_⟩
  · replace c0 := of_decide_eq_true c0
    refine ⟨?_, trivial⟩
    · first | (rw [szStep_no (by omega)]; done) | (rw [szStep_yes (by omega)]; done) | (rw [szStep_yes (by omega)]; omega)
  · replace c0 := of_decide_eq_false c0
    refine ⟨⟨0, m - ((x.length : Nat) : Int), rfl, rfl, Nat.zero_le _, by simp [sumL], by omega⟩, fun k z ⟨hk, hz, hz0⟩ => ?_⟩
    refine ⟨List.length_map _, ?_⟩
    refine ⟨fun c1 => ?_, fun c1 => ?_⟩
    · replace c1 := of_decide_eq_true c1
      obtain ⟨y, hy⟩ := at_some (l := x) (k := k) (by omega)
      have hfy := hf y (List.mem_of_getElem? hy)
      refine ⟨by omega, ?_⟩
      refine ⟨rfl, by omega, fun e20 h20 => ?_⟩
      obtain rfl := same_at hy h20
      refine ⟨sz_Inclusion e20 _ (by first | assumption | exact hf) (by omega) (by omega), ?_⟩
      refine ⟨fun c2 => ?_, fun c2 => ?_⟩
      · replace c2 := of_decide_eq_true c2
        have y3 := sz_bad c2
        have y4 := sumL_snoc cInclusion ‹x[k]? = some _›
        have y5 := sumL_le cInclusion x (k + 1)
        refine ⟨?_, trivial⟩
        · first | (rw [szStep_no (by omega)]; done) | (rw [szStep_yes (by omega)]; done) | (rw [szStep_yes (by omega)]; omega)
      · replace c2 := of_decide_eq_false c2
        have y2 := szStep_yes (sz_ok c2)
        have y3 := sz_ok c2
        have y4 := sumL_snoc cInclusion ‹x[k]? = some _›
        refine ⟨⟨by omega, by omega⟩, ?_⟩
        exact ⟨k + 1, szStep (cInclusion e20) z, rfl, rfl, ⟨by omega, by rw [y2, y4, hz]; omega, by rw [y2]; omega⟩, by omega⟩
    · replace c1 := of_decide_eq_false c1
      have y6 : k = x.length := by omega
      rw [y6, List.take_length] at hz
      refine ⟨?_, trivial⟩
      · first | (rw [szStep_no (by omega)]; done) | (rw [szStep_yes (by omega)]; done) | (rw [szStep_yes (by omega)]; omega)

set_option maxRecDepth 100000 in
set_option maxHeartbeats 4000000 in
theorem sz_Store (x : StoreD) (m : Int) (hf : FStore x) (h0 : 0 ≤ m) (h1 : m ≤ 1048576) : Con Tryz.prog 38 [.agg [.sl 107 3 (x.database.tables.map eTable), .int .i64 x.catalogue.version, .sl 32 4 (x.catalogue.tables.map eTableStats), .sl 142 3 (x.dependencies.map eDependency), .sl 144 4 (x.inclusions.map eInclusion)], .one (.int .i64 m)] (vI (szStep (cStore x) m)) [] := by
  refine con_x tbOk mixedW Tryz.func38 (by kernel_rfl) (.call (vI (szStep (cDatabase x.database) m)) [] <| .br (.fin []) (.call (vI (szStep (cCatalogue x.catalogue) (szStep (cDatabase x.database) m))) [] <| .br (.fin []) (.call (vI (szStep (cDependencyS x.dependencies) (szStep (cCatalogue x.catalogue) (szStep (cDatabase x.database) m)))) [] <| .br (.fin []) (.call (vI (szStep (cInclusionS x.inclusions) (szStep (cDependencyS x.dependencies) (szStep (cCatalogue x.catalogue) (szStep (cDatabase x.database) m))))) [] <| .br (.fin []) (.fin []))))) ?_
  refine Eq.mpr (by kernel_rfl : _ = ((x.database.tables.map eTable).length ≤ 9223372036854775807 → (x.catalogue.tables.map eTableStats).length ≤ 9223372036854775807 → (x.dependencies.map eDependency).length ≤ 9223372036854775807 → (x.inclusions.map eInclusion).length ≤ 9223372036854775807 → Con Tryz.prog 45 [.agg [.sl 107 3 (x.database.tables.map eTable)], .one (.int .i64 m)] (vI (szStep (cDatabase x.database) m)) [] ∧ (((decide ((szStep (cDatabase x.database) m) < (0 : Int))) = true → (-1 : Int) = (szStep (cStore x) m) ∧ True) ∧ ((decide ((szStep (cDatabase x.database) m) < (0 : Int))) = false → Con Tryz.prog 90 [.agg [.int .i64 x.catalogue.version, .sl 32 4 (x.catalogue.tables.map eTableStats)], .one (.int .i64 (szStep (cDatabase x.database) m))] (vI (szStep (cCatalogue x.catalogue) (szStep (cDatabase x.database) m))) [] ∧ (((decide ((szStep (cCatalogue x.catalogue) (szStep (cDatabase x.database) m)) < (0 : Int))) = true → (-1 : Int) = (szStep (cStore x) m) ∧ True) ∧ ((decide ((szStep (cCatalogue x.catalogue) (szStep (cDatabase x.database) m)) < (0 : Int))) = false → Con Tryz.prog 46 [.one (.sl 142 3 (x.dependencies.map eDependency)), .one (.int .i64 (szStep (cCatalogue x.catalogue) (szStep (cDatabase x.database) m)))] (vI (szStep (cDependencyS x.dependencies) (szStep (cCatalogue x.catalogue) (szStep (cDatabase x.database) m)))) [] ∧ (((decide ((szStep (cDependencyS x.dependencies) (szStep (cCatalogue x.catalogue) (szStep (cDatabase x.database) m))) < (0 : Int))) = true → (-1 : Int) = (szStep (cStore x) m) ∧ True) ∧ ((decide ((szStep (cDependencyS x.dependencies) (szStep (cCatalogue x.catalogue) (szStep (cDatabase x.database) m))) < (0 : Int))) = false → Con Tryz.prog 47 [.one (.sl 144 4 (x.inclusions.map eInclusion)), .one (.int .i64 (szStep (cDependencyS x.dependencies) (szStep (cCatalogue x.catalogue) (szStep (cDatabase x.database) m))))] (vI (szStep (cInclusionS x.inclusions) (szStep (cDependencyS x.dependencies) (szStep (cCatalogue x.catalogue) (szStep (cDatabase x.database) m))))) [] ∧ (((decide ((szStep (cInclusionS x.inclusions) (szStep (cDependencyS x.dependencies) (szStep (cCatalogue x.catalogue) (szStep (cDatabase x.database) m)))) < (0 : Int))) = true → (-1 : Int) = (szStep (cStore x) m) ∧ True) ∧ ((decide ((szStep (cInclusionS x.inclusions) (szStep (cDependencyS x.dependencies) (szStep (cCatalogue x.catalogue) (szStep (cDatabase x.database) m)))) < (0 : Int))) = false → (szStep (cInclusionS x.inclusions) (szStep (cDependencyS x.dependencies) (szStep (cCatalogue x.catalogue) (szStep (cDatabase x.database) m)))) = (szStep (cStore x) m) ∧ True)))))))))) ?_
  intro n0 n1 n2 n3
  simp only [List.length_map] at n0 n1 n2 n3
  obtain ⟨f_database, f_catalogue, f_dependencies, f_inclusions⟩ := hf
  have hmx : maxLen = 9223372036854775807 := rfl
  refine ⟨sz_Database x.database _ (by first | assumption | exact hf) (by omega) (by omega), ?_⟩
  refine ⟨fun c0 => ?_, fun c0 => ?_⟩
  · replace c0 := of_decide_eq_true c0
    have y0 := sz_bad c0
    refine ⟨?_, trivial⟩
    · unfold cStore; first | (rw [szStep_no (by omega)]; done) | (rw [szStep_yes (by omega)]; done) | (rw [szStep_yes (by omega)]; omega)
  · replace c0 := of_decide_eq_false c0
    have y0 := sz_ok c0
    rw [szStep_yes y0] at *
    refine ⟨sz_Catalogue x.catalogue _ (by first | assumption | exact hf) (by omega) (by omega), ?_⟩
    refine ⟨fun c1 => ?_, fun c1 => ?_⟩
    · replace c1 := of_decide_eq_true c1
      have y1 := sz_bad c1
      refine ⟨?_, trivial⟩
      · unfold cStore; first | (rw [szStep_no (by omega)]; done) | (rw [szStep_yes (by omega)]; done) | (rw [szStep_yes (by omega)]; omega)
    · replace c1 := of_decide_eq_false c1
      have y1 := sz_ok c1
      rw [szStep_yes y1] at *
      refine ⟨sz_DependencyS x.dependencies _ (by first | assumption | exact hf) (by omega) (by omega), ?_⟩
      refine ⟨fun c2 => ?_, fun c2 => ?_⟩
      · replace c2 := of_decide_eq_true c2
        have y2 := sz_bad c2
        refine ⟨?_, trivial⟩
        · unfold cStore; first | (rw [szStep_no (by omega)]; done) | (rw [szStep_yes (by omega)]; done) | (rw [szStep_yes (by omega)]; omega)
      · replace c2 := of_decide_eq_false c2
        have y2 := sz_ok c2
        rw [szStep_yes y2] at *
        refine ⟨sz_InclusionS x.inclusions _ (by first | assumption | exact hf) (by omega) (by omega), ?_⟩
        refine ⟨fun c3 => ?_, fun c3 => ?_⟩
        · replace c3 := of_decide_eq_true c3
          have y3 := sz_bad c3
          refine ⟨?_, trivial⟩
          · unfold cStore; first | (rw [szStep_no (by omega)]; done) | (rw [szStep_yes (by omega)]; done) | (rw [szStep_yes (by omega)]; omega)
        · replace c3 := of_decide_eq_false c3
          have y3 := sz_ok c3
          rw [szStep_yes y3] at *
          refine ⟨?_, trivial⟩
          · unfold cStore; first | (rw [szStep_no (by omega)]; done) | (rw [szStep_yes (by omega)]; done) | (rw [szStep_yes (by omega)]; omega)
end Go.Proofs.YtjlagjhmlmfjeaaGreat
