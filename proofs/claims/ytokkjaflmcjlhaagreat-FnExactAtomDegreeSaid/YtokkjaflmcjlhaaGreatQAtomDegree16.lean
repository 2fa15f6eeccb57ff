/-
  Contracts and plain laws, joined: part 17.
-/
import Derived.Test.YtokkjaflmcjlhaaGreatQAtomDegree3
import Derived.Test.YtokkjaflmcjlhaaGreatQAtomDegree14
import Derived.Test.YtokkjaflmcjlhaaGreatQAtomDegree15
namespace Go.Proofs.YtokkjaflmcjlhaaGreat
open Go.ChangeShapes Go.WideShapes Go.ChangeAt Go.RowKit
set_option linter.unusedVariables false
set_option linter.unusedSimpArgs false
set_option maxRecDepth 100000
set_option maxHeartbeats 4000000
abbrev K_sz_IntS (x : List Int) (m : Int) : Prop := Con Tryz.prog 61 [.one (.sl 3 1 (x.map intD)), .one (.int .i64 m)] (vI (szStep (cIntS x) m)) []
theorem sz_IntS (x : List Int) (m : Int) (hf : FIntS x) (h0 : 0 ≤ m) (h1 : m ≤ 1048576) : K_sz_IntS x m := by
 refine con_x tbOk mixedW Tryz.func61 (by kernel_rfl) (.len x.length <| .br (.fin []) (.fin [])) ?_
 refine Eq.mpr (by kernel_rfl : _ = ((x.map intD).length ≤ 9223372036854775807 → Lm intD x ∧ (inR (m - ((x.length : Nat) : Int)) ∧ (((decide ((m - ((x.length : Nat) : Int)) < (0 : Int))) = true → (-1 : Int) = (szStep (cIntS x) m) ∧ True) ∧ ((decide ((m - ((x.length : Nat) : Int)) < (0 : Int))) = false → (m - ((x.length : Nat) : Int)) = (szStep (cIntS x) m) ∧ True))))) ?_
 intro n0
 simp only [List.length_map] at n0
 refine ⟨List.length_map _, ⟨by omega, by omega⟩, fun c0 => ?_, fun c0 => ?_⟩
 ·replace c0 := yq c0
  refine ⟨?_, trivial⟩
  ·unfold cIntS; first | (rw [szStep_no (by omega)]; done) | (rw [szStep_yes (by omega)]; done)
 ·replace c0 := nq c0
  refine ⟨?_, trivial⟩
  ·unfold cIntS; first | (rw [szStep_no (by omega)]; done) | (rw [szStep_yes (by omega)]; done)
abbrev K_sz_IntSS (x : List (List Int)) (m : Int) : Prop := Con Tryz.prog 256 [.one (.sl 32 1 (x.map eIntS)), .one (.int .i64 m)] (vI (szStep (cIntSS x) m)) []
theorem sz_IntSS (x : List (List Int)) (m : Int) (hf : FIntSS x) (h0 : 0 ≤ m) (h1 : m ≤ 1048576) : K_sz_IntSS x m := by
 refine con_x tbOk mixedW Tryz.func256 (by kernel_rfl) (.len x.length <| .br (.fin []) (.loop (Nat × Int) (Q2 Nat Int) [1, 5, 12, 13, 14, 15, 16, 17, 18, 19, 20, 21, 22, 23, 24, 25] [] (fun yy0 => [(5, vI (yy0.1 : Int)), (1, vI yy0.2)]) (fun yy0 => []) (fun yy0 => yy0.1 ≤ x.length ∧ yy0.2 = m - x.length - (sumL cIntS (x.take yy0.1) : Nat) ∧ 0 ≤ yy0.2) (fun yy0 => x.length - yy0.1) (fun yy0 => .len x.length <| .br (.elem _ eIntS x (fun e20 => .call (vI (szStep (cIntS e20) yy0.2)) [] <| .br (.fin []) (.back []))) (.fin [])))) ?_
 refine Eq.mpr (by kernel_rfl : _ = ((x.map eIntS).length ≤ 9223372036854775807 → Lm eIntS x ∧ (inR (m - ((x.length : Nat) : Int)) ∧ (((decide ((m - ((x.length : Nat) : Int)) < (0 : Int))) = true → (-1 : Int) = (szStep (cIntSS x) m) ∧ True) ∧ ((decide ((m - ((x.length : Nat) : Int)) < (0 : Int))) = false → (∃ (k : Nat) (z : Int), (0 : Int) = (k : Int) ∧ (m - ((x.length : Nat) : Int)) = z ∧ k ≤ x.length ∧ z = m - x.length - (sumL cIntS (x.take k) : Nat) ∧ 0 ≤ z) ∧ ∀ (k : Nat) (z : Int), (k ≤ x.length ∧ z = m - x.length - (sumL cIntS (x.take k) : Nat) ∧ 0 ≤ z) → Lm eIntS x ∧ (((decide ((k : Int) < ((x.length : Nat) : Int))) = true → 0 ≤ (k : Int) ∧ Em eIntS x k fun e20 => K_sz_IntS e20 z ∧ (((decide ((szStep (cIntS e20) z) < (0 : Int))) = true → (-1 : Int) = (szStep (cIntSS x) m) ∧ True) ∧ ((decide ((szStep (cIntS e20) z) < (0 : Int))) = false → inR ((k : Int) + (1 : Int)) ∧ ∃ (k' : Nat) (z' : Int), ((k : Int) + (1 : Int)) = (k' : Int) ∧ (szStep (cIntS e20) z) = z' ∧ (k' ≤ x.length ∧ z' = m - x.length - (sumL cIntS (x.take k') : Nat) ∧ 0 ≤ z') ∧ x.length - k' < x.length - k))) ∧ ((decide ((k : Int) < ((x.length : Nat) : Int))) = false → z = (szStep (cIntSS x) m) ∧ True))))))) ?_
 intro n0
 simp only [List.length_map] at n0
 have hS : cIntSS x = x.length + sumL cIntS x := rfl
 refine ⟨List.length_map _, ⟨by omega, by omega⟩, fun c0 => ?_, fun c0 => ?_⟩
 ·replace c0 := yq c0
  refine ⟨?_, trivial⟩
  ·first | (rw [szStep_no (by omega)]; done) | (rw [szStep_yes (by omega)]; done) | (rw [szStep_yes (by omega)]; omega)
 ·replace c0 := nq c0
  refine ⟨⟨0, m - ((x.length : Nat) : Int), rfl, rfl, Nat.zero_le _, by simp [sumL], by omega⟩, fun k z ⟨hk, hz, hz0⟩ => ?_⟩
  refine ⟨List.length_map _, fun c1 => ?_, fun c1 => ?_⟩
  ·replace c1 := yq c1
   obtain ⟨y, hy⟩ := at_some (l := x) (k := k) (by omega)
   have hfy := hf y (List.mem_of_getElem? hy)
   refine ⟨by omega, rfl, by omega, fun e20 h20 => ?_⟩
   obtain rfl := same_at hy h20
   refine ⟨sz_IntS e20 _ (by first | assumption | exact hf) (by omega) (by omega), fun c2 => ?_, fun c2 => ?_⟩
   ·replace c2 := yq c2
    have y3 := sz_bad c2
    have y4 := sumL_snoc cIntS ‹x[k]? = some _›
    have y5 := sumL_le cIntS x (k + 1)
    refine ⟨?_, trivial⟩
    ·first | (rw [szStep_no (by omega)]; done) | (rw [szStep_yes (by omega)]; done) | (rw [szStep_yes (by omega)]; omega)
   ·replace c2 := nq c2
    have y2 := szStep_yes (sz_ok c2)
    have y3 := sz_ok c2
    have y4 := sumL_snoc cIntS ‹x[k]? = some _›
    refine ⟨⟨by omega, by omega⟩, ?_⟩
    exact ⟨k + 1, szStep (cIntS e20) z, rfl, rfl, ⟨by omega, by rw [y2, y4, hz]; omega, by rw [y2]; omega⟩, by omega⟩
  ·replace c1 := nq c1
   have y6 : k = x.length := by omega
   rw [y6, List.take_length] at hz
   refine ⟨?_, trivial⟩
   ·first | (rw [szStep_no (by omega)]; done) | (rw [szStep_yes (by omega)]; done) | (rw [szStep_yes (by omega)]; omega)
abbrev K_sz_Table (x : TableD) (m : Int) : Prop := Con Tryz.prog 202 [.agg [.str x.name, .int .i64 x.arity, .sl 32 1 (x.rows.map eIntS)], .one (.int .i64 m)] (vI (szStep (cTable x) m)) []
theorem sz_Table (x : TableD) (m : Int) (hf : FTable x) (h0 : 0 ≤ m) (h1 : m ≤ 1048576) : K_sz_Table x m := by
 refine con_x tbOk mixedW Tryz.func202 (by kernel_rfl) (.br (.fin []) (.call (vI (szStep (cIntSS x.rows) (m - ((x.name.size : Nat) : Int)))) [] <| .br (.fin []) (.fin []))) ?_
 refine Eq.mpr (by kernel_rfl : _ = ((x.rows.map eIntS).length ≤ 9223372036854775807 → inR (m - ((x.name.size : Nat) : Int)) ∧ (((decide ((m - ((x.name.size : Nat) : Int)) < (0 : Int))) = true → (-1 : Int) = (szStep (cTable x) m) ∧ True) ∧ ((decide ((m - ((x.name.size : Nat) : Int)) < (0 : Int))) = false → K_sz_IntSS x.rows (m - ((x.name.size : Nat) : Int)) ∧ (((decide ((szStep (cIntSS x.rows) (m - ((x.name.size : Nat) : Int))) < (0 : Int))) = true → (-1 : Int) = (szStep (cTable x) m) ∧ True) ∧ ((decide ((szStep (cIntSS x.rows) (m - ((x.name.size : Nat) : Int))) < (0 : Int))) = false → (szStep (cIntSS x.rows) (m - ((x.name.size : Nat) : Int))) = (szStep (cTable x) m) ∧ True)))))) ?_
 intro n0
 simp only [List.length_map] at n0
 obtain ⟨f_name, f_arity, f_rows⟩ := hf
 have hmx : maxLen = 9223372036854775807 := rfl
 have g_name : x.name.size ≤ maxLen := f_name
 refine ⟨⟨by omega, by omega⟩, fun c0 => ?_, fun c0 => ?_⟩
 ·replace c0 := yq c0
  refine ⟨?_, trivial⟩
  ·unfold cTable; first | (rw [szStep_no (by omega)]; done) | (rw [szStep_yes (by omega)]; done) | (rw [szStep_yes (by omega)]; omega)
 ·replace c0 := nq c0
  refine ⟨sz_IntSS x.rows _ (by first | assumption | exact hf) (by omega) (by omega), fun c1 => ?_, fun c1 => ?_⟩
  ·replace c1 := yq c1
   have y1 := sz_bad c1
   refine ⟨?_, trivial⟩
   ·unfold cTable; first | (rw [szStep_no (by omega)]; done) | (rw [szStep_yes (by omega)]; done) | (rw [szStep_yes (by omega)]; omega)
  ·replace c1 := nq c1
   have y1 := sz_ok c1
   rw [szStep_yes y1] at *
   refine ⟨?_, trivial⟩
   ·unfold cTable; first | (rw [szStep_no (by omega)]; done) | (rw [szStep_yes (by omega)]; done) | (rw [szStep_yes (by omega)]; omega)
abbrev K_sz_TableS (x : List TableD) (m : Int) : Prop := Con Tryz.prog 125 [.one (.sl 162 3 (x.map eTable)), .one (.int .i64 m)] (vI (szStep (cTableS x) m)) []
theorem sz_TableS (x : List TableD) (m : Int) (hf : FTableS x) (h0 : 0 ≤ m) (h1 : m ≤ 1048576) : K_sz_TableS x m := by
 refine con_x tbOk mixedW Tryz.func125 (by kernel_rfl) (.len x.length <| .br (.fin []) (.loop (Nat × Int) (Q2 Nat Int) [1, 5, 12, 13, 14, 15, 16, 17, 18, 19, 20, 21, 22, 23, 24, 25] [] (fun yy0 => [(5, vI (yy0.1 : Int)), (1, vI yy0.2)]) (fun yy0 => []) (fun yy0 => yy0.1 ≤ x.length ∧ yy0.2 = m - x.length - (sumL cTable (x.take yy0.1) : Nat) ∧ 0 ≤ yy0.2) (fun yy0 => x.length - yy0.1) (fun yy0 => .len x.length <| .br (.elem _ eTable x (fun e20 => .call (vI (szStep (cTable e20) yy0.2)) [] <| .br (.fin []) (.back []))) (.fin [])))) ?_
 refine Eq.mpr (by kernel_rfl : _ = ((x.map eTable).length ≤ 9223372036854775807 → Lm eTable x ∧ (inR (m - ((x.length : Nat) : Int)) ∧ (((decide ((m - ((x.length : Nat) : Int)) < (0 : Int))) = true → (-1 : Int) = (szStep (cTableS x) m) ∧ True) ∧ ((decide ((m - ((x.length : Nat) : Int)) < (0 : Int))) = false → (∃ (k : Nat) (z : Int), (0 : Int) = (k : Int) ∧ (m - ((x.length : Nat) : Int)) = z ∧ k ≤ x.length ∧ z = m - x.length - (sumL cTable (x.take k) : Nat) ∧ 0 ≤ z) ∧ ∀ (k : Nat) (z : Int), (k ≤ x.length ∧ z = m - x.length - (sumL cTable (x.take k) : Nat) ∧ 0 ≤ z) → Lm eTable x ∧ (((decide ((k : Int) < ((x.length : Nat) : Int))) = true → 0 ≤ (k : Int) ∧ Em eTable x k fun e20 => K_sz_Table e20 z ∧ (((decide ((szStep (cTable e20) z) < (0 : Int))) = true → (-1 : Int) = (szStep (cTableS x) m) ∧ True) ∧ ((decide ((szStep (cTable e20) z) < (0 : Int))) = false → inR ((k : Int) + (1 : Int)) ∧ ∃ (k' : Nat) (z' : Int), ((k : Int) + (1 : Int)) = (k' : Int) ∧ (szStep (cTable e20) z) = z' ∧ (k' ≤ x.length ∧ z' = m - x.length - (sumL cTable (x.take k') : Nat) ∧ 0 ≤ z') ∧ x.length - k' < x.length - k))) ∧ ((decide ((k : Int) < ((x.length : Nat) : Int))) = false → z = (szStep (cTableS x) m) ∧ True))))))) ?_
 intro n0
 simp only [List.length_map] at n0
 have hS : cTableS x = x.length + sumL cTable x := rfl
 refine ⟨List.length_map _, ⟨by omega, by omega⟩, fun c0 => ?_, fun c0 => ?_⟩
 ·replace c0 := yq c0
  refine ⟨?_, trivial⟩
  ·first | (rw [szStep_no (by omega)]; done) | (rw [szStep_yes (by omega)]; done) | (rw [szStep_yes (by omega)]; omega)
 ·replace c0 := nq c0
  refine ⟨⟨0, m - ((x.length : Nat) : Int), rfl, rfl, Nat.zero_le _, by simp [sumL], by omega⟩, fun k z ⟨hk, hz, hz0⟩ => ?_⟩
  refine ⟨List.length_map _, fun c1 => ?_, fun c1 => ?_⟩
  ·replace c1 := yq c1
   obtain ⟨y, hy⟩ := at_some (l := x) (k := k) (by omega)
   have hfy := hf y (List.mem_of_getElem? hy)
   refine ⟨by omega, rfl, by omega, fun e20 h20 => ?_⟩
   obtain rfl := same_at hy h20
   refine ⟨sz_Table e20 _ (by first | assumption | exact hf) (by omega) (by omega), fun c2 => ?_, fun c2 => ?_⟩
   ·replace c2 := yq c2
    have y3 := sz_bad c2
    have y4 := sumL_snoc cTable ‹x[k]? = some _›
    have y5 := sumL_le cTable x (k + 1)
    refine ⟨?_, trivial⟩
    ·first | (rw [szStep_no (by omega)]; done) | (rw [szStep_yes (by omega)]; done) | (rw [szStep_yes (by omega)]; omega)
   ·replace c2 := nq c2
    have y2 := szStep_yes (sz_ok c2)
    have y3 := sz_ok c2
    have y4 := sumL_snoc cTable ‹x[k]? = some _›
    refine ⟨⟨by omega, by omega⟩, ?_⟩
    exact ⟨k + 1, szStep (cTable e20) z, rfl, rfl, ⟨by omega, by rw [y2, y4, hz]; omega, by rw [y2]; omega⟩, by omega⟩
  ·replace c1 := nq c1
   have y6 : k = x.length := by omega
   rw [y6, List.take_length] at hz
   refine ⟨?_, trivial⟩
   ·first | (rw [szStep_no (by omega)]; done) | (rw [szStep_yes (by omega)]; done) | (rw [szStep_yes (by omega)]; omega)
abbrev K_sz_Database (x : DatabaseD) (m : Int) : Prop := Con Tryz.prog 57 [.agg [.sl 162 3 (x.tables.map eTable)], .one (.int .i64 m)] (vI (szStep (cDatabase x) m)) []
theorem sz_Database (x : DatabaseD) (m : Int) (hf : FDatabase x) (h0 : 0 ≤ m) (h1 : m ≤ 1048576) : K_sz_Database x m := by
 refine con_x tbOk mixedW Tryz.func57 (by kernel_rfl) (.call (vI (szStep (cTableS x.tables) m)) [] <| .br (.fin []) (.fin [])) ?_
 refine Eq.mpr (by kernel_rfl : _ = ((x.tables.map eTable).length ≤ 9223372036854775807 → K_sz_TableS x.tables m ∧ (((decide ((szStep (cTableS x.tables) m) < (0 : Int))) = true → (-1 : Int) = (szStep (cDatabase x) m) ∧ True) ∧ ((decide ((szStep (cTableS x.tables) m) < (0 : Int))) = false → (szStep (cTableS x.tables) m) = (szStep (cDatabase x) m) ∧ True)))) ?_
 intro n0
 simp only [List.length_map] at n0
 have f_tables := hf
 have hmx : maxLen = 9223372036854775807 := rfl
 refine ⟨sz_TableS x.tables _ (by first | assumption | exact hf) (by omega) (by omega), fun c0 => ?_, fun c0 => ?_⟩
 ·replace c0 := yq c0
  have y0 := sz_bad c0
  refine ⟨?_, trivial⟩
  ·unfold cDatabase; first | (rw [szStep_no (by omega)]; done) | (rw [szStep_yes (by omega)]; done) | (rw [szStep_yes (by omega)]; omega)
 ·replace c0 := nq c0
  have y0 := sz_ok c0
  rw [szStep_yes y0] at *
  refine ⟨?_, trivial⟩
  ·unfold cDatabase; first | (rw [szStep_no (by omega)]; done) | (rw [szStep_yes (by omega)]; done) | (rw [szStep_yes (by omega)]; omega)
abbrev K_sz_GroupStats (x : GroupStatsD) (m : Int) : Prop := Con Tryz.prog 281 [.agg [.sl 3 1 (x.columns.map intD), .sl 32 1 (x.values.map eIntS), .sl 3 1 (x.counts.map intD)], .one (.int .i64 m)] (vI (szStep (cGroupStats x) m)) []
theorem sz_GroupStats (x : GroupStatsD) (m : Int) (hf : FGroupStats x) (h0 : 0 ≤ m) (h1 : m ≤ 1048576) : K_sz_GroupStats x m := by
 refine con_x tbOk mixedW Tryz.func281 (by kernel_rfl) (.call (vI (szStep (cIntS x.columns) m)) [] <| .br (.fin []) (.call (vI (szStep (cIntSS x.values) (szStep (cIntS x.columns) m))) [] <| .br (.fin []) (.call (vI (szStep (cIntS x.counts) (szStep (cIntSS x.values) (szStep (cIntS x.columns) m)))) [] <| .br (.fin []) (.fin [])))) ?_
 refine Eq.mpr (by kernel_rfl : _ = ((x.columns.map intD).length ≤ 9223372036854775807 → (x.values.map eIntS).length ≤ 9223372036854775807 → (x.counts.map intD).length ≤ 9223372036854775807 → K_sz_IntS x.columns m ∧ (((decide ((szStep (cIntS x.columns) m) < (0 : Int))) = true → (-1 : Int) = (szStep (cGroupStats x) m) ∧ True) ∧ ((decide ((szStep (cIntS x.columns) m) < (0 : Int))) = false → K_sz_IntSS x.values (szStep (cIntS x.columns) m) ∧ (((decide ((szStep (cIntSS x.values) (szStep (cIntS x.columns) m)) < (0 : Int))) = true → (-1 : Int) = (szStep (cGroupStats x) m) ∧ True) ∧ ((decide ((szStep (cIntSS x.values) (szStep (cIntS x.columns) m)) < (0 : Int))) = false → K_sz_IntS x.counts (szStep (cIntSS x.values) (szStep (cIntS x.columns) m)) ∧ (((decide ((szStep (cIntS x.counts) (szStep (cIntSS x.values) (szStep (cIntS x.columns) m))) < (0 : Int))) = true → (-1 : Int) = (szStep (cGroupStats x) m) ∧ True) ∧ ((decide ((szStep (cIntS x.counts) (szStep (cIntSS x.values) (szStep (cIntS x.columns) m))) < (0 : Int))) = false → (szStep (cIntS x.counts) (szStep (cIntSS x.values) (szStep (cIntS x.columns) m))) = (szStep (cGroupStats x) m) ∧ True)))))))) ?_
 intro n0 n1 n2
 simp only [List.length_map] at n0 n1 n2
 obtain ⟨f_columns, f_values, f_counts⟩ := hf
 have hmx : maxLen = 9223372036854775807 := rfl
 refine ⟨sz_IntS x.columns _ (by first | assumption | exact hf) (by omega) (by omega), fun c0 => ?_, fun c0 => ?_⟩
 ·replace c0 := yq c0
  have y0 := sz_bad c0
  refine ⟨?_, trivial⟩
  ·unfold cGroupStats; first | (rw [szStep_no (by omega)]; done) | (rw [szStep_yes (by omega)]; done) | (rw [szStep_yes (by omega)]; omega)
 ·replace c0 := nq c0
  have y0 := sz_ok c0
  rw [szStep_yes y0] at *
  refine ⟨sz_IntSS x.values _ (by first | assumption | exact hf) (by omega) (by omega), fun c1 => ?_, fun c1 => ?_⟩
  ·replace c1 := yq c1
   have y1 := sz_bad c1
   refine ⟨?_, trivial⟩
   ·unfold cGroupStats; first | (rw [szStep_no (by omega)]; done) | (rw [szStep_yes (by omega)]; done) | (rw [szStep_yes (by omega)]; omega)
  ·replace c1 := nq c1
   have y1 := sz_ok c1
   rw [szStep_yes y1] at *
   refine ⟨sz_IntS x.counts _ (by first | assumption | exact hf) (by omega) (by omega), fun c2 => ?_, fun c2 => ?_⟩
   ·replace c2 := yq c2
    have y2 := sz_bad c2
    refine ⟨?_, trivial⟩
    ·unfold cGroupStats; first | (rw [szStep_no (by omega)]; done) | (rw [szStep_yes (by omega)]; done) | (rw [szStep_yes (by omega)]; omega)
   ·replace c2 := nq c2
    have y2 := sz_ok c2
    rw [szStep_yes y2] at *
    refine ⟨?_, trivial⟩
    ·unfold cGroupStats; first | (rw [szStep_no (by omega)]; done) | (rw [szStep_yes (by omega)]; done) | (rw [szStep_yes (by omega)]; omega)
abbrev K_sz_GroupStatsS (x : List GroupStatsD) (m : Int) : Prop := Con Tryz.prog 257 [.one (.sl 218 3 (x.map eGroupStats)), .one (.int .i64 m)] (vI (szStep (cGroupStatsS x) m)) []
theorem sz_GroupStatsS (x : List GroupStatsD) (m : Int) (hf : FGroupStatsS x) (h0 : 0 ≤ m) (h1 : m ≤ 1048576) : K_sz_GroupStatsS x m := by
 refine con_x tbOk mixedW Tryz.func257 (by kernel_rfl) (.len x.length <| .br (.fin []) (.loop (Nat × Int) (Q2 Nat Int) [1, 5, 12, 13, 14, 15, 16, 17, 18, 19, 20, 21, 22, 23, 24, 25] [] (fun yy0 => [(5, vI (yy0.1 : Int)), (1, vI yy0.2)]) (fun yy0 => []) (fun yy0 => yy0.1 ≤ x.length ∧ yy0.2 = m - x.length - (sumL cGroupStats (x.take yy0.1) : Nat) ∧ 0 ≤ yy0.2) (fun yy0 => x.length - yy0.1) (fun yy0 => .len x.length <| .br (.elem _ eGroupStats x (fun e20 => .call (vI (szStep (cGroupStats e20) yy0.2)) [] <| .br (.fin []) (.back []))) (.fin [])))) ?_
 refine Eq.mpr (by kernel_rfl : _ = ((x.map eGroupStats).length ≤ 9223372036854775807 → Lm eGroupStats x ∧ (inR (m - ((x.length : Nat) : Int)) ∧ (((decide ((m - ((x.length : Nat) : Int)) < (0 : Int))) = true → (-1 : Int) = (szStep (cGroupStatsS x) m) ∧ True) ∧ ((decide ((m - ((x.length : Nat) : Int)) < (0 : Int))) = false → (∃ (k : Nat) (z : Int), (0 : Int) = (k : Int) ∧ (m - ((x.length : Nat) : Int)) = z ∧ k ≤ x.length ∧ z = m - x.length - (sumL cGroupStats (x.take k) : Nat) ∧ 0 ≤ z) ∧ ∀ (k : Nat) (z : Int), (k ≤ x.length ∧ z = m - x.length - (sumL cGroupStats (x.take k) : Nat) ∧ 0 ≤ z) → Lm eGroupStats x ∧ (((decide ((k : Int) < ((x.length : Nat) : Int))) = true → 0 ≤ (k : Int) ∧ Em eGroupStats x k fun e20 => K_sz_GroupStats e20 z ∧ (((decide ((szStep (cGroupStats e20) z) < (0 : Int))) = true → (-1 : Int) = (szStep (cGroupStatsS x) m) ∧ True) ∧ ((decide ((szStep (cGroupStats e20) z) < (0 : Int))) = false → inR ((k : Int) + (1 : Int)) ∧ ∃ (k' : Nat) (z' : Int), ((k : Int) + (1 : Int)) = (k' : Int) ∧ (szStep (cGroupStats e20) z) = z' ∧ (k' ≤ x.length ∧ z' = m - x.length - (sumL cGroupStats (x.take k') : Nat) ∧ 0 ≤ z') ∧ x.length - k' < x.length - k))) ∧ ((decide ((k : Int) < ((x.length : Nat) : Int))) = false → z = (szStep (cGroupStatsS x) m) ∧ True))))))) ?_
 intro n0
 simp only [List.length_map] at n0
 have hS : cGroupStatsS x = x.length + sumL cGroupStats x := rfl
 refine ⟨List.length_map _, ⟨by omega, by omega⟩, fun c0 => ?_, fun c0 => ?_⟩
 ·replace c0 := yq c0
  refine ⟨?_, trivial⟩
  ·first | (rw [szStep_no (by omega)]; done) | (rw [szStep_yes (by omega)]; done) | (rw [szStep_yes (by omega)]; omega)
 ·replace c0 := nq c0
  refine ⟨⟨0, m - ((x.length : Nat) : Int), rfl, rfl, Nat.zero_le _, by simp [sumL], by omega⟩, fun k z ⟨hk, hz, hz0⟩ => ?_⟩
  refine ⟨List.length_map _, fun c1 => ?_, fun c1 => ?_⟩
  ·replace c1 := yq c1
   obtain ⟨y, hy⟩ := at_some (l := x) (k := k) (by omega)
   have hfy := hf y (List.mem_of_getElem? hy)
   refine ⟨by omega, rfl, by omega, fun e20 h20 => ?_⟩
   obtain rfl := same_at hy h20
   refine ⟨sz_GroupStats e20 _ (by first | assumption | exact hf) (by omega) (by omega), fun c2 => ?_, fun c2 => ?_⟩
   ·replace c2 := yq c2
    have y3 := sz_bad c2
    have y4 := sumL_snoc cGroupStats ‹x[k]? = some _›
    have y5 := sumL_le cGroupStats x (k + 1)
    refine ⟨?_, trivial⟩
    ·first | (rw [szStep_no (by omega)]; done) | (rw [szStep_yes (by omega)]; done) | (rw [szStep_yes (by omega)]; omega)
   ·replace c2 := nq c2
    have y2 := szStep_yes (sz_ok c2)
    have y3 := sz_ok c2
    have y4 := sumL_snoc cGroupStats ‹x[k]? = some _›
    refine ⟨⟨by omega, by omega⟩, ?_⟩
    exact ⟨k + 1, szStep (cGroupStats e20) z, rfl, rfl, ⟨by omega, by rw [y2, y4, hz]; omega, by rw [y2]; omega⟩, by omega⟩
  ·replace c1 := nq c1
   have y6 : k = x.length := by omega
   rw [y6, List.take_length] at hz
   refine ⟨?_, trivial⟩
   ·first | (rw [szStep_no (by omega)]; done) | (rw [szStep_yes (by omega)]; done) | (rw [szStep_yes (by omega)]; omega)
abbrev K_sz_TableStats (x : TableStatsD) (m : Int) : Prop := Con Tryz.prog 203 [.agg [.str x.name, .int .i64 x.arity, .int .i64 x.rowCount, .sl 218 3 (x.groups.map eGroupStats)], .one (.int .i64 m)] (vI (szStep (cTableStats x) m)) []
theorem sz_TableStats (x : TableStatsD) (m : Int) (hf : FTableStats x) (h0 : 0 ≤ m) (h1 : m ≤ 1048576) : K_sz_TableStats x m := by
 refine con_x tbOk mixedW Tryz.func203 (by kernel_rfl) (.br (.fin []) (.call (vI (szStep (cGroupStatsS x.groups) (m - ((x.name.size : Nat) : Int)))) [] <| .br (.fin []) (.fin []))) ?_
 refine Eq.mpr (by kernel_rfl : _ = ((x.groups.map eGroupStats).length ≤ 9223372036854775807 → inR (m - ((x.name.size : Nat) : Int)) ∧ (((decide ((m - ((x.name.size : Nat) : Int)) < (0 : Int))) = true → (-1 : Int) = (szStep (cTableStats x) m) ∧ True) ∧ ((decide ((m - ((x.name.size : Nat) : Int)) < (0 : Int))) = false → K_sz_GroupStatsS x.groups (m - ((x.name.size : Nat) : Int)) ∧ (((decide ((szStep (cGroupStatsS x.groups) (m - ((x.name.size : Nat) : Int))) < (0 : Int))) = true → (-1 : Int) = (szStep (cTableStats x) m) ∧ True) ∧ ((decide ((szStep (cGroupStatsS x.groups) (m - ((x.name.size : Nat) : Int))) < (0 : Int))) = false → (szStep (cGroupStatsS x.groups) (m - ((x.name.size : Nat) : Int))) = (szStep (cTableStats x) m) ∧ True)))))) ?_
 intro n0
 simp only [List.length_map] at n0
 obtain ⟨f_name, f_arity, f_rowCount, f_groups⟩ := hf
 have hmx : maxLen = 9223372036854775807 := rfl
 have g_name : x.name.size ≤ maxLen := f_name
 refine ⟨⟨by omega, by omega⟩, fun c0 => ?_, fun c0 => ?_⟩
 ·replace c0 := yq c0
  refine ⟨?_, trivial⟩
  ·unfold cTableStats; first | (rw [szStep_no (by omega)]; done) | (rw [szStep_yes (by omega)]; done) | (rw [szStep_yes (by omega)]; omega)
 ·replace c0 := nq c0
  refine ⟨sz_GroupStatsS x.groups _ (by first | assumption | exact hf) (by omega) (by omega), fun c1 => ?_, fun c1 => ?_⟩
  ·replace c1 := yq c1
   have y1 := sz_bad c1
   refine ⟨?_, trivial⟩
   ·unfold cTableStats; first | (rw [szStep_no (by omega)]; done) | (rw [szStep_yes (by omega)]; done) | (rw [szStep_yes (by omega)]; omega)
  ·replace c1 := nq c1
   have y1 := sz_ok c1
   rw [szStep_yes y1] at *
   refine ⟨?_, trivial⟩
   ·unfold cTableStats; first | (rw [szStep_no (by omega)]; done) | (rw [szStep_yes (by omega)]; done) | (rw [szStep_yes (by omega)]; omega)
abbrev K_sz_TableStatsS (x : List TableStatsD) (m : Int) : Prop := Con Tryz.prog 126 [.one (.sl 121 4 (x.map eTableStats)), .one (.int .i64 m)] (vI (szStep (cTableStatsS x) m)) []
theorem sz_TableStatsS (x : List TableStatsD) (m : Int) (hf : FTableStatsS x) (h0 : 0 ≤ m) (h1 : m ≤ 1048576) : K_sz_TableStatsS x m := by
 refine con_x tbOk mixedW Tryz.func126 (by kernel_rfl) (.len x.length <| .br (.fin []) (.loop (Nat × Int) (Q2 Nat Int) [1, 5, 12, 13, 14, 15, 16, 17, 18, 19, 20, 21, 22, 23, 24, 25] [] (fun yy0 => [(5, vI (yy0.1 : Int)), (1, vI yy0.2)]) (fun yy0 => []) (fun yy0 => yy0.1 ≤ x.length ∧ yy0.2 = m - x.length - (sumL cTableStats (x.take yy0.1) : Nat) ∧ 0 ≤ yy0.2) (fun yy0 => x.length - yy0.1) (fun yy0 => .len x.length <| .br (.elem _ eTableStats x (fun e20 => .call (vI (szStep (cTableStats e20) yy0.2)) [] <| .br (.fin []) (.back []))) (.fin [])))) ?_
 refine Eq.mpr (by kernel_rfl : _ = ((x.map eTableStats).length ≤ 9223372036854775807 → Lm eTableStats x ∧ (inR (m - ((x.length : Nat) : Int)) ∧ (((decide ((m - ((x.length : Nat) : Int)) < (0 : Int))) = true → (-1 : Int) = (szStep (cTableStatsS x) m) ∧ True) ∧ ((decide ((m - ((x.length : Nat) : Int)) < (0 : Int))) = false → (∃ (k : Nat) (z : Int), (0 : Int) = (k : Int) ∧ (m - ((x.length : Nat) : Int)) = z ∧ k ≤ x.length ∧ z = m - x.length - (sumL cTableStats (x.take k) : Nat) ∧ 0 ≤ z) ∧ ∀ (k : Nat) (z : Int), (k ≤ x.length ∧ z = m - x.length - (sumL cTableStats (x.take k) : Nat) ∧ 0 ≤ z) → Lm eTableStats x ∧ (((decide ((k : Int) < ((x.length : Nat) : Int))) = true → 0 ≤ (k : Int) ∧ Em eTableStats x k fun e20 => K_sz_TableStats e20 z ∧ (((decide ((szStep (cTableStats e20) z) < (0 : Int))) = true → (-1 : Int) = (szStep (cTableStatsS x) m) ∧ True) ∧ ((decide ((szStep (cTableStats e20) z) < (0 : Int))) = false → inR ((k : Int) + (1 : Int)) ∧ ∃ (k' : Nat) (z' : Int), ((k : Int) + (1 : Int)) = (k' : Int) ∧ (szStep (cTableStats e20) z) = z' ∧ (k' ≤ x.length ∧ z' = m - x.length - (sumL cTableStats (x.take k') : Nat) ∧ 0 ≤ z') ∧ x.length - k' < x.length - k))) ∧ ((decide ((k : Int) < ((x.length : Nat) : Int))) = false → z = (szStep (cTableStatsS x) m) ∧ True))))))) ?_
 intro n0
 simp only [List.length_map] at n0
 have hS : cTableStatsS x = x.length + sumL cTableStats x := rfl
 refine ⟨List.length_map _, ⟨by omega, by omega⟩, fun c0 => ?_, fun c0 => ?_⟩
 ·replace c0 := yq c0
  refine ⟨?_, trivial⟩
  ·first | (rw [szStep_no (by omega)]; done) | (rw [szStep_yes (by omega)]; done) | (rw [szStep_yes (by omega)]; omega)
 ·replace c0 := nq c0
  refine ⟨⟨0, m - ((x.length : Nat) : Int), rfl, rfl, Nat.zero_le _, by simp [sumL], by omega⟩, fun k z ⟨hk, hz, hz0⟩ => ?_⟩
  refine ⟨List.length_map _, fun c1 => ?_, fun c1 => ?_⟩
  ·replace c1 := yq c1
   obtain ⟨y, hy⟩ := at_some (l := x) (k := k) (by omega)
   have hfy := hf y (List.mem_of_getElem? hy)
   refine ⟨by omega, rfl, by omega, fun e20 h20 => ?_⟩
   obtain rfl := same_at hy h20
   refine ⟨sz_TableStats e20 _ (by first | assumption | exact hf) (by omega) (by omega), fun c2 => ?_, fun c2 => ?_⟩
   ·replace c2 := yq c2
    have y3 := sz_bad c2
    have y4 := sumL_snoc cTableStats ‹x[k]? = some _›
    have y5 := sumL_le cTableStats x (k + 1)
    refine ⟨?_, trivial⟩
    ·first | (rw [szStep_no (by omega)]; done) | (rw [szStep_yes (by omega)]; done) | (rw [szStep_yes (by omega)]; omega)
   ·replace c2 := nq c2
    have y2 := szStep_yes (sz_ok c2)
    have y3 := sz_ok c2
    have y4 := sumL_snoc cTableStats ‹x[k]? = some _›
    refine ⟨⟨by omega, by omega⟩, ?_⟩
    exact ⟨k + 1, szStep (cTableStats e20) z, rfl, rfl, ⟨by omega, by rw [y2, y4, hz]; omega, by rw [y2]; omega⟩, by omega⟩
  ·replace c1 := nq c1
   have y6 : k = x.length := by omega
   rw [y6, List.take_length] at hz
   refine ⟨?_, trivial⟩
   ·first | (rw [szStep_no (by omega)]; done) | (rw [szStep_yes (by omega)]; done) | (rw [szStep_yes (by omega)]; omega)
abbrev K_sz_Catalogue (x : CatalogueD) (m : Int) : Prop := Con Tryz.prog 58 [.agg [.int .i64 x.version, .sl 121 4 (x.tables.map eTableStats)], .one (.int .i64 m)] (vI (szStep (cCatalogue x) m)) []
theorem sz_Catalogue (x : CatalogueD) (m : Int) (hf : FCatalogue x) (h0 : 0 ≤ m) (h1 : m ≤ 1048576) : K_sz_Catalogue x m := by
 refine con_x tbOk mixedW Tryz.func58 (by kernel_rfl) (.call (vI (szStep (cTableStatsS x.tables) m)) [] <| .br (.fin []) (.fin [])) ?_
 refine Eq.mpr (by kernel_rfl : _ = ((x.tables.map eTableStats).length ≤ 9223372036854775807 → K_sz_TableStatsS x.tables m ∧ (((decide ((szStep (cTableStatsS x.tables) m) < (0 : Int))) = true → (-1 : Int) = (szStep (cCatalogue x) m) ∧ True) ∧ ((decide ((szStep (cTableStatsS x.tables) m) < (0 : Int))) = false → (szStep (cTableStatsS x.tables) m) = (szStep (cCatalogue x) m) ∧ True)))) ?_
 intro n0
 simp only [List.length_map] at n0
 obtain ⟨f_version, f_tables⟩ := hf
 have hmx : maxLen = 9223372036854775807 := rfl
 refine ⟨sz_TableStatsS x.tables _ (by first | assumption | exact hf) (by omega) (by omega), fun c0 => ?_, fun c0 => ?_⟩
 ·replace c0 := yq c0
  have y0 := sz_bad c0
  refine ⟨?_, trivial⟩
  ·unfold cCatalogue; first | (rw [szStep_no (by omega)]; done) | (rw [szStep_yes (by omega)]; done) | (rw [szStep_yes (by omega)]; omega)
 ·replace c0 := nq c0
  have y0 := sz_ok c0
  rw [szStep_yes y0] at *
  refine ⟨?_, trivial⟩
  ·unfold cCatalogue; first | (rw [szStep_no (by omega)]; done) | (rw [szStep_yes (by omega)]; done) | (rw [szStep_yes (by omega)]; omega)
abbrev K_sz_Dependency (x : DependencyD) (m : Int) : Prop := Con Tryz.prog 127 [.agg [.str x.name, .sl 3 1 (x.src.map intD), .int .i64 x.dst], .one (.int .i64 m)] (vI (szStep (cDependency x) m)) []
theorem sz_Dependency (x : DependencyD) (m : Int) (hf : FDependency x) (h0 : 0 ≤ m) (h1 : m ≤ 1048576) : K_sz_Dependency x m := by
 refine con_x tbOk mixedW Tryz.func127 (by kernel_rfl) (.br (.fin []) (.call (vI (szStep (cIntS x.src) (m - ((x.name.size : Nat) : Int)))) [] <| .br (.fin []) (.fin []))) ?_
 refine Eq.mpr (by kernel_rfl : _ = ((x.src.map intD).length ≤ 9223372036854775807 → inR (m - ((x.name.size : Nat) : Int)) ∧ (((decide ((m - ((x.name.size : Nat) : Int)) < (0 : Int))) = true → (-1 : Int) = (szStep (cDependency x) m) ∧ True) ∧ ((decide ((m - ((x.name.size : Nat) : Int)) < (0 : Int))) = false → K_sz_IntS x.src (m - ((x.name.size : Nat) : Int)) ∧ (((decide ((szStep (cIntS x.src) (m - ((x.name.size : Nat) : Int))) < (0 : Int))) = true → (-1 : Int) = (szStep (cDependency x) m) ∧ True) ∧ ((decide ((szStep (cIntS x.src) (m - ((x.name.size : Nat) : Int))) < (0 : Int))) = false → (szStep (cIntS x.src) (m - ((x.name.size : Nat) : Int))) = (szStep (cDependency x) m) ∧ True)))))) ?_
 intro n0
 simp only [List.length_map] at n0
 obtain ⟨f_name, f_src, f_dst⟩ := hf
 have hmx : maxLen = 9223372036854775807 := rfl
 have g_name : x.name.size ≤ maxLen := f_name
 refine ⟨⟨by omega, by omega⟩, fun c0 => ?_, fun c0 => ?_⟩
 ·replace c0 := yq c0
  refine ⟨?_, trivial⟩
  ·unfold cDependency; first | (rw [szStep_no (by omega)]; done) | (rw [szStep_yes (by omega)]; done) | (rw [szStep_yes (by omega)]; omega)
 ·replace c0 := nq c0
  refine ⟨sz_IntS x.src _ (by first | assumption | exact hf) (by omega) (by omega), fun c1 => ?_, fun c1 => ?_⟩
  ·replace c1 := yq c1
   have y1 := sz_bad c1
   refine ⟨?_, trivial⟩
   ·unfold cDependency; first | (rw [szStep_no (by omega)]; done) | (rw [szStep_yes (by omega)]; done) | (rw [szStep_yes (by omega)]; omega)
  ·replace c1 := nq c1
   have y1 := sz_ok c1
   rw [szStep_yes y1] at *
   refine ⟨?_, trivial⟩
   ·unfold cDependency; first | (rw [szStep_no (by omega)]; done) | (rw [szStep_yes (by omega)]; done) | (rw [szStep_yes (by omega)]; omega)
abbrev K_sz_DependencyS (x : List DependencyD) (m : Int) : Prop := Con Tryz.prog 59 [.one (.sl 168 3 (x.map eDependency)), .one (.int .i64 m)] (vI (szStep (cDependencyS x) m)) []
theorem sz_DependencyS (x : List DependencyD) (m : Int) (hf : FDependencyS x) (h0 : 0 ≤ m) (h1 : m ≤ 1048576) : K_sz_DependencyS x m := by
 refine con_x tbOk mixedW Tryz.func59 (by kernel_rfl) (.len x.length <| .br (.fin []) (.loop (Nat × Int) (Q2 Nat Int) [1, 5, 12, 13, 14, 15, 16, 17, 18, 19, 20, 21, 22, 23, 24, 25] [] (fun yy0 => [(5, vI (yy0.1 : Int)), (1, vI yy0.2)]) (fun yy0 => []) (fun yy0 => yy0.1 ≤ x.length ∧ yy0.2 = m - x.length - (sumL cDependency (x.take yy0.1) : Nat) ∧ 0 ≤ yy0.2) (fun yy0 => x.length - yy0.1) (fun yy0 => .len x.length <| .br (.elem _ eDependency x (fun e20 => .call (vI (szStep (cDependency e20) yy0.2)) [] <| .br (.fin []) (.back []))) (.fin [])))) ?_
 refine Eq.mpr (by kernel_rfl : _ = ((x.map eDependency).length ≤ 9223372036854775807 → Lm eDependency x ∧ (inR (m - ((x.length : Nat) : Int)) ∧ (((decide ((m - ((x.length : Nat) : Int)) < (0 : Int))) = true → (-1 : Int) = (szStep (cDependencyS x) m) ∧ True) ∧ ((decide ((m - ((x.length : Nat) : Int)) < (0 : Int))) = false → (∃ (k : Nat) (z : Int), (0 : Int) = (k : Int) ∧ (m - ((x.length : Nat) : Int)) = z ∧ k ≤ x.length ∧ z = m - x.length - (sumL cDependency (x.take k) : Nat) ∧ 0 ≤ z) ∧ ∀ (k : Nat) (z : Int), (k ≤ x.length ∧ z = m - x.length - (sumL cDependency (x.take k) : Nat) ∧ 0 ≤ z) → Lm eDependency x ∧ (((decide ((k : Int) < ((x.length : Nat) : Int))) = true → 0 ≤ (k : Int) ∧ Em eDependency x k fun e20 => K_sz_Dependency e20 z ∧ (((decide ((szStep (cDependency e20) z) < (0 : Int))) = true → (-1 : Int) = (szStep (cDependencyS x) m) ∧ True) ∧ ((decide ((szStep (cDependency e20) z) < (0 : Int))) = false → inR ((k : Int) + (1 : Int)) ∧ ∃ (k' : Nat) (z' : Int), ((k : Int) + (1 : Int)) = (k' : Int) ∧ (szStep (cDependency e20) z) = z' ∧ (k' ≤ x.length ∧ z' = m - x.length - (sumL cDependency (x.take k') : Nat) ∧ 0 ≤ z') ∧ x.length - k' < x.length - k))) ∧ ((decide ((k : Int) < ((x.length : Nat) : Int))) = false → z = (szStep (cDependencyS x) m) ∧ True))))))) ?_
 intro n0
 simp only [List.length_map] at n0
 have hS : cDependencyS x = x.length + sumL cDependency x := rfl
 refine ⟨List.length_map _, ⟨by omega, by omega⟩, fun c0 => ?_, fun c0 => ?_⟩
 ·replace c0 := yq c0
  refine ⟨?_, trivial⟩
  ·first | (rw [szStep_no (by omega)]; done) | (rw [szStep_yes (by omega)]; done) | (rw [szStep_yes (by omega)]; omega)
 ·replace c0 := nq c0
  refine ⟨⟨0, m - ((x.length : Nat) : Int), rfl, rfl, Nat.zero_le _, by simp [sumL], by omega⟩, fun k z ⟨hk, hz, hz0⟩ => ?_⟩
  refine ⟨List.length_map _, fun c1 => ?_, fun c1 => ?_⟩
  ·replace c1 := yq c1
   obtain ⟨y, hy⟩ := at_some (l := x) (k := k) (by omega)
   have hfy := hf y (List.mem_of_getElem? hy)
   refine ⟨by omega, rfl, by omega, fun e20 h20 => ?_⟩
   obtain rfl := same_at hy h20
   refine ⟨sz_Dependency e20 _ (by first | assumption | exact hf) (by omega) (by omega), fun c2 => ?_, fun c2 => ?_⟩
   ·replace c2 := yq c2
    have y3 := sz_bad c2
    have y4 := sumL_snoc cDependency ‹x[k]? = some _›
    have y5 := sumL_le cDependency x (k + 1)
    refine ⟨?_, trivial⟩
    ·first | (rw [szStep_no (by omega)]; done) | (rw [szStep_yes (by omega)]; done) | (rw [szStep_yes (by omega)]; omega)
   ·replace c2 := nq c2
    have y2 := szStep_yes (sz_ok c2)
    have y3 := sz_ok c2
    have y4 := sumL_snoc cDependency ‹x[k]? = some _›
    refine ⟨⟨by omega, by omega⟩, ?_⟩
    exact ⟨k + 1, szStep (cDependency e20) z, rfl, rfl, ⟨by omega, by rw [y2, y4, hz]; omega, by rw [y2]; omega⟩, by omega⟩
  ·replace c1 := nq c1
   have y6 : k = x.length := by omega
   rw [y6, List.take_length] at hz
   refine ⟨?_, trivial⟩
   ·first | (rw [szStep_no (by omega)]; done) | (rw [szStep_yes (by omega)]; done) | (rw [szStep_yes (by omega)]; omega)
abbrev K_sz_Inclusion (x : InclusionD) (m : Int) : Prop := Con Tryz.prog 128 [.agg [.str x.name, .int .i64 x.column, .str x.into, .int .i64 x.intoColumn], .one (.int .i64 m)] (vI (szStep (cInclusion x) m)) []
theorem sz_Inclusion (x : InclusionD) (m : Int) (hf : FInclusion x) (h0 : 0 ≤ m) (h1 : m ≤ 1048576) : K_sz_Inclusion x m := by
 refine con_x tbOk mixedW Tryz.func128 (by kernel_rfl) (.br (.fin []) (.br (.fin []) (.fin []))) ?_
 refine Eq.mpr (by kernel_rfl : _ = (inR (m - ((x.name.size : Nat) : Int)) ∧ (((decide ((m - ((x.name.size : Nat) : Int)) < (0 : Int))) = true → (-1 : Int) = (szStep (cInclusion x) m) ∧ True) ∧ ((decide ((m - ((x.name.size : Nat) : Int)) < (0 : Int))) = false → inR ((m - ((x.name.size : Nat) : Int)) - ((x.into.size : Nat) : Int)) ∧ (((decide (((m - ((x.name.size : Nat) : Int)) - ((x.into.size : Nat) : Int)) < (0 : Int))) = true → (-1 : Int) = (szStep (cInclusion x) m) ∧ True) ∧ ((decide (((m - ((x.name.size : Nat) : Int)) - ((x.into.size : Nat) : Int)) < (0 : Int))) = false → ((m - ((x.name.size : Nat) : Int)) - ((x.into.size : Nat) : Int)) = (szStep (cInclusion x) m) ∧ True)))))) ?_
 obtain ⟨f_name, f_column, f_into, f_intoColumn⟩ := hf
 have hmx : maxLen = 9223372036854775807 := rfl
 have g_name : x.name.size ≤ maxLen := f_name
 have g_into : x.into.size ≤ maxLen := f_into
 refine ⟨⟨by omega, by omega⟩, fun c0 => ?_, fun c0 => ?_⟩
 ·replace c0 := yq c0
  refine ⟨?_, trivial⟩
  ·unfold cInclusion; first | (rw [szStep_no (by omega)]; done) | (rw [szStep_yes (by omega)]; done) | (rw [szStep_yes (by omega)]; omega)
 ·replace c0 := nq c0
  refine ⟨⟨by omega, by omega⟩, fun c1 => ?_, fun c1 => ?_⟩
  ·replace c1 := yq c1
   refine ⟨?_, trivial⟩
   ·unfold cInclusion; first | (rw [szStep_no (by omega)]; done) | (rw [szStep_yes (by omega)]; done) | (rw [szStep_yes (by omega)]; omega)
  ·replace c1 := nq c1
   refine ⟨?_, trivial⟩
   ·unfold cInclusion; first | (rw [szStep_no (by omega)]; done) | (rw [szStep_yes (by omega)]; done) | (rw [szStep_yes (by omega)]; omega)
abbrev K_sz_InclusionS (x : List InclusionD) (m : Int) : Prop := Con Tryz.prog 60 [.one (.sl 170 4 (x.map eInclusion)), .one (.int .i64 m)] (vI (szStep (cInclusionS x) m)) []
theorem sz_InclusionS (x : List InclusionD) (m : Int) (hf : FInclusionS x) (h0 : 0 ≤ m) (h1 : m ≤ 1048576) : K_sz_InclusionS x m := by
 refine con_x tbOk mixedW Tryz.func60 (by kernel_rfl) (.len x.length <| .br (.fin []) (.loop (Nat × Int) (Q2 Nat Int) [1, 5, 12, 13, 14, 15, 16, 17, 18, 19, 20, 21, 22, 23, 24, 25] [] (fun yy0 => [(5, vI (yy0.1 : Int)), (1, vI yy0.2)]) (fun yy0 => []) (fun yy0 => yy0.1 ≤ x.length ∧ yy0.2 = m - x.length - (sumL cInclusion (x.take yy0.1) : Nat) ∧ 0 ≤ yy0.2) (fun yy0 => x.length - yy0.1) (fun yy0 => .len x.length <| .br (.elem _ eInclusion x (fun e20 => .call (vI (szStep (cInclusion e20) yy0.2)) [] <| .br (.fin []) (.back []))) (.fin [])))) ?_
 refine Eq.mpr (by kernel_rfl : _ = ((x.map eInclusion).length ≤ 9223372036854775807 → Lm eInclusion x ∧ (inR (m - ((x.length : Nat) : Int)) ∧ (((decide ((m - ((x.length : Nat) : Int)) < (0 : Int))) = true → (-1 : Int) = (szStep (cInclusionS x) m) ∧ True) ∧ ((decide ((m - ((x.length : Nat) : Int)) < (0 : Int))) = false → (∃ (k : Nat) (z : Int), (0 : Int) = (k : Int) ∧ (m - ((x.length : Nat) : Int)) = z ∧ k ≤ x.length ∧ z = m - x.length - (sumL cInclusion (x.take k) : Nat) ∧ 0 ≤ z) ∧ ∀ (k : Nat) (z : Int), (k ≤ x.length ∧ z = m - x.length - (sumL cInclusion (x.take k) : Nat) ∧ 0 ≤ z) → Lm eInclusion x ∧ (((decide ((k : Int) < ((x.length : Nat) : Int))) = true → 0 ≤ (k : Int) ∧ Em eInclusion x k fun e20 => K_sz_Inclusion e20 z ∧ (((decide ((szStep (cInclusion e20) z) < (0 : Int))) = true → (-1 : Int) = (szStep (cInclusionS x) m) ∧ True) ∧ ((decide ((szStep (cInclusion e20) z) < (0 : Int))) = false → inR ((k : Int) + (1 : Int)) ∧ ∃ (k' : Nat) (z' : Int), ((k : Int) + (1 : Int)) = (k' : Int) ∧ (szStep (cInclusion e20) z) = z' ∧ (k' ≤ x.length ∧ z' = m - x.length - (sumL cInclusion (x.take k') : Nat) ∧ 0 ≤ z') ∧ x.length - k' < x.length - k))) ∧ ((decide ((k : Int) < ((x.length : Nat) : Int))) = false → z = (szStep (cInclusionS x) m) ∧ True))))))) ?_
 intro n0
 simp only [List.length_map] at n0
 have hS : cInclusionS x = x.length + sumL cInclusion x := rfl
 refine ⟨List.length_map _, ⟨by omega, by omega⟩, fun c0 => ?_, fun c0 => ?_⟩
 ·replace c0 := yq c0
  refine ⟨?_, trivial⟩
  ·first | (rw [szStep_no (by omega)]; done) | (rw [szStep_yes (by omega)]; done) | (rw [szStep_yes (by omega)]; omega)
 ·replace c0 := nq c0
  refine ⟨⟨0, m - ((x.length : Nat) : Int), rfl, rfl, Nat.zero_le _, by simp [sumL], by omega⟩, fun k z ⟨hk, hz, hz0⟩ => ?_⟩
  refine ⟨List.length_map _, fun c1 => ?_, fun c1 => ?_⟩
  ·replace c1 := yq c1
   obtain ⟨y, hy⟩ := at_some (l := x) (k := k) (by omega)
   have hfy := hf y (List.mem_of_getElem? hy)
   refine ⟨by omega, rfl, by omega, fun e20 h20 => ?_⟩
   obtain rfl := same_at hy h20
   refine ⟨sz_Inclusion e20 _ (by first | assumption | exact hf) (by omega) (by omega), fun c2 => ?_, fun c2 => ?_⟩
   ·replace c2 := yq c2
    have y3 := sz_bad c2
    have y4 := sumL_snoc cInclusion ‹x[k]? = some _›
    have y5 := sumL_le cInclusion x (k + 1)
    refine ⟨?_, trivial⟩
    ·first | (rw [szStep_no (by omega)]; done) | (rw [szStep_yes (by omega)]; done) | (rw [szStep_yes (by omega)]; omega)
   ·replace c2 := nq c2
    have y2 := szStep_yes (sz_ok c2)
    have y3 := sz_ok c2
    have y4 := sumL_snoc cInclusion ‹x[k]? = some _›
    refine ⟨⟨by omega, by omega⟩, ?_⟩
    exact ⟨k + 1, szStep (cInclusion e20) z, rfl, rfl, ⟨by omega, by rw [y2, y4, hz]; omega, by rw [y2]; omega⟩, by omega⟩
  ·replace c1 := nq c1
   have y6 : k = x.length := by omega
   rw [y6, List.take_length] at hz
   refine ⟨?_, trivial⟩
   ·first | (rw [szStep_no (by omega)]; done) | (rw [szStep_yes (by omega)]; done) | (rw [szStep_yes (by omega)]; omega)
abbrev K_sz_Store (x : StoreD) (m : Int) : Prop := Con Tryz.prog 13 [.agg [.sl 162 3 (x.database.tables.map eTable), .int .i64 x.catalogue.version, .sl 121 4 (x.catalogue.tables.map eTableStats), .sl 168 3 (x.dependencies.map eDependency), .sl 170 4 (x.inclusions.map eInclusion)], .one (.int .i64 m)] (vI (szStep (cStore x) m)) []
theorem sz_Store (x : StoreD) (m : Int) (hf : FStore x) (h0 : 0 ≤ m) (h1 : m ≤ 1048576) : K_sz_Store x m := by
 refine con_x tbOk mixedW Tryz.func13 (by kernel_rfl) (.call (vI (szStep (cDatabase x.database) m)) [] <| .br (.fin []) (.call (vI (szStep (cCatalogue x.catalogue) (szStep (cDatabase x.database) m))) [] <| .br (.fin []) (.call (vI (szStep (cDependencyS x.dependencies) (szStep (cCatalogue x.catalogue) (szStep (cDatabase x.database) m)))) [] <| .br (.fin []) (.call (vI (szStep (cInclusionS x.inclusions) (szStep (cDependencyS x.dependencies) (szStep (cCatalogue x.catalogue) (szStep (cDatabase x.database) m))))) [] <| .br (.fin []) (.fin []))))) ?_
 refine Eq.mpr (by kernel_rfl : _ = ((x.database.tables.map eTable).length ≤ 9223372036854775807 → (x.catalogue.tables.map eTableStats).length ≤ 9223372036854775807 → (x.dependencies.map eDependency).length ≤ 9223372036854775807 → (x.inclusions.map eInclusion).length ≤ 9223372036854775807 → K_sz_Database x.database m ∧ (((decide ((szStep (cDatabase x.database) m) < (0 : Int))) = true → (-1 : Int) = (szStep (cStore x) m) ∧ True) ∧ ((decide ((szStep (cDatabase x.database) m) < (0 : Int))) = false → K_sz_Catalogue x.catalogue (szStep (cDatabase x.database) m) ∧ (((decide ((szStep (cCatalogue x.catalogue) (szStep (cDatabase x.database) m)) < (0 : Int))) = true → (-1 : Int) = (szStep (cStore x) m) ∧ True) ∧ ((decide ((szStep (cCatalogue x.catalogue) (szStep (cDatabase x.database) m)) < (0 : Int))) = false → K_sz_DependencyS x.dependencies (szStep (cCatalogue x.catalogue) (szStep (cDatabase x.database) m)) ∧ (((decide ((szStep (cDependencyS x.dependencies) (szStep (cCatalogue x.catalogue) (szStep (cDatabase x.database) m))) < (0 : Int))) = true → (-1 : Int) = (szStep (cStore x) m) ∧ True) ∧ ((decide ((szStep (cDependencyS x.dependencies) (szStep (cCatalogue x.catalogue) (szStep (cDatabase x.database) m))) < (0 : Int))) = false → K_sz_InclusionS x.inclusions (szStep (cDependencyS x.dependencies) (szStep (cCatalogue x.catalogue) (szStep (cDatabase x.database) m))) ∧ (((decide ((szStep (cInclusionS x.inclusions) (szStep (cDependencyS x.dependencies) (szStep (cCatalogue x.catalogue) (szStep (cDatabase x.database) m)))) < (0 : Int))) = true → (-1 : Int) = (szStep (cStore x) m) ∧ True) ∧ ((decide ((szStep (cInclusionS x.inclusions) (szStep (cDependencyS x.dependencies) (szStep (cCatalogue x.catalogue) (szStep (cDatabase x.database) m)))) < (0 : Int))) = false → (szStep (cInclusionS x.inclusions) (szStep (cDependencyS x.dependencies) (szStep (cCatalogue x.catalogue) (szStep (cDatabase x.database) m)))) = (szStep (cStore x) m) ∧ True)))))))))) ?_
 intro n0 n1 n2 n3
 simp only [List.length_map] at n0 n1 n2 n3
 obtain ⟨f_database, f_catalogue, f_dependencies, f_inclusions⟩ := hf
 have hmx : maxLen = 9223372036854775807 := rfl
 refine ⟨sz_Database x.database _ (by first | assumption | exact hf) (by omega) (by omega), fun c0 => ?_, fun c0 => ?_⟩
 ·replace c0 := yq c0
  have y0 := sz_bad c0
  refine ⟨?_, trivial⟩
  ·unfold cStore; first | (rw [szStep_no (by omega)]; done) | (rw [szStep_yes (by omega)]; done) | (rw [szStep_yes (by omega)]; omega)
 ·replace c0 := nq c0
  have y0 := sz_ok c0
  rw [szStep_yes y0] at *
  refine ⟨sz_Catalogue x.catalogue _ (by first | assumption | exact hf) (by omega) (by omega), fun c1 => ?_, fun c1 => ?_⟩
  ·replace c1 := yq c1
   have y1 := sz_bad c1
   refine ⟨?_, trivial⟩
   ·unfold cStore; first | (rw [szStep_no (by omega)]; done) | (rw [szStep_yes (by omega)]; done) | (rw [szStep_yes (by omega)]; omega)
  ·replace c1 := nq c1
   have y1 := sz_ok c1
   rw [szStep_yes y1] at *
   refine ⟨sz_DependencyS x.dependencies _ (by first | assumption | exact hf) (by omega) (by omega), fun c2 => ?_, fun c2 => ?_⟩
   ·replace c2 := yq c2
    have y2 := sz_bad c2
    refine ⟨?_, trivial⟩
    ·unfold cStore; first | (rw [szStep_no (by omega)]; done) | (rw [szStep_yes (by omega)]; done) | (rw [szStep_yes (by omega)]; omega)
   ·replace c2 := nq c2
    have y2 := sz_ok c2
    rw [szStep_yes y2] at *
    refine ⟨sz_InclusionS x.inclusions _ (by first | assumption | exact hf) (by omega) (by omega), fun c3 => ?_, fun c3 => ?_⟩
    ·replace c3 := yq c3
     have y3 := sz_bad c3
     refine ⟨?_, trivial⟩
     ·unfold cStore; first | (rw [szStep_no (by omega)]; done) | (rw [szStep_yes (by omega)]; done) | (rw [szStep_yes (by omega)]; omega)
    ·replace c3 := nq c3
     have y3 := sz_ok c3
     rw [szStep_yes y3] at *
     refine ⟨?_, trivial⟩
     ·unfold cStore; first | (rw [szStep_no (by omega)]; done) | (rw [szStep_yes (by omega)]; done) | (rw [szStep_yes (by omega)]; omega)
abbrev K_sz_Atom (x : AtomD) (m : Int) : Prop := Con Tryz.prog 164 [.agg [.str x.name, .sl 3 1 (x.vars.map intD)], .one (.int .i64 m)] (vI (szStep (cAtom x) m)) []
theorem sz_Atom (x : AtomD) (m : Int) (hf : FAtom x) (h0 : 0 ≤ m) (h1 : m ≤ 1048576) : K_sz_Atom x m := by
 refine con_x tbOk mixedW Tryz.func164 (by kernel_rfl) (.br (.fin []) (.call (vI (szStep (cIntS x.vars) (m - ((x.name.size : Nat) : Int)))) [] <| .br (.fin []) (.fin []))) ?_
 refine Eq.mpr (by kernel_rfl : _ = ((x.vars.map intD).length ≤ 9223372036854775807 → inR (m - ((x.name.size : Nat) : Int)) ∧ (((decide ((m - ((x.name.size : Nat) : Int)) < (0 : Int))) = true → (-1 : Int) = (szStep (cAtom x) m) ∧ True) ∧ ((decide ((m - ((x.name.size : Nat) : Int)) < (0 : Int))) = false → K_sz_IntS x.vars (m - ((x.name.size : Nat) : Int)) ∧ (((decide ((szStep (cIntS x.vars) (m - ((x.name.size : Nat) : Int))) < (0 : Int))) = true → (-1 : Int) = (szStep (cAtom x) m) ∧ True) ∧ ((decide ((szStep (cIntS x.vars) (m - ((x.name.size : Nat) : Int))) < (0 : Int))) = false → (szStep (cIntS x.vars) (m - ((x.name.size : Nat) : Int))) = (szStep (cAtom x) m) ∧ True)))))) ?_
 intro n0
 simp only [List.length_map] at n0
 obtain ⟨f_name, f_vars⟩ := hf
 have hmx : maxLen = 9223372036854775807 := rfl
 have g_name : x.name.size ≤ maxLen := f_name
 refine ⟨⟨by omega, by omega⟩, fun c0 => ?_, fun c0 => ?_⟩
 ·replace c0 := yq c0
  refine ⟨?_, trivial⟩
  ·unfold cAtom; first | (rw [szStep_no (by omega)]; done) | (rw [szStep_yes (by omega)]; done) | (rw [szStep_yes (by omega)]; omega)
 ·replace c0 := nq c0
  refine ⟨sz_IntS x.vars _ (by first | assumption | exact hf) (by omega) (by omega), fun c1 => ?_, fun c1 => ?_⟩
  ·replace c1 := yq c1
   have y1 := sz_bad c1
   refine ⟨?_, trivial⟩
   ·unfold cAtom; first | (rw [szStep_no (by omega)]; done) | (rw [szStep_yes (by omega)]; done) | (rw [szStep_yes (by omega)]; omega)
  ·replace c1 := nq c1
   have y1 := sz_ok c1
   rw [szStep_yes y1] at *
   refine ⟨?_, trivial⟩
   ·unfold cAtom; first | (rw [szStep_no (by omega)]; done) | (rw [szStep_yes (by omega)]; done) | (rw [szStep_yes (by omega)]; omega)
abbrev K_sz_AtomS (x : List AtomD) (m : Int) : Prop := Con Tryz.prog 90 [.one (.sl 131 2 (x.map eAtom)), .one (.int .i64 m)] (vI (szStep (cAtomS x) m)) []
theorem sz_AtomS (x : List AtomD) (m : Int) (hf : FAtomS x) (h0 : 0 ≤ m) (h1 : m ≤ 1048576) : K_sz_AtomS x m := by
 refine con_x tbOk mixedW Tryz.func90 (by kernel_rfl) (.len x.length <| .br (.fin []) (.loop (Nat × Int) (Q2 Nat Int) [1, 5, 12, 13, 14, 15, 16, 17, 18, 19, 20, 21, 22, 23, 24, 25] [] (fun yy0 => [(5, vI (yy0.1 : Int)), (1, vI yy0.2)]) (fun yy0 => []) (fun yy0 => yy0.1 ≤ x.length ∧ yy0.2 = m - x.length - (sumL cAtom (x.take yy0.1) : Nat) ∧ 0 ≤ yy0.2) (fun yy0 => x.length - yy0.1) (fun yy0 => .len x.length <| .br (.elem _ eAtom x (fun e20 => .call (vI (szStep (cAtom e20) yy0.2)) [] <| .br (.fin []) (.back []))) (.fin [])))) ?_
 refine Eq.mpr (by kernel_rfl : _ = ((x.map eAtom).length ≤ 9223372036854775807 → Lm eAtom x ∧ (inR (m - ((x.length : Nat) : Int)) ∧ (((decide ((m - ((x.length : Nat) : Int)) < (0 : Int))) = true → (-1 : Int) = (szStep (cAtomS x) m) ∧ True) ∧ ((decide ((m - ((x.length : Nat) : Int)) < (0 : Int))) = false → (∃ (k : Nat) (z : Int), (0 : Int) = (k : Int) ∧ (m - ((x.length : Nat) : Int)) = z ∧ k ≤ x.length ∧ z = m - x.length - (sumL cAtom (x.take k) : Nat) ∧ 0 ≤ z) ∧ ∀ (k : Nat) (z : Int), (k ≤ x.length ∧ z = m - x.length - (sumL cAtom (x.take k) : Nat) ∧ 0 ≤ z) → Lm eAtom x ∧ (((decide ((k : Int) < ((x.length : Nat) : Int))) = true → 0 ≤ (k : Int) ∧ Em eAtom x k fun e20 => K_sz_Atom e20 z ∧ (((decide ((szStep (cAtom e20) z) < (0 : Int))) = true → (-1 : Int) = (szStep (cAtomS x) m) ∧ True) ∧ ((decide ((szStep (cAtom e20) z) < (0 : Int))) = false → inR ((k : Int) + (1 : Int)) ∧ ∃ (k' : Nat) (z' : Int), ((k : Int) + (1 : Int)) = (k' : Int) ∧ (szStep (cAtom e20) z) = z' ∧ (k' ≤ x.length ∧ z' = m - x.length - (sumL cAtom (x.take k') : Nat) ∧ 0 ≤ z') ∧ x.length - k' < x.length - k))) ∧ ((decide ((k : Int) < ((x.length : Nat) : Int))) = false → z = (szStep (cAtomS x) m) ∧ True))))))) ?_
 intro n0
 simp only [List.length_map] at n0
 have hS : cAtomS x = x.length + sumL cAtom x := rfl
 refine ⟨List.length_map _, ⟨by omega, by omega⟩, fun c0 => ?_, fun c0 => ?_⟩
 ·replace c0 := yq c0
  refine ⟨?_, trivial⟩
  ·first | (rw [szStep_no (by omega)]; done) | (rw [szStep_yes (by omega)]; done) | (rw [szStep_yes (by omega)]; omega)
 ·replace c0 := nq c0
  refine ⟨⟨0, m - ((x.length : Nat) : Int), rfl, rfl, Nat.zero_le _, by simp [sumL], by omega⟩, fun k z ⟨hk, hz, hz0⟩ => ?_⟩
  refine ⟨List.length_map _, fun c1 => ?_, fun c1 => ?_⟩
  ·replace c1 := yq c1
   obtain ⟨y, hy⟩ := at_some (l := x) (k := k) (by omega)
   have hfy := hf y (List.mem_of_getElem? hy)
   refine ⟨by omega, rfl, by omega, fun e20 h20 => ?_⟩
   obtain rfl := same_at hy h20
   refine ⟨sz_Atom e20 _ (by first | assumption | exact hf) (by omega) (by omega), fun c2 => ?_, fun c2 => ?_⟩
   ·replace c2 := yq c2
    have y3 := sz_bad c2
    have y4 := sumL_snoc cAtom ‹x[k]? = some _›
    have y5 := sumL_le cAtom x (k + 1)
    refine ⟨?_, trivial⟩
    ·first | (rw [szStep_no (by omega)]; done) | (rw [szStep_yes (by omega)]; done) | (rw [szStep_yes (by omega)]; omega)
   ·replace c2 := nq c2
    have y2 := szStep_yes (sz_ok c2)
    have y3 := sz_ok c2
    have y4 := sumL_snoc cAtom ‹x[k]? = some _›
    refine ⟨⟨by omega, by omega⟩, ?_⟩
    exact ⟨k + 1, szStep (cAtom e20) z, rfl, rfl, ⟨by omega, by rw [y2, y4, hz]; omega, by rw [y2]; omega⟩, by omega⟩
  ·replace c1 := nq c1
   have y6 : k = x.length := by omega
   rw [y6, List.take_length] at hz
   refine ⟨?_, trivial⟩
   ·first | (rw [szStep_no (by omega)]; done) | (rw [szStep_yes (by omega)]; done) | (rw [szStep_yes (by omega)]; omega)
abbrev K_sz_Query (x : QueryD) (m : Int) : Prop := Con Tryz.prog 30 [.agg [.int .i64 x.variableCount, .sl 131 2 (x.atoms.map eAtom)], .one (.int .i64 m)] (vI (szStep (cQuery x) m)) []
theorem sz_Query (x : QueryD) (m : Int) (hf : FQuery x) (h0 : 0 ≤ m) (h1 : m ≤ 1048576) : K_sz_Query x m := by
 refine con_x tbOk mixedW Tryz.func30 (by kernel_rfl) (.call (vI (szStep (cAtomS x.atoms) m)) [] <| .br (.fin []) (.fin [])) ?_
 refine Eq.mpr (by kernel_rfl : _ = ((x.atoms.map eAtom).length ≤ 9223372036854775807 → K_sz_AtomS x.atoms m ∧ (((decide ((szStep (cAtomS x.atoms) m) < (0 : Int))) = true → (-1 : Int) = (szStep (cQuery x) m) ∧ True) ∧ ((decide ((szStep (cAtomS x.atoms) m) < (0 : Int))) = false → (szStep (cAtomS x.atoms) m) = (szStep (cQuery x) m) ∧ True)))) ?_
 intro n0
 simp only [List.length_map] at n0
 obtain ⟨f_variableCount, f_atoms⟩ := hf
 have hmx : maxLen = 9223372036854775807 := rfl
 refine ⟨sz_AtomS x.atoms _ (by first | assumption | exact hf) (by omega) (by omega), fun c0 => ?_, fun c0 => ?_⟩
 ·replace c0 := yq c0
  have y0 := sz_bad c0
  refine ⟨?_, trivial⟩
  ·unfold cQuery; first | (rw [szStep_no (by omega)]; done) | (rw [szStep_yes (by omega)]; done) | (rw [szStep_yes (by omega)]; omega)
 ·replace c0 := nq c0
  have y0 := sz_ok c0
  rw [szStep_yes y0] at *
  refine ⟨?_, trivial⟩
  ·unfold cQuery; first | (rw [szStep_no (by omega)]; done) | (rw [szStep_yes (by omega)]; done) | (rw [szStep_yes (by omega)]; omega)
theorem lawAtomDegree (a0 : StoreD) (a1 : QueryD) (a2 : Int) (a3 : List Int) (h0 : FStore a0) (h1 : FQuery a1) (h2 : Fits a2) (h3 : FIntS a3) : Con Tryz.prog 6 [.agg [.sl 162 3 (a0.database.tables.map eTable), .int .i64 a0.catalogue.version, .sl 121 4 (a0.catalogue.tables.map eTableStats), .sl 168 3 (a0.dependencies.map eDependency), .sl 170 4 (a0.inclusions.map eInclusion)], .agg [.int .i64 a1.variableCount, .sl 131 2 (a1.atoms.map eAtom)], .one (.int .i64 a2), .one (.sl 3 1 (a3.map intD))] (vB true) [] := by
 refine con_x tbOk mixedW Tryz.func6 (by kernel_rfl) (.len a3.length <| .br (.fin []) (.call (vI (szStep (cStore a0) (1048576 : Int))) [] <| .br (.fin []) (.call (vI (szStep (cQuery a1) (szStep (cStore a0) (1048576 : Int)))) [] <| .br (.fin []) (callP (k_to_Store a0) <| callP (k_to_Query a1) <| callP (k_to_IntS a3) <| .call (vI (degA a0 a1 a2 a3)) [] <| callP (k_to_Store a0) <| callP (k_to_Query a1) <| callP (k_to_IntS a3) <| .call (vI (degA a0 a1 a2 a3)) [] <| .no <| callP (k_to_Store a0) <| .call (vB true) [] <| callP (k_to_Query a1) <| .call (vB true) [] <| callP (k_to_IntS a3) <| .call (vB true) [] <| .fin [])))) ?_
 refine Eq.mpr (by kernel_rfl : _ = ((a0.database.tables.map eTable).length ≤ 9223372036854775807 → (a0.catalogue.tables.map eTableStats).length ≤ 9223372036854775807 → (a0.dependencies.map eDependency).length ≤ 9223372036854775807 → (a0.inclusions.map eInclusion).length ≤ 9223372036854775807 → (a1.atoms.map eAtom).length ≤ 9223372036854775807 → (a3.map intD).length ≤ 9223372036854775807 → Lm intD a3 ∧ (((decide ((1048576 : Int) < ((a3.length : Nat) : Int))) = true → (true) = true ∧ True) ∧ ((decide ((1048576 : Int) < ((a3.length : Nat) : Int))) = false → K_sz_Store a0 (1048576 : Int) ∧ (((decide ((szStep (cStore a0) (1048576 : Int)) < (0 : Int))) = true → (true) = true ∧ True) ∧ ((decide ((szStep (cStore a0) (1048576 : Int)) < (0 : Int))) = false → K_sz_Query a1 (szStep (cStore a0) (1048576 : Int)) ∧ (((decide ((szStep (cQuery a1) (szStep (cStore a0) (1048576 : Int))) < (0 : Int))) = true → (true) = true ∧ True) ∧ ((decide ((szStep (cQuery a1) (szStep (cStore a0) (1048576 : Int))) < (0 : Int))) = false → K_to_Store a0 ∧ K_to_Query a1 ∧ K_to_IntS a3 ∧ K_degA_spec a0 a1 a2 a3 ∧ K_to_Store a0 ∧ K_to_Query a1 ∧ K_to_IntS a3 ∧ K_degA_impl a0 a1 a2 a3 ∧ (!(decide ((degA a0 a1 a2 a3) = (degA a0 a1 a2 a3)))) = false ∧ K_to_Store a0 ∧ K_eq_Store a0 ∧ K_to_Query a1 ∧ K_eq_Query a1 ∧ K_to_IntS a3 ∧ K_eq_IntS a3 ∧ (true) = true ∧ True)))))))) ?_
 intro n0 n1 n2 n3 n4 n5
 simp only [List.length_map] at n0 n1 n2 n3 n4 n5
 have z3 : cIntS a3 = a3.length := rfl
 refine ⟨List.length_map _, fun c0 => ?_, fun c0 => ?_⟩
 ·replace c0 := yq c0
  refine ⟨?_, trivial⟩
  ·rfl
 ·replace c0 := nq c0
  try (have y0 := sz_ok c0; try rw [szStep_yes y0] at *)
  refine ⟨sz_Store a0 _ (by first | assumption | exact hf) (by omega) (by omega), fun c1 => ?_, fun c1 => ?_⟩
  ·replace c1 := yq c1
   refine ⟨?_, trivial⟩
   ·rfl
  ·replace c1 := nq c1
   try (have y1 := sz_ok c1; try rw [szStep_yes y1] at *)
   refine ⟨sz_Query a1 _ (by first | assumption | exact hf) (by omega) (by omega), fun c2 => ?_, fun c2 => ?_⟩
   ·replace c2 := yq c2
    refine ⟨?_, trivial⟩
    ·rfl
   ·replace c2 := nq c2
    try (have y2 := sz_ok c2; try rw [szStep_yes y2] at *)
    refine ⟨to_Store a0 (by first | omega | (have := cStoreS_el ‹x[k]? = some _›; omega)), to_Query a1 (by first | omega | (have := cQueryS_el ‹x[k]? = some _›; omega)), to_IntS a3 (by first | omega | (have := cIntSS_el ‹x[k]? = some _›; omega)), degA_spec a0 a1 a2 a3 (by omega), to_Store a0 (by first | omega | (have := cStoreS_el ‹x[k]? = some _›; omega)), to_Query a1 (by first | omega | (have := cQueryS_el ‹x[k]? = some _›; omega)), to_IntS a3 (by first | omega | (have := cIntSS_el ‹x[k]? = some _›; omega)), degA_impl a0 a1 a2 a3 (by omega), by first | (simp; done) | (simp; omega) | (simp [*]; done), to_Store a0 (by first | omega | (have := cStoreS_el ‹x[k]? = some _›; omega)), by first | exact eq_Store a0 | exact eq_Store _, to_Query a1 (by first | omega | (have := cQueryS_el ‹x[k]? = some _›; omega)), by first | exact eq_Query a1 | exact eq_Query _, to_IntS a3 (by first | omega | (have := cIntSS_el ‹x[k]? = some _›; omega)), by first | exact eq_IntS a3 | exact eq_IntS _, ?_, trivial⟩
    ·rfl
end Go.Proofs.YtokkjaflmcjlhaaGreat
