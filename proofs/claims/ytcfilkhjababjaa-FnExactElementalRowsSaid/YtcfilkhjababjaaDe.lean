/-
  The laws' helpers: sizes.
-/
import Derived.Test.YtcfilkhjababjaaDa
namespace Go.Proofs.Ytcfilkhjababjaa
open Go.ChangeShapes Go.WideShapes Go.ChangeAt Go.RowKit
set_option linter.unusedVariables false
set_option linter.unusedSimpArgs false
set_option maxRecDepth 100000 in
set_option maxHeartbeats 4000000 in
theorem sz_IntS (x : List Int) (m : Int) (hf : FIntS x) (h0 : 0 ≤ m) (h1 : m ≤ 1048576) : Con Try.prog 100 [.one (.sl 3 1 (x.map intD)), .one (.int .i64 m)] (vI (szStep (cIntS x) m)) [] := by
  refine con_x tbOk mixedW Try.func100 (by kernel_rfl) (.len x.length <| .br (.fin []) (.fin [])) ?_
  refine Eq.mpr (by kernel_rfl : _ = ((x.map intD).length ≤ 9223372036854775807 → (x.map intD).length = x.length ∧ (inR (m - ((x.length : Nat) : Int)) ∧ (((decide ((m - ((x.length : Nat) : Int)) < (0 : Int))) = true → (-1 : Int) = (szStep (cIntS x) m) ∧ True) ∧ ((decide ((m - ((x.length : Nat) : Int)) < (0 : Int))) = false → (m - ((x.length : Nat) : Int)) = (szStep (cIntS x) m) ∧ True))))) ?_
  intro n0
  simp only [List.length_map] at n0
  refine ⟨List.length_map _, ?_⟩
  refine ⟨⟨by omega, by omega⟩, ?_⟩
  refine ⟨fun c0 => ?_, fun c0 => ?_⟩
  · replace c0 := of_decide_eq_true c0
    refine ⟨?_, trivial⟩
    · unfold cIntS; first | (rw [szStep_no (by omega)]; done) | (rw [szStep_yes (by omega)]; done)
  · replace c0 := of_decide_eq_false c0
    refine ⟨?_, trivial⟩
    · unfold cIntS; first | (rw [szStep_no (by omega)]; done) | (rw [szStep_yes (by omega)]; done)

set_option maxRecDepth 100000 in
set_option maxHeartbeats 4000000 in
theorem sz_IntSS (x : List (List Int)) (m : Int) (hf : FIntSS x) (h0 : 0 ≤ m) (h1 : m ≤ 1048576) : Con Try.prog 112 [.one (.sl 34 1 (x.map eIntS)), .one (.int .i64 m)] (vI (szStep (cIntSS x) m)) [] := by
  refine con_x tbOk mixedW Try.func112 (by kernel_rfl) (.len x.length <| .br (.fin []) (.loop (Nat × Int) (Q2 Nat Int) [1, 5, 12, 13, 14, 15, 16, 17, 18, 19, 20, 21, 22, 23, 24, 25] [] (fun yy0 => [(5, vI (yy0.1 : Int)), (1, vI yy0.2)]) (fun yy0 => []) (fun yy0 => yy0.1 ≤ x.length ∧ yy0.2 = m - x.length - (sumL cIntS (x.take yy0.1) : Nat) ∧ 0 ≤ yy0.2) (fun yy0 => x.length - yy0.1) (fun yy0 => .len x.length <| .br (.elem (List Int) eIntS x (fun e20 => .call (vI (szStep (cIntS e20) yy0.2)) [] <| .br (.fin []) (.back []))) (.fin [])))) ?_
  refine Eq.mpr (by kernel_rfl : _ = ((x.map eIntS).length ≤ 9223372036854775807 → (x.map eIntS).length = x.length ∧ (inR (m - ((x.length : Nat) : Int)) ∧ (((decide ((m - ((x.length : Nat) : Int)) < (0 : Int))) = true → (-1 : Int) = (szStep (cIntSS x) m) ∧ True) ∧ ((decide ((m - ((x.length : Nat) : Int)) < (0 : Int))) = false → (∃ (k : Nat) (z : Int), (0 : Int) = (k : Int) ∧ (m - ((x.length : Nat) : Int)) = z ∧ k ≤ x.length ∧ z = m - x.length - (sumL cIntS (x.take k) : Nat) ∧ 0 ≤ z) ∧ ∀ (k : Nat) (z : Int), (k ≤ x.length ∧ z = m - x.length - (sumL cIntS (x.take k) : Nat) ∧ 0 ≤ z) → (x.map eIntS).length = x.length ∧ (((decide ((k : Int) < ((x.length : Nat) : Int))) = true → 0 ≤ (k : Int) ∧ (x.map eIntS = x.map eIntS ∧ k < x.length ∧ ∀ e20, x[k]? = some e20 → Con Try.prog 100 [.one (.sl 3 1 (e20.map intD)), .one (.int .i64 z)] (vI (szStep (cIntS e20) z)) [] ∧ (((decide ((szStep (cIntS e20) z) < (0 : Int))) = true → (-1 : Int) = (szStep (cIntSS x) m) ∧ True) ∧ ((decide ((szStep (cIntS e20) z) < (0 : Int))) = false → inR ((k : Int) + (1 : Int)) ∧ ∃ (k' : Nat) (z' : Int), ((k : Int) + (1 : Int)) = (k' : Int) ∧ (szStep (cIntS e20) z) = z' ∧ (k' ≤ x.length ∧ z' = m - x.length - (sumL cIntS (x.take k') : Nat) ∧ 0 ≤ z') ∧ x.length - k' < x.length - k)))) ∧ ((decide ((k : Int) < ((x.length : Nat) : Int))) = false → z = (szStep (cIntSS x) m) ∧ True))))))) ?_
  intro n0
  simp only [List.length_map] at n0
  have hS : cIntSS x = x.length + sumL cIntS x := rfl
  refine ⟨List.length_map _, ?_⟩
  refine ⟨⟨by omega, by omega⟩, ?_⟩
  refine ⟨fun c0 => ?_, fun c0 => ?_⟩
  · replace c0 := of_decide_eq_true c0
    refine ⟨?_, trivial⟩
    · first | (rw [szStep_no (by omega)]; done) | (rw [szStep_yes (by omega)]; done) | (rw [szStep_yes (by omega)]; omega)
  · replace c0 := of_decide_eq_false c0
    refine ⟨⟨0, m - ((x.length : Nat) : Int), rfl, rfl, Nat.zero_le _, by simp [sumL], by omega⟩, fun k z ⟨hk, hz, hz0⟩ => ?_⟩
    refine ⟨List.length_map _, ?_⟩
    refine ⟨fun c1 => ?_, fun c1 => ?_⟩
    · replace c1 := of_decide_eq_true c1
      obtain ⟨y, hy⟩ := at_some (l := x) (k := k) (by omega)
      have hfy := hf y (List.mem_of_getElem? hy)
      refine ⟨by omega, ?_⟩
      refine ⟨rfl, by omega, fun e20 h20 => ?_⟩
      obtain rfl := same_at hy h20
      refine ⟨sz_IntS e20 _ (by first | assumption | exact hf) (by omega) (by omega), ?_⟩
      refine ⟨fun c2 => ?_, fun c2 => ?_⟩
      · replace c2 := of_decide_eq_true c2
        have y3 := sz_bad c2
        have y4 := sumL_snoc cIntS ‹x[k]? = some _›
        have y5 := sumL_le cIntS x (k + 1)
        refine ⟨?_, trivial⟩
        · first | (rw [szStep_no (by omega)]; done) | (rw [szStep_yes (by omega)]; done) | (rw [szStep_yes (by omega)]; omega)
      · replace c2 := of_decide_eq_false c2
        have y2 := szStep_yes (sz_ok c2)
        have y3 := sz_ok c2
        have y4 := sumL_snoc cIntS ‹x[k]? = some _›
        refine ⟨⟨by omega, by omega⟩, ?_⟩
        exact ⟨k + 1, szStep (cIntS e20) z, rfl, rfl, ⟨by omega, by rw [y2, y4, hz]; omega, by rw [y2]; omega⟩, by omega⟩
    · replace c1 := of_decide_eq_false c1
      have y6 : k = x.length := by omega
      rw [y6, List.take_length] at hz
      refine ⟨?_, trivial⟩
      · first | (rw [szStep_no (by omega)]; done) | (rw [szStep_yes (by omega)]; done) | (rw [szStep_yes (by omega)]; omega)

set_option maxRecDepth 100000 in
set_option maxHeartbeats 4000000 in
theorem sz_RationalS (x : List RationalD) (m : Int) (hf : FRationalS x) (h0 : 0 ≤ m) (h1 : m ≤ 1048576) : Con Try.prog 127 [.one (.sl 25 2 (x.map eRational)), .one (.int .i64 m)] (vI (szStep (cRationalS x) m)) [] := by
  refine con_x tbOk mixedW Try.func127 (by kernel_rfl) (.len x.length <| .br (.fin []) (.fin [])) ?_
  refine Eq.mpr (by kernel_rfl : _ = ((x.map eRational).length ≤ 9223372036854775807 → (x.map eRational).length = x.length ∧ (inR (m - ((x.length : Nat) : Int)) ∧ (((decide ((m - ((x.length : Nat) : Int)) < (0 : Int))) = true → (-1 : Int) = (szStep (cRationalS x) m) ∧ True) ∧ ((decide ((m - ((x.length : Nat) : Int)) < (0 : Int))) = false → (m - ((x.length : Nat) : Int)) = (szStep (cRationalS x) m) ∧ True))))) ?_
  intro n0
  simp only [List.length_map] at n0
  refine ⟨List.length_map _, ?_⟩
  refine ⟨⟨by omega, by omega⟩, ?_⟩
  refine ⟨fun c0 => ?_, fun c0 => ?_⟩
  · replace c0 := of_decide_eq_true c0
    refine ⟨?_, trivial⟩
    · unfold cRationalS; first | (rw [szStep_no (by omega)]; done) | (rw [szStep_yes (by omega)]; done)
  · replace c0 := of_decide_eq_false c0
    refine ⟨?_, trivial⟩
    · unfold cRationalS; first | (rw [szStep_no (by omega)]; done) | (rw [szStep_yes (by omega)]; done)

set_option maxRecDepth 100000 in
set_option maxHeartbeats 4000000 in
theorem sz_RationalSS (x : List (List RationalD)) (m : Int) (hf : FRationalSS x) (h0 : 0 ≤ m) (h1 : m ≤ 1048576) : Con Try.prog 126 [.one (.sl 66 1 (x.map eRationalS)), .one (.int .i64 m)] (vI (szStep (cRationalSS x) m)) [] := by
  refine con_x tbOk mixedW Try.func126 (by kernel_rfl) (.len x.length <| .br (.fin []) (.loop (Nat × Int) (Q2 Nat Int) [1, 5, 12, 13, 14, 15, 16, 17, 18, 19, 20, 21, 22, 23, 24, 25] [] (fun yy0 => [(5, vI (yy0.1 : Int)), (1, vI yy0.2)]) (fun yy0 => []) (fun yy0 => yy0.1 ≤ x.length ∧ yy0.2 = m - x.length - (sumL cRationalS (x.take yy0.1) : Nat) ∧ 0 ≤ yy0.2) (fun yy0 => x.length - yy0.1) (fun yy0 => .len x.length <| .br (.elem (List RationalD) eRationalS x (fun e20 => .call (vI (szStep (cRationalS e20) yy0.2)) [] <| .br (.fin []) (.back []))) (.fin [])))) ?_
  refine Eq.mpr (by kernel_rfl : _ = ((x.map eRationalS).length ≤ 9223372036854775807 → (x.map eRationalS).length = x.length ∧ (inR (m - ((x.length : Nat) : Int)) ∧ (((decide ((m - ((x.length : Nat) : Int)) < (0 : Int))) = true → (-1 : Int) = (szStep (cRationalSS x) m) ∧ True) ∧ ((decide ((m - ((x.length : Nat) : Int)) < (0 : Int))) = false → (∃ (k : Nat) (z : Int), (0 : Int) = (k : Int) ∧ (m - ((x.length : Nat) : Int)) = z ∧ k ≤ x.length ∧ z = m - x.length - (sumL cRationalS (x.take k) : Nat) ∧ 0 ≤ z) ∧ ∀ (k : Nat) (z : Int), (k ≤ x.length ∧ z = m - x.length - (sumL cRationalS (x.take k) : Nat) ∧ 0 ≤ z) → (x.map eRationalS).length = x.length ∧ (((decide ((k : Int) < ((x.length : Nat) : Int))) = true → 0 ≤ (k : Int) ∧ (x.map eRationalS = x.map eRationalS ∧ k < x.length ∧ ∀ e20, x[k]? = some e20 → Con Try.prog 127 [.one (.sl 25 2 (e20.map eRational)), .one (.int .i64 z)] (vI (szStep (cRationalS e20) z)) [] ∧ (((decide ((szStep (cRationalS e20) z) < (0 : Int))) = true → (-1 : Int) = (szStep (cRationalSS x) m) ∧ True) ∧ ((decide ((szStep (cRationalS e20) z) < (0 : Int))) = false → inR ((k : Int) + (1 : Int)) ∧ ∃ (k' : Nat) (z' : Int), ((k : Int) + (1 : Int)) = (k' : Int) ∧ (szStep (cRationalS e20) z) = z' ∧ (k' ≤ x.length ∧ z' = m - x.length - (sumL cRationalS (x.take k') : Nat) ∧ 0 ≤ z') ∧ x.length - k' < x.length - k)))) ∧ ((decide ((k : Int) < ((x.length : Nat) : Int))) = false → z = (szStep (cRationalSS x) m) ∧ True))))))) ?_
  intro n0
  simp only [List.length_map] at n0
  have hS : cRationalSS x = x.length + sumL cRationalS x := rfl
  refine ⟨List.length_map _, ?_⟩
  refine ⟨⟨by omega, by omega⟩, ?_⟩
  refine ⟨fun c0 => ?_, fun c0 => ?_⟩
  · replace c0 := of_decide_eq_true c0
    refine ⟨?_, trivial⟩
    · first | (rw [szStep_no (by omega)]; done) | (rw [szStep_yes (by omega)]; done) | (rw [szStep_yes (by omega)]; omega)
  · replace c0 := of_decide_eq_false c0
    refine ⟨⟨0, m - ((x.length : Nat) : Int), rfl, rfl, Nat.zero_le _, by simp [sumL], by omega⟩, fun k z ⟨hk, hz, hz0⟩ => ?_⟩
    refine ⟨List.length_map _, ?_⟩
    refine ⟨fun c1 => ?_, fun c1 => ?_⟩
    · replace c1 := of_decide_eq_true c1
      obtain ⟨y, hy⟩ := at_some (l := x) (k := k) (by omega)
      have hfy := hf y (List.mem_of_getElem? hy)
      refine ⟨by omega, ?_⟩
      refine ⟨rfl, by omega, fun e20 h20 => ?_⟩
      obtain rfl := same_at hy h20
      refine ⟨sz_RationalS e20 _ (by first | assumption | exact hf) (by omega) (by omega), ?_⟩
      refine ⟨fun c2 => ?_, fun c2 => ?_⟩
      · replace c2 := of_decide_eq_true c2
        have y3 := sz_bad c2
        have y4 := sumL_snoc cRationalS ‹x[k]? = some _›
        have y5 := sumL_le cRationalS x (k + 1)
        refine ⟨?_, trivial⟩
        · first | (rw [szStep_no (by omega)]; done) | (rw [szStep_yes (by omega)]; done) | (rw [szStep_yes (by omega)]; omega)
      · replace c2 := of_decide_eq_false c2
        have y2 := szStep_yes (sz_ok c2)
        have y3 := sz_ok c2
        have y4 := sumL_snoc cRationalS ‹x[k]? = some _›
        refine ⟨⟨by omega, by omega⟩, ?_⟩
        exact ⟨k + 1, szStep (cRationalS e20) z, rfl, rfl, ⟨by omega, by rw [y2, y4, hz]; omega, by rw [y2]; omega⟩, by omega⟩
    · replace c1 := of_decide_eq_false c1
      have y6 : k = x.length := by omega
      rw [y6, List.take_length] at hz
      refine ⟨?_, trivial⟩
      · first | (rw [szStep_no (by omega)]; done) | (rw [szStep_yes (by omega)]; done) | (rw [szStep_yes (by omega)]; omega)

set_option maxRecDepth 100000 in
set_option maxHeartbeats 4000000 in
theorem sz_SizeConstraintS (x : List SizeConstraintD) (m : Int) (hf : FSizeConstraintS x) (h0 : 0 ≤ m) (h1 : m ≤ 1048576) : Con Try.prog 22 [.one (.sl 111 3 (x.map eSizeConstraint)), .one (.int .i64 m)] (vI (szStep (cSizeConstraintS x) m)) [] := by
  refine con_x tbOk mixedW Try.func22 (by kernel_rfl) (.len x.length <| .br (.fin []) (.fin [])) ?_
  refine Eq.mpr (by kernel_rfl : _ = ((x.map eSizeConstraint).length ≤ 9223372036854775807 → (x.map eSizeConstraint).length = x.length ∧ (inR (m - ((x.length : Nat) : Int)) ∧ (((decide ((m - ((x.length : Nat) : Int)) < (0 : Int))) = true → (-1 : Int) = (szStep (cSizeConstraintS x) m) ∧ True) ∧ ((decide ((m - ((x.length : Nat) : Int)) < (0 : Int))) = false → (m - ((x.length : Nat) : Int)) = (szStep (cSizeConstraintS x) m) ∧ True))))) ?_
  intro n0
  simp only [List.length_map] at n0
  refine ⟨List.length_map _, ?_⟩
  refine ⟨⟨by omega, by omega⟩, ?_⟩
  refine ⟨fun c0 => ?_, fun c0 => ?_⟩
  · replace c0 := of_decide_eq_true c0
    refine ⟨?_, trivial⟩
    · unfold cSizeConstraintS; first | (rw [szStep_no (by omega)]; done) | (rw [szStep_yes (by omega)]; done)
  · replace c0 := of_decide_eq_false c0
    refine ⟨?_, trivial⟩
    · unfold cSizeConstraintS; first | (rw [szStep_no (by omega)]; done) | (rw [szStep_yes (by omega)]; done)

set_option maxRecDepth 100000 in
set_option maxHeartbeats 4000000 in
theorem sz_Box (x : BoxD) (m : Int) (hf : FBox x) (h0 : 0 ≤ m) (h1 : m ≤ 1048576) : Con Try.prog 32 [.agg [.sl 3 1 (x.low.map intD), .sl 3 1 (x.high.map intD)], .one (.int .i64 m)] (vI (szStep (cBox x) m)) [] := by
  refine con_x tbOk mixedW Try.func32 (by kernel_rfl) (.call (vI (szStep (cIntS x.low) m)) [] <| .br (.fin []) (.call (vI (szStep (cIntS x.high) (szStep (cIntS x.low) m))) [] <| .br (.fin []) (.fin []))) ?_
  refine Eq.mpr (by kernel_rfl : _ = ((x.low.map intD).length ≤ 9223372036854775807 → (x.high.map intD).length ≤ 9223372036854775807 → Con Try.prog 100 [.one (.sl 3 1 (x.low.map intD)), .one (.int .i64 m)] (vI (szStep (cIntS x.low) m)) [] ∧ (((decide ((szStep (cIntS x.low) m) < (0 : Int))) = true → (-1 : Int) = (szStep (cBox x) m) ∧ True) ∧ ((decide ((szStep (cIntS x.low) m) < (0 : Int))) = false → Con Try.prog 100 [.one (.sl 3 1 (x.high.map intD)), .one (.int .i64 (szStep (cIntS x.low) m))] (vI (szStep (cIntS x.high) (szStep (cIntS x.low) m))) [] ∧ (((decide ((szStep (cIntS x.high) (szStep (cIntS x.low) m)) < (0 : Int))) = true → (-1 : Int) = (szStep (cBox x) m) ∧ True) ∧ ((decide ((szStep (cIntS x.high) (szStep (cIntS x.low) m)) < (0 : Int))) = false → (szStep (cIntS x.high) (szStep (cIntS x.low) m)) = (szStep (cBox x) m) ∧ True)))))) ?_
  intro n0 n1
  simp only [List.length_map] at n0 n1
  obtain ⟨f_low, f_high⟩ := hf
  have hmx : maxLen = 9223372036854775807 := rfl
  refine ⟨sz_IntS x.low _ (by first | assumption | exact hf) (by omega) (by omega), ?_⟩
  refine ⟨fun c0 => ?_, fun c0 => ?_⟩
  · replace c0 := of_decide_eq_true c0
    have y0 := sz_bad c0
    refine ⟨?_, trivial⟩
    · unfold cBox; first | (rw [szStep_no (by omega)]; done) | (rw [szStep_yes (by omega)]; done) | (rw [szStep_yes (by omega)]; omega)
  · replace c0 := of_decide_eq_false c0
    have y0 := sz_ok c0
    rw [szStep_yes y0] at *
    refine ⟨sz_IntS x.high _ (by first | assumption | exact hf) (by omega) (by omega), ?_⟩
    refine ⟨fun c1 => ?_, fun c1 => ?_⟩
    · replace c1 := of_decide_eq_true c1
      have y1 := sz_bad c1
      refine ⟨?_, trivial⟩
      · unfold cBox; first | (rw [szStep_no (by omega)]; done) | (rw [szStep_yes (by omega)]; done) | (rw [szStep_yes (by omega)]; omega)
    · replace c1 := of_decide_eq_false c1
      have y1 := sz_ok c1
      rw [szStep_yes y1] at *
      refine ⟨?_, trivial⟩
      · unfold cBox; first | (rw [szStep_no (by omega)]; done) | (rw [szStep_yes (by omega)]; done) | (rw [szStep_yes (by omega)]; omega)

set_option maxRecDepth 100000 in
set_option maxHeartbeats 4000000 in
theorem sz_Program (x : ProgramD) (m : Int) (hf : FProgram x) (h0 : 0 ≤ m) (h1 : m ≤ 1048576) : Con Try.prog 45 [.agg [.sl 3 1 (x.objective.map intD), .sl 34 1 (x.rows.map eIntS), .sl 3 1 (x.limits.map intD)], .one (.int .i64 m)] (vI (szStep (cProgram x) m)) [] := by
  refine con_x tbOk mixedW Try.func45 (by kernel_rfl) (.call (vI (szStep (cIntS x.objective) m)) [] <| .br (.fin []) (.call (vI (szStep (cIntSS x.rows) (szStep (cIntS x.objective) m))) [] <| .br (.fin []) (.call (vI (szStep (cIntS x.limits) (szStep (cIntSS x.rows) (szStep (cIntS x.objective) m)))) [] <| .br (.fin []) (.fin [])))) ?_
  refine Eq.mpr (by kernel_rfl : _ = ((x.objective.map intD).length ≤ 9223372036854775807 → (x.rows.map eIntS).length ≤ 9223372036854775807 → (x.limits.map intD).length ≤ 9223372036854775807 → Con Try.prog 100 [.one (.sl 3 1 (x.objective.map intD)), .one (.int .i64 m)] (vI (szStep (cIntS x.objective) m)) [] ∧ (((decide ((szStep (cIntS x.objective) m) < (0 : Int))) = true → (-1 : Int) = (szStep (cProgram x) m) ∧ True) ∧ ((decide ((szStep (cIntS x.objective) m) < (0 : Int))) = false → Con Try.prog 112 [.one (.sl 34 1 (x.rows.map eIntS)), .one (.int .i64 (szStep (cIntS x.objective) m))] (vI (szStep (cIntSS x.rows) (szStep (cIntS x.objective) m))) [] ∧ (((decide ((szStep (cIntSS x.rows) (szStep (cIntS x.objective) m)) < (0 : Int))) = true → (-1 : Int) = (szStep (cProgram x) m) ∧ True) ∧ ((decide ((szStep (cIntSS x.rows) (szStep (cIntS x.objective) m)) < (0 : Int))) = false → Con Try.prog 100 [.one (.sl 3 1 (x.limits.map intD)), .one (.int .i64 (szStep (cIntSS x.rows) (szStep (cIntS x.objective) m)))] (vI (szStep (cIntS x.limits) (szStep (cIntSS x.rows) (szStep (cIntS x.objective) m)))) [] ∧ (((decide ((szStep (cIntS x.limits) (szStep (cIntSS x.rows) (szStep (cIntS x.objective) m))) < (0 : Int))) = true → (-1 : Int) = (szStep (cProgram x) m) ∧ True) ∧ ((decide ((szStep (cIntS x.limits) (szStep (cIntSS x.rows) (szStep (cIntS x.objective) m))) < (0 : Int))) = false → (szStep (cIntS x.limits) (szStep (cIntSS x.rows) (szStep (cIntS x.objective) m))) = (szStep (cProgram x) m) ∧ True)))))))) ?_
  intro n0 n1 n2
  simp only [List.length_map] at n0 n1 n2
  obtain ⟨f_objective, f_rows, f_limits⟩ := hf
  have hmx : maxLen = 9223372036854775807 := rfl
  refine ⟨sz_IntS x.objective _ (by first | assumption | exact hf) (by omega) (by omega), ?_⟩
  refine ⟨fun c0 => ?_, fun c0 => ?_⟩
  · replace c0 := of_decide_eq_true c0
    have y0 := sz_bad c0
    refine ⟨?_, trivial⟩
    · unfold cProgram; first | (rw [szStep_no (by omega)]; done) | (rw [szStep_yes (by omega)]; done) | (rw [szStep_yes (by omega)]; omega)
  · replace c0 := of_decide_eq_false c0
    have y0 := sz_ok c0
    rw [szStep_yes y0] at *
    refine ⟨sz_IntSS x.rows _ (by first | assumption | exact hf) (by omega) (by omega), ?_⟩
    refine ⟨fun c1 => ?_, fun c1 => ?_⟩
    · replace c1 := of_decide_eq_true c1
      have y1 := sz_bad c1
      refine ⟨?_, trivial⟩
      · unfold cProgram; first | (rw [szStep_no (by omega)]; done) | (rw [szStep_yes (by omega)]; done) | (rw [szStep_yes (by omega)]; omega)
    · replace c1 := of_decide_eq_false c1
      have y1 := sz_ok c1
      rw [szStep_yes y1] at *
      refine ⟨sz_IntS x.limits _ (by first | assumption | exact hf) (by omega) (by omega), ?_⟩
      refine ⟨fun c2 => ?_, fun c2 => ?_⟩
      · replace c2 := of_decide_eq_true c2
        have y2 := sz_bad c2
        refine ⟨?_, trivial⟩
        · unfold cProgram; first | (rw [szStep_no (by omega)]; done) | (rw [szStep_yes (by omega)]; done) | (rw [szStep_yes (by omega)]; omega)
      · replace c2 := of_decide_eq_false c2
        have y2 := sz_ok c2
        rw [szStep_yes y2] at *
        refine ⟨?_, trivial⟩
        · unfold cProgram; first | (rw [szStep_no (by omega)]; done) | (rw [szStep_yes (by omega)]; done) | (rw [szStep_yes (by omega)]; omega)

set_option maxRecDepth 100000 in
set_option maxHeartbeats 4000000 in
theorem sz_Dictionary (x : DictionaryD) (m : Int) (hf : FDictionary x) (h0 : 0 ≤ m) (h1 : m ≤ 1048576) : Con Try.prog 52 [.agg [.sl 3 1 (x.basic.map intD), .sl 3 1 (x.others.map intD), .sl 66 1 (x.table.map eRationalS), .sl 25 2 (x.limits.map eRational), .sl 25 2 (x.costs.map eRational), .int .i64 x.value.num, .int .i64 x.value.den], .one (.int .i64 m)] (vI (szStep (cDictionary x) m)) [] := by
  refine con_x tbOk mixedW Try.func52 (by kernel_rfl) (.call (vI (szStep (cIntS x.basic) m)) [] <| .br (.fin []) (.call (vI (szStep (cIntS x.others) (szStep (cIntS x.basic) m))) [] <| .br (.fin []) (.call (vI (szStep (cRationalSS x.table) (szStep (cIntS x.others) (szStep (cIntS x.basic) m)))) [] <| .br (.fin []) (.call (vI (szStep (cRationalS x.limits) (szStep (cRationalSS x.table) (szStep (cIntS x.others) (szStep (cIntS x.basic) m))))) [] <| .br (.fin []) (.call (vI (szStep (cRationalS x.costs) (szStep (cRationalS x.limits) (szStep (cRationalSS x.table) (szStep (cIntS x.others) (szStep (cIntS x.basic) m)))))) [] <| .br (.fin []) (.fin [])))))) ?_
  refine Eq.mpr (by kernel_rfl : _ = ((x.basic.map intD).length ≤ 9223372036854775807 → (x.others.map intD).length ≤ 9223372036854775807 → (x.table.map eRationalS).length ≤ 9223372036854775807 → (x.limits.map eRational).length ≤ 9223372036854775807 → (x.costs.map eRational).length ≤ 9223372036854775807 → Con Try.prog 100 [.one (.sl 3 1 (x.basic.map intD)), .one (.int .i64 m)] (vI (szStep (cIntS x.basic) m)) [] ∧ (((decide ((szStep (cIntS x.basic) m) < (0 : Int))) = true → (-1 : Int) = (szStep (cDictionary x) m) ∧ True) ∧ ((decide ((szStep (cIntS x.basic) m) < (0 : Int))) = false → Con Try.prog 100 [.one (.sl 3 1 (x.others.map intD)), .one (.int .i64 (szStep (cIntS x.basic) m))] (vI (szStep (cIntS x.others) (szStep (cIntS x.basic) m))) [] ∧ (((decide ((szStep (cIntS x.others) (szStep (cIntS x.basic) m)) < (0 : Int))) = true → (-1 : Int) = (szStep (cDictionary x) m) ∧ True) ∧ ((decide ((szStep (cIntS x.others) (szStep (cIntS x.basic) m)) < (0 : Int))) = false → Con Try.prog 126 [.one (.sl 66 1 (x.table.map eRationalS)), .one (.int .i64 (szStep (cIntS x.others) (szStep (cIntS x.basic) m)))] (vI (szStep (cRationalSS x.table) (szStep (cIntS x.others) (szStep (cIntS x.basic) m)))) [] ∧ (((decide ((szStep (cRationalSS x.table) (szStep (cIntS x.others) (szStep (cIntS x.basic) m))) < (0 : Int))) = true → (-1 : Int) = (szStep (cDictionary x) m) ∧ True) ∧ ((decide ((szStep (cRationalSS x.table) (szStep (cIntS x.others) (szStep (cIntS x.basic) m))) < (0 : Int))) = false → Con Try.prog 127 [.one (.sl 25 2 (x.limits.map eRational)), .one (.int .i64 (szStep (cRationalSS x.table) (szStep (cIntS x.others) (szStep (cIntS x.basic) m))))] (vI (szStep (cRationalS x.limits) (szStep (cRationalSS x.table) (szStep (cIntS x.others) (szStep (cIntS x.basic) m))))) [] ∧ (((decide ((szStep (cRationalS x.limits) (szStep (cRationalSS x.table) (szStep (cIntS x.others) (szStep (cIntS x.basic) m)))) < (0 : Int))) = true → (-1 : Int) = (szStep (cDictionary x) m) ∧ True) ∧ ((decide ((szStep (cRationalS x.limits) (szStep (cRationalSS x.table) (szStep (cIntS x.others) (szStep (cIntS x.basic) m)))) < (0 : Int))) = false → Con Try.prog 127 [.one (.sl 25 2 (x.costs.map eRational)), .one (.int .i64 (szStep (cRationalS x.limits) (szStep (cRationalSS x.table) (szStep (cIntS x.others) (szStep (cIntS x.basic) m)))))] (vI (szStep (cRationalS x.costs) (szStep (cRationalS x.limits) (szStep (cRationalSS x.table) (szStep (cIntS x.others) (szStep (cIntS x.basic) m)))))) [] ∧ (((decide ((szStep (cRationalS x.costs) (szStep (cRationalS x.limits) (szStep (cRationalSS x.table) (szStep (cIntS x.others) (szStep (cIntS x.basic) m))))) < (0 : Int))) = true → (-1 : Int) = (szStep (cDictionary x) m) ∧ True) ∧ ((decide ((szStep (cRationalS x.costs) (szStep (cRationalS x.limits) (szStep (cRationalSS x.table) (szStep (cIntS x.others) (szStep (cIntS x.basic) m))))) < (0 : Int))) = false → (szStep (cRationalS x.costs) (szStep (cRationalS x.limits) (szStep (cRationalSS x.table) (szStep (cIntS x.others) (szStep (cIntS x.basic) m))))) = (szStep (cDictionary x) m) ∧ True)))))))))))) ?_
  intro n0 n1 n2 n3 n4
  simp only [List.length_map] at n0 n1 n2 n3 n4
  obtain ⟨f_basic, f_others, f_table, f_limits, f_costs, f_value⟩ := hf
  have hmx : maxLen = 9223372036854775807 := rfl
  refine ⟨sz_IntS x.basic _ (by first | assumption | exact hf) (by omega) (by omega), ?_⟩
  refine ⟨fun c0 => ?_, fun c0 => ?_⟩
  · replace c0 := of_decide_eq_true c0
    have y0 := sz_bad c0
    refine ⟨?_, trivial⟩
    · unfold cDictionary; first | (rw [szStep_no (by omega)]; done) | (rw [szStep_yes (by omega)]; done) | (rw [szStep_yes (by omega)]; omega)
  · replace c0 := of_decide_eq_false c0
    have y0 := sz_ok c0
    rw [szStep_yes y0] at *
    refine ⟨sz_IntS x.others _ (by first | assumption | exact hf) (by omega) (by omega), ?_⟩
    refine ⟨fun c1 => ?_, fun c1 => ?_⟩
    · replace c1 := of_decide_eq_true c1
      have y1 := sz_bad c1
      refine ⟨?_, trivial⟩
      · unfold cDictionary; first | (rw [szStep_no (by omega)]; done) | (rw [szStep_yes (by omega)]; done) | (rw [szStep_yes (by omega)]; omega)
    · replace c1 := of_decide_eq_false c1
      have y1 := sz_ok c1
      rw [szStep_yes y1] at *
      refine ⟨sz_RationalSS x.table _ (by first | assumption | exact hf) (by omega) (by omega), ?_⟩
      refine ⟨fun c2 => ?_, fun c2 => ?_⟩
      · replace c2 := of_decide_eq_true c2
        have y2 := sz_bad c2
        refine ⟨?_, trivial⟩
        · unfold cDictionary; first | (rw [szStep_no (by omega)]; done) | (rw [szStep_yes (by omega)]; done) | (rw [szStep_yes (by omega)]; omega)
      · replace c2 := of_decide_eq_false c2
        have y2 := sz_ok c2
        rw [szStep_yes y2] at *
        refine ⟨sz_RationalS x.limits _ (by first | assumption | exact hf) (by omega) (by omega), ?_⟩
        refine ⟨fun c3 => ?_, fun c3 => ?_⟩
        · replace c3 := of_decide_eq_true c3
          have y3 := sz_bad c3
          refine ⟨?_, trivial⟩
          · unfold cDictionary; first | (rw [szStep_no (by omega)]; done) | (rw [szStep_yes (by omega)]; done) | (rw [szStep_yes (by omega)]; omega)
        · replace c3 := of_decide_eq_false c3
          have y3 := sz_ok c3
          rw [szStep_yes y3] at *
          refine ⟨sz_RationalS x.costs _ (by first | assumption | exact hf) (by omega) (by omega), ?_⟩
          refine ⟨fun c4 => ?_, fun c4 => ?_⟩
          · replace c4 := of_decide_eq_true c4
            have y4 := sz_bad c4
            refine ⟨?_, trivial⟩
            · unfold cDictionary; first | (rw [szStep_no (by omega)]; done) | (rw [szStep_yes (by omega)]; done) | (rw [szStep_yes (by omega)]; omega)
          · replace c4 := of_decide_eq_false c4
            have y4 := sz_ok c4
            rw [szStep_yes y4] at *
            refine ⟨?_, trivial⟩
            · unfold cDictionary; first | (rw [szStep_no (by omega)]; done) | (rw [szStep_yes (by omega)]; done) | (rw [szStep_yes (by omega)]; omega)
end Go.Proofs.Ytcfilkhjababjaa
