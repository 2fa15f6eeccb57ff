/-
  The laws on entering columns and leaving rows.
-/
import Derived.Test.YtcgjlddpbkponaaXa
namespace Go.Proofs.Ytcgjlddpbkponaa
open Go.ChangeShapes Go.WideShapes Go.ChangeAt Go.RowKit
set_option linter.unusedVariables false
set_option linter.unusedSimpArgs false
theorem sz_ok {n : Nat} {m : Int} (h : ¬ szStep n m < 0) : (n : Int) ≤ m := by
  unfold szStep at h
  split at h
  · assumption
  · omega

set_option maxRecDepth 100000 in
set_option maxHeartbeats 4000000 in
theorem lawEnteringColumn (d : DictionaryD) (hf : FitsD d) : Con Try.prog 11 [.agg [.sl 3 1 (d.basic.map intD), .sl 3 1 (d.others.map intD), .sl 38 1 (d.table.map ratsD), .sl 35 2 (d.consts.map ratD), .sl 35 2 (d.costs.map ratD), .int .i64 d.value.num, .int .i64 d.value.den]] (vB true) [] := by
  refine con_x tbOk mixedW Try.func11 (by kernel_rfl) (.call (vI (szStep d.count (1048576 : Int))) [] <| .br (.fin []) (.call (.agg [.own 0, .own 1, .own 2, .own 3, .own 4, vI d.value.num, vI d.value.den]) [(0, .arr 3 1 true (d.basic.map intD)), (1, .arr 3 1 true (d.others.map intD)), (2, .arr 38 1 true (d.table.map ratsD)), (3, .arr 35 2 true (d.consts.map ratD)), (4, .arr 35 2 true (d.costs.map ratD))] <| .call (vI (enterM d)) [] <| .call (.agg [.own 0, .own 1, .own 2, .own 3, .own 4, vI d.value.num, vI d.value.den]) [(0, .arr 3 1 true (d.basic.map intD)), (1, .arr 3 1 true (d.others.map intD)), (2, .arr 38 1 true (d.table.map ratsD)), (3, .arr 35 2 true (d.consts.map ratD)), (4, .arr 35 2 true (d.costs.map ratD))] <| .call (vI (enterM d)) [] <| .no <| .call (.agg [.own 0, .own 1, .own 2, .own 3, .own 4, vI d.value.num, vI d.value.den]) [(0, .arr 3 1 true (d.basic.map intD)), (1, .arr 3 1 true (d.others.map intD)), (2, .arr 38 1 true (d.table.map ratsD)), (3, .arr 35 2 true (d.consts.map ratD)), (4, .arr 35 2 true (d.costs.map ratD))] <| .call (vB true) [] <| .fin [])) ?_
  refine Eq.mpr (by kernel_rfl : _ = ((d.basic.map intD).length ≤ 9223372036854775807 → (d.others.map intD).length ≤ 9223372036854775807 → (d.table.map ratsD).length ≤ 9223372036854775807 → (d.consts.map ratD).length ≤ 9223372036854775807 → (d.costs.map ratD).length ≤ 9223372036854775807 → Con Try.prog 43 [.agg [.sl 3 1 (d.basic.map intD), .sl 3 1 (d.others.map intD), .sl 38 1 (d.table.map ratsD), .sl 35 2 (d.consts.map ratD), .sl 35 2 (d.costs.map ratD), .int .i64 d.value.num, .int .i64 d.value.den], .one (.int .i64 (1048576 : Int))] (vI (szStep d.count (1048576 : Int))) [] ∧ (((decide ((szStep d.count (1048576 : Int)) < (0 : Int))) = true → (true) = true ∧ True) ∧ ((decide ((szStep d.count (1048576 : Int)) < (0 : Int))) = false → Con Try.prog 45 [.agg [.sl 3 1 (d.basic.map intD), .sl 3 1 (d.others.map intD), .sl 38 1 (d.table.map ratsD), .sl 35 2 (d.consts.map ratD), .sl 35 2 (d.costs.map ratD), .int .i64 d.value.num, .int .i64 d.value.den]] (.agg [.own 0, .own 1, .own 2, .own 3, .own 4, vI d.value.num, vI d.value.den]) [(0, .arr 3 1 true (d.basic.map intD)), (1, .arr 3 1 true (d.others.map intD)), (2, .arr 38 1 true (d.table.map ratsD)), (3, .arr 35 2 true (d.consts.map ratD)), (4, .arr 35 2 true (d.costs.map ratD))] ∧ Con Try.prog 47 [.agg [.sl 3 1 (d.basic.map intD), .sl 3 1 (d.others.map intD), .sl 38 1 (d.table.map ratsD), .sl 35 2 (d.consts.map ratD), .sl 35 2 (d.costs.map ratD), .int .i64 d.value.num, .int .i64 d.value.den]] (vI (enterM d)) [] ∧ Con Try.prog 45 [.agg [.sl 3 1 (d.basic.map intD), .sl 3 1 (d.others.map intD), .sl 38 1 (d.table.map ratsD), .sl 35 2 (d.consts.map ratD), .sl 35 2 (d.costs.map ratD), .int .i64 d.value.num, .int .i64 d.value.den]] (.agg [.own 0, .own 1, .own 2, .own 3, .own 4, vI d.value.num, vI d.value.den]) [(0, .arr 3 1 true (d.basic.map intD)), (1, .arr 3 1 true (d.others.map intD)), (2, .arr 38 1 true (d.table.map ratsD)), (3, .arr 35 2 true (d.consts.map ratD)), (4, .arr 35 2 true (d.costs.map ratD))] ∧ Con Try.prog 48 [.agg [.sl 3 1 (d.basic.map intD), .sl 3 1 (d.others.map intD), .sl 38 1 (d.table.map ratsD), .sl 35 2 (d.consts.map ratD), .sl 35 2 (d.costs.map ratD), .int .i64 d.value.num, .int .i64 d.value.den]] (vI (enterM d)) [] ∧ (!(decide ((enterM d) = (enterM d)))) = false ∧ Con Try.prog 45 [.agg [.sl 3 1 (d.basic.map intD), .sl 3 1 (d.others.map intD), .sl 38 1 (d.table.map ratsD), .sl 35 2 (d.consts.map ratD), .sl 35 2 (d.costs.map ratD), .int .i64 d.value.num, .int .i64 d.value.den]] (.agg [.own 0, .own 1, .own 2, .own 3, .own 4, vI d.value.num, vI d.value.den]) [(0, .arr 3 1 true (d.basic.map intD)), (1, .arr 3 1 true (d.others.map intD)), (2, .arr 38 1 true (d.table.map ratsD)), (3, .arr 35 2 true (d.consts.map ratD)), (4, .arr 35 2 true (d.costs.map ratD))] ∧ Con Try.prog 30 [.agg [.sl 3 1 (d.basic.map intD), .sl 3 1 (d.others.map intD), .sl 38 1 (d.table.map ratsD), .sl 35 2 (d.consts.map ratD), .sl 35 2 (d.costs.map ratD), .int .i64 d.value.num, .int .i64 d.value.den], .agg [.sl 3 1 (d.basic.map intD), .sl 3 1 (d.others.map intD), .sl 38 1 (d.table.map ratsD), .sl 35 2 (d.consts.map ratD), .sl 35 2 (d.costs.map ratD), .int .i64 d.value.num, .int .i64 d.value.den]] (vB true) [] ∧ (true) = true ∧ True)))) ?_
  intro n0 n1 n2 n3 n4
  simp only [List.length_map] at n0 n1 n2 n3 n4
  refine ⟨c_szDic hf (by omega) (by omega) rfl, ?_⟩
  refine ⟨fun c0 => ?_, fun c0 => ?_⟩
  · replace c0 := of_decide_eq_true c0
    refine ⟨?_, trivial⟩
    · rfl
  · replace c0 := of_decide_eq_false c0
    have hc := sz_ok c0
    have hs : SmallD d := small_dic (by omega)
    refine ⟨c_toDic d hf (by omega), ?_⟩
    refine ⟨w_enter_spec _ hs, ?_⟩
    refine ⟨c_toDic d hf (by omega), ?_⟩
    refine ⟨w_enter_impl _ hs, ?_⟩
    refine ⟨by simp, ?_⟩
    refine ⟨c_toDic d hf (by omega), ?_⟩
    refine ⟨c_eqDic d hf, ?_⟩
    refine ⟨?_, trivial⟩
    · rfl

set_option maxRecDepth 100000 in
set_option maxHeartbeats 4000000 in
theorem lawLeavingRow (d : DictionaryD) (j : Int) (hf : FitsD d) : Con Try.prog 12 [.agg [.sl 3 1 (d.basic.map intD), .sl 3 1 (d.others.map intD), .sl 38 1 (d.table.map ratsD), .sl 35 2 (d.consts.map ratD), .sl 35 2 (d.costs.map ratD), .int .i64 d.value.num, .int .i64 d.value.den], .one (.int .i64 j)] (vB true) [] := by
  refine con_x tbOk mixedW Try.func12 (by kernel_rfl) (.call (vI (szStep d.count (1048576 : Int))) [] <| .br (.fin []) (.call (.agg [.own 0, .own 1, .own 2, .own 3, .own 4, vI d.value.num, vI d.value.den]) [(0, .arr 3 1 true (d.basic.map intD)), (1, .arr 3 1 true (d.others.map intD)), (2, .arr 38 1 true (d.table.map ratsD)), (3, .arr 35 2 true (d.consts.map ratD)), (4, .arr 35 2 true (d.costs.map ratD))] <| .call (vI (leaveM d j)) [] <| .call (.agg [.own 0, .own 1, .own 2, .own 3, .own 4, vI d.value.num, vI d.value.den]) [(0, .arr 3 1 true (d.basic.map intD)), (1, .arr 3 1 true (d.others.map intD)), (2, .arr 38 1 true (d.table.map ratsD)), (3, .arr 35 2 true (d.consts.map ratD)), (4, .arr 35 2 true (d.costs.map ratD))] <| .call (vI (leaveM d j)) [] <| .no <| .call (.agg [.own 0, .own 1, .own 2, .own 3, .own 4, vI d.value.num, vI d.value.den]) [(0, .arr 3 1 true (d.basic.map intD)), (1, .arr 3 1 true (d.others.map intD)), (2, .arr 38 1 true (d.table.map ratsD)), (3, .arr 35 2 true (d.consts.map ratD)), (4, .arr 35 2 true (d.costs.map ratD))] <| .call (vB true) [] <| .fin [])) ?_
  refine Eq.mpr (by kernel_rfl : _ = ((d.basic.map intD).length ≤ 9223372036854775807 → (d.others.map intD).length ≤ 9223372036854775807 → (d.table.map ratsD).length ≤ 9223372036854775807 → (d.consts.map ratD).length ≤ 9223372036854775807 → (d.costs.map ratD).length ≤ 9223372036854775807 → Con Try.prog 43 [.agg [.sl 3 1 (d.basic.map intD), .sl 3 1 (d.others.map intD), .sl 38 1 (d.table.map ratsD), .sl 35 2 (d.consts.map ratD), .sl 35 2 (d.costs.map ratD), .int .i64 d.value.num, .int .i64 d.value.den], .one (.int .i64 (1048576 : Int))] (vI (szStep d.count (1048576 : Int))) [] ∧ (((decide ((szStep d.count (1048576 : Int)) < (0 : Int))) = true → (true) = true ∧ True) ∧ ((decide ((szStep d.count (1048576 : Int)) < (0 : Int))) = false → Con Try.prog 45 [.agg [.sl 3 1 (d.basic.map intD), .sl 3 1 (d.others.map intD), .sl 38 1 (d.table.map ratsD), .sl 35 2 (d.consts.map ratD), .sl 35 2 (d.costs.map ratD), .int .i64 d.value.num, .int .i64 d.value.den]] (.agg [.own 0, .own 1, .own 2, .own 3, .own 4, vI d.value.num, vI d.value.den]) [(0, .arr 3 1 true (d.basic.map intD)), (1, .arr 3 1 true (d.others.map intD)), (2, .arr 38 1 true (d.table.map ratsD)), (3, .arr 35 2 true (d.consts.map ratD)), (4, .arr 35 2 true (d.costs.map ratD))] ∧ Con Try.prog 49 [.agg [.sl 3 1 (d.basic.map intD), .sl 3 1 (d.others.map intD), .sl 38 1 (d.table.map ratsD), .sl 35 2 (d.consts.map ratD), .sl 35 2 (d.costs.map ratD), .int .i64 d.value.num, .int .i64 d.value.den], .one (.int .i64 j)] (vI (leaveM d j)) [] ∧ Con Try.prog 45 [.agg [.sl 3 1 (d.basic.map intD), .sl 3 1 (d.others.map intD), .sl 38 1 (d.table.map ratsD), .sl 35 2 (d.consts.map ratD), .sl 35 2 (d.costs.map ratD), .int .i64 d.value.num, .int .i64 d.value.den]] (.agg [.own 0, .own 1, .own 2, .own 3, .own 4, vI d.value.num, vI d.value.den]) [(0, .arr 3 1 true (d.basic.map intD)), (1, .arr 3 1 true (d.others.map intD)), (2, .arr 38 1 true (d.table.map ratsD)), (3, .arr 35 2 true (d.consts.map ratD)), (4, .arr 35 2 true (d.costs.map ratD))] ∧ Con Try.prog 50 [.agg [.sl 3 1 (d.basic.map intD), .sl 3 1 (d.others.map intD), .sl 38 1 (d.table.map ratsD), .sl 35 2 (d.consts.map ratD), .sl 35 2 (d.costs.map ratD), .int .i64 d.value.num, .int .i64 d.value.den], .one (.int .i64 j)] (vI (leaveM d j)) [] ∧ (!(decide ((leaveM d j) = (leaveM d j)))) = false ∧ Con Try.prog 45 [.agg [.sl 3 1 (d.basic.map intD), .sl 3 1 (d.others.map intD), .sl 38 1 (d.table.map ratsD), .sl 35 2 (d.consts.map ratD), .sl 35 2 (d.costs.map ratD), .int .i64 d.value.num, .int .i64 d.value.den]] (.agg [.own 0, .own 1, .own 2, .own 3, .own 4, vI d.value.num, vI d.value.den]) [(0, .arr 3 1 true (d.basic.map intD)), (1, .arr 3 1 true (d.others.map intD)), (2, .arr 38 1 true (d.table.map ratsD)), (3, .arr 35 2 true (d.consts.map ratD)), (4, .arr 35 2 true (d.costs.map ratD))] ∧ Con Try.prog 30 [.agg [.sl 3 1 (d.basic.map intD), .sl 3 1 (d.others.map intD), .sl 38 1 (d.table.map ratsD), .sl 35 2 (d.consts.map ratD), .sl 35 2 (d.costs.map ratD), .int .i64 d.value.num, .int .i64 d.value.den], .agg [.sl 3 1 (d.basic.map intD), .sl 3 1 (d.others.map intD), .sl 38 1 (d.table.map ratsD), .sl 35 2 (d.consts.map ratD), .sl 35 2 (d.costs.map ratD), .int .i64 d.value.num, .int .i64 d.value.den]] (vB true) [] ∧ (true) = true ∧ True)))) ?_
  intro n0 n1 n2 n3 n4
  simp only [List.length_map] at n0 n1 n2 n3 n4
  refine ⟨c_szDic hf (by omega) (by omega) rfl, ?_⟩
  refine ⟨fun c0 => ?_, fun c0 => ?_⟩
  · replace c0 := of_decide_eq_true c0
    refine ⟨?_, trivial⟩
    · rfl
  · replace c0 := of_decide_eq_false c0
    have hc := sz_ok c0
    have hs : SmallD d := small_dic (by omega)
    refine ⟨c_toDic d hf (by omega), ?_⟩
    refine ⟨w_leave_spec _ _ hs, ?_⟩
    refine ⟨c_toDic d hf (by omega), ?_⟩
    refine ⟨w_leave_impl _ _ hs, ?_⟩
    refine ⟨by simp, ?_⟩
    refine ⟨c_toDic d hf (by omega), ?_⟩
    refine ⟨c_eqDic d hf, ?_⟩
    refine ⟨?_, trivial⟩
    · rfl
end Go.Proofs.Ytcgjlddpbkponaa
