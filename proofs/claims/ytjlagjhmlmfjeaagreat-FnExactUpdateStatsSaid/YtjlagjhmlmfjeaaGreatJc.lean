/-
  Rows put into and taken out of tables, both sides.
-/
import Derived.Test.YtjlagjhmlmfjeaaGreatJa
import Derived.Test.YtjlagjhmlmfjeaaGreatJb
import Derived.Test.YtjlagjhmlmfjeaaGreatDl
import Derived.Test.YtjlagjhmlmfjeaaGreatHc
namespace Go.Proofs.YtjlagjhmlmfjeaaGreat
open Go.ChangeShapes Go.WideShapes Go.ChangeAt Go.RowKit
set_option linter.unusedVariables false
set_option linter.unusedSimpArgs false
set_option maxRecDepth 100000 in
set_option maxHeartbeats 4000000 in
theorem ins_impl (t : TableD) (row : List Int) (hc : cTable t ≤ 1048576) (hr : row.length ≤ 1048576) : Con Tryz.prog 72 [.agg [.str t.name, .int .i64 t.arity, .sl 25 1 (t.rows.map eIntS)], .one (.sl 3 1 (row.map intD))] (.tup [.agg [.p none (.str (((insT t row).1).name)), vI (((insT t row).1).arity), .own 0], vB ((insT t row).2)]) [(0, .arr 25 1 true ((((insT t row).1).rows).map eIntS))] := by
  refine con_x tbOk mixedW Tryz.func72 (by kernel_rfl) (.call (.agg [.p none (.str t.name), vI t.arity, .own 0]) [(0, .arr 25 1 true (t.rows.map eIntS))] <| .call (vB (okTable t)) [] <| .br (.fin [(0, 800)]) (.call (vB (okRow t.arity row)) [] <| .lit <| .lit <| .br (.fin [(0, 800)]) (.call (vI (idxF (isR row) t.rows)) [] <| .lit <| .lit <| .br (.fin [(0, 800)]) (.len t.rows.length <| .lit <| .lit <| .br (.fin [(0, 800)]) (.shal 4 800 <| .appr (List Int) eIntS t.rows ([row] : List (List Int)) <| .call (.own 0) [(0, .arr 25 1 true ((dedR (sortR (t.rows ++ [row]))).map eIntS))] <| .fin [(0, 3700)]))))) ?_
  refine Eq.mpr (by kernel_rfl : _ = ((t.rows.map eIntS).length ≤ 9223372036854775807 → (row.map intD).length ≤ 9223372036854775807 → Con Tryz.prog 134 [.agg [.str t.name, .int .i64 t.arity, .sl 25 1 (t.rows.map eIntS)]] (.agg [.p none (.str t.name), vI t.arity, .own 0]) [(0, .arr 25 1 true (t.rows.map eIntS))] ∧ (Con Tryz.prog 131 [.agg [.str t.name, .int .i64 t.arity, .sl 25 1 (t.rows.map eIntS)]] (vB (okTable t)) [] ∧ (((!(okTable t)) = true → t.name = (((insT t row).1).name) ∧ t.arity = (((insT t row).1).arity) ∧ (false) = ((insT t row).2) ∧ t.rows.map eIntS = (((insT t row).1).rows).map eIntS ∧ True) ∧ ((!(okTable t)) = false → Con Tryz.prog 135 [.one (.sl 3 1 (row.map intD)), .one (.int .i64 t.arity)] (vB (okRow t.arity row)) [] ∧ (((!(okRow t.arity row)) = true → t.name = (((insT t row).1).name) ∧ t.arity = (((insT t row).1).arity) ∧ (false) = ((insT t row).2) ∧ t.rows.map eIntS = (((insT t row).1).rows).map eIntS ∧ True) ∧ ((!(okRow t.arity row)) = false → Con Tryz.prog 136 [.agg [.str t.name, .int .i64 t.arity, .sl 25 1 (t.rows.map eIntS)], .one (.sl 3 1 (row.map intD))] (vI (idxF (isR row) t.rows)) [] ∧ (((decide ((0 : Int) ≤ (idxF (isR row) t.rows))) = true → t.name = (((insT t row).1).name) ∧ t.arity = (((insT t row).1).arity) ∧ (false) = ((insT t row).2) ∧ t.rows.map eIntS = (((insT t row).1).rows).map eIntS ∧ True) ∧ ((decide ((0 : Int) ≤ (idxF (isR row) t.rows))) = false → (t.rows.map eIntS).length = t.rows.length ∧ (((decide ((8 : Int) ≤ ((t.rows.length : Nat) : Int))) = true → t.name = (((insT t row).1).name) ∧ t.arity = (((insT t row).1).arity) ∧ (false) = ((insT t row).2) ∧ t.rows.map eIntS = (((insT t row).1).rows).map eIntS ∧ True) ∧ ((decide ((8 : Int) ≤ ((t.rows.length : Nat) : Int))) = false → t.rows.map eIntS = t.rows.map eIntS ∧ [[.sl 3 1 (row.map intD)]] = ([row] : List (List Int)).map eIntS ∧ (t.rows.length + ([row] : List (List Int)).length) * 24 ≤ 140737488355328 ∧ Con Tryz.prog 137 [.one (.sl 25 1 ((t.rows ++ [row]).map eIntS))] (.own 0) [(0, .arr 25 1 true ((dedR (sortR (t.rows ++ [row]))).map eIntS))] ∧ t.name = (((insT t row).1).name) ∧ t.arity = (((insT t row).1).arity) ∧ (true) = ((insT t row).2) ∧ (dedR (sortR (t.rows ++ [row]))).map eIntS = (((insT t row).1).rows).map eIntS ∧ True))))))))))) ?_
  intro n0 n1
  simp only [List.length_map] at n0 n1
  have q1 : cTable t = t.name.size + cIntSS t.rows := rfl
  have q2 := cIntSS_len t.rows
  refine ⟨cpT_impl _ (by omega), ?_⟩
  refine ⟨tab_impl t, ?_⟩
  refine ⟨fun g12 => ?_, fun g12 => ?_⟩
  · replace g12 := nt g12
    have hbad : insOk t row = false := by first | (simp [insOk, *]; done) | (simp [insOk, *]; omega)
    refine ⟨?_, ?_, ?_, ?_, trivial⟩
    · first | (rw [insT_no hbad] <;> rfl) | (rw [insT_yes hok] <;> rfl) | (rw [insT_yes hok, hE])
    · first | (rw [insT_no hbad] <;> rfl) | (rw [insT_yes hok] <;> rfl) | (rw [insT_yes hok, hE])
    · first | (rw [insT_no hbad] <;> rfl) | (rw [insT_yes hok] <;> rfl) | (rw [insT_yes hok, hE])
    · first | (rw [insT_no hbad] <;> rfl) | (rw [insT_yes hok] <;> rfl) | (rw [insT_yes hok, hE])
  · replace g12 := nf g12
    refine ⟨row_impl _ _, ?_⟩
    refine ⟨fun g19 => ?_, fun g19 => ?_⟩
    · replace g19 := nt g19
      have hbad : insOk t row = false := by first | (simp [insOk, *]; done) | (simp [insOk, *]; omega)
      refine ⟨?_, ?_, ?_, ?_, trivial⟩
      · first | (rw [insT_no hbad] <;> rfl) | (rw [insT_yes hok] <;> rfl) | (rw [insT_yes hok, hE])
      · first | (rw [insT_no hbad] <;> rfl) | (rw [insT_yes hok] <;> rfl) | (rw [insT_yes hok, hE])
      · first | (rw [insT_no hbad] <;> rfl) | (rw [insT_yes hok] <;> rfl) | (rw [insT_yes hok, hE])
      · first | (rw [insT_no hbad] <;> rfl) | (rw [insT_yes hok] <;> rfl) | (rw [insT_yes hok, hE])
    · replace g19 := nf g19
      refine ⟨rowIdx _ _, ?_⟩
      refine ⟨fun g25 => ?_, fun g25 => ?_⟩
      · replace g25 := of_decide_eq_true g25
        have hbad : insOk t row = false := by first | (simp [insOk, *]; done) | (simp [insOk, *]; omega)
        refine ⟨?_, ?_, ?_, ?_, trivial⟩
        · first | (rw [insT_no hbad] <;> rfl) | (rw [insT_yes hok] <;> rfl) | (rw [insT_yes hok, hE])
        · first | (rw [insT_no hbad] <;> rfl) | (rw [insT_yes hok] <;> rfl) | (rw [insT_yes hok, hE])
        · first | (rw [insT_no hbad] <;> rfl) | (rw [insT_yes hok] <;> rfl) | (rw [insT_yes hok, hE])
        · first | (rw [insT_no hbad] <;> rfl) | (rw [insT_yes hok] <;> rfl) | (rw [insT_yes hok, hE])
      · replace g25 := of_decide_eq_false g25
        refine ⟨List.length_map _, ?_⟩
        refine ⟨fun c0 => ?_, fun c0 => ?_⟩
        · replace c0 := of_decide_eq_true c0
          have hbad : insOk t row = false := by first | (simp [insOk, *]; done) | (simp [insOk, *]; omega)
          refine ⟨?_, ?_, ?_, ?_, trivial⟩
          · first | (rw [insT_no hbad] <;> rfl) | (rw [insT_yes hok] <;> rfl) | (rw [insT_yes hok, hE])
          · first | (rw [insT_no hbad] <;> rfl) | (rw [insT_yes hok] <;> rfl) | (rw [insT_yes hok, hE])
          · first | (rw [insT_no hbad] <;> rfl) | (rw [insT_yes hok] <;> rfl) | (rw [insT_yes hok, hE])
          · first | (rw [insT_no hbad] <;> rfl) | (rw [insT_yes hok] <;> rfl) | (rw [insT_yes hok, hE])
        · replace c0 := of_decide_eq_false c0
          have hok : insOk t row = true := by first | (simp [insOk, *]; done) | (simp [insOk, *]; omega)
          have hsm := ins_small hok
          have hE := ins_rows (row := row) (insOk_parts hok).1
          refine ⟨rfl, rfl, by first | omega | (simp; omega), ?_⟩
          refine ⟨sorted_impl (t.rows ++ [row]) (by omega), ?_⟩
          refine ⟨?_, ?_, ?_, ?_, trivial⟩
          · first | (rw [insT_no hbad] <;> rfl) | (rw [insT_yes hok] <;> rfl) | (rw [insT_yes hok, hE])
          · first | (rw [insT_no hbad] <;> rfl) | (rw [insT_yes hok] <;> rfl) | (rw [insT_yes hok, hE])
          · first | (rw [insT_no hbad] <;> rfl) | (rw [insT_yes hok] <;> rfl) | (rw [insT_yes hok, hE])
          · first | (rw [insT_no hbad] <;> rfl) | (rw [insT_yes hok] <;> rfl) | (rw [insT_yes hok, hE])

set_option maxRecDepth 100000 in
set_option maxHeartbeats 4000000 in
theorem ins_spec (t : TableD) (row : List Int) (hc : cTable t ≤ 1048576) (hr : row.length ≤ 1048576) : Con Tryz.prog 66 [.agg [.str t.name, .int .i64 t.arity, .sl 25 1 (t.rows.map eIntS)], .one (.sl 3 1 (row.map intD))] (.tup [.agg [.p none (.str (((insT t row).1).name)), vI (((insT t row).1).arity), .own 0], vB ((insT t row).2)]) [(0, .arr 25 1 true ((((insT t row).1).rows).map eIntS))] := by
  refine con_x tbOk mixedW Tryz.func66 (by kernel_rfl) (.call (.agg [.p none (.str t.name), vI t.arity, .own 0]) [(0, .arr 25 1 true (t.rows.map eIntS))] <| .call (vB (okTable t)) [] <| .br (.fin [(0, 800)]) (.call (vB (okRow t.arity row)) [] <| .lit <| .lit <| .br (.fin [(0, 800)]) (.call (vB (hasR t row)) [] <| .lit <| .br (.fin [(0, 800)]) (.len t.rows.length <| .lit <| .lit <| .br (.fin [(0, 800)]) (.call (.own 0) [(0, .arr 25 1 true ((putR row t.rows).map eIntS))] <| .fin [(0, 3400)]))))) ?_
  refine Eq.mpr (by kernel_rfl : _ = ((t.rows.map eIntS).length ≤ 9223372036854775807 → (row.map intD).length ≤ 9223372036854775807 → Con Tryz.prog 121 [.agg [.str t.name, .int .i64 t.arity, .sl 25 1 (t.rows.map eIntS)]] (.agg [.p none (.str t.name), vI t.arity, .own 0]) [(0, .arr 25 1 true (t.rows.map eIntS))] ∧ (Con Tryz.prog 122 [.agg [.str t.name, .int .i64 t.arity, .sl 25 1 (t.rows.map eIntS)]] (vB (okTable t)) [] ∧ (((!(okTable t)) = true → t.name = (((insT t row).1).name) ∧ t.arity = (((insT t row).1).arity) ∧ (false) = ((insT t row).2) ∧ t.rows.map eIntS = (((insT t row).1).rows).map eIntS ∧ True) ∧ ((!(okTable t)) = false → Con Tryz.prog 123 [.one (.sl 3 1 (row.map intD)), .one (.int .i64 t.arity)] (vB (okRow t.arity row)) [] ∧ (((!(okRow t.arity row)) = true → t.name = (((insT t row).1).name) ∧ t.arity = (((insT t row).1).arity) ∧ (false) = ((insT t row).2) ∧ t.rows.map eIntS = (((insT t row).1).rows).map eIntS ∧ True) ∧ ((!(okRow t.arity row)) = false → Con Tryz.prog 124 [.agg [.str t.name, .int .i64 t.arity, .sl 25 1 (t.rows.map eIntS)], .one (.sl 3 1 (row.map intD))] (vB (hasR t row)) [] ∧ (((hasR t row) = true → t.name = (((insT t row).1).name) ∧ t.arity = (((insT t row).1).arity) ∧ (false) = ((insT t row).2) ∧ t.rows.map eIntS = (((insT t row).1).rows).map eIntS ∧ True) ∧ ((hasR t row) = false → (t.rows.map eIntS).length = t.rows.length ∧ (((decide (((t.rows.length : Nat) : Int) = (8 : Int))) = true → t.name = (((insT t row).1).name) ∧ t.arity = (((insT t row).1).arity) ∧ (false) = ((insT t row).2) ∧ t.rows.map eIntS = (((insT t row).1).rows).map eIntS ∧ True) ∧ ((decide (((t.rows.length : Nat) : Int) = (8 : Int))) = false → Con Tryz.prog 125 [.one (.sl 25 1 (t.rows.map eIntS)), .one (.sl 3 1 (row.map intD))] (.own 0) [(0, .arr 25 1 true ((putR row t.rows).map eIntS))] ∧ t.name = (((insT t row).1).name) ∧ t.arity = (((insT t row).1).arity) ∧ (true) = ((insT t row).2) ∧ (putR row t.rows).map eIntS = (((insT t row).1).rows).map eIntS ∧ True))))))))))) ?_
  intro n0 n1
  simp only [List.length_map] at n0 n1
  have q1 : cTable t = t.name.size + cIntSS t.rows := rfl
  have q2 := cIntSS_len t.rows
  refine ⟨cpT_spec _ (by omega), ?_⟩
  refine ⟨tab_spec t, ?_⟩
  refine ⟨fun g12 => ?_, fun g12 => ?_⟩
  · replace g12 := nt g12
    have hbad : insOk t row = false := by first | (simp [insOk, hasR, *]; done) | (simp [insOk, hasR, *] at *; omega)
    refine ⟨?_, ?_, ?_, ?_, trivial⟩
    · first | (rw [insT_no hbad] <;> rfl) | (rw [insT_yes hok] <;> rfl)
    · first | (rw [insT_no hbad] <;> rfl) | (rw [insT_yes hok] <;> rfl)
    · first | (rw [insT_no hbad] <;> rfl) | (rw [insT_yes hok] <;> rfl)
    · first | (rw [insT_no hbad] <;> rfl) | (rw [insT_yes hok] <;> rfl)
  · replace g12 := nf g12
    refine ⟨row_spec _ _, ?_⟩
    refine ⟨fun g19 => ?_, fun g19 => ?_⟩
    · replace g19 := nt g19
      have hbad : insOk t row = false := by first | (simp [insOk, hasR, *]; done) | (simp [insOk, hasR, *] at *; omega)
      refine ⟨?_, ?_, ?_, ?_, trivial⟩
      · first | (rw [insT_no hbad] <;> rfl) | (rw [insT_yes hok] <;> rfl)
      · first | (rw [insT_no hbad] <;> rfl) | (rw [insT_yes hok] <;> rfl)
      · first | (rw [insT_no hbad] <;> rfl) | (rw [insT_yes hok] <;> rfl)
      · first | (rw [insT_no hbad] <;> rfl) | (rw [insT_yes hok] <;> rfl)
    · replace g19 := nf g19
      refine ⟨has_spec _ _, ?_⟩
      refine ⟨fun g24 => ?_, fun g24 => ?_⟩
      · have hbad : insOk t row = false := by first | (simp [insOk, hasR, *]; done) | (simp [insOk, hasR, *] at *; omega)
        refine ⟨?_, ?_, ?_, ?_, trivial⟩
        · first | (rw [insT_no hbad] <;> rfl) | (rw [insT_yes hok] <;> rfl)
        · first | (rw [insT_no hbad] <;> rfl) | (rw [insT_yes hok] <;> rfl)
        · first | (rw [insT_no hbad] <;> rfl) | (rw [insT_yes hok] <;> rfl)
        · first | (rw [insT_no hbad] <;> rfl) | (rw [insT_yes hok] <;> rfl)
      · refine ⟨List.length_map _, ?_⟩
        refine ⟨fun c0 => ?_, fun c0 => ?_⟩
        · replace c0 := of_decide_eq_true c0
          have hbad : insOk t row = false := by first | (simp [insOk, hasR, *]; done) | (simp [insOk, hasR, *] at *; omega)
          refine ⟨?_, ?_, ?_, ?_, trivial⟩
          · first | (rw [insT_no hbad] <;> rfl) | (rw [insT_yes hok] <;> rfl)
          · first | (rw [insT_no hbad] <;> rfl) | (rw [insT_yes hok] <;> rfl)
          · first | (rw [insT_no hbad] <;> rfl) | (rw [insT_yes hok] <;> rfl)
          · first | (rw [insT_no hbad] <;> rfl) | (rw [insT_yes hok] <;> rfl)
        · replace c0 := of_decide_eq_false c0
          have hT : okTable t = true := by simpa using g12
          have hT8 := okTable_arity hT
          have hok : insOk t row = true := by first | (simp [insOk, hasR, *] at *; done) | (simp [insOk, hasR, *] at *; omega)
          refine ⟨put_spec t.rows row (by omega) (by omega) (by omega), ?_⟩
          refine ⟨?_, ?_, ?_, ?_, trivial⟩
          · first | (rw [insT_no hbad] <;> rfl) | (rw [insT_yes hok] <;> rfl)
          · first | (rw [insT_no hbad] <;> rfl) | (rw [insT_yes hok] <;> rfl)
          · first | (rw [insT_no hbad] <;> rfl) | (rw [insT_yes hok] <;> rfl)
          · first | (rw [insT_no hbad] <;> rfl) | (rw [insT_yes hok] <;> rfl)

set_option maxRecDepth 100000 in
set_option maxHeartbeats 4000000 in
theorem del_impl (t : TableD) (row : List Int) (hc : cTable t ≤ 1048576) (hr : row.length ≤ 1048576) : Con Tryz.prog 73 [.agg [.str t.name, .int .i64 t.arity, .sl 25 1 (t.rows.map eIntS)], .one (.sl 3 1 (row.map intD))] (.tup [.agg [.p none (.str (((delT t row).1).name)), vI (((delT t row).1).arity), .own 0], vB ((delT t row).2)]) [(0, .arr 25 1 true ((((delT t row).1).rows).map eIntS))] := by
  refine con_x tbOk mixedW Tryz.func73 (by kernel_rfl) (.call (.agg [.p none (.str t.name), vI t.arity, .own 0]) [(0, .arr 25 1 true (t.rows.map eIntS))] <| .call (vB (hasR t row)) [] <| .br (.fin [(0, 900)]) (.call (vI (idxF (isR row) t.rows)) [] <| .callx [.own 0, vI (idxF (isR row) t.rows), vI ((idxF (isR row) t.rows) + (1 : Int))] [(0, .arr 25 1 true (t.rows.map eIntS))] [(0, 900)] (.own 1) [(1, .arr 25 1 true ((t.rows.eraseIdx (idxF (isR row) t.rows).toNat).map eIntS))] <| .fin [(0, 2301)])) ?_
  refine Eq.mpr (by kernel_rfl : _ = ((t.rows.map eIntS).length ≤ 9223372036854775807 → (row.map intD).length ≤ 9223372036854775807 → Con Tryz.prog 134 [.agg [.str t.name, .int .i64 t.arity, .sl 25 1 (t.rows.map eIntS)]] (.agg [.p none (.str t.name), vI t.arity, .own 0]) [(0, .arr 25 1 true (t.rows.map eIntS))] ∧ (Con Tryz.prog 138 [.agg [.str t.name, .int .i64 t.arity, .sl 25 1 (t.rows.map eIntS)], .one (.sl 3 1 (row.map intD))] (vB (hasR t row)) [] ∧ (((!(hasR t row)) = true → t.name = (((delT t row).1).name) ∧ t.arity = (((delT t row).1).arity) ∧ (false) = ((delT t row).2) ∧ t.rows.map eIntS = (((delT t row).1).rows).map eIntS ∧ True) ∧ ((!(hasR t row)) = false → Con Tryz.prog 136 [.agg [.str t.name, .int .i64 t.arity, .sl 25 1 (t.rows.map eIntS)], .one (.sl 3 1 (row.map intD))] (vI (idxF (isR row) t.rows)) [] ∧ inR ((idxF (isR row) t.rows) + (1 : Int)) ∧ Con2 Tryz.prog 139 [.own 0, vI (idxF (isR row) t.rows), vI ((idxF (isR row) t.rows) + (1 : Int))] [(0, .arr 25 1 true (t.rows.map eIntS))] (.own 1) [(1, .arr 25 1 true ((t.rows.eraseIdx (idxF (isR row) t.rows).toNat).map eIntS))] ∧ (idxF (isR row) t.rows) = (idxF (isR row) t.rows) ∧ ((idxF (isR row) t.rows) + (1 : Int)) = ((idxF (isR row) t.rows) + (1 : Int)) ∧ t.rows.map eIntS = t.rows.map eIntS ∧ t.name = (((delT t row).1).name) ∧ t.arity = (((delT t row).1).arity) ∧ (true) = ((delT t row).2) ∧ (t.rows.eraseIdx (idxF (isR row) t.rows).toNat).map eIntS = (((delT t row).1).rows).map eIntS ∧ True))))) ?_
  intro n0 n1
  simp only [List.length_map] at n0 n1
  have q1 : cTable t = t.name.size + cIntSS t.rows := rfl
  have q2 := cIntSS_len t.rows
  refine ⟨cpT_impl _ (by omega), ?_⟩
  refine ⟨has_impl _ _, ?_⟩
  refine ⟨fun c0 => ?_, fun c0 => ?_⟩
  · replace c0 := nt c0
    have hbad : hasR t row = false := by simpa using c0
    refine ⟨?_, ?_, ?_, ?_, trivial⟩
    · first | (rw [delT_no hbad] <;> rfl) | (rw [delT_yes hok] <;> rfl)
    · first | (rw [delT_no hbad] <;> rfl) | (rw [delT_yes hok] <;> rfl)
    · first | (rw [delT_no hbad] <;> rfl) | (rw [delT_yes hok] <;> rfl)
    · first | (rw [delT_no hbad] <;> rfl) | (rw [delT_yes hok] <;> rfl)
  · replace c0 := nf c0
    have hok : hasR t row = true := by simpa using c0
    have hi0 := (hasR_parts hok).2
    have hi1 := idxF_ge (isR row) t.rows
    have hT8 := okTable_arity (hasR_parts hok).1
    refine ⟨rowIdx _ _, ?_⟩
    refine ⟨⟨by omega, by omega⟩, ?_⟩
    refine ⟨con_delete t.rows _ _ (idxF (isR row) t.rows).toNat (by omega) (by omega) (by omega) (by omega), rfl, rfl, rfl, ?_⟩
    refine ⟨?_, ?_, ?_, ?_, trivial⟩
    · first | (rw [delT_no hbad] <;> rfl) | (rw [delT_yes hok] <;> rfl)
    · first | (rw [delT_no hbad] <;> rfl) | (rw [delT_yes hok] <;> rfl)
    · first | (rw [delT_no hbad] <;> rfl) | (rw [delT_yes hok] <;> rfl)
    · first | (rw [delT_no hbad] <;> rfl) | (rw [delT_yes hok] <;> rfl)

set_option maxRecDepth 100000 in
set_option maxHeartbeats 4000000 in
theorem del_spec (t : TableD) (row : List Int) (hc : cTable t ≤ 1048576) (hr : row.length ≤ 1048576) : Con Tryz.prog 67 [.agg [.str t.name, .int .i64 t.arity, .sl 25 1 (t.rows.map eIntS)], .one (.sl 3 1 (row.map intD))] (.tup [.agg [.p none (.str (((delT t row).1).name)), vI (((delT t row).1).arity), .own 0], vB ((delT t row).2)]) [(0, .arr 25 1 true ((((delT t row).1).rows).map eIntS))] := by
  refine con_x tbOk mixedW Tryz.func67 (by kernel_rfl) (.call (.agg [.p none (.str t.name), vI t.arity, .own 0]) [(0, .arr 25 1 true (t.rows.map eIntS))] <| .call (vB (hasR t row)) [] <| .br (.fin [(0, 900)]) (.loop (Nat × (List (List Int))) (Q2 Nat (List (List Int))) [7, 15, 17, 18, 19, 20, 21, 22, 23, 24, 25, 26, 27, 28, 29, 30, 31, 32, 33, 34, 35, 36, 37, 38, 39, 40, 41, 42, 43] [600, 1500, 3400, 4000, 4100, 4200] (fun yy0 => [(7, vI (yy0.1 : Int))]) (fun yy0 => [(600, some (.box 107 [.p none (.str t.name), vI t.arity, .own 1500])), (1500, some (.arr 25 1 true (yy0.2.map eIntS)))]) (fun yy0 => yy0.1 ≤ t.rows.length ∧ yy0.2 = (t.rows.take yy0.1).filter (fun x => !isR row x)) (fun yy0 => t.rows.length - yy0.1) (fun yy0 => .len t.rows.length <| .br (.elem (List Int) eIntS t.rows (fun e27 => .call (vI (cmpR e27 row)) [] <| .br (.elem (List Int) eIntS t.rows (fun e38 => .app Int intD ([] : List Int) e38 <| .appx (List Int) eIntS yy0.2 (([] : List Int) ++ e38) <| .back [(600, 600), (1500, 4200)])) (.back [(600, 600), (1500, 1500)]))) (.fin [(0, 1500)])))) ?_
  refine Eq.mpr (by kernel_rfl : _ = ((t.rows.map eIntS).length ≤ 9223372036854775807 → (row.map intD).length ≤ 9223372036854775807 → Con Tryz.prog 121 [.agg [.str t.name, .int .i64 t.arity, .sl 25 1 (t.rows.map eIntS)]] (.agg [.p none (.str t.name), vI t.arity, .own 0]) [(0, .arr 25 1 true (t.rows.map eIntS))] ∧ (Con Tryz.prog 124 [.agg [.str t.name, .int .i64 t.arity, .sl 25 1 (t.rows.map eIntS)], .one (.sl 3 1 (row.map intD))] (vB (hasR t row)) [] ∧ (((!(hasR t row)) = true → t.name = (((delT t row).1).name) ∧ t.arity = (((delT t row).1).arity) ∧ (false) = ((delT t row).2) ∧ t.rows.map eIntS = (((delT t row).1).rows).map eIntS ∧ True) ∧ ((!(hasR t row)) = false → (∃ (k : Nat) (out : List (List Int)), (0 : Int) = (k : Int) ∧ t.name = t.name ∧ t.arity = t.arity ∧ [] = out.map eIntS ∧ k ≤ t.rows.length ∧ out = (t.rows.take k).filter (fun x => !isR row x)) ∧ ∀ (k : Nat) (out : List (List Int)), (k ≤ t.rows.length ∧ out = (t.rows.take k).filter (fun x => !isR row x)) → (t.rows.map eIntS).length = t.rows.length ∧ (((decide ((k : Int) < ((t.rows.length : Nat) : Int))) = true → 0 ≤ (k : Int) ∧ (t.rows.map eIntS = t.rows.map eIntS ∧ k < t.rows.length ∧ ∀ e27, t.rows[k]? = some e27 → Con Tryz.prog 126 [.one (.sl 3 1 (e27.map intD)), .one (.sl 3 1 (row.map intD))] (vI (cmpR e27 row)) [] ∧ (((!(decide ((cmpR e27 row) = (0 : Int)))) = true → 0 ≤ (k : Int) ∧ (t.rows.map eIntS = t.rows.map eIntS ∧ k < t.rows.length ∧ ∀ e38, t.rows[k]? = some e38 → [] = ([] : List Int).map intD ∧ e38.map intD = e38.map intD ∧ (∀ x, flatB (intD x) = true) ∧ (([] : List Int).length + e38.length) * 8 ≤ 140737488355328 ∧ out.map eIntS = out.map eIntS ∧ (([] : List Int) ++ e38).map intD = (([] : List Int) ++ e38).map intD ∧ (out.length + 1) * 24 ≤ 140737488355328 ∧ inR ((k : Int) + (1 : Int)) ∧ ∃ (k' : Nat) (out' : List (List Int)), ((k : Int) + (1 : Int)) = (k' : Int) ∧ t.name = t.name ∧ t.arity = t.arity ∧ (out ++ [([] : List Int) ++ e38]).map eIntS = out'.map eIntS ∧ (k' ≤ t.rows.length ∧ out' = (t.rows.take k').filter (fun x => !isR row x)) ∧ t.rows.length - k' < t.rows.length - k)) ∧ ((!(decide ((cmpR e27 row) = (0 : Int)))) = false → inR ((k : Int) + (1 : Int)) ∧ ∃ (k' : Nat) (out' : List (List Int)), ((k : Int) + (1 : Int)) = (k' : Int) ∧ t.name = t.name ∧ t.arity = t.arity ∧ out.map eIntS = out'.map eIntS ∧ (k' ≤ t.rows.length ∧ out' = (t.rows.take k').filter (fun x => !isR row x)) ∧ t.rows.length - k' < t.rows.length - k)))) ∧ ((decide ((k : Int) < ((t.rows.length : Nat) : Int))) = false → t.name = (((delT t row).1).name) ∧ t.arity = (((delT t row).1).arity) ∧ (true) = ((delT t row).2) ∧ out.map eIntS = (((delT t row).1).rows).map eIntS ∧ True))))))) ?_
  intro n0 n1
  simp only [List.length_map] at n0 n1
  have q1 : cTable t = t.name.size + cIntSS t.rows := rfl
  have q2 := cIntSS_len t.rows
  refine ⟨cpT_spec _ (by omega), ?_⟩
  refine ⟨has_spec _ _, ?_⟩
  refine ⟨fun c0 => ?_, fun c0 => ?_⟩
  · replace c0 := nt c0
    have hbad : hasR t row = false := by simpa using c0
    refine ⟨?_, ?_, ?_, ?_, trivial⟩
    · first | (rw [delT_no hbad] <;> rfl) | (rw [delT_yes hok] <;> rfl) | (rw [delT_yes hok, ho, List.take_of_length_le (by omega), hE])
    · first | (rw [delT_no hbad] <;> rfl) | (rw [delT_yes hok] <;> rfl) | (rw [delT_yes hok, ho, List.take_of_length_le (by omega), hE])
    · first | (rw [delT_no hbad] <;> rfl) | (rw [delT_yes hok] <;> rfl) | (rw [delT_yes hok, ho, List.take_of_length_le (by omega), hE])
    · first | (rw [delT_no hbad] <;> rfl) | (rw [delT_yes hok] <;> rfl) | (rw [delT_yes hok, ho, List.take_of_length_le (by omega), hE])
  · replace c0 := nf c0
    have hok : hasR t row = true := by simpa using c0
    have hE := del_same hok
    refine ⟨⟨0, ([] : List (List Int)), rfl, rfl, rfl, rfl, Nat.zero_le _, rfl⟩, fun k out ⟨hk, ho⟩ => ?_⟩
    have hol : out.length ≤ k := by rw [ho]; exact Nat.le_trans (List.length_filter_le _ _) (by simp; omega)
    refine ⟨List.length_map _, ?_⟩
    refine ⟨fun c1 => ?_, fun c1 => ?_⟩
    · replace c1 := of_decide_eq_true c1
      refine ⟨by omega, ?_⟩
      refine ⟨rfl, by omega, fun e27 h27 => ?_⟩
      try (obtain rfl := (same_at h27 h27).symm)
      have hp3 := cIntSS_at h27
      refine ⟨cmpRows_spec _ _, ?_⟩
      refine ⟨fun c2 => ?_, fun c2 => ?_⟩
      · replace c2 := of_decide_eq_false (nt c2)
        refine ⟨by omega, ?_⟩
        refine ⟨rfl, by omega, fun e38 h38 => ?_⟩
        try (obtain rfl := (same_at h27 h38).symm)
        refine ⟨rfl, rfl, fun _ => rfl, by first | omega | (simp; omega) | (simp [ho]; have := List.length_filter_le (fun x => !isR row x) (t.rows.take k); simp at this; omega), ?_⟩
        refine ⟨rfl, rfl, by first | omega | (simp; omega) | (simp [ho]; have := List.length_filter_le (fun x => !isR row x) (t.rows.take k); simp at this; omega), ?_⟩
        refine ⟨⟨by omega, by omega⟩, ?_⟩
        exact ⟨k + 1, _, rfl, rfl, rfl, rfl, ⟨by omega, by rw [ho, take_snoc h27, List.filter_append, List.filter_cons_of_pos (by simpa [isR] using fun q => c2 (cmpR_zero.2 q))]; rfl⟩, by omega⟩
      · replace c2 := of_decide_eq_true (nf c2)
        refine ⟨⟨by omega, by omega⟩, ?_⟩
        exact ⟨k + 1, _, rfl, rfl, rfl, rfl, ⟨by omega, by rw [ho, take_snoc h27, List.filter_append, List.filter_cons_of_neg (by simpa [isR] using cmpR_zero.1 c2)]; simp⟩, by omega⟩
    · replace c1 := of_decide_eq_false c1
      refine ⟨?_, ?_, ?_, ?_, trivial⟩
      · first | (rw [delT_no hbad] <;> rfl) | (rw [delT_yes hok] <;> rfl) | (rw [delT_yes hok, ho, List.take_of_length_le (by omega), hE])
      · first | (rw [delT_no hbad] <;> rfl) | (rw [delT_yes hok] <;> rfl) | (rw [delT_yes hok, ho, List.take_of_length_le (by omega), hE])
      · first | (rw [delT_no hbad] <;> rfl) | (rw [delT_yes hok] <;> rfl) | (rw [delT_yes hok, ho, List.take_of_length_le (by omega), hE])
      · first | (rw [delT_no hbad] <;> rfl) | (rw [delT_yes hok] <;> rfl) | (rw [delT_yes hok, ho, List.take_of_length_le (by omega), hE])
end Go.Proofs.YtjlagjhmlmfjeaaGreat
