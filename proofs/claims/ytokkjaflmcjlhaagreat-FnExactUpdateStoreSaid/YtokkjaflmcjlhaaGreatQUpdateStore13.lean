/-
  Contracts and plain laws, joined: part 14.
-/
import Derived.Test.YtokkjaflmcjlhaaGreatQUpdateStore9
import Derived.Test.YtokkjaflmcjlhaaGreatQUpdateStore7
import Derived.Test.YtokkjaflmcjlhaaGreatQUpdateStore12
import Derived.Test.YtokkjaflmcjlhaaGreatQUpdateStore11
namespace Go.Proofs.YtokkjaflmcjlhaaGreat
open Go.ChangeShapes Go.WideShapes Go.ChangeAt Go.RowKit
set_option linter.unusedVariables false
set_option linter.unusedSimpArgs false
set_option maxRecDepth 100000
set_option maxHeartbeats 4000000
abbrev k_ins_impl (t : TableD) (row : List Int) : AV × List (Nat × Rs) := (.tup [.agg [.p none (.str (((insT t row).1).name)), vI (((insT t row).1).arity), .own 0], vB ((insT t row).2)], [(0, .arr 32 1 true ((((insT t row).1).rows).map eIntS))])
abbrev K_ins_impl (t : TableD) (row : List Int) : Prop := Con Tryz.prog 149 [.agg [.str t.name, .int .i64 t.arity, .sl 32 1 (t.rows.map eIntS)], .one (.sl 3 1 (row.map intD))] (k_ins_impl t row).1 (k_ins_impl t row).2
theorem ins_impl (t : TableD) (row : List Int) (hc : cTable t ≤ 1048576) (hr : row.length ≤ 1048576) : K_ins_impl t row := by
 refine con_x tbOk mixedW Tryz.func149 (by kernel_rfl) (callP (k_cpT_impl t) <| .call (vB (okTable t)) [] <| .br (.fin [(0, 800)]) (.call (vB (okRow t.arity row)) [] <| .lit <| .lit <| .br (.fin [(0, 800)]) (.call (vI (idxF (isR row) t.rows)) [] <| .lit <| .lit <| .br (.fin [(0, 800)]) (.len t.rows.length <| .lit <| .lit <| .br (.fin [(0, 800)]) (.shal 4 800 <| .appr (List Int) eIntS t.rows ([row] : List (List Int)) <| callP (k_sorted_impl (t.rows ++ [row])) <| .fin [(0, 3700)]))))) ?_
 refine Eq.mpr (by kernel_rfl : _ = ((t.rows.map eIntS).length ≤ 9223372036854775807 → (row.map intD).length ≤ 9223372036854775807 → K_cpT_impl t ∧ (K_tab_impl t ∧ (((!(okTable t)) = true → t.name = (((insT t row).1).name) ∧ t.arity = (((insT t row).1).arity) ∧ (false) = ((insT t row).2) ∧ t.rows.map eIntS = (((insT t row).1).rows).map eIntS ∧ True) ∧ ((!(okTable t)) = false → K_row_impl row t.arity ∧ (((!(okRow t.arity row)) = true → t.name = (((insT t row).1).name) ∧ t.arity = (((insT t row).1).arity) ∧ (false) = ((insT t row).2) ∧ t.rows.map eIntS = (((insT t row).1).rows).map eIntS ∧ True) ∧ ((!(okRow t.arity row)) = false → K_rowIdx t row ∧ (((decide ((0 : Int) ≤ (idxF (isR row) t.rows))) = true → t.name = (((insT t row).1).name) ∧ t.arity = (((insT t row).1).arity) ∧ (false) = ((insT t row).2) ∧ t.rows.map eIntS = (((insT t row).1).rows).map eIntS ∧ True) ∧ ((decide ((0 : Int) ≤ (idxF (isR row) t.rows))) = false → Lm eIntS t.rows ∧ (((decide ((8 : Int) ≤ ((t.rows.length : Nat) : Int))) = true → t.name = (((insT t row).1).name) ∧ t.arity = (((insT t row).1).arity) ∧ (false) = ((insT t row).2) ∧ t.rows.map eIntS = (((insT t row).1).rows).map eIntS ∧ True) ∧ ((decide ((8 : Int) ≤ ((t.rows.length : Nat) : Int))) = false → t.rows.map eIntS = t.rows.map eIntS ∧ [[.sl 3 1 (row.map intD)]] = ([row] : List (List Int)).map eIntS ∧ (t.rows.length + ([row] : List (List Int)).length) * 24 ≤ 140737488355328 ∧ K_sorted_impl (t.rows ++ [row]) ∧ t.name = (((insT t row).1).name) ∧ t.arity = (((insT t row).1).arity) ∧ (true) = ((insT t row).2) ∧ (dedR (sortR (t.rows ++ [row]))).map eIntS = (((insT t row).1).rows).map eIntS ∧ True))))))))))) ?_
 intro n0 n1
 simp only [List.length_map] at n0 n1
 have q1 : cTable t = t.name.size + cIntSS t.rows := rfl
 have q2 := cIntSS_len t.rows
 refine ⟨cpT_impl _ (by omega), tab_impl t, fun g12 => ?_, fun g12 => ?_⟩
 ·replace g12 := nt g12
  have hbad : insOk t row = false := by first | (simp [insOk, *]; done) | (simp [insOk, *]; omega)
  refine ⟨?_, ?_, ?_, ?_, trivial⟩
  ·first | (rw [insT_no hbad] <;> rfl) | (rw [insT_yes hok] <;> rfl) | (rw [insT_yes hok, hE])
  ·first | (rw [insT_no hbad] <;> rfl) | (rw [insT_yes hok] <;> rfl) | (rw [insT_yes hok, hE])
  ·first | (rw [insT_no hbad] <;> rfl) | (rw [insT_yes hok] <;> rfl) | (rw [insT_yes hok, hE])
  ·first | (rw [insT_no hbad] <;> rfl) | (rw [insT_yes hok] <;> rfl) | (rw [insT_yes hok, hE])
 ·replace g12 := nf g12
  refine ⟨row_impl _ _, fun g19 => ?_, fun g19 => ?_⟩
  ·replace g19 := nt g19
   have hbad : insOk t row = false := by first | (simp [insOk, *]; done) | (simp [insOk, *]; omega)
   refine ⟨?_, ?_, ?_, ?_, trivial⟩
   ·first | (rw [insT_no hbad] <;> rfl) | (rw [insT_yes hok] <;> rfl) | (rw [insT_yes hok, hE])
   ·first | (rw [insT_no hbad] <;> rfl) | (rw [insT_yes hok] <;> rfl) | (rw [insT_yes hok, hE])
   ·first | (rw [insT_no hbad] <;> rfl) | (rw [insT_yes hok] <;> rfl) | (rw [insT_yes hok, hE])
   ·first | (rw [insT_no hbad] <;> rfl) | (rw [insT_yes hok] <;> rfl) | (rw [insT_yes hok, hE])
  ·replace g19 := nf g19
   refine ⟨rowIdx _ _, fun g25 => ?_, fun g25 => ?_⟩
   ·replace g25 := yq g25
    have hbad : insOk t row = false := by first | (simp [insOk, *]; done) | (simp [insOk, *]; omega)
    refine ⟨?_, ?_, ?_, ?_, trivial⟩
    ·first | (rw [insT_no hbad] <;> rfl) | (rw [insT_yes hok] <;> rfl) | (rw [insT_yes hok, hE])
    ·first | (rw [insT_no hbad] <;> rfl) | (rw [insT_yes hok] <;> rfl) | (rw [insT_yes hok, hE])
    ·first | (rw [insT_no hbad] <;> rfl) | (rw [insT_yes hok] <;> rfl) | (rw [insT_yes hok, hE])
    ·first | (rw [insT_no hbad] <;> rfl) | (rw [insT_yes hok] <;> rfl) | (rw [insT_yes hok, hE])
   ·replace g25 := nq g25
    refine ⟨List.length_map _, fun c0 => ?_, fun c0 => ?_⟩
    ·replace c0 := yq c0
     have hbad : insOk t row = false := by first | (simp [insOk, *]; done) | (simp [insOk, *]; omega)
     refine ⟨?_, ?_, ?_, ?_, trivial⟩
     ·first | (rw [insT_no hbad] <;> rfl) | (rw [insT_yes hok] <;> rfl) | (rw [insT_yes hok, hE])
     ·first | (rw [insT_no hbad] <;> rfl) | (rw [insT_yes hok] <;> rfl) | (rw [insT_yes hok, hE])
     ·first | (rw [insT_no hbad] <;> rfl) | (rw [insT_yes hok] <;> rfl) | (rw [insT_yes hok, hE])
     ·first | (rw [insT_no hbad] <;> rfl) | (rw [insT_yes hok] <;> rfl) | (rw [insT_yes hok, hE])
    ·replace c0 := nq c0
     have hok : insOk t row = true := by first | (simp [insOk, *]; done) | (simp [insOk, *]; omega)
     have hsm := ins_small hok
     have hE := ins_rows (row := row) (insOk_parts hok).1
     refine ⟨rfl, rfl, by first | omega | (simp; omega), sorted_impl (t.rows ++ [row]) (by omega), ?_, ?_, ?_, ?_, trivial⟩
     ·first | (rw [insT_no hbad] <;> rfl) | (rw [insT_yes hok] <;> rfl) | (rw [insT_yes hok, hE])
     ·first | (rw [insT_no hbad] <;> rfl) | (rw [insT_yes hok] <;> rfl) | (rw [insT_yes hok, hE])
     ·first | (rw [insT_no hbad] <;> rfl) | (rw [insT_yes hok] <;> rfl) | (rw [insT_yes hok, hE])
     ·first | (rw [insT_no hbad] <;> rfl) | (rw [insT_yes hok] <;> rfl) | (rw [insT_yes hok, hE])
abbrev k_ins_spec (t : TableD) (row : List Int) : AV × List (Nat × Rs) := (.tup [.agg [.p none (.str (((insT t row).1).name)), vI (((insT t row).1).arity), .own 0], vB ((insT t row).2)], [(0, .arr 32 1 true ((((insT t row).1).rows).map eIntS))])
abbrev K_ins_spec (t : TableD) (row : List Int) : Prop := Con Tryz.prog 133 [.agg [.str t.name, .int .i64 t.arity, .sl 32 1 (t.rows.map eIntS)], .one (.sl 3 1 (row.map intD))] (k_ins_spec t row).1 (k_ins_spec t row).2
theorem ins_spec (t : TableD) (row : List Int) (hc : cTable t ≤ 1048576) (hr : row.length ≤ 1048576) : K_ins_spec t row := by
 refine con_x tbOk mixedW Tryz.func133 (by kernel_rfl) (callP (k_cpT_spec t) <| .call (vB (okTable t)) [] <| .br (.fin [(0, 800)]) (.call (vB (okRow t.arity row)) [] <| .lit <| .lit <| .br (.fin [(0, 800)]) (.call (vB (hasR t row)) [] <| .lit <| .br (.fin [(0, 800)]) (.len t.rows.length <| .lit <| .lit <| .br (.fin [(0, 800)]) (callP (k_put_spec t.rows row) <| .fin [(0, 3400)]))))) ?_
 refine Eq.mpr (by kernel_rfl : _ = ((t.rows.map eIntS).length ≤ 9223372036854775807 → (row.map intD).length ≤ 9223372036854775807 → K_cpT_spec t ∧ (K_tab_spec t ∧ (((!(okTable t)) = true → t.name = (((insT t row).1).name) ∧ t.arity = (((insT t row).1).arity) ∧ (false) = ((insT t row).2) ∧ t.rows.map eIntS = (((insT t row).1).rows).map eIntS ∧ True) ∧ ((!(okTable t)) = false → K_row_spec row t.arity ∧ (((!(okRow t.arity row)) = true → t.name = (((insT t row).1).name) ∧ t.arity = (((insT t row).1).arity) ∧ (false) = ((insT t row).2) ∧ t.rows.map eIntS = (((insT t row).1).rows).map eIntS ∧ True) ∧ ((!(okRow t.arity row)) = false → K_has_spec t row ∧ (((hasR t row) = true → t.name = (((insT t row).1).name) ∧ t.arity = (((insT t row).1).arity) ∧ (false) = ((insT t row).2) ∧ t.rows.map eIntS = (((insT t row).1).rows).map eIntS ∧ True) ∧ ((hasR t row) = false → Lm eIntS t.rows ∧ (((decide (((t.rows.length : Nat) : Int) = (8 : Int))) = true → t.name = (((insT t row).1).name) ∧ t.arity = (((insT t row).1).arity) ∧ (false) = ((insT t row).2) ∧ t.rows.map eIntS = (((insT t row).1).rows).map eIntS ∧ True) ∧ ((decide (((t.rows.length : Nat) : Int) = (8 : Int))) = false → K_put_spec t.rows row ∧ t.name = (((insT t row).1).name) ∧ t.arity = (((insT t row).1).arity) ∧ (true) = ((insT t row).2) ∧ (putR row t.rows).map eIntS = (((insT t row).1).rows).map eIntS ∧ True))))))))))) ?_
 intro n0 n1
 simp only [List.length_map] at n0 n1
 have q1 : cTable t = t.name.size + cIntSS t.rows := rfl
 have q2 := cIntSS_len t.rows
 refine ⟨cpT_spec _ (by omega), tab_spec t, fun g12 => ?_, fun g12 => ?_⟩
 ·replace g12 := nt g12
  have hbad : insOk t row = false := by first | (simp [insOk, hasR, *]; done) | (simp [insOk, hasR, *] at *; omega)
  refine ⟨?_, ?_, ?_, ?_, trivial⟩
  ·first | (rw [insT_no hbad] <;> rfl) | (rw [insT_yes hok] <;> rfl)
  ·first | (rw [insT_no hbad] <;> rfl) | (rw [insT_yes hok] <;> rfl)
  ·first | (rw [insT_no hbad] <;> rfl) | (rw [insT_yes hok] <;> rfl)
  ·first | (rw [insT_no hbad] <;> rfl) | (rw [insT_yes hok] <;> rfl)
 ·replace g12 := nf g12
  refine ⟨row_spec _ _, fun g19 => ?_, fun g19 => ?_⟩
  ·replace g19 := nt g19
   have hbad : insOk t row = false := by first | (simp [insOk, hasR, *]; done) | (simp [insOk, hasR, *] at *; omega)
   refine ⟨?_, ?_, ?_, ?_, trivial⟩
   ·first | (rw [insT_no hbad] <;> rfl) | (rw [insT_yes hok] <;> rfl)
   ·first | (rw [insT_no hbad] <;> rfl) | (rw [insT_yes hok] <;> rfl)
   ·first | (rw [insT_no hbad] <;> rfl) | (rw [insT_yes hok] <;> rfl)
   ·first | (rw [insT_no hbad] <;> rfl) | (rw [insT_yes hok] <;> rfl)
  ·replace g19 := nf g19
   refine ⟨has_spec _ _, fun g24 => ?_, fun g24 => ?_⟩
   ·have hbad : insOk t row = false := by first | (simp [insOk, hasR, *]; done) | (simp [insOk, hasR, *] at *; omega)
    refine ⟨?_, ?_, ?_, ?_, trivial⟩
    ·first | (rw [insT_no hbad] <;> rfl) | (rw [insT_yes hok] <;> rfl)
    ·first | (rw [insT_no hbad] <;> rfl) | (rw [insT_yes hok] <;> rfl)
    ·first | (rw [insT_no hbad] <;> rfl) | (rw [insT_yes hok] <;> rfl)
    ·first | (rw [insT_no hbad] <;> rfl) | (rw [insT_yes hok] <;> rfl)
   ·refine ⟨List.length_map _, fun c0 => ?_, fun c0 => ?_⟩
    ·replace c0 := yq c0
     have hbad : insOk t row = false := by first | (simp [insOk, hasR, *]; done) | (simp [insOk, hasR, *] at *; omega)
     refine ⟨?_, ?_, ?_, ?_, trivial⟩
     ·first | (rw [insT_no hbad] <;> rfl) | (rw [insT_yes hok] <;> rfl)
     ·first | (rw [insT_no hbad] <;> rfl) | (rw [insT_yes hok] <;> rfl)
     ·first | (rw [insT_no hbad] <;> rfl) | (rw [insT_yes hok] <;> rfl)
     ·first | (rw [insT_no hbad] <;> rfl) | (rw [insT_yes hok] <;> rfl)
    ·replace c0 := nq c0
     have hT : okTable t = true := by simpa using g12
     have hT8 := okTable_arity hT
     have hok : insOk t row = true := by first | (simp [insOk, hasR, *] at *; done) | (simp [insOk, hasR, *] at *; omega)
     refine ⟨put_spec t.rows row (by omega) (by omega) (by omega), ?_, ?_, ?_, ?_, trivial⟩
     ·first | (rw [insT_no hbad] <;> rfl) | (rw [insT_yes hok] <;> rfl)
     ·first | (rw [insT_no hbad] <;> rfl) | (rw [insT_yes hok] <;> rfl)
     ·first | (rw [insT_no hbad] <;> rfl) | (rw [insT_yes hok] <;> rfl)
     ·first | (rw [insT_no hbad] <;> rfl) | (rw [insT_yes hok] <;> rfl)
abbrev k_del_impl (t : TableD) (row : List Int) : AV × List (Nat × Rs) := (.tup [.agg [.p none (.str (((delT t row).1).name)), vI (((delT t row).1).arity), .own 0], vB ((delT t row).2)], [(0, .arr 32 1 true ((((delT t row).1).rows).map eIntS))])
abbrev K_del_impl (t : TableD) (row : List Int) : Prop := Con Tryz.prog 150 [.agg [.str t.name, .int .i64 t.arity, .sl 32 1 (t.rows.map eIntS)], .one (.sl 3 1 (row.map intD))] (k_del_impl t row).1 (k_del_impl t row).2
theorem del_impl (t : TableD) (row : List Int) (hc : cTable t ≤ 1048576) (hr : row.length ≤ 1048576) : K_del_impl t row := by
 refine con_x tbOk mixedW Tryz.func150 (by kernel_rfl) (callP (k_cpT_impl t) <| .call (vB (hasR t row)) [] <| .br (.fin [(0, 900)]) (.call (vI (idxF (isR row) t.rows)) [] <| .callx [.own 0, vI (idxF (isR row) t.rows), vI ((idxF (isR row) t.rows) + (1 : Int))] [(0, .arr 32 1 true (t.rows.map eIntS))] [(0, 900)] (.own 1) [(1, .arr 32 1 true ((t.rows.eraseIdx (idxF (isR row) t.rows).toNat).map eIntS))] <| .fin [(0, 2301)])) ?_
 refine Eq.mpr (by kernel_rfl : _ = ((t.rows.map eIntS).length ≤ 9223372036854775807 → (row.map intD).length ≤ 9223372036854775807 → K_cpT_impl t ∧ (K_has_impl t row ∧ (((!(hasR t row)) = true → t.name = (((delT t row).1).name) ∧ t.arity = (((delT t row).1).arity) ∧ (false) = ((delT t row).2) ∧ t.rows.map eIntS = (((delT t row).1).rows).map eIntS ∧ True) ∧ ((!(hasR t row)) = false → K_rowIdx t row ∧ inR ((idxF (isR row) t.rows) + (1 : Int)) ∧ Con2 Tryz.prog 230 [.own 0, vI (idxF (isR row) t.rows), vI ((idxF (isR row) t.rows) + (1 : Int))] [(0, .arr 32 1 true (t.rows.map eIntS))] (.own 1) [(1, .arr 32 1 true ((t.rows.eraseIdx (idxF (isR row) t.rows).toNat).map eIntS))] ∧ (idxF (isR row) t.rows) = (idxF (isR row) t.rows) ∧ ((idxF (isR row) t.rows) + (1 : Int)) = ((idxF (isR row) t.rows) + (1 : Int)) ∧ t.rows.map eIntS = t.rows.map eIntS ∧ t.name = (((delT t row).1).name) ∧ t.arity = (((delT t row).1).arity) ∧ (true) = ((delT t row).2) ∧ (t.rows.eraseIdx (idxF (isR row) t.rows).toNat).map eIntS = (((delT t row).1).rows).map eIntS ∧ True))))) ?_
 intro n0 n1
 simp only [List.length_map] at n0 n1
 have q1 : cTable t = t.name.size + cIntSS t.rows := rfl
 have q2 := cIntSS_len t.rows
 refine ⟨cpT_impl _ (by omega), has_impl _ _, fun c0 => ?_, fun c0 => ?_⟩
 ·replace c0 := nt c0
  have hbad : hasR t row = false := by simpa using c0
  refine ⟨?_, ?_, ?_, ?_, trivial⟩
  ·first | (rw [delT_no hbad] <;> rfl) | (rw [delT_yes hok] <;> rfl)
  ·first | (rw [delT_no hbad] <;> rfl) | (rw [delT_yes hok] <;> rfl)
  ·first | (rw [delT_no hbad] <;> rfl) | (rw [delT_yes hok] <;> rfl)
  ·first | (rw [delT_no hbad] <;> rfl) | (rw [delT_yes hok] <;> rfl)
 ·replace c0 := nf c0
  have hok : hasR t row = true := by simpa using c0
  have hi0 := (hasR_parts hok).2
  have hi1 := idxF_ge (isR row) t.rows
  have hT8 := okTable_arity (hasR_parts hok).1
  refine ⟨rowIdx _ _, ⟨by omega, by omega⟩, con_delete t.rows _ _ (idxF (isR row) t.rows).toNat (by omega) (by omega) (by omega) (by omega), rfl, rfl, rfl, ?_, ?_, ?_, ?_, trivial⟩
  ·first | (rw [delT_no hbad] <;> rfl) | (rw [delT_yes hok] <;> rfl)
  ·first | (rw [delT_no hbad] <;> rfl) | (rw [delT_yes hok] <;> rfl)
  ·first | (rw [delT_no hbad] <;> rfl) | (rw [delT_yes hok] <;> rfl)
  ·first | (rw [delT_no hbad] <;> rfl) | (rw [delT_yes hok] <;> rfl)
abbrev k_del_spec (t : TableD) (row : List Int) : AV × List (Nat × Rs) := (.tup [.agg [.p none (.str (((delT t row).1).name)), vI (((delT t row).1).arity), .own 0], vB ((delT t row).2)], [(0, .arr 32 1 true ((((delT t row).1).rows).map eIntS))])
abbrev K_del_spec (t : TableD) (row : List Int) : Prop := Con Tryz.prog 134 [.agg [.str t.name, .int .i64 t.arity, .sl 32 1 (t.rows.map eIntS)], .one (.sl 3 1 (row.map intD))] (k_del_spec t row).1 (k_del_spec t row).2
theorem del_spec (t : TableD) (row : List Int) (hc : cTable t ≤ 1048576) (hr : row.length ≤ 1048576) : K_del_spec t row := by
 refine con_x tbOk mixedW Tryz.func134 (by kernel_rfl) (callP (k_cpT_spec t) <| .call (vB (hasR t row)) [] <| .br (.fin [(0, 900)]) (.loop (Nat × (List (List Int))) (Q2 Nat (List (List Int))) [7, 15, 17, 18, 19, 20, 21, 22, 23, 24, 25, 26, 27, 28, 29, 30, 31, 32, 33, 34, 35, 36, 37, 38, 39, 40, 41, 42, 43] [600, 1500, 3400, 4000, 4100, 4200] (fun yy0 => [(7, vI (yy0.1 : Int))]) (fun yy0 => [(600, some (.box 162 [.p none (.str t.name), vI t.arity, .own 1500])), (1500, some (.arr 32 1 true (yy0.2.map eIntS)))]) (fun yy0 => yy0.1 ≤ t.rows.length ∧ yy0.2 = (t.rows.take yy0.1).filter (fun x => !isR row x)) (fun yy0 => t.rows.length - yy0.1) (fun yy0 => .len t.rows.length <| .br (.elem _ eIntS t.rows (fun e27 => .call (vI (cmpR e27 row)) [] <| .br (.elem _ eIntS t.rows (fun e38 => .app Int intD ([] : List Int) e38 <| .appx (List Int) eIntS yy0.2 (([] : List Int) ++ e38) <| .back [(600, 600), (1500, 4200)])) (.back [(600, 600), (1500, 1500)]))) (.fin [(0, 1500)])))) ?_
 refine Eq.mpr (by kernel_rfl : _ = ((t.rows.map eIntS).length ≤ 9223372036854775807 → (row.map intD).length ≤ 9223372036854775807 → K_cpT_spec t ∧ (K_has_spec t row ∧ (((!(hasR t row)) = true → t.name = (((delT t row).1).name) ∧ t.arity = (((delT t row).1).arity) ∧ (false) = ((delT t row).2) ∧ t.rows.map eIntS = (((delT t row).1).rows).map eIntS ∧ True) ∧ ((!(hasR t row)) = false → (∃ (k : Nat) (out : List (List Int)), (0 : Int) = (k : Int) ∧ t.name = t.name ∧ t.arity = t.arity ∧ [] = out.map eIntS ∧ k ≤ t.rows.length ∧ out = (t.rows.take k).filter (fun x => !isR row x)) ∧ ∀ (k : Nat) (out : List (List Int)), (k ≤ t.rows.length ∧ out = (t.rows.take k).filter (fun x => !isR row x)) → Lm eIntS t.rows ∧ (((decide ((k : Int) < ((t.rows.length : Nat) : Int))) = true → 0 ≤ (k : Int) ∧ Em eIntS t.rows k fun e27 => K_cmpRows_spec e27 row ∧ (((!(decide ((cmpR e27 row) = (0 : Int)))) = true → 0 ≤ (k : Int) ∧ Em eIntS t.rows k fun e38 => [] = ([] : List Int).map intD ∧ e38.map intD = e38.map intD ∧ (∀ x, flatB (intD x) = true) ∧ (([] : List Int).length + e38.length) * 8 ≤ 140737488355328 ∧ out.map eIntS = out.map eIntS ∧ (([] : List Int) ++ e38).map intD = (([] : List Int) ++ e38).map intD ∧ (out.length + 1) * 24 ≤ 140737488355328 ∧ inR ((k : Int) + (1 : Int)) ∧ ∃ (k' : Nat) (out' : List (List Int)), ((k : Int) + (1 : Int)) = (k' : Int) ∧ t.name = t.name ∧ t.arity = t.arity ∧ (out ++ [([] : List Int) ++ e38]).map eIntS = out'.map eIntS ∧ (k' ≤ t.rows.length ∧ out' = (t.rows.take k').filter (fun x => !isR row x)) ∧ t.rows.length - k' < t.rows.length - k) ∧ ((!(decide ((cmpR e27 row) = (0 : Int)))) = false → inR ((k : Int) + (1 : Int)) ∧ ∃ (k' : Nat) (out' : List (List Int)), ((k : Int) + (1 : Int)) = (k' : Int) ∧ t.name = t.name ∧ t.arity = t.arity ∧ out.map eIntS = out'.map eIntS ∧ (k' ≤ t.rows.length ∧ out' = (t.rows.take k').filter (fun x => !isR row x)) ∧ t.rows.length - k' < t.rows.length - k))) ∧ ((decide ((k : Int) < ((t.rows.length : Nat) : Int))) = false → t.name = (((delT t row).1).name) ∧ t.arity = (((delT t row).1).arity) ∧ (true) = ((delT t row).2) ∧ out.map eIntS = (((delT t row).1).rows).map eIntS ∧ True))))))) ?_
 intro n0 n1
 simp only [List.length_map] at n0 n1
 have q1 : cTable t = t.name.size + cIntSS t.rows := rfl
 have q2 := cIntSS_len t.rows
 refine ⟨cpT_spec _ (by omega), has_spec _ _, fun c0 => ?_, fun c0 => ?_⟩
 ·replace c0 := nt c0
  have hbad : hasR t row = false := by simpa using c0
  refine ⟨?_, ?_, ?_, ?_, trivial⟩
  ·first | (rw [delT_no hbad] <;> rfl) | (rw [delT_yes hok] <;> rfl) | (rw [delT_yes hok, ho, List.take_of_length_le (by omega), hE])
  ·first | (rw [delT_no hbad] <;> rfl) | (rw [delT_yes hok] <;> rfl) | (rw [delT_yes hok, ho, List.take_of_length_le (by omega), hE])
  ·first | (rw [delT_no hbad] <;> rfl) | (rw [delT_yes hok] <;> rfl) | (rw [delT_yes hok, ho, List.take_of_length_le (by omega), hE])
  ·first | (rw [delT_no hbad] <;> rfl) | (rw [delT_yes hok] <;> rfl) | (rw [delT_yes hok, ho, List.take_of_length_le (by omega), hE])
 ·replace c0 := nf c0
  have hok : hasR t row = true := by simpa using c0
  have hE := del_same hok
  refine ⟨⟨0, ([] : List (List Int)), rfl, rfl, rfl, rfl, Nat.zero_le _, rfl⟩, fun k out ⟨hk, ho⟩ => ?_⟩
  have hol : out.length ≤ k := by rw [ho]; exact Nat.le_trans (List.length_filter_le _ _) (by simp; omega)
  refine ⟨List.length_map _, fun c1 => ?_, fun c1 => ?_⟩
  ·replace c1 := yq c1
   refine ⟨by omega, rfl, by omega, fun e27 h27 => ?_⟩
   try (obtain rfl := (same_at h27 h27).symm)
   have hp3 := cIntSS_at h27
   refine ⟨cmpRows_spec _ _, fun c2 => ?_, fun c2 => ?_⟩
   ·replace c2 := nq (nt c2)
    refine ⟨by omega, rfl, by omega, fun e38 h38 => ?_⟩
    try (obtain rfl := (same_at h27 h38).symm)
    refine ⟨rfl, rfl, fun _ => rfl, by first | omega | (simp; omega) | (simp [ho]; have := List.length_filter_le (fun x => !isR row x) (t.rows.take k); simp at this; omega), ?_⟩
    refine ⟨rfl, rfl, by first | omega | (simp; omega) | (simp [ho]; have := List.length_filter_le (fun x => !isR row x) (t.rows.take k); simp at this; omega), ?_⟩
    refine ⟨⟨by omega, by omega⟩, ?_⟩
    exact ⟨k + 1, _, rfl, rfl, rfl, rfl, ⟨by omega, by rw [ho, take_snoc h27, List.filter_append, List.filter_cons_of_pos (by simpa [isR] using fun q => c2 (cmpR_zero.2 q))]; rfl⟩, by omega⟩
   ·replace c2 := yq (nf c2)
    refine ⟨⟨by omega, by omega⟩, ?_⟩
    exact ⟨k + 1, _, rfl, rfl, rfl, rfl, ⟨by omega, by rw [ho, take_snoc h27, List.filter_append, List.filter_cons_of_neg (by simpa [isR] using cmpR_zero.1 c2)]; simp⟩, by omega⟩
  ·replace c1 := nq c1
   refine ⟨?_, ?_, ?_, ?_, trivial⟩
   ·first | (rw [delT_no hbad] <;> rfl) | (rw [delT_yes hok] <;> rfl) | (rw [delT_yes hok, ho, List.take_of_length_le (by omega), hE])
   ·first | (rw [delT_no hbad] <;> rfl) | (rw [delT_yes hok] <;> rfl) | (rw [delT_yes hok, ho, List.take_of_length_le (by omega), hE])
   ·first | (rw [delT_no hbad] <;> rfl) | (rw [delT_yes hok] <;> rfl) | (rw [delT_yes hok, ho, List.take_of_length_le (by omega), hE])
   ·first | (rw [delT_no hbad] <;> rfl) | (rw [delT_yes hok] <;> rfl) | (rw [delT_yes hok, ho, List.take_of_length_le (by omega), hE])
def updD (d : DatabaseD) (u : UpdateD) : TableD × Bool := if u.ins = true then insT (lookT d u.name).1 u.row else delT (lookT d u.name).1 u.row
def appD (d : DatabaseD) (u : UpdateD) : DatabaseD × Bool := if ((lookT d u.name).2 && (updD d u).2) = true then setT d (updD d u).1 else (d, false)
theorem appD_small {d : DatabaseD} {u : UpdateD} (h : (appD d u).2 = true) : cDatabase (appD d u).1 ≤ 1000 ∧ okDb (appD d u).1 = true := by
  unfold appD at *
  split at h
  · rename_i h1
    rw [if_pos h1]
    unfold setT at *
    split at h
    · rename_i h2
      rw [if_pos h2]
      simp only [Bool.and_eq_true, decide_eq_true_eq] at h2
      have h3 := setTL_ok h2.1 h2.2.1
      rw [decide_eq_true h2.2.2] at h3
      refine ⟨?_, h3⟩
      have h4 := cntL_bound (c := cTable) (m := 64) (l := setTL (updD d u).1 d.tables) fun x hx => okTable_small (List.all_eq_true.1 (okDb_all h3) x hx)
      show cntL cTable (setTL (updD d u).1 d.tables) ≤ 1000
      omega
    · cases h
  · cases h
abbrev k_appD_impl (d : DatabaseD) (u : UpdateD) : AV × List (Nat × Rs) := (.tup [.agg [.own 0], vB ((appD d u).2)], [(0, .arr 162 3 true ((((appD d u).1).tables).map eTable))])
abbrev K_appD_impl (d : DatabaseD) (u : UpdateD) : Prop := Con Tryz.prog 74 [.agg [.sl 162 3 (d.tables.map eTable)], .agg [.str u.name, .bool u.ins, .sl 3 1 (u.row.map intD)]] (k_appD_impl d u).1 (k_appD_impl d u).2
theorem appD_impl (d : DatabaseD) (u : UpdateD) (hc : cDatabase d ≤ 1048576) (hu : cUpdate u ≤ 1048576) : K_appD_impl d u := by
 refine con_x tbOk mixedW Tryz.func74 (by kernel_rfl) (callP (k_lkT_impl d u.name) <| .br (callP (k_cpD_impl d) <| .fin [(0, 1800)]) (.br (callP (k_ins_impl ((lookT d u.name).1) u.row) <| .br (callP (k_cpD_impl d) <| .fin [(0, 3800)]) (callP (k_setT_impl d ((insT ((lookT d u.name).1) u.row).1)) <| .fin [(0, 4100)])) (callP (k_del_impl ((lookT d u.name).1) u.row) <| .br (callP (k_cpD_impl d) <| .fin [(0, 3800)]) (callP (k_setT_impl d ((delT ((lookT d u.name).1) u.row).1)) <| .fin [(0, 4100)])))) ?_
 refine Eq.mpr (by kernel_rfl : _ = ((d.tables.map eTable).length ≤ 9223372036854775807 → (u.row.map intD).length ≤ 9223372036854775807 → K_lkT_impl d u.name ∧ (((!((lookT d u.name).2)) = true → K_cpD_impl d ∧ (false) = ((appD d u).2) ∧ d.tables.map eTable = (((appD d u).1).tables).map eTable ∧ True) ∧ ((!((lookT d u.name).2)) = false → ((u.ins) = true → K_ins_impl ((lookT d u.name).1) u.row ∧ (((!((insT ((lookT d u.name).1) u.row).2)) = true → K_cpD_impl d ∧ (false) = ((appD d u).2) ∧ d.tables.map eTable = (((appD d u).1).tables).map eTable ∧ True) ∧ ((!((insT ((lookT d u.name).1) u.row).2)) = false → K_setT_impl d ((insT ((lookT d u.name).1) u.row).1) ∧ ((setT d ((insT ((lookT d u.name).1) u.row).1)).2) = ((appD d u).2) ∧ (((setT d ((insT ((lookT d u.name).1) u.row).1)).1).tables).map eTable = (((appD d u).1).tables).map eTable ∧ True))) ∧ ((u.ins) = false → K_del_impl ((lookT d u.name).1) u.row ∧ (((!((delT ((lookT d u.name).1) u.row).2)) = true → K_cpD_impl d ∧ (false) = ((appD d u).2) ∧ d.tables.map eTable = (((appD d u).1).tables).map eTable ∧ True) ∧ ((!((delT ((lookT d u.name).1) u.row).2)) = false → K_setT_impl d ((delT ((lookT d u.name).1) u.row).1) ∧ ((setT d ((delT ((lookT d u.name).1) u.row).1)).2) = ((appD d u).2) ∧ (((setT d ((delT ((lookT d u.name).1) u.row).1)).1).tables).map eTable = (((appD d u).1).tables).map eTable ∧ True))))))) ?_
 intro n0 n1
 simp only [List.length_map] at n0 n1
 have q3 : cUpdate u = u.name.size + cIntS u.row := rfl
 have q4 : cIntS u.row = u.row.length := rfl
 refine ⟨lkT_impl _ u.name (by omega), fun c0 => ?_, fun c0 => ?_⟩
 ·replace c0 := nt c0
  have hbad : appD d u = (d, false) := by rw [appD, if_neg (by rw [c0]; simp)]
  refine ⟨cpD_impl _ (by omega), ?_, ?_, trivial⟩
  ·first | (rw [hbad] <;> rfl) | (rw [hok, hE] <;> rfl) | (rw [hok, ← hE] <;> rfl)
  ·first | (rw [hbad] <;> rfl) | (rw [hok, hE] <;> rfl) | (rw [hok, ← hE] <;> rfl)
 ·replace c0 := nf c0
  have hsm := okTable_small (lookT_ok c0).1
  refine ⟨fun c1 => ?_, fun c1 => ?_⟩
  ·have hE : insT (lookT d u.name).1 u.row = updD d u := by rw [updD, if_pos c1]
   refine ⟨ins_impl ((lookT d u.name).1) u.row (by omega) (by omega), fun c2 => ?_, fun c2 => ?_⟩
   ·replace c2 := nt c2
    have hbad : appD d u = (d, false) := by rw [appD, if_neg (by rw [← hE, c2]; simp)]
    refine ⟨cpD_impl _ (by omega), ?_, ?_, trivial⟩
    ·first | (rw [hbad] <;> rfl) | (rw [hok, hE] <;> rfl) | (rw [hok, ← hE] <;> rfl)
    ·first | (rw [hbad] <;> rfl) | (rw [hok, hE] <;> rfl) | (rw [hok, ← hE] <;> rfl)
   ·replace c2 := nf c2
    have hok : appD d u = setT d (updD d u).1 := by rw [appD, if_pos (by rw [← hE, c2, c0]; rfl)]
    refine ⟨setT_impl _ ((insT ((lookT d u.name).1) u.row).1) (by omega), ?_, ?_, trivial⟩
    ·first | (rw [hbad] <;> rfl) | (rw [hok, hE] <;> rfl) | (rw [hok, ← hE] <;> rfl)
    ·first | (rw [hbad] <;> rfl) | (rw [hok, hE] <;> rfl) | (rw [hok, ← hE] <;> rfl)
  ·have hE : delT (lookT d u.name).1 u.row = updD d u := by rw [updD, if_neg (by rw [c1]; decide)]
   refine ⟨del_impl ((lookT d u.name).1) u.row (by omega) (by omega), fun c2 => ?_, fun c2 => ?_⟩
   ·replace c2 := nt c2
    have hbad : appD d u = (d, false) := by rw [appD, if_neg (by rw [← hE, c2]; simp)]
    refine ⟨cpD_impl _ (by omega), ?_, ?_, trivial⟩
    ·first | (rw [hbad] <;> rfl) | (rw [hok, hE] <;> rfl) | (rw [hok, ← hE] <;> rfl)
    ·first | (rw [hbad] <;> rfl) | (rw [hok, hE] <;> rfl) | (rw [hok, ← hE] <;> rfl)
   ·replace c2 := nf c2
    have hok : appD d u = setT d (updD d u).1 := by rw [appD, if_pos (by rw [← hE, c2, c0]; rfl)]
    refine ⟨setT_impl _ ((delT ((lookT d u.name).1) u.row).1) (by omega), ?_, ?_, trivial⟩
    ·first | (rw [hbad] <;> rfl) | (rw [hok, hE] <;> rfl) | (rw [hok, ← hE] <;> rfl)
    ·first | (rw [hbad] <;> rfl) | (rw [hok, hE] <;> rfl) | (rw [hok, ← hE] <;> rfl)
abbrev k_appD_spec (d : DatabaseD) (u : UpdateD) : AV × List (Nat × Rs) := (.tup [.agg [.own 0], vB ((appD d u).2)], [(0, .arr 162 3 true ((((appD d u).1).tables).map eTable))])
abbrev K_appD_spec (d : DatabaseD) (u : UpdateD) : Prop := Con Tryz.prog 64 [.agg [.sl 162 3 (d.tables.map eTable)], .agg [.str u.name, .bool u.ins, .sl 3 1 (u.row.map intD)]] (k_appD_spec d u).1 (k_appD_spec d u).2
theorem appD_spec (d : DatabaseD) (u : UpdateD) (hc : cDatabase d ≤ 1048576) (hu : cUpdate u ≤ 1048576) : K_appD_spec d u := by
 refine con_x tbOk mixedW Tryz.func64 (by kernel_rfl) (callP (k_lkT_spec d u.name) <| .br (callP (k_cpD_spec d) <| .fin [(0, 2200)]) (.br (callP (k_ins_spec ((lookT d u.name).1) u.row) <| .br (callP (k_cpD_spec d) <| .fin [(0, 4300)]) (callP (k_setT_spec d ((insT ((lookT d u.name).1) u.row).1)) <| .fin [(0, 4700)])) (callP (k_del_spec ((lookT d u.name).1) u.row) <| .br (callP (k_cpD_spec d) <| .fin [(0, 4300)]) (callP (k_setT_spec d ((delT ((lookT d u.name).1) u.row).1)) <| .fin [(0, 4700)])))) ?_
 refine Eq.mpr (by kernel_rfl : _ = ((d.tables.map eTable).length ≤ 9223372036854775807 → (u.row.map intD).length ≤ 9223372036854775807 → K_lkT_spec d u.name ∧ (((!((lookT d u.name).2)) = true → K_cpD_spec d ∧ (false) = ((appD d u).2) ∧ d.tables.map eTable = (((appD d u).1).tables).map eTable ∧ True) ∧ ((!((lookT d u.name).2)) = false → ((u.ins) = true → K_ins_spec ((lookT d u.name).1) u.row ∧ (((!((insT ((lookT d u.name).1) u.row).2)) = true → K_cpD_spec d ∧ (false) = ((appD d u).2) ∧ d.tables.map eTable = (((appD d u).1).tables).map eTable ∧ True) ∧ ((!((insT ((lookT d u.name).1) u.row).2)) = false → K_setT_spec d ((insT ((lookT d u.name).1) u.row).1) ∧ ((setT d ((insT ((lookT d u.name).1) u.row).1)).2) = ((appD d u).2) ∧ (((setT d ((insT ((lookT d u.name).1) u.row).1)).1).tables).map eTable = (((appD d u).1).tables).map eTable ∧ True))) ∧ ((u.ins) = false → K_del_spec ((lookT d u.name).1) u.row ∧ (((!((delT ((lookT d u.name).1) u.row).2)) = true → K_cpD_spec d ∧ (false) = ((appD d u).2) ∧ d.tables.map eTable = (((appD d u).1).tables).map eTable ∧ True) ∧ ((!((delT ((lookT d u.name).1) u.row).2)) = false → K_setT_spec d ((delT ((lookT d u.name).1) u.row).1) ∧ ((setT d ((delT ((lookT d u.name).1) u.row).1)).2) = ((appD d u).2) ∧ (((setT d ((delT ((lookT d u.name).1) u.row).1)).1).tables).map eTable = (((appD d u).1).tables).map eTable ∧ True))))))) ?_
 intro n0 n1
 simp only [List.length_map] at n0 n1
 have q3 : cUpdate u = u.name.size + cIntS u.row := rfl
 have q4 : cIntS u.row = u.row.length := rfl
 refine ⟨lkT_spec _ u.name (by omega), fun c0 => ?_, fun c0 => ?_⟩
 ·replace c0 := nt c0
  have hbad : appD d u = (d, false) := by rw [appD, if_neg (by rw [c0]; simp)]
  refine ⟨cpD_spec _ (by omega), ?_, ?_, trivial⟩
  ·first | (rw [hbad] <;> rfl) | (rw [hok, hE] <;> rfl) | (rw [hok, ← hE] <;> rfl)
  ·first | (rw [hbad] <;> rfl) | (rw [hok, hE] <;> rfl) | (rw [hok, ← hE] <;> rfl)
 ·replace c0 := nf c0
  have hsm := okTable_small (lookT_ok c0).1
  refine ⟨fun c1 => ?_, fun c1 => ?_⟩
  ·have hE : insT (lookT d u.name).1 u.row = updD d u := by rw [updD, if_pos c1]
   refine ⟨ins_spec ((lookT d u.name).1) u.row (by omega) (by omega), fun c2 => ?_, fun c2 => ?_⟩
   ·replace c2 := nt c2
    have hbad : appD d u = (d, false) := by rw [appD, if_neg (by rw [← hE, c2]; simp)]
    refine ⟨cpD_spec _ (by omega), ?_, ?_, trivial⟩
    ·first | (rw [hbad] <;> rfl) | (rw [hok, hE] <;> rfl) | (rw [hok, ← hE] <;> rfl)
    ·first | (rw [hbad] <;> rfl) | (rw [hok, hE] <;> rfl) | (rw [hok, ← hE] <;> rfl)
   ·replace c2 := nf c2
    have hok : appD d u = setT d (updD d u).1 := by rw [appD, if_pos (by rw [← hE, c2, c0]; rfl)]
    refine ⟨setT_spec _ ((insT ((lookT d u.name).1) u.row).1) (by omega), ?_, ?_, trivial⟩
    ·first | (rw [hbad] <;> rfl) | (rw [hok, hE] <;> rfl) | (rw [hok, ← hE] <;> rfl)
    ·first | (rw [hbad] <;> rfl) | (rw [hok, hE] <;> rfl) | (rw [hok, ← hE] <;> rfl)
  ·have hE : delT (lookT d u.name).1 u.row = updD d u := by rw [updD, if_neg (by rw [c1]; decide)]
   refine ⟨del_spec ((lookT d u.name).1) u.row (by omega) (by omega), fun c2 => ?_, fun c2 => ?_⟩
   ·replace c2 := nt c2
    have hbad : appD d u = (d, false) := by rw [appD, if_neg (by rw [← hE, c2]; simp)]
    refine ⟨cpD_spec _ (by omega), ?_, ?_, trivial⟩
    ·first | (rw [hbad] <;> rfl) | (rw [hok, hE] <;> rfl) | (rw [hok, ← hE] <;> rfl)
    ·first | (rw [hbad] <;> rfl) | (rw [hok, hE] <;> rfl) | (rw [hok, ← hE] <;> rfl)
   ·replace c2 := nf c2
    have hok : appD d u = setT d (updD d u).1 := by rw [appD, if_pos (by rw [← hE, c2, c0]; rfl)]
    refine ⟨setT_spec _ ((delT ((lookT d u.name).1) u.row).1) (by omega), ?_, ?_, trivial⟩
    ·first | (rw [hbad] <;> rfl) | (rw [hok, hE] <;> rfl) | (rw [hok, ← hE] <;> rfl)
    ·first | (rw [hbad] <;> rfl) | (rw [hok, hE] <;> rfl) | (rw [hok, ← hE] <;> rfl)
def updOk (s : StoreD) (u : UpdateD) : Bool := okStore s && (!decide (s.catalogue.version = 999) && ((appD s.database u).2 && fineC (appD s.database u).1 s.dependencies s.inclusions))
def updSt (s : StoreD) (u : UpdateD) : StoreD × Bool := if updOk s u = true then (⟨(appD s.database u).1, (catOf (appD s.database u).1 (s.catalogue.version + 1)).1, s.dependencies, s.inclusions⟩, true) else (s, false)
theorem updSt_yes {s : StoreD} {u : UpdateD} (h : updOk s u = true) : updSt s u = (⟨(appD s.database u).1, (catOf (appD s.database u).1 (s.catalogue.version + 1)).1, s.dependencies, s.inclusions⟩, true) := by rw [updSt, if_pos h]
theorem updSt_no {s : StoreD} {u : UpdateD} (h : updOk s u = false) : updSt s u = (s, false) := by rw [updSt, if_neg (by rw [h]; decide)]
theorem okStore_v {s : StoreD} (h : okStore s = true) : 1 ≤ s.catalogue.version ∧ s.catalogue.version ≤ 999 := by
  simp only [okStore, Bool.and_eq_true] at h
  have h1 := h.1
  cases e : (okDb s.database && inB s.catalogue.version 1 999) with
  | false => rw [catOf_no e] at h1; cases h1
  | true => rw [Bool.and_eq_true] at e; exact inB_true e.2
theorem updSt_small (s : StoreD) (u : UpdateD) : cStore (updSt s u).1 ≤ cStore s + 30000 := by
  cases h : updOk s u with
  | false => rw [updSt_no h]; show cStore s ≤ _; omega
  | true =>
    rw [updSt_yes h]
    simp only [updOk, Bool.and_eq_true] at h
    have h1 := (appD_small h.2.2.1).1
    have h2 := cat_small (appD s.database u).1 (s.catalogue.version + 1)
    show cDatabase (appD s.database u).1 + cCatalogue (catOf (appD s.database u).1 (s.catalogue.version + 1)).1 + cDependencyS s.dependencies + cInclusionS s.inclusions ≤ cDatabase s.database + cCatalogue s.catalogue + cDependencyS s.dependencies + cInclusionS s.inclusions + 30000
    omega
abbrev k_updSt_impl (s : StoreD) (u : UpdateD) : AV × List (Nat × Rs) := (.tup [.agg [.own 0, vI ((((updSt s u).1).catalogue).version), .own 1, .own 2, .own 3], vB ((updSt s u).2)], [(0, .arr 162 3 true (((((updSt s u).1).database).tables).map eTable)), (1, .arr 121 4 true (((((updSt s u).1).catalogue).tables).map eTableStats)), (2, .arr 168 3 true ((((updSt s u).1).dependencies).map eDependency)), (3, .arr 170 4 true ((((updSt s u).1).inclusions).map eInclusion))])
abbrev K_updSt_impl (s : StoreD) (u : UpdateD) : Prop := Con Tryz.prog 18 [.agg [.sl 162 3 (s.database.tables.map eTable), .int .i64 s.catalogue.version, .sl 121 4 (s.catalogue.tables.map eTableStats), .sl 168 3 (s.dependencies.map eDependency), .sl 170 4 (s.inclusions.map eInclusion)], .agg [.str u.name, .bool u.ins, .sl 3 1 (u.row.map intD)]] (k_updSt_impl s u).1 (k_updSt_impl s u).2
theorem updSt_impl (s : StoreD) (u : UpdateD) (hc : cStore s ≤ 1048576) (hu : cUpdate u ≤ 1048576) : K_updSt_impl s u := by
 refine con_x tbOk mixedW Tryz.func18 (by kernel_rfl) (callP (k_cpSt_impl s) <| .call (vB (okStore s)) [] <| .br (.fin [(0, 1000), (1, 1001), (2, 1002), (3, 1003)]) (.lit <| .lit <| .lit <| .lit <| .br (.fin [(0, 1000), (1, 1001), (2, 1002), (3, 1003)]) (callP (k_appD_impl s.database u) <| .br (.fin [(0, 1000), (1, 1001), (2, 1002), (3, 1003)]) (.call (vB (fineC ((appD s.database u).1) s.dependencies s.inclusions)) [] <| .lit <| .lit <| .br (.fin [(0, 1000), (1, 1001), (2, 1002), (3, 1003)]) (callP (k_cat_impl ((appD s.database u).1) (s.catalogue.version + (1 : Int))) <| .fin [(0, 2500), (1, 4800), (2, 1002), (3, 1003)]))))) ?_
 refine Eq.mpr (by kernel_rfl : _ = ((s.database.tables.map eTable).length ≤ 9223372036854775807 → (s.catalogue.tables.map eTableStats).length ≤ 9223372036854775807 → (s.dependencies.map eDependency).length ≤ 9223372036854775807 → (s.inclusions.map eInclusion).length ≤ 9223372036854775807 → (u.row.map intD).length ≤ 9223372036854775807 → K_cpSt_impl s ∧ (K_okSt_impl s ∧ (((!(okStore s)) = true → s.catalogue.version = ((((updSt s u).1).catalogue).version) ∧ (false) = ((updSt s u).2) ∧ s.database.tables.map eTable = ((((updSt s u).1).database).tables).map eTable ∧ s.catalogue.tables.map eTableStats = ((((updSt s u).1).catalogue).tables).map eTableStats ∧ s.dependencies.map eDependency = (((updSt s u).1).dependencies).map eDependency ∧ s.inclusions.map eInclusion = (((updSt s u).1).inclusions).map eInclusion ∧ True) ∧ ((!(okStore s)) = false → ((decide (s.catalogue.version = (999 : Int))) = true → s.catalogue.version = ((((updSt s u).1).catalogue).version) ∧ (false) = ((updSt s u).2) ∧ s.database.tables.map eTable = ((((updSt s u).1).database).tables).map eTable ∧ s.catalogue.tables.map eTableStats = ((((updSt s u).1).catalogue).tables).map eTableStats ∧ s.dependencies.map eDependency = (((updSt s u).1).dependencies).map eDependency ∧ s.inclusions.map eInclusion = (((updSt s u).1).inclusions).map eInclusion ∧ True) ∧ ((decide (s.catalogue.version = (999 : Int))) = false → K_appD_impl s.database u ∧ (((!((appD s.database u).2)) = true → s.catalogue.version = ((((updSt s u).1).catalogue).version) ∧ (false) = ((updSt s u).2) ∧ s.database.tables.map eTable = ((((updSt s u).1).database).tables).map eTable ∧ s.catalogue.tables.map eTableStats = ((((updSt s u).1).catalogue).tables).map eTableStats ∧ s.dependencies.map eDependency = (((updSt s u).1).dependencies).map eDependency ∧ s.inclusions.map eInclusion = (((updSt s u).1).inclusions).map eInclusion ∧ True) ∧ ((!((appD s.database u).2)) = false → K_fine_impl ((appD s.database u).1) s.dependencies s.inclusions ∧ (((!(fineC ((appD s.database u).1) s.dependencies s.inclusions)) = true → s.catalogue.version = ((((updSt s u).1).catalogue).version) ∧ (false) = ((updSt s u).2) ∧ s.database.tables.map eTable = ((((updSt s u).1).database).tables).map eTable ∧ s.catalogue.tables.map eTableStats = ((((updSt s u).1).catalogue).tables).map eTableStats ∧ s.dependencies.map eDependency = (((updSt s u).1).dependencies).map eDependency ∧ s.inclusions.map eInclusion = (((updSt s u).1).inclusions).map eInclusion ∧ True) ∧ ((!(fineC ((appD s.database u).1) s.dependencies s.inclusions)) = false → inR (s.catalogue.version + (1 : Int)) ∧ K_cat_impl ((appD s.database u).1) (s.catalogue.version + (1 : Int)) ∧ (((catOf ((appD s.database u).1) (s.catalogue.version + (1 : Int))).1).version) = ((((updSt s u).1).catalogue).version) ∧ (true) = ((updSt s u).2) ∧ (((appD s.database u).1).tables).map eTable = ((((updSt s u).1).database).tables).map eTable ∧ (((catOf ((appD s.database u).1) (s.catalogue.version + (1 : Int))).1).tables).map eTableStats = ((((updSt s u).1).catalogue).tables).map eTableStats ∧ s.dependencies.map eDependency = (((updSt s u).1).dependencies).map eDependency ∧ s.inclusions.map eInclusion = (((updSt s u).1).inclusions).map eInclusion ∧ True)))))))))) ?_
 intro n0 n1 n2 n3 n4
 simp only [List.length_map] at n0 n1 n2 n3 n4
 have hS : cStore s = cDatabase s.database + cCatalogue s.catalogue + cDependencyS s.dependencies + cInclusionS s.inclusions := rfl
 have hI := cInclusionS_len s.inclusions
 refine ⟨cpSt_impl _ (by first | omega | (dsimp only; omega)) (by first | omega | (dsimp only; omega)) (by first | omega | (dsimp only; omega)) (by first | omega | (dsimp only; omega)), okSt_impl _ (by omega), fun g14 => ?_, fun g14 => ?_⟩
 ·replace g14 := nt g14
  have hbad : updOk s u = false := by first | (rw [updOk, g14]; rfl) | (rw [updOk, c0]; simp; done) | (simp [updOk, *]; done)
  refine ⟨?_, ?_, ?_, ?_, ?_, ?_, trivial⟩
  ·first | (rw [updSt_no hbad] <;> rfl) | (rw [updSt_yes hok] <;> rfl)
  ·first | (rw [updSt_no hbad] <;> rfl) | (rw [updSt_yes hok] <;> rfl)
  ·first | (rw [updSt_no hbad] <;> rfl) | (rw [updSt_yes hok] <;> rfl)
  ·first | (rw [updSt_no hbad] <;> rfl) | (rw [updSt_yes hok] <;> rfl)
  ·first | (rw [updSt_no hbad] <;> rfl) | (rw [updSt_yes hok] <;> rfl)
  ·first | (rw [updSt_no hbad] <;> rfl) | (rw [updSt_yes hok] <;> rfl)
 ·replace g14 := nf g14
  refine ⟨fun c0 => ?_, fun c0 => ?_⟩
  ·replace c0 := yq c0
   have hbad : updOk s u = false := by first | (rw [updOk, g14]; rfl) | (rw [updOk, c0]; simp; done) | (simp [updOk, *]; done)
   refine ⟨?_, ?_, ?_, ?_, ?_, ?_, trivial⟩
   ·first | (rw [updSt_no hbad] <;> rfl) | (rw [updSt_yes hok] <;> rfl)
   ·first | (rw [updSt_no hbad] <;> rfl) | (rw [updSt_yes hok] <;> rfl)
   ·first | (rw [updSt_no hbad] <;> rfl) | (rw [updSt_yes hok] <;> rfl)
   ·first | (rw [updSt_no hbad] <;> rfl) | (rw [updSt_yes hok] <;> rfl)
   ·first | (rw [updSt_no hbad] <;> rfl) | (rw [updSt_yes hok] <;> rfl)
   ·first | (rw [updSt_no hbad] <;> rfl) | (rw [updSt_yes hok] <;> rfl)
  ·replace c0 := nq c0
   have hv := okStore_v (by simpa using g14 : okStore s = true)
   refine ⟨appD_impl s.database _ (by omega) (by omega), fun g30 => ?_, fun g30 => ?_⟩
   ·replace g30 := nt g30
    have hbad : updOk s u = false := by first | (simp [updOk, *]; done) | (simp_all [updOk]; done)
    refine ⟨?_, ?_, ?_, ?_, ?_, ?_, trivial⟩
    ·first | (rw [updSt_no hbad] <;> rfl) | (rw [updSt_yes hok] <;> rfl)
    ·first | (rw [updSt_no hbad] <;> rfl) | (rw [updSt_yes hok] <;> rfl)
    ·first | (rw [updSt_no hbad] <;> rfl) | (rw [updSt_yes hok] <;> rfl)
    ·first | (rw [updSt_no hbad] <;> rfl) | (rw [updSt_yes hok] <;> rfl)
    ·first | (rw [updSt_no hbad] <;> rfl) | (rw [updSt_yes hok] <;> rfl)
    ·first | (rw [updSt_no hbad] <;> rfl) | (rw [updSt_yes hok] <;> rfl)
   ·replace g30 := nf g30
    have hap := appD_small (by simpa using g30 : (appD s.database u).2 = true)
    refine ⟨fine_impl ((appD s.database u).1) _ _ (by omega), fun c1 => ?_, fun c1 => ?_⟩
    ·replace c1 := nt c1
     have hbad : updOk s u = false := by first | (simp [updOk, *]; done) | (simp_all [updOk]; done)
     refine ⟨?_, ?_, ?_, ?_, ?_, ?_, trivial⟩
     ·first | (rw [updSt_no hbad] <;> rfl) | (rw [updSt_yes hok] <;> rfl)
     ·first | (rw [updSt_no hbad] <;> rfl) | (rw [updSt_yes hok] <;> rfl)
     ·first | (rw [updSt_no hbad] <;> rfl) | (rw [updSt_yes hok] <;> rfl)
     ·first | (rw [updSt_no hbad] <;> rfl) | (rw [updSt_yes hok] <;> rfl)
     ·first | (rw [updSt_no hbad] <;> rfl) | (rw [updSt_yes hok] <;> rfl)
     ·first | (rw [updSt_no hbad] <;> rfl) | (rw [updSt_yes hok] <;> rfl)
    ·replace c1 := nf c1
     have hok : updOk s u = true := by first | (simp [updOk, *]; done) | (simp_all [updOk]; done)
     refine ⟨⟨by omega, by omega⟩, cat_impl ((appD s.database u).1) (s.catalogue.version + (1 : Int)), ?_, ?_, ?_, ?_, ?_, ?_, trivial⟩
     ·first | (rw [updSt_no hbad] <;> rfl) | (rw [updSt_yes hok] <;> rfl)
     ·first | (rw [updSt_no hbad] <;> rfl) | (rw [updSt_yes hok] <;> rfl)
     ·first | (rw [updSt_no hbad] <;> rfl) | (rw [updSt_yes hok] <;> rfl)
     ·first | (rw [updSt_no hbad] <;> rfl) | (rw [updSt_yes hok] <;> rfl)
     ·first | (rw [updSt_no hbad] <;> rfl) | (rw [updSt_yes hok] <;> rfl)
     ·first | (rw [updSt_no hbad] <;> rfl) | (rw [updSt_yes hok] <;> rfl)
abbrev k_updSt_spec (s : StoreD) (u : UpdateD) : AV × List (Nat × Rs) := (.tup [.agg [.own 0, vI ((((updSt s u).1).catalogue).version), .own 1, .own 2, .own 3], vB ((updSt s u).2)], [(0, .arr 162 3 true (((((updSt s u).1).database).tables).map eTable)), (1, .arr 121 4 true (((((updSt s u).1).catalogue).tables).map eTableStats)), (2, .arr 168 3 true ((((updSt s u).1).dependencies).map eDependency)), (3, .arr 170 4 true ((((updSt s u).1).inclusions).map eInclusion))])
abbrev K_updSt_spec (s : StoreD) (u : UpdateD) : Prop := Con Tryz.prog 15 [.agg [.sl 162 3 (s.database.tables.map eTable), .int .i64 s.catalogue.version, .sl 121 4 (s.catalogue.tables.map eTableStats), .sl 168 3 (s.dependencies.map eDependency), .sl 170 4 (s.inclusions.map eInclusion)], .agg [.str u.name, .bool u.ins, .sl 3 1 (u.row.map intD)]] (k_updSt_spec s u).1 (k_updSt_spec s u).2
theorem updSt_spec (s : StoreD) (u : UpdateD) (hc : cStore s ≤ 1048576) (hu : cUpdate u ≤ 1048576) : K_updSt_spec s u := by
 refine con_x tbOk mixedW Tryz.func15 (by kernel_rfl) (.call (vB (okStore s)) [] <| .br (callP (k_cpSt_spec s) <| .fin [(0, 2000), (1, 2001), (2, 2002), (3, 2003)]) (.lit <| .lit <| .lit <| .lit <| .br (callP (k_cpSt_spec s) <| .fin [(0, 2000), (1, 2001), (2, 2002), (3, 2003)]) (callP (k_appD_spec s.database u) <| .br (callP (k_cpSt_spec s) <| .fin [(0, 4000), (1, 4001), (2, 4002), (3, 4003)]) (.call (vB (fineC ((appD s.database u).1) s.dependencies s.inclusions)) [] <| .lit <| .lit <| .br (callP (k_cpSt_spec s) <| .fin [(0, 4000), (1, 4001), (2, 4002), (3, 4003)]) (callP (k_cat_spec ((appD s.database u).1) (s.catalogue.version + (1 : Int))) <| callP (k_cpP_spec s.dependencies) <| .app InclusionD eInclusion ([] : List InclusionD) s.inclusions <| .fin [(0, 2500), (1, 4700), (2, 5400), (3, 5800)]))))) ?_
 refine Eq.mpr (by kernel_rfl : _ = ((s.database.tables.map eTable).length ≤ 9223372036854775807 → (s.catalogue.tables.map eTableStats).length ≤ 9223372036854775807 → (s.dependencies.map eDependency).length ≤ 9223372036854775807 → (s.inclusions.map eInclusion).length ≤ 9223372036854775807 → (u.row.map intD).length ≤ 9223372036854775807 → K_okSt_spec s ∧ (((!(okStore s)) = true → K_cpSt_spec s ∧ s.catalogue.version = ((((updSt s u).1).catalogue).version) ∧ (false) = ((updSt s u).2) ∧ s.database.tables.map eTable = ((((updSt s u).1).database).tables).map eTable ∧ s.catalogue.tables.map eTableStats = ((((updSt s u).1).catalogue).tables).map eTableStats ∧ s.dependencies.map eDependency = (((updSt s u).1).dependencies).map eDependency ∧ s.inclusions.map eInclusion = (((updSt s u).1).inclusions).map eInclusion ∧ True) ∧ ((!(okStore s)) = false → ((decide (s.catalogue.version = (999 : Int))) = true → K_cpSt_spec s ∧ s.catalogue.version = ((((updSt s u).1).catalogue).version) ∧ (false) = ((updSt s u).2) ∧ s.database.tables.map eTable = ((((updSt s u).1).database).tables).map eTable ∧ s.catalogue.tables.map eTableStats = ((((updSt s u).1).catalogue).tables).map eTableStats ∧ s.dependencies.map eDependency = (((updSt s u).1).dependencies).map eDependency ∧ s.inclusions.map eInclusion = (((updSt s u).1).inclusions).map eInclusion ∧ True) ∧ ((decide (s.catalogue.version = (999 : Int))) = false → K_appD_spec s.database u ∧ (((!((appD s.database u).2)) = true → K_cpSt_spec s ∧ s.catalogue.version = ((((updSt s u).1).catalogue).version) ∧ (false) = ((updSt s u).2) ∧ s.database.tables.map eTable = ((((updSt s u).1).database).tables).map eTable ∧ s.catalogue.tables.map eTableStats = ((((updSt s u).1).catalogue).tables).map eTableStats ∧ s.dependencies.map eDependency = (((updSt s u).1).dependencies).map eDependency ∧ s.inclusions.map eInclusion = (((updSt s u).1).inclusions).map eInclusion ∧ True) ∧ ((!((appD s.database u).2)) = false → K_fine_spec ((appD s.database u).1) s.dependencies s.inclusions ∧ (((!(fineC ((appD s.database u).1) s.dependencies s.inclusions)) = true → K_cpSt_spec s ∧ s.catalogue.version = ((((updSt s u).1).catalogue).version) ∧ (false) = ((updSt s u).2) ∧ s.database.tables.map eTable = ((((updSt s u).1).database).tables).map eTable ∧ s.catalogue.tables.map eTableStats = ((((updSt s u).1).catalogue).tables).map eTableStats ∧ s.dependencies.map eDependency = (((updSt s u).1).dependencies).map eDependency ∧ s.inclusions.map eInclusion = (((updSt s u).1).inclusions).map eInclusion ∧ True) ∧ ((!(fineC ((appD s.database u).1) s.dependencies s.inclusions)) = false → inR (s.catalogue.version + (1 : Int)) ∧ K_cat_spec ((appD s.database u).1) (s.catalogue.version + (1 : Int)) ∧ K_cpP_spec s.dependencies ∧ [] = ([] : List InclusionD).map eInclusion ∧ s.inclusions.map eInclusion = s.inclusions.map eInclusion ∧ (∀ x, flatB (eInclusion x) = true) ∧ (([] : List InclusionD).length + s.inclusions.length) * 48 ≤ 140737488355328 ∧ (((catOf ((appD s.database u).1) (s.catalogue.version + (1 : Int))).1).version) = ((((updSt s u).1).catalogue).version) ∧ (true) = ((updSt s u).2) ∧ (((appD s.database u).1).tables).map eTable = ((((updSt s u).1).database).tables).map eTable ∧ (((catOf ((appD s.database u).1) (s.catalogue.version + (1 : Int))).1).tables).map eTableStats = ((((updSt s u).1).catalogue).tables).map eTableStats ∧ s.dependencies.map eDependency = (((updSt s u).1).dependencies).map eDependency ∧ (([] : List InclusionD) ++ s.inclusions).map eInclusion = (((updSt s u).1).inclusions).map eInclusion ∧ True))))))))) ?_
 intro n0 n1 n2 n3 n4
 simp only [List.length_map] at n0 n1 n2 n3 n4
 have hS : cStore s = cDatabase s.database + cCatalogue s.catalogue + cDependencyS s.dependencies + cInclusionS s.inclusions := rfl
 have hI := cInclusionS_len s.inclusions
 refine ⟨okSt_spec _ (by omega), fun g13 => ?_, fun g13 => ?_⟩
 ·replace g13 := nt g13
  have hbad : updOk s u = false := by first | (rw [updOk, g13]; rfl) | (rw [updOk, c0]; simp; done) | (simp [updOk, *]; done)
  refine ⟨cpSt_spec _ (by first | omega | (dsimp only; omega)) (by first | omega | (dsimp only; omega)) (by first | omega | (dsimp only; omega)) (by first | omega | (dsimp only; omega)), ?_, ?_, ?_, ?_, ?_, ?_, trivial⟩
  ·first | (rw [updSt_no hbad] <;> rfl) | (rw [updSt_yes hok] <;> rfl)
  ·first | (rw [updSt_no hbad] <;> rfl) | (rw [updSt_yes hok] <;> rfl)
  ·first | (rw [updSt_no hbad] <;> rfl) | (rw [updSt_yes hok] <;> rfl)
  ·first | (rw [updSt_no hbad] <;> rfl) | (rw [updSt_yes hok] <;> rfl)
  ·first | (rw [updSt_no hbad] <;> rfl) | (rw [updSt_yes hok] <;> rfl)
  ·first | (rw [updSt_no hbad] <;> rfl) | (rw [updSt_yes hok] <;> rfl)
 ·replace g13 := nf g13
  refine ⟨fun c0 => ?_, fun c0 => ?_⟩
  ·replace c0 := yq c0
   have hbad : updOk s u = false := by first | (rw [updOk, g13]; rfl) | (rw [updOk, c0]; simp; done) | (simp [updOk, *]; done)
   refine ⟨cpSt_spec _ (by first | omega | (dsimp only; omega)) (by first | omega | (dsimp only; omega)) (by first | omega | (dsimp only; omega)) (by first | omega | (dsimp only; omega)), ?_, ?_, ?_, ?_, ?_, ?_, trivial⟩
   ·first | (rw [updSt_no hbad] <;> rfl) | (rw [updSt_yes hok] <;> rfl)
   ·first | (rw [updSt_no hbad] <;> rfl) | (rw [updSt_yes hok] <;> rfl)
   ·first | (rw [updSt_no hbad] <;> rfl) | (rw [updSt_yes hok] <;> rfl)
   ·first | (rw [updSt_no hbad] <;> rfl) | (rw [updSt_yes hok] <;> rfl)
   ·first | (rw [updSt_no hbad] <;> rfl) | (rw [updSt_yes hok] <;> rfl)
   ·first | (rw [updSt_no hbad] <;> rfl) | (rw [updSt_yes hok] <;> rfl)
  ·replace c0 := nq c0
   have hv := okStore_v (by simpa using g13 : okStore s = true)
   refine ⟨appD_spec s.database _ (by omega) (by omega), fun g30 => ?_, fun g30 => ?_⟩
   ·replace g30 := nt g30
    have hbad : updOk s u = false := by first | (simp [updOk, *]; done) | (simp_all [updOk]; done)
    refine ⟨cpSt_spec _ (by first | omega | (dsimp only; omega)) (by first | omega | (dsimp only; omega)) (by first | omega | (dsimp only; omega)) (by first | omega | (dsimp only; omega)), ?_, ?_, ?_, ?_, ?_, ?_, trivial⟩
    ·first | (rw [updSt_no hbad] <;> rfl) | (rw [updSt_yes hok] <;> rfl)
    ·first | (rw [updSt_no hbad] <;> rfl) | (rw [updSt_yes hok] <;> rfl)
    ·first | (rw [updSt_no hbad] <;> rfl) | (rw [updSt_yes hok] <;> rfl)
    ·first | (rw [updSt_no hbad] <;> rfl) | (rw [updSt_yes hok] <;> rfl)
    ·first | (rw [updSt_no hbad] <;> rfl) | (rw [updSt_yes hok] <;> rfl)
    ·first | (rw [updSt_no hbad] <;> rfl) | (rw [updSt_yes hok] <;> rfl)
   ·replace g30 := nf g30
    have hap := appD_small (by simpa using g30 : (appD s.database u).2 = true)
    refine ⟨fine_spec ((appD s.database u).1) _ _ (by omega), fun c1 => ?_, fun c1 => ?_⟩
    ·replace c1 := nt c1
     have hbad : updOk s u = false := by first | (simp [updOk, *]; done) | (simp_all [updOk]; done)
     refine ⟨cpSt_spec _ (by first | omega | (dsimp only; omega)) (by first | omega | (dsimp only; omega)) (by first | omega | (dsimp only; omega)) (by first | omega | (dsimp only; omega)), ?_, ?_, ?_, ?_, ?_, ?_, trivial⟩
     ·first | (rw [updSt_no hbad] <;> rfl) | (rw [updSt_yes hok] <;> rfl)
     ·first | (rw [updSt_no hbad] <;> rfl) | (rw [updSt_yes hok] <;> rfl)
     ·first | (rw [updSt_no hbad] <;> rfl) | (rw [updSt_yes hok] <;> rfl)
     ·first | (rw [updSt_no hbad] <;> rfl) | (rw [updSt_yes hok] <;> rfl)
     ·first | (rw [updSt_no hbad] <;> rfl) | (rw [updSt_yes hok] <;> rfl)
     ·first | (rw [updSt_no hbad] <;> rfl) | (rw [updSt_yes hok] <;> rfl)
    ·replace c1 := nf c1
     have hok : updOk s u = true := by first | (simp [updOk, *]; done) | (simp_all [updOk]; done)
     refine ⟨⟨by omega, by omega⟩, cat_spec ((appD s.database u).1) (s.catalogue.version + (1 : Int)), cpP_spec _ (by omega), rfl, rfl, fun _ => rfl, by first | omega | (simp; omega), ?_⟩
     refine ⟨?_, ?_, ?_, ?_, ?_, ?_, trivial⟩
     ·first | (rw [updSt_no hbad] <;> rfl) | (rw [updSt_yes hok] <;> rfl)
     ·first | (rw [updSt_no hbad] <;> rfl) | (rw [updSt_yes hok] <;> rfl)
     ·first | (rw [updSt_no hbad] <;> rfl) | (rw [updSt_yes hok] <;> rfl)
     ·first | (rw [updSt_no hbad] <;> rfl) | (rw [updSt_yes hok] <;> rfl)
     ·first | (rw [updSt_no hbad] <;> rfl) | (rw [updSt_yes hok] <;> rfl)
     ·first | (rw [updSt_no hbad] <;> rfl) | (rw [updSt_yes hok] <;> rfl)
end Go.Proofs.YtokkjaflmcjlhaaGreat
