/-
  Statistics updated, both sides.
-/
import Derived.Test.YtjlagjhmlmfjeaaGreatJc
import Derived.Test.YtjlagjhmlmfjeaaGreatHd
namespace Go.Proofs.YtjlagjhmlmfjeaaGreat
open Go.ChangeShapes Go.WideShapes Go.ChangeAt Go.RowKit
set_option linter.unusedVariables false
set_option linter.unusedSimpArgs false
def updT (x : TableStatsD) (u : UpdateD) : TableD × Bool := if u.ins = true then insT (tabOf x) u.row else delT (tabOf x) u.row
def updG (x : TableStatsD) (u : UpdateD) : Bool := okStats x && (u.name.toList == x.name.toList)
def updS (x : TableStatsD) (u : UpdateD) : TableStatsD × Bool := if (updG x u && (updT x u).2) = true then (statsOf (updT x u).1, true) else (x, false)
theorem updS_yes {x : TableStatsD} {u : UpdateD} (h1 : updG x u = true) (h2 : (updT x u).2 = true) : updS x u = (statsOf (updT x u).1, true) := by rw [updS, h1, h2]; rfl
theorem updS_no {x : TableStatsD} {u : UpdateD} (h : (updG x u && (updT x u).2) = false) : updS x u = (x, false) := by rw [updS, h]; rfl
theorem updT_ins {x : TableStatsD} {u : UpdateD} (h : u.ins = true) : updT x u = insT (tabOf x) u.row := by rw [updT, if_pos h]
theorem updT_del {x : TableStatsD} {u : UpdateD} (h : u.ins = false) : updT x u = delT (tabOf x) u.row := by rw [updT, if_neg (by rw [h]; decide)]
theorem updS_small (x : TableStatsD) (u : UpdateD) : cTableStats (updS x u).1 ≤ cTableStats x + 2000 := by
  cases h : updG x u && (updT x u).2 with
  | false => rw [updS_no h]; show cTableStats x ≤ _; omega
  | true =>
    rw [Bool.and_eq_true] at h
    rw [updS_yes h.1 h.2]
    have := stats_small (updT x u).1
    show cTableStats (statsOf (updT x u).1) ≤ _
    omega

set_option maxRecDepth 100000 in
set_option maxHeartbeats 4000000 in
theorem upd_impl (x : TableStatsD) (u : UpdateD) (hc : cTableStats x ≤ 1048576) (hu : cUpdate u ≤ 1048576) : Con Tryz.prog 15 [.agg [.str x.name, .int .i64 x.arity, .int .i64 x.rowCount, .sl 157 3 (x.groups.map eGroupStats)], .agg [.str u.name, .bool u.ins, .sl 3 1 (u.row.map intD)]] (.tup [.agg [.p none (.str (((updS x u).1).name)), vI (((updS x u).1).arity), vI (((updS x u).1).rowCount), .own 0], vB ((updS x u).2)]) [(0, .arr 157 3 true ((((updS x u).1).groups).map eGroupStats))] := by
  refine con_x tbOk mixedW Tryz.func15 (by kernel_rfl) (.call (.tup [.agg [.p none (.str ((tabOf x).name)), vI ((tabOf x).arity), .own 0], vB (okStats x)]) [(0, .arr 25 1 true (((tabOf x).rows).map eIntS))] <| .br (.call (.agg [.p none (.str x.name), vI x.arity, vI x.rowCount, .own 0]) [(0, .arr 157 3 true (x.groups.map eGroupStats))] <| .fin [(0, 2300)]) (.lit <| .lit <| .lit <| .lit <| .lit <| .br (.call (.agg [.p none (.str x.name), vI x.arity, vI x.rowCount, .own 0]) [(0, .arr 157 3 true (x.groups.map eGroupStats))] <| .fin [(0, 2300)]) (.br (.call (.tup [.agg [.p none (.str (((insT (tabOf x) u.row).1).name)), vI (((insT (tabOf x) u.row).1).arity), .own 0], vB ((insT (tabOf x) u.row).2)]) [(0, .arr 25 1 true ((((insT (tabOf x) u.row).1).rows).map eIntS))] <| .br (.call (.agg [.p none (.str x.name), vI x.arity, vI x.rowCount, .own 0]) [(0, .arr 157 3 true (x.groups.map eGroupStats))] <| .fin [(0, 4300)]) (.call (.agg [.p none (.str ((statsOf ((insT (tabOf x) u.row).1)).name)), vI ((statsOf ((insT (tabOf x) u.row).1)).arity), vI ((statsOf ((insT (tabOf x) u.row).1)).rowCount), .own 0]) [(0, .arr 157 3 true (((statsOf ((insT (tabOf x) u.row).1)).groups).map eGroupStats))] <| .fin [(0, 4500)])) (.call (.tup [.agg [.p none (.str (((delT (tabOf x) u.row).1).name)), vI (((delT (tabOf x) u.row).1).arity), .own 0], vB ((delT (tabOf x) u.row).2)]) [(0, .arr 25 1 true ((((delT (tabOf x) u.row).1).rows).map eIntS))] <| .br (.call (.agg [.p none (.str x.name), vI x.arity, vI x.rowCount, .own 0]) [(0, .arr 157 3 true (x.groups.map eGroupStats))] <| .fin [(0, 4300)]) (.call (.agg [.p none (.str ((statsOf ((delT (tabOf x) u.row).1)).name)), vI ((statsOf ((delT (tabOf x) u.row).1)).arity), vI ((statsOf ((delT (tabOf x) u.row).1)).rowCount), .own 0]) [(0, .arr 157 3 true (((statsOf ((delT (tabOf x) u.row).1)).groups).map eGroupStats))] <| .fin [(0, 4500)]))))) ?_
  refine Eq.mpr (by kernel_rfl : _ = ((x.groups.map eGroupStats).length ≤ 9223372036854775807 → (u.row.map intD).length ≤ 9223372036854775807 → Con Tryz.prog 70 [.agg [.str x.name, .int .i64 x.arity, .int .i64 x.rowCount, .sl 157 3 (x.groups.map eGroupStats)]] (.tup [.agg [.p none (.str ((tabOf x).name)), vI ((tabOf x).arity), .own 0], vB (okStats x)]) [(0, .arr 25 1 true (((tabOf x).rows).map eIntS))] ∧ (((!(okStats x)) = true → Con Tryz.prog 71 [.agg [.str x.name, .int .i64 x.arity, .int .i64 x.rowCount, .sl 157 3 (x.groups.map eGroupStats)]] (.agg [.p none (.str x.name), vI x.arity, vI x.rowCount, .own 0]) [(0, .arr 157 3 true (x.groups.map eGroupStats))] ∧ x.name = (((updS x u).1).name) ∧ x.arity = (((updS x u).1).arity) ∧ x.rowCount = (((updS x u).1).rowCount) ∧ (false) = ((updS x u).2) ∧ x.groups.map eGroupStats = (((updS x u).1).groups).map eGroupStats ∧ True) ∧ ((!(okStats x)) = false → ((!(u.name.toList == x.name.toList)) = true → Con Tryz.prog 71 [.agg [.str x.name, .int .i64 x.arity, .int .i64 x.rowCount, .sl 157 3 (x.groups.map eGroupStats)]] (.agg [.p none (.str x.name), vI x.arity, vI x.rowCount, .own 0]) [(0, .arr 157 3 true (x.groups.map eGroupStats))] ∧ x.name = (((updS x u).1).name) ∧ x.arity = (((updS x u).1).arity) ∧ x.rowCount = (((updS x u).1).rowCount) ∧ (false) = ((updS x u).2) ∧ x.groups.map eGroupStats = (((updS x u).1).groups).map eGroupStats ∧ True) ∧ ((!(u.name.toList == x.name.toList)) = false → ((u.ins) = true → Con Tryz.prog 72 [.agg [.str ((tabOf x).name), .int .i64 ((tabOf x).arity), .sl 25 1 (((tabOf x).rows).map eIntS)], .one (.sl 3 1 (u.row.map intD))] (.tup [.agg [.p none (.str (((insT (tabOf x) u.row).1).name)), vI (((insT (tabOf x) u.row).1).arity), .own 0], vB ((insT (tabOf x) u.row).2)]) [(0, .arr 25 1 true ((((insT (tabOf x) u.row).1).rows).map eIntS))] ∧ (((!((insT (tabOf x) u.row).2)) = true → Con Tryz.prog 71 [.agg [.str x.name, .int .i64 x.arity, .int .i64 x.rowCount, .sl 157 3 (x.groups.map eGroupStats)]] (.agg [.p none (.str x.name), vI x.arity, vI x.rowCount, .own 0]) [(0, .arr 157 3 true (x.groups.map eGroupStats))] ∧ x.name = (((updS x u).1).name) ∧ x.arity = (((updS x u).1).arity) ∧ x.rowCount = (((updS x u).1).rowCount) ∧ (false) = ((updS x u).2) ∧ x.groups.map eGroupStats = (((updS x u).1).groups).map eGroupStats ∧ True) ∧ ((!((insT (tabOf x) u.row).2)) = false → Con Tryz.prog 74 [.agg [.str (((insT (tabOf x) u.row).1).name), .int .i64 (((insT (tabOf x) u.row).1).arity), .sl 25 1 ((((insT (tabOf x) u.row).1).rows).map eIntS)]] (.agg [.p none (.str ((statsOf ((insT (tabOf x) u.row).1)).name)), vI ((statsOf ((insT (tabOf x) u.row).1)).arity), vI ((statsOf ((insT (tabOf x) u.row).1)).rowCount), .own 0]) [(0, .arr 157 3 true (((statsOf ((insT (tabOf x) u.row).1)).groups).map eGroupStats))] ∧ ((statsOf ((insT (tabOf x) u.row).1)).name) = (((updS x u).1).name) ∧ ((statsOf ((insT (tabOf x) u.row).1)).arity) = (((updS x u).1).arity) ∧ ((statsOf ((insT (tabOf x) u.row).1)).rowCount) = (((updS x u).1).rowCount) ∧ (true) = ((updS x u).2) ∧ ((statsOf ((insT (tabOf x) u.row).1)).groups).map eGroupStats = (((updS x u).1).groups).map eGroupStats ∧ True))) ∧ ((u.ins) = false → Con Tryz.prog 73 [.agg [.str ((tabOf x).name), .int .i64 ((tabOf x).arity), .sl 25 1 (((tabOf x).rows).map eIntS)], .one (.sl 3 1 (u.row.map intD))] (.tup [.agg [.p none (.str (((delT (tabOf x) u.row).1).name)), vI (((delT (tabOf x) u.row).1).arity), .own 0], vB ((delT (tabOf x) u.row).2)]) [(0, .arr 25 1 true ((((delT (tabOf x) u.row).1).rows).map eIntS))] ∧ (((!((delT (tabOf x) u.row).2)) = true → Con Tryz.prog 71 [.agg [.str x.name, .int .i64 x.arity, .int .i64 x.rowCount, .sl 157 3 (x.groups.map eGroupStats)]] (.agg [.p none (.str x.name), vI x.arity, vI x.rowCount, .own 0]) [(0, .arr 157 3 true (x.groups.map eGroupStats))] ∧ x.name = (((updS x u).1).name) ∧ x.arity = (((updS x u).1).arity) ∧ x.rowCount = (((updS x u).1).rowCount) ∧ (false) = ((updS x u).2) ∧ x.groups.map eGroupStats = (((updS x u).1).groups).map eGroupStats ∧ True) ∧ ((!((delT (tabOf x) u.row).2)) = false → Con Tryz.prog 74 [.agg [.str (((delT (tabOf x) u.row).1).name), .int .i64 (((delT (tabOf x) u.row).1).arity), .sl 25 1 ((((delT (tabOf x) u.row).1).rows).map eIntS)]] (.agg [.p none (.str ((statsOf ((delT (tabOf x) u.row).1)).name)), vI ((statsOf ((delT (tabOf x) u.row).1)).arity), vI ((statsOf ((delT (tabOf x) u.row).1)).rowCount), .own 0]) [(0, .arr 157 3 true (((statsOf ((delT (tabOf x) u.row).1)).groups).map eGroupStats))] ∧ ((statsOf ((delT (tabOf x) u.row).1)).name) = (((updS x u).1).name) ∧ ((statsOf ((delT (tabOf x) u.row).1)).arity) = (((updS x u).1).arity) ∧ ((statsOf ((delT (tabOf x) u.row).1)).rowCount) = (((updS x u).1).rowCount) ∧ (true) = ((updS x u).2) ∧ ((statsOf ((delT (tabOf x) u.row).1)).groups).map eGroupStats = (((updS x u).1).groups).map eGroupStats ∧ True)))))))) ?_
  intro n0 n1
  simp only [List.length_map] at n0 n1
  have q3 : cUpdate u = u.name.size + cIntS u.row := rfl
  have q4 : cIntS u.row = u.row.length := rfl
  refine ⟨tabOf_impl x (by omega), ?_⟩
  refine ⟨fun g15 => ?_, fun g15 => ?_⟩
  · replace g15 := nt g15
    have hbad : (updG x u && (updT x u).2) = false := by simp [updG, *]
    refine ⟨cpS_impl _ (by omega), ?_⟩
    refine ⟨?_, ?_, ?_, ?_, ?_, trivial⟩
    · first | (rw [updS_no hbad] <;> rfl) | (rw [updS_yes hG hU, hE] <;> rfl) | (rw [updS_yes hG hU] <;> rfl)
    · first | (rw [updS_no hbad] <;> rfl) | (rw [updS_yes hG hU, hE] <;> rfl) | (rw [updS_yes hG hU] <;> rfl)
    · first | (rw [updS_no hbad] <;> rfl) | (rw [updS_yes hG hU, hE] <;> rfl) | (rw [updS_yes hG hU] <;> rfl)
    · first | (rw [updS_no hbad] <;> rfl) | (rw [updS_yes hG hU, hE] <;> rfl) | (rw [updS_yes hG hU] <;> rfl)
    · first | (rw [updS_no hbad] <;> rfl) | (rw [updS_yes hG hU, hE] <;> rfl) | (rw [updS_yes hG hU] <;> rfl)
  · replace g15 := nf g15
    refine ⟨fun c0 => ?_, fun c0 => ?_⟩
    · replace c0 := nt c0
      have hbad : (updG x u && (updT x u).2) = false := by simp [updG, *]
      refine ⟨cpS_impl _ (by omega), ?_⟩
      refine ⟨?_, ?_, ?_, ?_, ?_, trivial⟩
      · first | (rw [updS_no hbad] <;> rfl) | (rw [updS_yes hG hU, hE] <;> rfl) | (rw [updS_yes hG hU] <;> rfl)
      · first | (rw [updS_no hbad] <;> rfl) | (rw [updS_yes hG hU, hE] <;> rfl) | (rw [updS_yes hG hU] <;> rfl)
      · first | (rw [updS_no hbad] <;> rfl) | (rw [updS_yes hG hU, hE] <;> rfl) | (rw [updS_yes hG hU] <;> rfl)
      · first | (rw [updS_no hbad] <;> rfl) | (rw [updS_yes hG hU, hE] <;> rfl) | (rw [updS_yes hG hU] <;> rfl)
      · first | (rw [updS_no hbad] <;> rfl) | (rw [updS_yes hG hU, hE] <;> rfl) | (rw [updS_yes hG hU] <;> rfl)
    · replace c0 := nf c0
      have hok : okStats x = true := by simpa using g15
      have hG : updG x u = true := by rw [updG, hok]; simpa using c0
      have hsm : cTable (tabOf x) ≤ 64 := okTable_small (okS_parts hok).1
      refine ⟨fun c1 => ?_, fun c1 => ?_⟩
      · have hE : (insT (tabOf x) u.row) = updT x u := by rw [updT_ins c1]
        refine ⟨ins_impl (tabOf x) u.row (by omega) (by omega), ?_⟩
        refine ⟨fun c2 => ?_, fun c2 => ?_⟩
        · replace c2 := nt c2
          have hU : (updT x u).2 = false := by rw [← hE]; simpa using c2
          have hbad : (updG x u && (updT x u).2) = false := by rw [hU, Bool.and_false]
          refine ⟨cpS_impl _ (by omega), ?_⟩
          refine ⟨?_, ?_, ?_, ?_, ?_, trivial⟩
          · first | (rw [updS_no hbad] <;> rfl) | (rw [updS_yes hG hU, hE] <;> rfl) | (rw [updS_yes hG hU] <;> rfl)
          · first | (rw [updS_no hbad] <;> rfl) | (rw [updS_yes hG hU, hE] <;> rfl) | (rw [updS_yes hG hU] <;> rfl)
          · first | (rw [updS_no hbad] <;> rfl) | (rw [updS_yes hG hU, hE] <;> rfl) | (rw [updS_yes hG hU] <;> rfl)
          · first | (rw [updS_no hbad] <;> rfl) | (rw [updS_yes hG hU, hE] <;> rfl) | (rw [updS_yes hG hU] <;> rfl)
          · first | (rw [updS_no hbad] <;> rfl) | (rw [updS_yes hG hU, hE] <;> rfl) | (rw [updS_yes hG hU] <;> rfl)
        · replace c2 := nf c2
          have hU : (updT x u).2 = true := by rw [← hE]; simpa using c2
          refine ⟨st_impl ((insT (tabOf x) u.row).1), ?_⟩
          refine ⟨?_, ?_, ?_, ?_, ?_, trivial⟩
          · first | (rw [updS_no hbad] <;> rfl) | (rw [updS_yes hG hU, hE] <;> rfl) | (rw [updS_yes hG hU] <;> rfl)
          · first | (rw [updS_no hbad] <;> rfl) | (rw [updS_yes hG hU, hE] <;> rfl) | (rw [updS_yes hG hU] <;> rfl)
          · first | (rw [updS_no hbad] <;> rfl) | (rw [updS_yes hG hU, hE] <;> rfl) | (rw [updS_yes hG hU] <;> rfl)
          · first | (rw [updS_no hbad] <;> rfl) | (rw [updS_yes hG hU, hE] <;> rfl) | (rw [updS_yes hG hU] <;> rfl)
          · first | (rw [updS_no hbad] <;> rfl) | (rw [updS_yes hG hU, hE] <;> rfl) | (rw [updS_yes hG hU] <;> rfl)
      · have hE : (delT (tabOf x) u.row) = updT x u := by rw [updT_del c1]
        refine ⟨del_impl (tabOf x) u.row (by omega) (by omega), ?_⟩
        refine ⟨fun c2 => ?_, fun c2 => ?_⟩
        · replace c2 := nt c2
          have hU : (updT x u).2 = false := by rw [← hE]; simpa using c2
          have hbad : (updG x u && (updT x u).2) = false := by rw [hU, Bool.and_false]
          refine ⟨cpS_impl _ (by omega), ?_⟩
          refine ⟨?_, ?_, ?_, ?_, ?_, trivial⟩
          · first | (rw [updS_no hbad] <;> rfl) | (rw [updS_yes hG hU, hE] <;> rfl) | (rw [updS_yes hG hU] <;> rfl)
          · first | (rw [updS_no hbad] <;> rfl) | (rw [updS_yes hG hU, hE] <;> rfl) | (rw [updS_yes hG hU] <;> rfl)
          · first | (rw [updS_no hbad] <;> rfl) | (rw [updS_yes hG hU, hE] <;> rfl) | (rw [updS_yes hG hU] <;> rfl)
          · first | (rw [updS_no hbad] <;> rfl) | (rw [updS_yes hG hU, hE] <;> rfl) | (rw [updS_yes hG hU] <;> rfl)
          · first | (rw [updS_no hbad] <;> rfl) | (rw [updS_yes hG hU, hE] <;> rfl) | (rw [updS_yes hG hU] <;> rfl)
        · replace c2 := nf c2
          have hU : (updT x u).2 = true := by rw [← hE]; simpa using c2
          refine ⟨st_impl ((delT (tabOf x) u.row).1), ?_⟩
          refine ⟨?_, ?_, ?_, ?_, ?_, trivial⟩
          · first | (rw [updS_no hbad] <;> rfl) | (rw [updS_yes hG hU, hE] <;> rfl) | (rw [updS_yes hG hU] <;> rfl)
          · first | (rw [updS_no hbad] <;> rfl) | (rw [updS_yes hG hU, hE] <;> rfl) | (rw [updS_yes hG hU] <;> rfl)
          · first | (rw [updS_no hbad] <;> rfl) | (rw [updS_yes hG hU, hE] <;> rfl) | (rw [updS_yes hG hU] <;> rfl)
          · first | (rw [updS_no hbad] <;> rfl) | (rw [updS_yes hG hU, hE] <;> rfl) | (rw [updS_yes hG hU] <;> rfl)
          · first | (rw [updS_no hbad] <;> rfl) | (rw [updS_yes hG hU, hE] <;> rfl) | (rw [updS_yes hG hU] <;> rfl)

set_option maxRecDepth 100000 in
set_option maxHeartbeats 4000000 in
theorem upd_spec (x : TableStatsD) (u : UpdateD) (hc : cTableStats x ≤ 1048576) (hu : cUpdate u ≤ 1048576) : Con Tryz.prog 12 [.agg [.str x.name, .int .i64 x.arity, .int .i64 x.rowCount, .sl 157 3 (x.groups.map eGroupStats)], .agg [.str u.name, .bool u.ins, .sl 3 1 (u.row.map intD)]] (.tup [.agg [.p none (.str (((updS x u).1).name)), vI (((updS x u).1).arity), vI (((updS x u).1).rowCount), .own 0], vB ((updS x u).2)]) [(0, .arr 157 3 true ((((updS x u).1).groups).map eGroupStats))] := by
  refine con_x tbOk mixedW Tryz.func12 (by kernel_rfl) (.call (.tup [.agg [.p none (.str (((tabS x).1).name)), vI (((tabS x).1).arity), .own 0], vB ((tabS x).2)]) [(0, .arr 25 1 true ((((tabS x).1).rows).map eIntS))] <| .call (vB (okStats x)) [] <| .br (.call (.agg [.p none (.str x.name), vI x.arity, vI x.rowCount, .own 0]) [(0, .arr 157 3 true (x.groups.map eGroupStats))] <| .fin [(0, 2600)]) (.lit <| .lit <| .lit <| .lit <| .lit <| .br (.call (.agg [.p none (.str x.name), vI x.arity, vI x.rowCount, .own 0]) [(0, .arr 157 3 true (x.groups.map eGroupStats))] <| .fin [(0, 2600)]) (.br (.call (.tup [.agg [.p none (.str (((insT ((tabS x).1) u.row).1).name)), vI (((insT ((tabS x).1) u.row).1).arity), .own 0], vB ((insT ((tabS x).1) u.row).2)]) [(0, .arr 25 1 true ((((insT ((tabS x).1) u.row).1).rows).map eIntS))] <| .br (.call (.agg [.p none (.str x.name), vI x.arity, vI x.rowCount, .own 0]) [(0, .arr 157 3 true (x.groups.map eGroupStats))] <| .fin [(0, 4700)]) (.call (.agg [.p none (.str ((statsOf ((insT ((tabS x).1) u.row).1)).name)), vI ((statsOf ((insT ((tabS x).1) u.row).1)).arity), vI ((statsOf ((insT ((tabS x).1) u.row).1)).rowCount), .own 0]) [(0, .arr 157 3 true (((statsOf ((insT ((tabS x).1) u.row).1)).groups).map eGroupStats))] <| .fin [(0, 4900)])) (.call (.tup [.agg [.p none (.str (((delT ((tabS x).1) u.row).1).name)), vI (((delT ((tabS x).1) u.row).1).arity), .own 0], vB ((delT ((tabS x).1) u.row).2)]) [(0, .arr 25 1 true ((((delT ((tabS x).1) u.row).1).rows).map eIntS))] <| .br (.call (.agg [.p none (.str x.name), vI x.arity, vI x.rowCount, .own 0]) [(0, .arr 157 3 true (x.groups.map eGroupStats))] <| .fin [(0, 4700)]) (.call (.agg [.p none (.str ((statsOf ((delT ((tabS x).1) u.row).1)).name)), vI ((statsOf ((delT ((tabS x).1) u.row).1)).arity), vI ((statsOf ((delT ((tabS x).1) u.row).1)).rowCount), .own 0]) [(0, .arr 157 3 true (((statsOf ((delT ((tabS x).1) u.row).1)).groups).map eGroupStats))] <| .fin [(0, 4900)]))))) ?_
  refine Eq.mpr (by kernel_rfl : _ = ((x.groups.map eGroupStats).length ≤ 9223372036854775807 → (u.row.map intD).length ≤ 9223372036854775807 → Con Tryz.prog 63 [.agg [.str x.name, .int .i64 x.arity, .int .i64 x.rowCount, .sl 157 3 (x.groups.map eGroupStats)]] (.tup [.agg [.p none (.str (((tabS x).1).name)), vI (((tabS x).1).arity), .own 0], vB ((tabS x).2)]) [(0, .arr 25 1 true ((((tabS x).1).rows).map eIntS))] ∧ (Con Tryz.prog 64 [.agg [.str x.name, .int .i64 x.arity, .int .i64 x.rowCount, .sl 157 3 (x.groups.map eGroupStats)]] (vB (okStats x)) [] ∧ (((!(okStats x)) = true → Con Tryz.prog 65 [.agg [.str x.name, .int .i64 x.arity, .int .i64 x.rowCount, .sl 157 3 (x.groups.map eGroupStats)]] (.agg [.p none (.str x.name), vI x.arity, vI x.rowCount, .own 0]) [(0, .arr 157 3 true (x.groups.map eGroupStats))] ∧ x.name = (((updS x u).1).name) ∧ x.arity = (((updS x u).1).arity) ∧ x.rowCount = (((updS x u).1).rowCount) ∧ (false) = ((updS x u).2) ∧ x.groups.map eGroupStats = (((updS x u).1).groups).map eGroupStats ∧ True) ∧ ((!(okStats x)) = false → ((!(u.name.toList == x.name.toList)) = true → Con Tryz.prog 65 [.agg [.str x.name, .int .i64 x.arity, .int .i64 x.rowCount, .sl 157 3 (x.groups.map eGroupStats)]] (.agg [.p none (.str x.name), vI x.arity, vI x.rowCount, .own 0]) [(0, .arr 157 3 true (x.groups.map eGroupStats))] ∧ x.name = (((updS x u).1).name) ∧ x.arity = (((updS x u).1).arity) ∧ x.rowCount = (((updS x u).1).rowCount) ∧ (false) = ((updS x u).2) ∧ x.groups.map eGroupStats = (((updS x u).1).groups).map eGroupStats ∧ True) ∧ ((!(u.name.toList == x.name.toList)) = false → ((u.ins) = true → Con Tryz.prog 66 [.agg [.str (((tabS x).1).name), .int .i64 (((tabS x).1).arity), .sl 25 1 ((((tabS x).1).rows).map eIntS)], .one (.sl 3 1 (u.row.map intD))] (.tup [.agg [.p none (.str (((insT ((tabS x).1) u.row).1).name)), vI (((insT ((tabS x).1) u.row).1).arity), .own 0], vB ((insT ((tabS x).1) u.row).2)]) [(0, .arr 25 1 true ((((insT ((tabS x).1) u.row).1).rows).map eIntS))] ∧ (((!((insT ((tabS x).1) u.row).2)) = true → Con Tryz.prog 65 [.agg [.str x.name, .int .i64 x.arity, .int .i64 x.rowCount, .sl 157 3 (x.groups.map eGroupStats)]] (.agg [.p none (.str x.name), vI x.arity, vI x.rowCount, .own 0]) [(0, .arr 157 3 true (x.groups.map eGroupStats))] ∧ x.name = (((updS x u).1).name) ∧ x.arity = (((updS x u).1).arity) ∧ x.rowCount = (((updS x u).1).rowCount) ∧ (false) = ((updS x u).2) ∧ x.groups.map eGroupStats = (((updS x u).1).groups).map eGroupStats ∧ True) ∧ ((!((insT ((tabS x).1) u.row).2)) = false → Con Tryz.prog 68 [.agg [.str (((insT ((tabS x).1) u.row).1).name), .int .i64 (((insT ((tabS x).1) u.row).1).arity), .sl 25 1 ((((insT ((tabS x).1) u.row).1).rows).map eIntS)]] (.agg [.p none (.str ((statsOf ((insT ((tabS x).1) u.row).1)).name)), vI ((statsOf ((insT ((tabS x).1) u.row).1)).arity), vI ((statsOf ((insT ((tabS x).1) u.row).1)).rowCount), .own 0]) [(0, .arr 157 3 true (((statsOf ((insT ((tabS x).1) u.row).1)).groups).map eGroupStats))] ∧ ((statsOf ((insT ((tabS x).1) u.row).1)).name) = (((updS x u).1).name) ∧ ((statsOf ((insT ((tabS x).1) u.row).1)).arity) = (((updS x u).1).arity) ∧ ((statsOf ((insT ((tabS x).1) u.row).1)).rowCount) = (((updS x u).1).rowCount) ∧ (true) = ((updS x u).2) ∧ ((statsOf ((insT ((tabS x).1) u.row).1)).groups).map eGroupStats = (((updS x u).1).groups).map eGroupStats ∧ True))) ∧ ((u.ins) = false → Con Tryz.prog 67 [.agg [.str (((tabS x).1).name), .int .i64 (((tabS x).1).arity), .sl 25 1 ((((tabS x).1).rows).map eIntS)], .one (.sl 3 1 (u.row.map intD))] (.tup [.agg [.p none (.str (((delT ((tabS x).1) u.row).1).name)), vI (((delT ((tabS x).1) u.row).1).arity), .own 0], vB ((delT ((tabS x).1) u.row).2)]) [(0, .arr 25 1 true ((((delT ((tabS x).1) u.row).1).rows).map eIntS))] ∧ (((!((delT ((tabS x).1) u.row).2)) = true → Con Tryz.prog 65 [.agg [.str x.name, .int .i64 x.arity, .int .i64 x.rowCount, .sl 157 3 (x.groups.map eGroupStats)]] (.agg [.p none (.str x.name), vI x.arity, vI x.rowCount, .own 0]) [(0, .arr 157 3 true (x.groups.map eGroupStats))] ∧ x.name = (((updS x u).1).name) ∧ x.arity = (((updS x u).1).arity) ∧ x.rowCount = (((updS x u).1).rowCount) ∧ (false) = ((updS x u).2) ∧ x.groups.map eGroupStats = (((updS x u).1).groups).map eGroupStats ∧ True) ∧ ((!((delT ((tabS x).1) u.row).2)) = false → Con Tryz.prog 68 [.agg [.str (((delT ((tabS x).1) u.row).1).name), .int .i64 (((delT ((tabS x).1) u.row).1).arity), .sl 25 1 ((((delT ((tabS x).1) u.row).1).rows).map eIntS)]] (.agg [.p none (.str ((statsOf ((delT ((tabS x).1) u.row).1)).name)), vI ((statsOf ((delT ((tabS x).1) u.row).1)).arity), vI ((statsOf ((delT ((tabS x).1) u.row).1)).rowCount), .own 0]) [(0, .arr 157 3 true (((statsOf ((delT ((tabS x).1) u.row).1)).groups).map eGroupStats))] ∧ ((statsOf ((delT ((tabS x).1) u.row).1)).name) = (((updS x u).1).name) ∧ ((statsOf ((delT ((tabS x).1) u.row).1)).arity) = (((updS x u).1).arity) ∧ ((statsOf ((delT ((tabS x).1) u.row).1)).rowCount) = (((updS x u).1).rowCount) ∧ (true) = ((updS x u).2) ∧ ((statsOf ((delT ((tabS x).1) u.row).1)).groups).map eGroupStats = (((updS x u).1).groups).map eGroupStats ∧ True))))))))) ?_
  intro n0 n1
  simp only [List.length_map] at n0 n1
  have q3 : cUpdate u = u.name.size + cIntS u.row := rfl
  have q4 : cIntS u.row = u.row.length := rfl
  refine ⟨tabS_spec x (by omega), ?_⟩
  refine ⟨okS_spec _ (by omega), ?_⟩
  refine ⟨fun g18 => ?_, fun g18 => ?_⟩
  · replace g18 := nt g18
    have hbad : (updG x u && (updT x u).2) = false := by simp [updG, *]
    refine ⟨cpS_spec _ (by omega), ?_⟩
    refine ⟨?_, ?_, ?_, ?_, ?_, trivial⟩
    · first | (rw [updS_no hbad] <;> rfl) | (rw [updS_yes hG hU, hE] <;> rfl) | (rw [updS_yes hG hU] <;> rfl)
    · first | (rw [updS_no hbad] <;> rfl) | (rw [updS_yes hG hU, hE] <;> rfl) | (rw [updS_yes hG hU] <;> rfl)
    · first | (rw [updS_no hbad] <;> rfl) | (rw [updS_yes hG hU, hE] <;> rfl) | (rw [updS_yes hG hU] <;> rfl)
    · first | (rw [updS_no hbad] <;> rfl) | (rw [updS_yes hG hU, hE] <;> rfl) | (rw [updS_yes hG hU] <;> rfl)
    · first | (rw [updS_no hbad] <;> rfl) | (rw [updS_yes hG hU, hE] <;> rfl) | (rw [updS_yes hG hU] <;> rfl)
  · replace g18 := nf g18
    refine ⟨fun c0 => ?_, fun c0 => ?_⟩
    · replace c0 := nt c0
      have hbad : (updG x u && (updT x u).2) = false := by simp [updG, *]
      refine ⟨cpS_spec _ (by omega), ?_⟩
      refine ⟨?_, ?_, ?_, ?_, ?_, trivial⟩
      · first | (rw [updS_no hbad] <;> rfl) | (rw [updS_yes hG hU, hE] <;> rfl) | (rw [updS_yes hG hU] <;> rfl)
      · first | (rw [updS_no hbad] <;> rfl) | (rw [updS_yes hG hU, hE] <;> rfl) | (rw [updS_yes hG hU] <;> rfl)
      · first | (rw [updS_no hbad] <;> rfl) | (rw [updS_yes hG hU, hE] <;> rfl) | (rw [updS_yes hG hU] <;> rfl)
      · first | (rw [updS_no hbad] <;> rfl) | (rw [updS_yes hG hU, hE] <;> rfl) | (rw [updS_yes hG hU] <;> rfl)
      · first | (rw [updS_no hbad] <;> rfl) | (rw [updS_yes hG hU, hE] <;> rfl) | (rw [updS_yes hG hU] <;> rfl)
    · replace c0 := nf c0
      have hok : okStats x = true := by simpa using g18
      have hG : updG x u = true := by rw [updG, hok]; simpa using c0
      have hts := tabS_ok hok
      have hsm : cTable (tabS x).1 ≤ 64 := by rw [hts]; exact okTable_small (okS_parts hok).1
      refine ⟨fun c1 => ?_, fun c1 => ?_⟩
      · have hE : (insT (tabS x).1 u.row) = updT x u := by rw [updT_ins c1]; rw [hts]
        refine ⟨ins_spec ((tabS x).1) u.row (by omega) (by omega), ?_⟩
        refine ⟨fun c2 => ?_, fun c2 => ?_⟩
        · replace c2 := nt c2
          have hU : (updT x u).2 = false := by rw [← hE]; simpa using c2
          have hbad : (updG x u && (updT x u).2) = false := by rw [hU, Bool.and_false]
          refine ⟨cpS_spec _ (by omega), ?_⟩
          refine ⟨?_, ?_, ?_, ?_, ?_, trivial⟩
          · first | (rw [updS_no hbad] <;> rfl) | (rw [updS_yes hG hU, hE] <;> rfl) | (rw [updS_yes hG hU] <;> rfl)
          · first | (rw [updS_no hbad] <;> rfl) | (rw [updS_yes hG hU, hE] <;> rfl) | (rw [updS_yes hG hU] <;> rfl)
          · first | (rw [updS_no hbad] <;> rfl) | (rw [updS_yes hG hU, hE] <;> rfl) | (rw [updS_yes hG hU] <;> rfl)
          · first | (rw [updS_no hbad] <;> rfl) | (rw [updS_yes hG hU, hE] <;> rfl) | (rw [updS_yes hG hU] <;> rfl)
          · first | (rw [updS_no hbad] <;> rfl) | (rw [updS_yes hG hU, hE] <;> rfl) | (rw [updS_yes hG hU] <;> rfl)
        · replace c2 := nf c2
          have hU : (updT x u).2 = true := by rw [← hE]; simpa using c2
          refine ⟨st_spec ((insT ((tabS x).1) u.row).1), ?_⟩
          refine ⟨?_, ?_, ?_, ?_, ?_, trivial⟩
          · first | (rw [updS_no hbad] <;> rfl) | (rw [updS_yes hG hU, hE] <;> rfl) | (rw [updS_yes hG hU] <;> rfl)
          · first | (rw [updS_no hbad] <;> rfl) | (rw [updS_yes hG hU, hE] <;> rfl) | (rw [updS_yes hG hU] <;> rfl)
          · first | (rw [updS_no hbad] <;> rfl) | (rw [updS_yes hG hU, hE] <;> rfl) | (rw [updS_yes hG hU] <;> rfl)
          · first | (rw [updS_no hbad] <;> rfl) | (rw [updS_yes hG hU, hE] <;> rfl) | (rw [updS_yes hG hU] <;> rfl)
          · first | (rw [updS_no hbad] <;> rfl) | (rw [updS_yes hG hU, hE] <;> rfl) | (rw [updS_yes hG hU] <;> rfl)
      · have hE : (delT (tabS x).1 u.row) = updT x u := by rw [updT_del c1]; rw [hts]
        refine ⟨del_spec ((tabS x).1) u.row (by omega) (by omega), ?_⟩
        refine ⟨fun c2 => ?_, fun c2 => ?_⟩
        · replace c2 := nt c2
          have hU : (updT x u).2 = false := by rw [← hE]; simpa using c2
          have hbad : (updG x u && (updT x u).2) = false := by rw [hU, Bool.and_false]
          refine ⟨cpS_spec _ (by omega), ?_⟩
          refine ⟨?_, ?_, ?_, ?_, ?_, trivial⟩
          · first | (rw [updS_no hbad] <;> rfl) | (rw [updS_yes hG hU, hE] <;> rfl) | (rw [updS_yes hG hU] <;> rfl)
          · first | (rw [updS_no hbad] <;> rfl) | (rw [updS_yes hG hU, hE] <;> rfl) | (rw [updS_yes hG hU] <;> rfl)
          · first | (rw [updS_no hbad] <;> rfl) | (rw [updS_yes hG hU, hE] <;> rfl) | (rw [updS_yes hG hU] <;> rfl)
          · first | (rw [updS_no hbad] <;> rfl) | (rw [updS_yes hG hU, hE] <;> rfl) | (rw [updS_yes hG hU] <;> rfl)
          · first | (rw [updS_no hbad] <;> rfl) | (rw [updS_yes hG hU, hE] <;> rfl) | (rw [updS_yes hG hU] <;> rfl)
        · replace c2 := nf c2
          have hU : (updT x u).2 = true := by rw [← hE]; simpa using c2
          refine ⟨st_spec ((delT ((tabS x).1) u.row).1), ?_⟩
          refine ⟨?_, ?_, ?_, ?_, ?_, trivial⟩
          · first | (rw [updS_no hbad] <;> rfl) | (rw [updS_yes hG hU, hE] <;> rfl) | (rw [updS_yes hG hU] <;> rfl)
          · first | (rw [updS_no hbad] <;> rfl) | (rw [updS_yes hG hU, hE] <;> rfl) | (rw [updS_yes hG hU] <;> rfl)
          · first | (rw [updS_no hbad] <;> rfl) | (rw [updS_yes hG hU, hE] <;> rfl) | (rw [updS_yes hG hU] <;> rfl)
          · first | (rw [updS_no hbad] <;> rfl) | (rw [updS_yes hG hU, hE] <;> rfl) | (rw [updS_yes hG hU] <;> rfl)
          · first | (rw [updS_no hbad] <;> rfl) | (rw [updS_yes hG hU, hE] <;> rfl) | (rw [updS_yes hG hU] <;> rfl)
end Go.Proofs.YtjlagjhmlmfjeaaGreat
