/-
  Valid statistics, the program's side.
-/
import Derived.Test.YtjlagjhmlmfjeaaGreatGg
import Derived.Test.YtjlagjhmlmfjeaaGreatFf
import Derived.Test.YtjlagjhmlmfjeaaGreatEa
namespace Go.Proofs.YtjlagjhmlmfjeaaGreat
open Go.ChangeShapes Go.WideShapes Go.ChangeAt Go.RowKit
set_option linter.unusedVariables false
set_option linter.unusedSimpArgs false
def lastV (x : TableStatsD) : List (List Int) := (x.groups.getD (x.groups.length - 1) zGroupStats).values
def tabOf (x : TableStatsD) : TableD := ⟨x.name, x.arity, lastV x⟩
def okStats (x : TableStatsD) : Bool := okTable (tabOf x) && decide (statsOf (tabOf x) = x)
theorem lastV_at {x : TableStatsD} {g : GroupStatsD} (h : x.groups[x.groups.length - 1]? = some g) : lastV x = g.values := by rw [lastV, getD_at h]
theorem lastV_nil {x : TableStatsD} (h : x.groups.length = 0) : lastV x = [] := by
  rw [lastV, List.length_eq_zero_iff.1 h]; rfl

set_option maxRecDepth 100000 in
set_option maxHeartbeats 4000000 in
theorem tabOf_impl (x : TableStatsD) (hc : cTableStats x ≤ 1048576) : Con Tryz.prog 70 [.agg [.str x.name, .int .i64 x.arity, .int .i64 x.rowCount, .sl 157 3 (x.groups.map eGroupStats)]] (.tup [.agg [.p none (.str ((tabOf x).name)), vI ((tabOf x).arity), .own 0], vB (okStats x)]) [(0, .arr 25 1 true (((tabOf x).rows).map eIntS))] := by
  refine con_x tbOk mixedW Tryz.func70 (by kernel_rfl) (.len x.groups.length <| .br (.elem GroupStatsD eGroupStats x.groups (fun e20 => .call (.own 0) [(0, .arr 25 1 true (e20.values.map eIntS))] <| .call (vB (okTable (⟨x.name, x.arity, e20.values⟩ : TableD))) [] <| .br (.call (.agg [.p none (.str ((statsOf (⟨x.name, x.arity, e20.values⟩ : TableD)).name)), vI ((statsOf (⟨x.name, x.arity, e20.values⟩ : TableD)).arity), vI ((statsOf (⟨x.name, x.arity, e20.values⟩ : TableD)).rowCount), .own 0]) [(0, .arr 157 3 true (((statsOf (⟨x.name, x.arity, e20.values⟩ : TableD)).groups).map eGroupStats))] <| .call (vB (decide ((statsOf (⟨x.name, x.arity, e20.values⟩ : TableD)) = x))) [] <| .fin [(0, 2300)]) (.fin [(0, 2300)]))) (.call (vB (okTable (⟨x.name, x.arity, ([] : List (List Int))⟩ : TableD))) [] <| .br (.call (.agg [.p none (.str ((statsOf (⟨x.name, x.arity, ([] : List (List Int))⟩ : TableD)).name)), vI ((statsOf (⟨x.name, x.arity, ([] : List (List Int))⟩ : TableD)).arity), vI ((statsOf (⟨x.name, x.arity, ([] : List (List Int))⟩ : TableD)).rowCount), .own 0]) [(0, .arr 157 3 true (((statsOf (⟨x.name, x.arity, ([] : List (List Int))⟩ : TableD)).groups).map eGroupStats))] <| .call (vB (decide ((statsOf (⟨x.name, x.arity, ([] : List (List Int))⟩ : TableD)) = x))) [] <| .fin []) (.fin []))) ?_
  refine Eq.mpr (by kernel_rfl : _ = ((x.groups.map eGroupStats).length ≤ 9223372036854775807 → (x.groups.map eGroupStats).length = x.groups.length ∧ (((decide ((0 : Int) < ((x.groups.length : Nat) : Int))) = true → inR (((x.groups.length : Nat) : Int) - (1 : Int)) ∧ (0 ≤ (((x.groups.length : Nat) : Int) - (1 : Int)) ∧ (x.groups.map eGroupStats = x.groups.map eGroupStats ∧ (((x.groups.length : Nat) : Int) - (1 : Int)).toNat < x.groups.length ∧ ∀ e20, x.groups[(((x.groups.length : Nat) : Int) - (1 : Int)).toNat]? = some e20 → Con Tryz.prog 130 [.one (.sl 25 1 (e20.values.map eIntS))] (.own 0) [(0, .arr 25 1 true (e20.values.map eIntS))] ∧ (Con Tryz.prog 131 [.agg [.str x.name, .int .i64 x.arity, .sl 25 1 (e20.values.map eIntS)]] (vB (okTable (⟨x.name, x.arity, e20.values⟩ : TableD))) [] ∧ (((okTable (⟨x.name, x.arity, e20.values⟩ : TableD)) = true → Con Tryz.prog 74 [.agg [.str x.name, .int .i64 x.arity, .sl 25 1 (e20.values.map eIntS)]] (.agg [.p none (.str ((statsOf (⟨x.name, x.arity, e20.values⟩ : TableD)).name)), vI ((statsOf (⟨x.name, x.arity, e20.values⟩ : TableD)).arity), vI ((statsOf (⟨x.name, x.arity, e20.values⟩ : TableD)).rowCount), .own 0]) [(0, .arr 157 3 true (((statsOf (⟨x.name, x.arity, e20.values⟩ : TableD)).groups).map eGroupStats))] ∧ Con Tryz.prog 132 [.agg [.str ((statsOf (⟨x.name, x.arity, e20.values⟩ : TableD)).name), .int .i64 ((statsOf (⟨x.name, x.arity, e20.values⟩ : TableD)).arity), .int .i64 ((statsOf (⟨x.name, x.arity, e20.values⟩ : TableD)).rowCount), .sl 157 3 (((statsOf (⟨x.name, x.arity, e20.values⟩ : TableD)).groups).map eGroupStats)], .agg [.str x.name, .int .i64 x.arity, .int .i64 x.rowCount, .sl 157 3 (x.groups.map eGroupStats)]] (vB (decide ((statsOf (⟨x.name, x.arity, e20.values⟩ : TableD)) = x))) [] ∧ x.name = ((tabOf x).name) ∧ x.arity = ((tabOf x).arity) ∧ (decide ((statsOf (⟨x.name, x.arity, e20.values⟩ : TableD)) = x)) = (okStats x) ∧ e20.values.map eIntS = ((tabOf x).rows).map eIntS ∧ True) ∧ ((okTable (⟨x.name, x.arity, e20.values⟩ : TableD)) = false → x.name = ((tabOf x).name) ∧ x.arity = ((tabOf x).arity) ∧ (false) = (okStats x) ∧ e20.values.map eIntS = ((tabOf x).rows).map eIntS ∧ True)))))) ∧ ((decide ((0 : Int) < ((x.groups.length : Nat) : Int))) = false → Con Tryz.prog 131 [.agg [.str x.name, .int .i64 x.arity, .sl 0 1 ([])]] (vB (okTable (⟨x.name, x.arity, ([] : List (List Int))⟩ : TableD))) [] ∧ (((okTable (⟨x.name, x.arity, ([] : List (List Int))⟩ : TableD)) = true → Con Tryz.prog 74 [.agg [.str x.name, .int .i64 x.arity, .sl 0 1 ([])]] (.agg [.p none (.str ((statsOf (⟨x.name, x.arity, ([] : List (List Int))⟩ : TableD)).name)), vI ((statsOf (⟨x.name, x.arity, ([] : List (List Int))⟩ : TableD)).arity), vI ((statsOf (⟨x.name, x.arity, ([] : List (List Int))⟩ : TableD)).rowCount), .own 0]) [(0, .arr 157 3 true (((statsOf (⟨x.name, x.arity, ([] : List (List Int))⟩ : TableD)).groups).map eGroupStats))] ∧ Con Tryz.prog 132 [.agg [.str ((statsOf (⟨x.name, x.arity, ([] : List (List Int))⟩ : TableD)).name), .int .i64 ((statsOf (⟨x.name, x.arity, ([] : List (List Int))⟩ : TableD)).arity), .int .i64 ((statsOf (⟨x.name, x.arity, ([] : List (List Int))⟩ : TableD)).rowCount), .sl 157 3 (((statsOf (⟨x.name, x.arity, ([] : List (List Int))⟩ : TableD)).groups).map eGroupStats)], .agg [.str x.name, .int .i64 x.arity, .int .i64 x.rowCount, .sl 157 3 (x.groups.map eGroupStats)]] (vB (decide ((statsOf (⟨x.name, x.arity, ([] : List (List Int))⟩ : TableD)) = x))) [] ∧ x.name = ((tabOf x).name) ∧ x.arity = ((tabOf x).arity) ∧ (decide ((statsOf (⟨x.name, x.arity, ([] : List (List Int))⟩ : TableD)) = x)) = (okStats x) ∧ [] = ((tabOf x).rows).map eIntS ∧ True) ∧ ((okTable (⟨x.name, x.arity, ([] : List (List Int))⟩ : TableD)) = false → x.name = ((tabOf x).name) ∧ x.arity = ((tabOf x).arity) ∧ (false) = (okStats x) ∧ [] = ((tabOf x).rows).map eIntS ∧ True)))))) ?_
  intro n0
  simp only [List.length_map] at n0
  have q2 : cTableStats x = x.name.size + cGroupStatsS x.groups := rfl
  have q5 := cGroupStatsS_len x.groups
  refine ⟨List.length_map _, ?_⟩
  refine ⟨fun c0 => ?_, fun c0 => ?_⟩
  · replace c0 := of_decide_eq_true c0
    refine ⟨⟨by omega, by omega⟩, ?_⟩
    refine ⟨by omega, ?_⟩
    refine ⟨rfl, by omega, fun e20 h20 => ?_⟩
    have i20 : x.groups[x.groups.length - 1]? = some e20 := by rw [← h20]; congr 1; omega
    have hT : lastV x = e20.values := lastV_at i20
    have q1 := cGroupStatsS_el i20
    have q3 : cGroupStats e20 = cIntS e20.columns + cIntSS e20.values + cIntS e20.counts := rfl
    have q6 : cIntS e20.columns = e20.columns.length := rfl
    have q7 : cIntS e20.counts = e20.counts.length := rfl
    have q8 := cIntSS_len e20.values
    refine ⟨cpR _ (by omega), ?_⟩
    refine ⟨tab_impl (⟨x.name, x.arity, e20.values⟩ : TableD), ?_⟩
    refine ⟨fun g28 => ?_, fun g28 => ?_⟩
    · refine ⟨st_impl (⟨x.name, x.arity, e20.values⟩ : TableD), ?_⟩
      refine ⟨eqStats_impl _ _, ?_⟩
      refine ⟨?_, ?_, ?_, ?_, trivial⟩
      · first | (rw [tabOf, hT] <;> rfl) | rfl | (simp [okStats, tabOf, hT, *]; done)
      · first | (rw [tabOf, hT] <;> rfl) | rfl | (simp [okStats, tabOf, hT, *]; done)
      · first | (rw [tabOf, hT] <;> rfl) | rfl | (simp [okStats, tabOf, hT, *]; done)
      · first | (rw [tabOf, hT] <;> rfl) | rfl | (simp [okStats, tabOf, hT, *]; done)
    · refine ⟨?_, ?_, ?_, ?_, trivial⟩
      · first | (rw [tabOf, hT] <;> rfl) | rfl | (simp [okStats, tabOf, hT, *]; done)
      · first | (rw [tabOf, hT] <;> rfl) | rfl | (simp [okStats, tabOf, hT, *]; done)
      · first | (rw [tabOf, hT] <;> rfl) | rfl | (simp [okStats, tabOf, hT, *]; done)
      · first | (rw [tabOf, hT] <;> rfl) | rfl | (simp [okStats, tabOf, hT, *]; done)
  · replace c0 := of_decide_eq_false c0
    have hT : lastV x = [] := lastV_nil (by omega)
    refine ⟨Con.imp (fun A w vs h => by simpa only [ArsRd, ArRd, RdL, rdV_nilE, List.map_nil] using h) (tab_impl (⟨x.name, x.arity, ([] : List (List Int))⟩ : TableD)), ?_⟩
    refine ⟨fun g28 => ?_, fun g28 => ?_⟩
    · refine ⟨Con.imp (fun A w vs h => by simpa only [ArsRd, ArRd, RdL, rdV_nilE, List.map_nil] using h) (st_impl (⟨x.name, x.arity, ([] : List (List Int))⟩ : TableD)), ?_⟩
      refine ⟨eqStats_impl _ _, ?_⟩
      refine ⟨?_, ?_, ?_, ?_, trivial⟩
      · first | (rw [tabOf, hT] <;> rfl) | rfl | (simp [okStats, tabOf, hT, *]; done)
      · first | (rw [tabOf, hT] <;> rfl) | rfl | (simp [okStats, tabOf, hT, *]; done)
      · first | (rw [tabOf, hT] <;> rfl) | rfl | (simp [okStats, tabOf, hT, *]; done)
      · first | (rw [tabOf, hT] <;> rfl) | rfl | (simp [okStats, tabOf, hT, *]; done)
    · refine ⟨?_, ?_, ?_, ?_, trivial⟩
      · first | (rw [tabOf, hT] <;> rfl) | rfl | (simp [okStats, tabOf, hT, *]; done)
      · first | (rw [tabOf, hT] <;> rfl) | rfl | (simp [okStats, tabOf, hT, *]; done)
      · first | (rw [tabOf, hT] <;> rfl) | rfl | (simp [okStats, tabOf, hT, *]; done)
      · first | (rw [tabOf, hT] <;> rfl) | rfl | (simp [okStats, tabOf, hT, *]; done)

set_option maxRecDepth 100000 in
set_option maxHeartbeats 4000000 in
theorem okS_impl (x : TableStatsD) (hc : cTableStats x ≤ 1048576) : Con Tryz.prog 84 [.agg [.str x.name, .int .i64 x.arity, .int .i64 x.rowCount, .sl 157 3 (x.groups.map eGroupStats)]] (vB (okStats x)) [] := by
  refine con_x tbOk mixedW Tryz.func84 (by kernel_rfl) (.call (.tup [.agg [.p none (.str ((tabOf x).name)), vI ((tabOf x).arity), .own 0], vB (okStats x)]) [(0, .arr 25 1 true (((tabOf x).rows).map eIntS))] <| .fin []) ?_
  refine Eq.mpr (by kernel_rfl : _ = ((x.groups.map eGroupStats).length ≤ 9223372036854775807 → Con Tryz.prog 70 [.agg [.str x.name, .int .i64 x.arity, .int .i64 x.rowCount, .sl 157 3 (x.groups.map eGroupStats)]] (.tup [.agg [.p none (.str ((tabOf x).name)), vI ((tabOf x).arity), .own 0], vB (okStats x)]) [(0, .arr 25 1 true (((tabOf x).rows).map eIntS))] ∧ (okStats x) = (okStats x) ∧ True)) ?_
  intro n0
  simp only [List.length_map] at n0
  refine ⟨tabOf_impl x (by omega), ?_⟩
  exact ⟨rfl, trivial⟩
end Go.Proofs.YtjlagjhmlmfjeaaGreat
