/-
  Copies of statistics, the program's.
-/
import Derived.Test.YtjlagjhmlmfjeaaGreatFe
namespace Go.Proofs.YtjlagjhmlmfjeaaGreat
open Go.ChangeShapes Go.WideShapes Go.ChangeAt Go.RowKit
set_option linter.unusedVariables false
set_option linter.unusedSimpArgs false
set_option maxRecDepth 100000 in
set_option maxHeartbeats 4000000 in
theorem cpS_impl (x : TableStatsD) (hc : cTableStats x ≤ 1048576) : Con Tryz.prog 71 [.agg [.str x.name, .int .i64 x.arity, .int .i64 x.rowCount, .sl 157 3 (x.groups.map eGroupStats)]] (.agg [.p none (.str x.name), vI x.arity, vI x.rowCount, .own 0]) [(0, .arr 157 3 true (x.groups.map eGroupStats))] := by
  refine con_x tbOk mixedW Tryz.func71 (by kernel_rfl) (.len x.groups.length <| .loop (Nat × (List GroupStatsD)) (Q2 Nat (List GroupStatsD)) [3, 5, 6, 10, 11, 12, 13, 14, 15, 16, 17, 18, 19, 20, 21, 22, 23, 24, 25, 26, 27] [500, 600, 1700, 2000, 2300, 2500, 2600] (fun yy0 => [(3, .own 600), (10, vI (yy0.1 : Int))]) (fun yy0 => [(600, some (.arr 157 3 true (yy0.2.map eGroupStats)))]) (fun yy0 => yy0.1 ≤ x.groups.length ∧ yy0.2 = x.groups.take yy0.1) (fun yy0 => x.groups.length - yy0.1) (fun yy0 => .br (.elem GroupStatsD eGroupStats x.groups (fun e12 => .call (.own 0) [(0, .arr 3 1 true (e12.columns.map intD))] <| .call (.own 0) [(0, .arr 25 1 true (e12.values.map eIntS))] <| .call (.own 0) [(0, .arr 3 1 true (e12.counts.map intD))] <| .appx GroupStatsD eGroupStats yy0.2 e12 <| .back [(600, 2600)])) (.fin [(0, 600)]))) ?_
  refine Eq.mpr (by kernel_rfl : _ = ((x.groups.map eGroupStats).length ≤ 9223372036854775807 → (x.groups.map eGroupStats).length = x.groups.length ∧ ((∃ (k : Nat) (out : List GroupStatsD), (0 : Int) = (k : Int) ∧ [] = out.map eGroupStats ∧ k ≤ x.groups.length ∧ out = x.groups.take k) ∧ ∀ (k : Nat) (out : List GroupStatsD), (k ≤ x.groups.length ∧ out = x.groups.take k) → ((decide ((k : Int) < ((x.groups.length : Nat) : Int))) = true → 0 ≤ (k : Int) ∧ (x.groups.map eGroupStats = x.groups.map eGroupStats ∧ k < x.groups.length ∧ ∀ e12, x.groups[k]? = some e12 → Con Tryz.prog 133 [.one (.sl 3 1 (e12.columns.map intD))] (.own 0) [(0, .arr 3 1 true (e12.columns.map intD))] ∧ Con Tryz.prog 130 [.one (.sl 25 1 (e12.values.map eIntS))] (.own 0) [(0, .arr 25 1 true (e12.values.map eIntS))] ∧ Con Tryz.prog 133 [.one (.sl 3 1 (e12.counts.map intD))] (.own 0) [(0, .arr 3 1 true (e12.counts.map intD))] ∧ out.map eGroupStats = out.map eGroupStats ∧ e12.columns.map intD = e12.columns.map intD ∧ e12.values.map eIntS = e12.values.map eIntS ∧ e12.counts.map intD = e12.counts.map intD ∧ (out.length + 1) * 72 ≤ 140737488355328 ∧ inR ((k : Int) + (1 : Int)) ∧ ∃ (k' : Nat) (out' : List GroupStatsD), ((k : Int) + (1 : Int)) = (k' : Int) ∧ (out ++ [e12]).map eGroupStats = out'.map eGroupStats ∧ (k' ≤ x.groups.length ∧ out' = x.groups.take k') ∧ x.groups.length - k' < x.groups.length - k)) ∧ ((decide ((k : Int) < ((x.groups.length : Nat) : Int))) = false → x.name = x.name ∧ x.arity = x.arity ∧ x.rowCount = x.rowCount ∧ out.map eGroupStats = x.groups.map eGroupStats ∧ True)))) ?_
  intro n0
  simp only [List.length_map] at n0
  have q2 : cTableStats x = x.name.size + cGroupStatsS x.groups := rfl
  have q5 := cGroupStatsS_len x.groups
  refine ⟨List.length_map _, ?_⟩
  refine ⟨⟨0, ([] : List GroupStatsD), rfl, rfl, Nat.zero_le _, rfl⟩, fun k out ⟨hk, ho⟩ => ?_⟩
  refine ⟨fun c0 => ?_, fun c0 => ?_⟩
  · replace c0 := of_decide_eq_true c0
    refine ⟨by omega, ?_⟩
    refine ⟨rfl, by omega, fun e12 h12 => ?_⟩
    have q1 := cGroupStatsS_el h12
    have q3 : cGroupStats e12 = cIntS e12.columns + cIntSS e12.values + cIntS e12.counts := rfl
    have q6 : cIntS e12.columns = e12.columns.length := rfl
    have q7 : cIntS e12.counts = e12.counts.length := rfl
    have q8 := cIntSS_len e12.values
    refine ⟨cpI _ (by omega), ?_⟩
    refine ⟨cpR _ (by omega), ?_⟩
    refine ⟨cpI _ (by omega), ?_⟩
    refine ⟨rfl, rfl, rfl, rfl, by simp [ho]; omega, ?_⟩
    refine ⟨⟨by omega, by omega⟩, ?_⟩
    exact ⟨k + 1, out ++ [e12], rfl, rfl, ⟨by omega, by rw [ho, take_snoc h12]⟩, by omega⟩
  · replace c0 := of_decide_eq_false c0
    refine ⟨rfl, rfl, rfl, ?_, trivial⟩
    · rw [ho, List.take_of_length_le (by omega)]
end Go.Proofs.YtjlagjhmlmfjeaaGreat
