/-
  Copies of statistics, the reference's.
-/
import Derived.Test.YtjlagjhmlmfjeaaGreatFf
import Derived.Test.YtjlagjhmlmfjeaaGreatGd
namespace Go.Proofs.YtjlagjhmlmfjeaaGreat
open Go.ChangeShapes Go.WideShapes Go.ChangeAt Go.RowKit
set_option linter.unusedVariables false
set_option linter.unusedSimpArgs false
set_option maxRecDepth 100000 in
set_option maxHeartbeats 4000000 in
theorem cpS_spec (x : TableStatsD) (hc : cTableStats x ≤ 1048576) : Con Tryz.prog 65 [.agg [.str x.name, .int .i64 x.arity, .int .i64 x.rowCount, .sl 157 3 (x.groups.map eGroupStats)]] (.agg [.p none (.str x.name), vI x.arity, vI x.rowCount, .own 0]) [(0, .arr 157 3 true (x.groups.map eGroupStats))] := by
  refine con_x tbOk mixedW Tryz.func65 (by kernel_rfl) (.loop (Nat × (List GroupStatsD)) (Q2 Nat (List GroupStatsD)) [4, 5, 6, 14, 15, 16, 17, 18, 19, 20, 21, 22, 23, 24, 25, 26, 27, 28, 29, 30, 31, 32, 33, 34, 35, 36, 37, 38, 39, 40, 41, 42, 43, 44, 45, 46, 47, 48, 49, 50, 51, 52, 53, 54, 55, 56, 57, 58, 59, 60, 61, 62, 63, 64, 65, 66, 67, 68, 69, 70] [300, 500, 2100, 2800, 2900, 3600, 5100, 6100, 6200, 6300, 6800, 6900, 9000, 9001] (fun yy0 => [(4, vI (yy0.1 : Int))]) (fun yy0 => [(300, some (.box 32 [.p none (.str x.name), vI x.arity, vI x.rowCount, .own 9000])), (9000, some (.arr 157 3 true (yy0.2.map eGroupStats)))]) (fun yy0 => yy0.1 ≤ x.groups.length ∧ yy0.2 = x.groups.take yy0.1) (fun yy0 => x.groups.length - yy0.1) (fun yy0 => .len x.groups.length <| .br (.elem GroupStatsD eGroupStats x.groups (fun e25 => .app Int intD ([] : List Int) e25.columns <| .elem GroupStatsD eGroupStats x.groups (fun e33 => .app Int intD ([] : List Int) e33.counts <| .loop (Nat × (List (List Int))) (Q2 Nat (List (List Int))) [6, 38, 39, 40, 41, 42, 43, 44, 45, 46, 47, 48, 49, 50, 51, 52, 53, 54, 55, 56, 57, 58, 59, 60, 61, 62, 63, 64] [500, 5100, 6100, 6200, 6300, 9001] (fun yy1 => [(6, vI (yy1.1 : Int))]) (fun yy1 => [(500, some (.box 157 [.own 2800, .own 9001, .own 3600])), (9001, some (.arr 25 1 true (yy1.2.map eIntS)))]) (fun yy1 => yy1.1 ≤ e25.values.length ∧ yy1.2 = e25.values.take yy1.1) (fun yy1 => e25.values.length - yy1.1) (fun yy1 => .elem GroupStatsD eGroupStats x.groups (fun e42 => .len e42.values.length <| .br (.elem GroupStatsD eGroupStats x.groups (fun e55 => .elem (List Int) eIntS e55.values (fun e59 => .app Int intD ([] : List Int) e59 <| .appx (List Int) eIntS yy1.2 (([] : List Int) ++ e59) <| .back [(500, 500), (9001, 6300)]))) (.appx GroupStatsD eGroupStats yy0.2 (⟨([] : List Int) ++ e25.columns, yy1.2, ([] : List Int) ++ e33.counts⟩ : GroupStatsD) <| .back [(300, 300), (9000, 6900)])))))) (.fin [(0, 9000)]))) ?_
  refine Eq.mpr (by kernel_rfl : _ = ((x.groups.map eGroupStats).length ≤ 9223372036854775807 → (∃ (k : Nat) (out : List GroupStatsD), (0 : Int) = (k : Int) ∧ x.name = x.name ∧ x.arity = x.arity ∧ x.rowCount = x.rowCount ∧ [] = out.map eGroupStats ∧ k ≤ x.groups.length ∧ out = x.groups.take k) ∧ ∀ (k : Nat) (out : List GroupStatsD), (k ≤ x.groups.length ∧ out = x.groups.take k) → (x.groups.map eGroupStats).length = x.groups.length ∧ (((decide ((k : Int) < ((x.groups.length : Nat) : Int))) = true → 0 ≤ (k : Int) ∧ (x.groups.map eGroupStats = x.groups.map eGroupStats ∧ k < x.groups.length ∧ ∀ e25, x.groups[k]? = some e25 → [] = ([] : List Int).map intD ∧ e25.columns.map intD = e25.columns.map intD ∧ (∀ x, flatB (intD x) = true) ∧ (([] : List Int).length + e25.columns.length) * 8 ≤ 140737488355328 ∧ (0 ≤ (k : Int) ∧ (x.groups.map eGroupStats = x.groups.map eGroupStats ∧ k < x.groups.length ∧ ∀ e33, x.groups[k]? = some e33 → [] = ([] : List Int).map intD ∧ e33.counts.map intD = e33.counts.map intD ∧ (∀ x, flatB (intD x) = true) ∧ (([] : List Int).length + e33.counts.length) * 8 ≤ 140737488355328 ∧ ((∃ (i : Nat) (v : List (List Int)), (0 : Int) = (i : Int) ∧ [] = v.map eIntS ∧ i ≤ e25.values.length ∧ v = e25.values.take i) ∧ ∀ (i : Nat) (v : List (List Int)), (i ≤ e25.values.length ∧ v = e25.values.take i) → 0 ≤ (k : Int) ∧ (x.groups.map eGroupStats = x.groups.map eGroupStats ∧ k < x.groups.length ∧ ∀ e42, x.groups[k]? = some e42 → (e42.values.map eIntS).length = e42.values.length ∧ (((decide ((i : Int) < ((e42.values.length : Nat) : Int))) = true → 0 ≤ (k : Int) ∧ (x.groups.map eGroupStats = x.groups.map eGroupStats ∧ k < x.groups.length ∧ ∀ e55, x.groups[k]? = some e55 → 0 ≤ (i : Int) ∧ (e55.values.map eIntS = e55.values.map eIntS ∧ i < e55.values.length ∧ ∀ e59, e55.values[i]? = some e59 → [] = ([] : List Int).map intD ∧ e59.map intD = e59.map intD ∧ (∀ x, flatB (intD x) = true) ∧ (([] : List Int).length + e59.length) * 8 ≤ 140737488355328 ∧ v.map eIntS = v.map eIntS ∧ (([] : List Int) ++ e59).map intD = (([] : List Int) ++ e59).map intD ∧ (v.length + 1) * 24 ≤ 140737488355328 ∧ inR ((i : Int) + (1 : Int)) ∧ ∃ (i' : Nat) (v' : List (List Int)), ((i : Int) + (1 : Int)) = (i' : Int) ∧ (v ++ [([] : List Int) ++ e59]).map eIntS = v'.map eIntS ∧ (i' ≤ e25.values.length ∧ v' = e25.values.take i') ∧ e25.values.length - i' < e25.values.length - i))) ∧ ((decide ((i : Int) < ((e42.values.length : Nat) : Int))) = false → out.map eGroupStats = out.map eGroupStats ∧ (([] : List Int) ++ e25.columns).map intD = ((⟨([] : List Int) ++ e25.columns, v, ([] : List Int) ++ e33.counts⟩ : GroupStatsD).columns).map intD ∧ v.map eIntS = ((⟨([] : List Int) ++ e25.columns, v, ([] : List Int) ++ e33.counts⟩ : GroupStatsD).values).map eIntS ∧ (([] : List Int) ++ e33.counts).map intD = ((⟨([] : List Int) ++ e25.columns, v, ([] : List Int) ++ e33.counts⟩ : GroupStatsD).counts).map intD ∧ (out.length + 1) * 72 ≤ 140737488355328 ∧ inR ((k : Int) + (1 : Int)) ∧ ∃ (k' : Nat) (out' : List GroupStatsD), ((k : Int) + (1 : Int)) = (k' : Int) ∧ x.name = x.name ∧ x.arity = x.arity ∧ x.rowCount = x.rowCount ∧ (out ++ [(⟨([] : List Int) ++ e25.columns, v, ([] : List Int) ++ e33.counts⟩ : GroupStatsD)]).map eGroupStats = out'.map eGroupStats ∧ (k' ≤ x.groups.length ∧ out' = x.groups.take k') ∧ x.groups.length - k' < x.groups.length - k)))))))) ∧ ((decide ((k : Int) < ((x.groups.length : Nat) : Int))) = false → x.name = x.name ∧ x.arity = x.arity ∧ x.rowCount = x.rowCount ∧ out.map eGroupStats = x.groups.map eGroupStats ∧ True)))) ?_
  intro n0
  simp only [List.length_map] at n0
  have q2 : cTableStats x = x.name.size + cGroupStatsS x.groups := rfl
  have q5 := cGroupStatsS_len x.groups
  refine ⟨⟨0, ([] : List GroupStatsD), rfl, rfl, rfl, rfl, rfl, Nat.zero_le _, rfl⟩, fun k out ⟨hk, ho⟩ => ?_⟩
  refine ⟨List.length_map _, ?_⟩
  refine ⟨fun c0 => ?_, fun c0 => ?_⟩
  · replace c0 := of_decide_eq_true c0
    refine ⟨by omega, ?_⟩
    refine ⟨rfl, by omega, fun e25 h25 => ?_⟩
    try (obtain rfl := (same_at h25 h25).symm)
    have q1 := cGroupStatsS_el h25
    have q3 : cGroupStats e25 = cIntS e25.columns + cIntSS e25.values + cIntS e25.counts := rfl
    have q6 : cIntS e25.columns = e25.columns.length := rfl
    have q7 : cIntS e25.counts = e25.counts.length := rfl
    have q8 := cIntSS_len e25.values
    refine ⟨rfl, rfl, fun _ => rfl, by first | omega | (simp; omega) | (simp [ho]; omega) | (simp [hv]; omega), ?_⟩
    refine ⟨by omega, ?_⟩
    refine ⟨rfl, by omega, fun e33 h33 => ?_⟩
    try (obtain rfl := (same_at h25 h33).symm)
    refine ⟨rfl, rfl, fun _ => rfl, by first | omega | (simp; omega) | (simp [ho]; omega) | (simp [hv]; omega), ?_⟩
    refine ⟨⟨0, ([] : List (List Int)), rfl, rfl, Nat.zero_le _, rfl⟩, fun i v ⟨hi, hv⟩ => ?_⟩
    refine ⟨by omega, ?_⟩
    refine ⟨rfl, by omega, fun e42 h42 => ?_⟩
    try (obtain rfl := (same_at h25 h42).symm)
    refine ⟨List.length_map _, ?_⟩
    refine ⟨fun c1 => ?_, fun c1 => ?_⟩
    · replace c1 := of_decide_eq_true c1
      refine ⟨by omega, ?_⟩
      refine ⟨rfl, by omega, fun e55 h55 => ?_⟩
      try (obtain rfl := (same_at h25 h55).symm)
      refine ⟨by omega, ?_⟩
      refine ⟨rfl, by omega, fun e59 h59 => ?_⟩
      have hp3 := cIntSS_at h59
      refine ⟨rfl, rfl, fun _ => rfl, by first | omega | (simp; omega) | (simp [ho]; omega) | (simp [hv]; omega), ?_⟩
      refine ⟨rfl, rfl, by first | omega | (simp; omega) | (simp [ho]; omega) | (simp [hv]; omega), ?_⟩
      refine ⟨⟨by omega, by omega⟩, ?_⟩
      exact ⟨i + 1, _, rfl, rfl, ⟨by omega, by rw [hv, take_snoc h59]; rfl⟩, by omega⟩
    · replace c1 := of_decide_eq_false c1
      have hvv : v = e25.values := by rw [hv, List.take_of_length_le (by omega)]
      refine ⟨rfl, rfl, rfl, rfl, by first | omega | (simp; omega) | (simp [ho]; omega) | (simp [hv]; omega), ?_⟩
      refine ⟨⟨by omega, by omega⟩, ?_⟩
      exact ⟨k + 1, _, rfl, rfl, rfl, rfl, rfl, ⟨by omega, by rw [ho, take_snoc h25, hvv]; rfl⟩, by omega⟩
  · replace c0 := of_decide_eq_false c0
    refine ⟨rfl, rfl, rfl, ?_, trivial⟩
    · first | rfl | (rw [ho, List.take_of_length_le (by omega)])
end Go.Proofs.YtjlagjhmlmfjeaaGreat
