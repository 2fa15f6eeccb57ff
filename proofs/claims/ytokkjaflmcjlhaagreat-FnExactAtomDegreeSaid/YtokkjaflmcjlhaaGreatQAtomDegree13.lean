/-
  Contracts and plain laws, joined: part 14.
-/
import Derived.Test.YtokkjaflmcjlhaaGreatQAtomDegree8
import Derived.Test.YtokkjaflmcjlhaaGreatQAtomDegree7
import Derived.Test.YtokkjaflmcjlhaaGreatQAtomDegree10
import Derived.Test.YtokkjaflmcjlhaaGreatQAtomDegree12
import Derived.Test.YtokkjaflmcjlhaaGreatQAtomDegree11
import Derived.Test.YtokkjaflmcjlhaaGreatQAtomDegree9
namespace Go.Proofs.YtokkjaflmcjlhaaGreat
open Go.ChangeShapes Go.WideShapes Go.ChangeAt Go.RowKit
set_option linter.unusedVariables false
set_option linter.unusedSimpArgs false
set_option maxRecDepth 100000
set_option maxHeartbeats 4000000
abbrev k_cpS_spec (x : TableStatsD) : AV × List (Nat × Rs) := (.agg [.p none (.str x.name), vI x.arity, vI x.rowCount, .own 0], [(0, .arr 218 3 true (x.groups.map eGroupStats))])
abbrev K_cpS_spec (x : TableStatsD) : Prop := Con Tryz.prog 206 [.agg [.str x.name, .int .i64 x.arity, .int .i64 x.rowCount, .sl 218 3 (x.groups.map eGroupStats)]] (k_cpS_spec x).1 (k_cpS_spec x).2
theorem cpS_spec (x : TableStatsD) (hc : cTableStats x ≤ 1048576) : K_cpS_spec x := by
 refine con_x tbOk mixedW Tryz.func206 (by kernel_rfl) (.loop (Nat × (List GroupStatsD)) (Q2 Nat (List GroupStatsD)) [4, 5, 6, 14, 15, 16, 17, 18, 19, 20, 21, 22, 23, 24, 25, 26, 27, 28, 29, 30, 31, 32, 33, 34, 35, 36, 37, 38, 39, 40, 41, 42, 43, 44, 45, 46, 47, 48, 49, 50, 51, 52, 53, 54, 55, 56, 57, 58, 59, 60, 61, 62, 63, 64, 65, 66, 67, 68, 69, 70] [300, 500, 2100, 2800, 2900, 3600, 5100, 6100, 6200, 6300, 6800, 6900, 9000, 9001] (fun yy0 => [(4, vI (yy0.1 : Int))]) (fun yy0 => [(300, some (.box 121 [.p none (.str x.name), vI x.arity, vI x.rowCount, .own 9000])), (9000, some (.arr 218 3 true (yy0.2.map eGroupStats)))]) (fun yy0 => yy0.1 ≤ x.groups.length ∧ yy0.2 = x.groups.take yy0.1) (fun yy0 => x.groups.length - yy0.1) (fun yy0 => .len x.groups.length <| .br (.elem _ eGroupStats x.groups (fun e25 => .app Int intD ([] : List Int) e25.columns <| .elem _ eGroupStats x.groups (fun e33 => .app Int intD ([] : List Int) e33.counts <| .loop (Nat × (List (List Int))) (Q2 Nat (List (List Int))) [6, 38, 39, 40, 41, 42, 43, 44, 45, 46, 47, 48, 49, 50, 51, 52, 53, 54, 55, 56, 57, 58, 59, 60, 61, 62, 63, 64] [500, 5100, 6100, 6200, 6300, 9001] (fun yy1 => [(6, vI (yy1.1 : Int))]) (fun yy1 => [(500, some (.box 218 [.own 2800, .own 9001, .own 3600])), (9001, some (.arr 32 1 true (yy1.2.map eIntS)))]) (fun yy1 => yy1.1 ≤ e25.values.length ∧ yy1.2 = e25.values.take yy1.1) (fun yy1 => e25.values.length - yy1.1) (fun yy1 => .elem _ eGroupStats x.groups (fun e42 => .len e42.values.length <| .br (.elem _ eGroupStats x.groups (fun e55 => .elem _ eIntS e55.values (fun e59 => .app Int intD ([] : List Int) e59 <| .appx (List Int) eIntS yy1.2 (([] : List Int) ++ e59) <| .back [(500, 500), (9001, 6300)]))) (.appx GroupStatsD eGroupStats yy0.2 (⟨([] : List Int) ++ e25.columns, yy1.2, ([] : List Int) ++ e33.counts⟩ : GroupStatsD) <| .back [(300, 300), (9000, 6900)])))))) (.fin [(0, 9000)]))) ?_
 refine Eq.mpr (by kernel_rfl : _ = ((x.groups.map eGroupStats).length ≤ 9223372036854775807 → (∃ (k : Nat) (out : List GroupStatsD), (0 : Int) = (k : Int) ∧ x.name = x.name ∧ x.arity = x.arity ∧ x.rowCount = x.rowCount ∧ [] = out.map eGroupStats ∧ k ≤ x.groups.length ∧ out = x.groups.take k) ∧ ∀ (k : Nat) (out : List GroupStatsD), (k ≤ x.groups.length ∧ out = x.groups.take k) → Lm eGroupStats x.groups ∧ (((decide ((k : Int) < ((x.groups.length : Nat) : Int))) = true → 0 ≤ (k : Int) ∧ Em eGroupStats x.groups k fun e25 => [] = ([] : List Int).map intD ∧ e25.columns.map intD = e25.columns.map intD ∧ (∀ x, flatB (intD x) = true) ∧ (([] : List Int).length + e25.columns.length) * 8 ≤ 140737488355328 ∧ (0 ≤ (k : Int) ∧ Em eGroupStats x.groups k fun e33 => [] = ([] : List Int).map intD ∧ e33.counts.map intD = e33.counts.map intD ∧ (∀ x, flatB (intD x) = true) ∧ (([] : List Int).length + e33.counts.length) * 8 ≤ 140737488355328 ∧ ((∃ (i : Nat) (v : List (List Int)), (0 : Int) = (i : Int) ∧ [] = v.map eIntS ∧ i ≤ e25.values.length ∧ v = e25.values.take i) ∧ ∀ (i : Nat) (v : List (List Int)), (i ≤ e25.values.length ∧ v = e25.values.take i) → 0 ≤ (k : Int) ∧ Em eGroupStats x.groups k fun e42 => Lm eIntS e42.values ∧ (((decide ((i : Int) < ((e42.values.length : Nat) : Int))) = true → 0 ≤ (k : Int) ∧ Em eGroupStats x.groups k fun e55 => 0 ≤ (i : Int) ∧ Em eIntS e55.values i fun e59 => [] = ([] : List Int).map intD ∧ e59.map intD = e59.map intD ∧ (∀ x, flatB (intD x) = true) ∧ (([] : List Int).length + e59.length) * 8 ≤ 140737488355328 ∧ v.map eIntS = v.map eIntS ∧ (([] : List Int) ++ e59).map intD = (([] : List Int) ++ e59).map intD ∧ (v.length + 1) * 24 ≤ 140737488355328 ∧ inR ((i : Int) + (1 : Int)) ∧ ∃ (i' : Nat) (v' : List (List Int)), ((i : Int) + (1 : Int)) = (i' : Int) ∧ (v ++ [([] : List Int) ++ e59]).map eIntS = v'.map eIntS ∧ (i' ≤ e25.values.length ∧ v' = e25.values.take i') ∧ e25.values.length - i' < e25.values.length - i) ∧ ((decide ((i : Int) < ((e42.values.length : Nat) : Int))) = false → out.map eGroupStats = out.map eGroupStats ∧ (([] : List Int) ++ e25.columns).map intD = ((⟨([] : List Int) ++ e25.columns, v, ([] : List Int) ++ e33.counts⟩ : GroupStatsD).columns).map intD ∧ v.map eIntS = ((⟨([] : List Int) ++ e25.columns, v, ([] : List Int) ++ e33.counts⟩ : GroupStatsD).values).map eIntS ∧ (([] : List Int) ++ e33.counts).map intD = ((⟨([] : List Int) ++ e25.columns, v, ([] : List Int) ++ e33.counts⟩ : GroupStatsD).counts).map intD ∧ (out.length + 1) * 72 ≤ 140737488355328 ∧ inR ((k : Int) + (1 : Int)) ∧ ∃ (k' : Nat) (out' : List GroupStatsD), ((k : Int) + (1 : Int)) = (k' : Int) ∧ x.name = x.name ∧ x.arity = x.arity ∧ x.rowCount = x.rowCount ∧ (out ++ [(⟨([] : List Int) ++ e25.columns, v, ([] : List Int) ++ e33.counts⟩ : GroupStatsD)]).map eGroupStats = out'.map eGroupStats ∧ (k' ≤ x.groups.length ∧ out' = x.groups.take k') ∧ x.groups.length - k' < x.groups.length - k))))) ∧ ((decide ((k : Int) < ((x.groups.length : Nat) : Int))) = false → x.name = x.name ∧ x.arity = x.arity ∧ x.rowCount = x.rowCount ∧ out.map eGroupStats = x.groups.map eGroupStats ∧ True)))) ?_
 intro n0
 simp only [List.length_map] at n0
 have q2 : cTableStats x = x.name.size + cGroupStatsS x.groups := rfl
 have q5 := cGroupStatsS_len x.groups
 refine ⟨⟨0, ([] : List GroupStatsD), rfl, rfl, rfl, rfl, rfl, Nat.zero_le _, rfl⟩, fun k out ⟨hk, ho⟩ => ?_⟩
 refine ⟨List.length_map _, fun c0 => ?_, fun c0 => ?_⟩
 ·replace c0 := yq c0
  refine ⟨by omega, rfl, by omega, fun e25 h25 => ?_⟩
  try (obtain rfl := (same_at h25 h25).symm)
  have q1 := cGroupStatsS_el h25
  have q3 : cGroupStats e25 = cIntS e25.columns + cIntSS e25.values + cIntS e25.counts := rfl
  have q6 : cIntS e25.columns = e25.columns.length := rfl
  have q7 : cIntS e25.counts = e25.counts.length := rfl
  have q8 := cIntSS_len e25.values
  refine ⟨rfl, rfl, fun _ => rfl, by first | omega | (simp; omega) | (simp [ho]; omega) | (simp [hv]; omega), ?_⟩
  refine ⟨by omega, rfl, by omega, fun e33 h33 => ?_⟩
  try (obtain rfl := (same_at h25 h33).symm)
  refine ⟨rfl, rfl, fun _ => rfl, by first | omega | (simp; omega) | (simp [ho]; omega) | (simp [hv]; omega), ?_⟩
  refine ⟨⟨0, ([] : List (List Int)), rfl, rfl, Nat.zero_le _, rfl⟩, fun i v ⟨hi, hv⟩ => ?_⟩
  refine ⟨by omega, rfl, by omega, fun e42 h42 => ?_⟩
  try (obtain rfl := (same_at h25 h42).symm)
  refine ⟨List.length_map _, fun c1 => ?_, fun c1 => ?_⟩
  ·replace c1 := yq c1
   refine ⟨by omega, rfl, by omega, fun e55 h55 => ?_⟩
   try (obtain rfl := (same_at h25 h55).symm)
   refine ⟨by omega, rfl, by omega, fun e59 h59 => ?_⟩
   have hp3 := cIntSS_at h59
   refine ⟨rfl, rfl, fun _ => rfl, by first | omega | (simp; omega) | (simp [ho]; omega) | (simp [hv]; omega), ?_⟩
   refine ⟨rfl, rfl, by first | omega | (simp; omega) | (simp [ho]; omega) | (simp [hv]; omega), ⟨by omega, by omega⟩, ?_⟩
   exact ⟨i + 1, _, rfl, rfl, ⟨by omega, by rw [hv, take_snoc h59]; rfl⟩, by omega⟩
  ·replace c1 := nq c1
   have hvv : v = e25.values := by rw [hv, List.take_of_length_le (by omega)]
   refine ⟨rfl, rfl, rfl, rfl, by first | omega | (simp; omega) | (simp [ho]; omega) | (simp [hv]; omega), ⟨by omega, by omega⟩, ?_⟩
   exact ⟨k + 1, _, rfl, rfl, rfl, rfl, rfl, ⟨by omega, by rw [ho, take_snoc h25, hvv]; rfl⟩, by omega⟩
 ·replace c0 := nq c0
  refine ⟨rfl, rfl, rfl, ?_, trivial⟩
  ·first | rfl | (rw [ho, List.take_of_length_le (by omega)])
def hitS (n : ByteArray) (x : TableStatsD) : Bool := (x.name.toList == n.toList) && okStats x
def lookS (c : CatalogueD) (n : ByteArray) : TableStatsD × Bool := match c.tables.find? (hitS n) with | some x => (x, true) | none => (zTableStats, false)
theorem lookS_yes {c : CatalogueD} {n : ByteArray} {x : TableStatsD} (h : c.tables.find? (hitS n) = some x) : lookS c n = (x, true) := by rw [lookS, h]
theorem lookS_no {c : CatalogueD} {n : ByteArray} (h : c.tables.find? (hitS n) = none) : lookS c n = (zTableStats, false) := by rw [lookS, h]
theorem lookS_small (c : CatalogueD) (n : ByteArray) : cTableStats (lookS c n).1 ≤ cCatalogue c := by
  have hS : cCatalogue c = cTableStatsS c.tables := rfl
  cases h : c.tables.find? (hitS n) with
  | none => rw [lookS_no h]; exact Nat.zero_le _
  | some x =>
    rw [lookS_yes h, hS]
    obtain ⟨i, hi⟩ := List.getElem?_of_mem (List.mem_of_find?_eq_some h)
    exact cTableStatsS_el hi
abbrev k_look_impl (c : CatalogueD) (n : ByteArray) : AV × List (Nat × Rs) := (.tup [.agg [.p none (.str (((lookS c n).1).name)), vI (((lookS c n).1).arity), vI (((lookS c n).1).rowCount), .own 0], vB ((lookS c n).2)], [(0, .arr 218 3 true ((((lookS c n).1).groups).map eGroupStats))])
abbrev K_look_impl (c : CatalogueD) (n : ByteArray) : Prop := Con Tryz.prog 122 [.agg [.int .i64 c.version, .sl 121 4 (c.tables.map eTableStats)], .one (.str n)] (k_look_impl c n).1 (k_look_impl c n).2
theorem look_impl (c : CatalogueD) (n : ByteArray) (hc : cCatalogue c ≤ 1048576) : K_look_impl c n := by
 refine con_x tbOk mixedW Tryz.func122 (by kernel_rfl) (.len c.tables.length <| .loop Nat (Q1 Nat) [7, 11, 12, 13, 14, 15, 16, 17, 18, 19, 20, 21, 22, 25] [700] (fun k => [(11, vI (k : Int))]) (fun k => []) (fun k => k ≤ c.tables.length ∧ (c.tables.take k).all (fun y => !hitS n y) = true) (fun k => c.tables.length - k) (fun k => .br (.elem _ eTableStats c.tables (fun e13 => .br (.call (vB (okStats e13)) [] <| .lit <| .br (callP (k_cpS_impl e13) <| .fin [(0, 2400)]) (.back [])) (.back []))) (.fin []))) ?_
 refine Eq.mpr (by kernel_rfl : _ = ((c.tables.map eTableStats).length ≤ 9223372036854775807 → Lm eTableStats c.tables ∧ ((∃ (k : Nat), (0 : Int) = (k : Int) ∧ k ≤ c.tables.length ∧ (c.tables.take k).all (fun y => !hitS n y) = true) ∧ ∀ (k : Nat), (k ≤ c.tables.length ∧ (c.tables.take k).all (fun y => !hitS n y) = true) → ((decide ((k : Int) < ((c.tables.length : Nat) : Int))) = true → 0 ≤ (k : Int) ∧ Em eTableStats c.tables k fun e13 => ((e13.name.toList == n.toList) = true → K_okS_impl e13 ∧ (((okStats e13) = true → K_cpS_impl e13 ∧ e13.name = (((lookS c n).1).name) ∧ e13.arity = (((lookS c n).1).arity) ∧ e13.rowCount = (((lookS c n).1).rowCount) ∧ (true) = ((lookS c n).2) ∧ e13.groups.map eGroupStats = (((lookS c n).1).groups).map eGroupStats ∧ True) ∧ ((okStats e13) = false → inR ((k : Int) + (1 : Int)) ∧ ∃ (k' : Nat), ((k : Int) + (1 : Int)) = (k' : Int) ∧ (k' ≤ c.tables.length ∧ (c.tables.take k').all (fun y => !hitS n y) = true) ∧ c.tables.length - k' < c.tables.length - k))) ∧ ((e13.name.toList == n.toList) = false → inR ((k : Int) + (1 : Int)) ∧ ∃ (k' : Nat), ((k : Int) + (1 : Int)) = (k' : Int) ∧ (k' ≤ c.tables.length ∧ (c.tables.take k').all (fun y => !hitS n y) = true) ∧ c.tables.length - k' < c.tables.length - k)) ∧ ((decide ((k : Int) < ((c.tables.length : Nat) : Int))) = false → ByteArray.empty = (((lookS c n).1).name) ∧ (0 : Int) = (((lookS c n).1).arity) ∧ (0 : Int) = (((lookS c n).1).rowCount) ∧ (false) = ((lookS c n).2) ∧ [] = (((lookS c n).1).groups).map eGroupStats ∧ True)))) ?_
 intro n0
 simp only [List.length_map] at n0
 have hS : cCatalogue c = cTableStatsS c.tables := rfl
 refine ⟨List.length_map _, ⟨0, rfl, Nat.zero_le _, rfl⟩, fun k ⟨hk, ha⟩ => ?_⟩
 refine ⟨fun c0 => ?_, fun c0 => ?_⟩
 ·replace c0 := yq c0
  refine ⟨by omega, rfl, by omega, fun e13 h13 => ?_⟩
  try (obtain rfl := (same_at h13 h13).symm)
  have q1 := cTableStatsS_el h13
  refine ⟨fun g19 => ?_, fun g19 => ?_⟩
  ·refine ⟨okS_impl _ (by omega), fun c1 => ?_, fun c1 => ?_⟩
   ·have hf := find_at (p := hitS n) h13 ha (by simp [hitS, g19, c1])
    refine ⟨cpS_impl _ (by omega), ?_, ?_, ?_, ?_, ?_, trivial⟩
    ·first | (rw [lookS_yes hf] <;> rfl) | (rw [lookS_no hall] <;> rfl)
    ·first | (rw [lookS_yes hf] <;> rfl) | (rw [lookS_no hall] <;> rfl)
    ·first | (rw [lookS_yes hf] <;> rfl) | (rw [lookS_no hall] <;> rfl)
    ·first | (rw [lookS_yes hf] <;> rfl) | (rw [lookS_no hall] <;> rfl)
    ·first | (rw [lookS_yes hf] <;> rfl) | (rw [lookS_no hall] <;> rfl)
   ·refine ⟨⟨by omega, by omega⟩, ?_⟩
    exact ⟨k + 1, rfl, ⟨by omega, all_snoc h13 ha (by first | (simp [hitS, g19, c1]; done) | (simp [hitS, g19]; done))⟩, by omega⟩
  ·refine ⟨⟨by omega, by omega⟩, ?_⟩
   exact ⟨k + 1, rfl, ⟨by omega, all_snoc h13 ha (by first | (simp [hitS, g19, c1]; done) | (simp [hitS, g19]; done))⟩, by omega⟩
 ·replace c0 := nq c0
  have hall := find_no (all_done (by omega) ha)
  refine ⟨?_, ?_, ?_, ?_, ?_, trivial⟩
  ·first | (rw [lookS_yes hf] <;> rfl) | (rw [lookS_no hall] <;> rfl)
  ·first | (rw [lookS_yes hf] <;> rfl) | (rw [lookS_no hall] <;> rfl)
  ·first | (rw [lookS_yes hf] <;> rfl) | (rw [lookS_no hall] <;> rfl)
  ·first | (rw [lookS_yes hf] <;> rfl) | (rw [lookS_no hall] <;> rfl)
  ·first | (rw [lookS_yes hf] <;> rfl) | (rw [lookS_no hall] <;> rfl)
abbrev k_look_spec (c : CatalogueD) (n : ByteArray) : AV × List (Nat × Rs) := (.tup [.agg [.p none (.str (((lookS c n).1).name)), vI (((lookS c n).1).arity), vI (((lookS c n).1).rowCount), .own 0], vB ((lookS c n).2)], [(0, .arr 218 3 true ((((lookS c n).1).groups).map eGroupStats))])
abbrev K_look_spec (c : CatalogueD) (n : ByteArray) : Prop := Con Tryz.prog 166 [.agg [.int .i64 c.version, .sl 121 4 (c.tables.map eTableStats)], .one (.str n)] (k_look_spec c n).1 (k_look_spec c n).2
theorem look_spec (c : CatalogueD) (n : ByteArray) (hc : cCatalogue c ≤ 1048576) : K_look_spec c n := by
 refine con_x tbOk mixedW Tryz.func166 (by kernel_rfl) (.loop Nat (Q1 Nat) [6, 7, 8, 9, 10, 11, 12, 13, 14, 15, 16, 17, 18, 19, 20, 21, 22, 23, 24, 25, 26, 27, 28, 29] [] (fun k => [(6, vI (k : Int))]) (fun k => []) (fun k => k ≤ c.tables.length ∧ (c.tables.take k).all (fun y => !hitS n y) = true) (fun k => c.tables.length - k) (fun k => .len c.tables.length <| .br (.elem _ eTableStats c.tables (fun e17 => .br (.elem _ eTableStats c.tables (fun e26 => .call (vB (okStats e26)) [] <| .lit <| .br (.elem _ eTableStats c.tables (fun e33 => callP (k_cpS_spec e33) <| .fin [(0, 3500)])) (.back []))) (.back []))) (.fin []))) ?_
 refine Eq.mpr (by kernel_rfl : _ = ((c.tables.map eTableStats).length ≤ 9223372036854775807 → (∃ (k : Nat), (0 : Int) = (k : Int) ∧ k ≤ c.tables.length ∧ (c.tables.take k).all (fun y => !hitS n y) = true) ∧ ∀ (k : Nat), (k ≤ c.tables.length ∧ (c.tables.take k).all (fun y => !hitS n y) = true) → Lm eTableStats c.tables ∧ (((decide ((k : Int) < ((c.tables.length : Nat) : Int))) = true → 0 ≤ (k : Int) ∧ Em eTableStats c.tables k fun e17 => ((e17.name.toList == n.toList) = true → 0 ≤ (k : Int) ∧ Em eTableStats c.tables k fun e26 => K_okS_spec e26 ∧ (((okStats e26) = true → 0 ≤ (k : Int) ∧ Em eTableStats c.tables k fun e33 => K_cpS_spec e33 ∧ e33.name = (((lookS c n).1).name) ∧ e33.arity = (((lookS c n).1).arity) ∧ e33.rowCount = (((lookS c n).1).rowCount) ∧ (true) = ((lookS c n).2) ∧ e33.groups.map eGroupStats = (((lookS c n).1).groups).map eGroupStats ∧ True) ∧ ((okStats e26) = false → inR ((k : Int) + (1 : Int)) ∧ ∃ (k' : Nat), ((k : Int) + (1 : Int)) = (k' : Int) ∧ (k' ≤ c.tables.length ∧ (c.tables.take k').all (fun y => !hitS n y) = true) ∧ c.tables.length - k' < c.tables.length - k))) ∧ ((e17.name.toList == n.toList) = false → inR ((k : Int) + (1 : Int)) ∧ ∃ (k' : Nat), ((k : Int) + (1 : Int)) = (k' : Int) ∧ (k' ≤ c.tables.length ∧ (c.tables.take k').all (fun y => !hitS n y) = true) ∧ c.tables.length - k' < c.tables.length - k)) ∧ ((decide ((k : Int) < ((c.tables.length : Nat) : Int))) = false → ByteArray.empty = (((lookS c n).1).name) ∧ (0 : Int) = (((lookS c n).1).arity) ∧ (0 : Int) = (((lookS c n).1).rowCount) ∧ (false) = ((lookS c n).2) ∧ [] = (((lookS c n).1).groups).map eGroupStats ∧ True)))) ?_
 intro n0
 simp only [List.length_map] at n0
 have hS : cCatalogue c = cTableStatsS c.tables := rfl
 refine ⟨⟨0, rfl, Nat.zero_le _, rfl⟩, fun k ⟨hk, ha⟩ => ?_⟩
 refine ⟨List.length_map _, fun c0 => ?_, fun c0 => ?_⟩
 ·replace c0 := yq c0
  refine ⟨by omega, rfl, by omega, fun e17 h17 => ?_⟩
  try (obtain rfl := (same_at h17 h17).symm)
  have q1 := cTableStatsS_el h17
  refine ⟨fun g22 => ?_, fun g22 => ?_⟩
  ·refine ⟨by omega, rfl, by omega, fun e26 h26 => ?_⟩
   try (obtain rfl := (same_at h17 h26).symm)
   refine ⟨okS_spec _ (by omega), fun c1 => ?_, fun c1 => ?_⟩
   ·have hf := find_at (p := hitS n) h17 ha (by simp [hitS, g22, c1])
    refine ⟨by omega, rfl, by omega, fun e33 h33 => ?_⟩
    try (obtain rfl := (same_at h17 h33).symm)
    refine ⟨cpS_spec _ (by omega), ?_, ?_, ?_, ?_, ?_, trivial⟩
    ·first | (rw [lookS_yes hf] <;> rfl) | (rw [lookS_no hall] <;> rfl)
    ·first | (rw [lookS_yes hf] <;> rfl) | (rw [lookS_no hall] <;> rfl)
    ·first | (rw [lookS_yes hf] <;> rfl) | (rw [lookS_no hall] <;> rfl)
    ·first | (rw [lookS_yes hf] <;> rfl) | (rw [lookS_no hall] <;> rfl)
    ·first | (rw [lookS_yes hf] <;> rfl) | (rw [lookS_no hall] <;> rfl)
   ·refine ⟨⟨by omega, by omega⟩, ?_⟩
    exact ⟨k + 1, rfl, ⟨by omega, all_snoc h17 ha (by first | (simp [hitS, g22, c1]; done) | (simp [hitS, g22]; done))⟩, by omega⟩
  ·refine ⟨⟨by omega, by omega⟩, ?_⟩
   exact ⟨k + 1, rfl, ⟨by omega, all_snoc h17 ha (by first | (simp [hitS, g22, c1]; done) | (simp [hitS, g22]; done))⟩, by omega⟩
 ·replace c0 := nq c0
  have hall := find_no (all_done (by omega) ha)
  refine ⟨?_, ?_, ?_, ?_, ?_, trivial⟩
  ·first | (rw [lookS_yes hf] <;> rfl) | (rw [lookS_no hall] <;> rfl)
  ·first | (rw [lookS_yes hf] <;> rfl) | (rw [lookS_no hall] <;> rfl)
  ·first | (rw [lookS_yes hf] <;> rfl) | (rw [lookS_no hall] <;> rfl)
  ·first | (rw [lookS_yes hf] <;> rfl) | (rw [lookS_no hall] <;> rfl)
  ·first | (rw [lookS_yes hf] <;> rfl) | (rw [lookS_no hall] <;> rfl)
def isQFor (d : DatabaseD) (q : QueryD) : Bool := okQuery q && q.atoms.all fun a => (lookT d a.name).2 && decide ((lookT d a.name).1.arity = (a.vars.length : Nat))
def qOk (s : StoreD) (q : QueryD) (m : Int) : Bool := okStore s && (isQFor s.database q && inB m 1 (fullM q))
def statAt (s : StoreD) (q : QueryD) (i : Nat) : TableStatsD := (lookS s.catalogue (q.atoms.getD i zAtom).name).1
theorem isQ_parts {d : DatabaseD} {q : QueryD} (h : isQFor d q = true) : okQuery q = true ∧ ∀ a ∈ q.atoms, (lookT d a.name).2 = true ∧ (lookT d a.name).1.arity = (a.vars.length : Nat) := by
  simp only [isQFor, Bool.and_eq_true] at h
  exact ⟨h.1, fun a ha => by simpa using List.all_eq_true.1 h.2 a ha⟩
theorem qOk_parts {s : StoreD} {q : QueryD} {m : Int} (h : qOk s q m = true) : okStore s = true ∧ isQFor s.database q = true ∧ okQuery q = true ∧ 1 ≤ m ∧ m ≤ (1 : Int) * 2 ^ q.atoms.length - 1 ∧ m ≤ 15 ∧ okMask q m = true ∧ (1 ≤ q.atoms.length ∧ q.atoms.length ≤ 4) := by
  simp only [qOk, Bool.and_eq_true] at h
  have h1 := inB_true h.2.2
  have h2 := (isQ_parts h.2.1).1
  have h3 := okQ_parts h2
  have h4 := full_small h3.2.1
  rw [fullM_yes h2] at h1
  exact ⟨h.1, h.2.1, h2, h1.1, h1.2, by omega, by rw [okMask, h2, inB_mk (by omega) h1.2]; rfl, h3.2.1⟩
theorem qOk_one {s : StoreD} {q : QueryD} : qOk s q (fullM q) = qOk s q 1 := by
  cases h : isQFor s.database q with
  | false => simp [qOk, h]
  | true =>
    have h2 := (isQ_parts h).1
    have h3 := full_small (okQ_parts h2).2.1
    rw [qOk, qOk, h, fullM_yes h2, inB_mk h3.1 (Int.le_refl _), inB_mk (Int.le_refl _) h3.1]
abbrev K_isQ_impl (d : DatabaseD) (q : QueryD) : Prop := Con Tryz.prog 121 [.agg [.sl 162 3 (d.tables.map eTable)], .agg [.int .i64 q.variableCount, .sl 131 2 (q.atoms.map eAtom)]] (vB (isQFor d q)) []
theorem isQ_impl (d : DatabaseD) (q : QueryD) (hc : cDatabase d ≤ 1048576) : K_isQ_impl d q := by
 refine con_x tbOk mixedW Tryz.func121 (by kernel_rfl) (.call (vB (okQuery q)) [] <| .br (.fin []) (.len q.atoms.length <| .loop Nat (Q1 Nat) [6, 7, 8, 15, 16, 17, 18, 19, 20, 21, 22, 23, 24, 25, 26, 27, 28, 29, 30, 31, 32, 33, 34, 35, 36] [600, 700] (fun k => [(15, vI (k : Int))]) (fun k => []) (fun k => k ≤ q.atoms.length ∧ (q.atoms.take k).all (fun a => (lookT d a.name).2 && decide ((lookT d a.name).1.arity = (a.vars.length : Nat))) = true) (fun k => q.atoms.length - k) (fun k => .br (.elem _ eAtom q.atoms (fun e17 => .call (.tup [.agg [.p none (.str (((lookT d e17.name).1).name)), vI (((lookT d e17.name).1).arity), .p none (.sl 32 1 ((((lookT d e17.name).1).rows).map eIntS))], vB ((lookT d e17.name).2)]) [] <| .br (.fin []) (.len e17.vars.length <| .lit <| .lit <| .br (.fin []) (.back [])))) (.fin [])))) ?_
 refine Eq.mpr (by kernel_rfl : _ = ((d.tables.map eTable).length ≤ 9223372036854775807 → (q.atoms.map eAtom).length ≤ 9223372036854775807 → K_okQ_impl q ∧ (((!(okQuery q)) = true → (false) = (isQFor d q) ∧ True) ∧ ((!(okQuery q)) = false → Lm eAtom q.atoms ∧ ((∃ (k : Nat), (0 : Int) = (k : Int) ∧ k ≤ q.atoms.length ∧ (q.atoms.take k).all (fun a => (lookT d a.name).2 && decide ((lookT d a.name).1.arity = (a.vars.length : Nat))) = true) ∧ ∀ (k : Nat), (k ≤ q.atoms.length ∧ (q.atoms.take k).all (fun a => (lookT d a.name).2 && decide ((lookT d a.name).1.arity = (a.vars.length : Nat))) = true) → ((decide ((k : Int) < ((q.atoms.length : Nat) : Int))) = true → 0 ≤ (k : Int) ∧ Em eAtom q.atoms k fun e17 => Con Tryz.prog 148 [.agg [.sl 162 3 (d.tables.map eTable)], .one (.str e17.name)] (.tup [.agg [.p none (.str (((lookT d e17.name).1).name)), vI (((lookT d e17.name).1).arity), .p none (.sl 32 1 ((((lookT d e17.name).1).rows).map eIntS))], vB ((lookT d e17.name).2)]) [] ∧ (((!((lookT d e17.name).2)) = true → (false) = (isQFor d q) ∧ True) ∧ ((!((lookT d e17.name).2)) = false → Lm intD e17.vars ∧ (((!(decide ((((lookT d e17.name).1).arity) = ((e17.vars.length : Nat) : Int)))) = true → (false) = (isQFor d q) ∧ True) ∧ ((!(decide ((((lookT d e17.name).1).arity) = ((e17.vars.length : Nat) : Int)))) = false → inR ((k : Int) + (1 : Int)) ∧ ∃ (k' : Nat), ((k : Int) + (1 : Int)) = (k' : Int) ∧ (k' ≤ q.atoms.length ∧ (q.atoms.take k').all (fun a => (lookT d a.name).2 && decide ((lookT d a.name).1.arity = (a.vars.length : Nat))) = true) ∧ q.atoms.length - k' < q.atoms.length - k))))) ∧ ((decide ((k : Int) < ((q.atoms.length : Nat) : Int))) = false → (true) = (isQFor d q) ∧ True)))))) ?_
 intro n0 n1
 simp only [List.length_map] at n0 n1
 refine ⟨okQ_impl q, fun c0 => ?_, fun c0 => ?_⟩
 ·replace c0 := nt c0
  refine ⟨?_, trivial⟩
  ·first | (rw [isQFor, c0]; rfl) | (rw [isQFor, all_stop h17 hA, Bool.and_false]; done) | (rw [isQFor, c0, all_done (by omega) ha]; rfl)
 ·replace c0 := nf c0
  refine ⟨List.length_map _, ⟨0, rfl, Nat.zero_le _, rfl⟩, fun k ⟨hk, ha⟩ => ?_⟩
  refine ⟨fun c1 => ?_, fun c1 => ?_⟩
  ·replace c1 := yq c1
   refine ⟨by omega, rfl, by omega, fun e17 h17 => ?_⟩
   try (obtain rfl := (same_at h17 h17).symm)
   refine ⟨con_stl (lkT_impl _ e17.name (by omega)) rfl, fun g28 => ?_, fun g28 => ?_⟩
   ·replace g28 := nt g28
    have hA : ((lookT d e17.name).2 && decide ((lookT d e17.name).1.arity = (e17.vars.length : Nat))) = false := by first | (rw [g28]; rfl) | (rw [g28]; simp [c2]; done)
    refine ⟨?_, trivial⟩
    ·first | (rw [isQFor, c0]; rfl) | (rw [isQFor, all_stop h17 hA, Bool.and_false]; done) | (rw [isQFor, c0, all_done (by omega) ha]; rfl)
   ·replace g28 := nf g28
    refine ⟨List.length_map _, fun c2 => ?_, fun c2 => ?_⟩
    ·replace c2 := nq (nt c2)
     have hA : ((lookT d e17.name).2 && decide ((lookT d e17.name).1.arity = (e17.vars.length : Nat))) = false := by first | (rw [g28]; rfl) | (rw [g28]; simp [c2]; done)
     refine ⟨?_, trivial⟩
     ·first | (rw [isQFor, c0]; rfl) | (rw [isQFor, all_stop h17 hA, Bool.and_false]; done) | (rw [isQFor, c0, all_done (by omega) ha]; rfl)
    ·replace c2 := yq (nf c2)
     have hA : ((lookT d e17.name).2 && decide ((lookT d e17.name).1.arity = (e17.vars.length : Nat))) = true := by rw [g28]; simp [c2]
     refine ⟨⟨by omega, by omega⟩, ?_⟩
     exact ⟨k + 1, rfl, ⟨by omega, all_snoc h17 ha hA⟩, by omega⟩
  ·replace c1 := nq c1
   refine ⟨?_, trivial⟩
   ·first | (rw [isQFor, c0]; rfl) | (rw [isQFor, all_stop h17 hA, Bool.and_false]; done) | (rw [isQFor, c0, all_done (by omega) ha]; rfl)
abbrev K_full_impl (q : QueryD) : Prop := Con Tryz.prog 118 [.agg [.int .i64 q.variableCount, .sl 131 2 (q.atoms.map eAtom)]] (vI (fullM q)) []
theorem full_impl (q : QueryD) : K_full_impl q := by
 refine con_x tbOk mixedW Tryz.func118 (by kernel_rfl) (.call (vB (okQuery q)) [] <| .br (.fin []) (.len q.atoms.length <| .fin [])) ?_
 refine Eq.mpr (by kernel_rfl : _ = ((q.atoms.map eAtom).length ≤ 9223372036854775807 → K_okQ_impl q ∧ (((!(okQuery q)) = true → (0 : Int) = (fullM q) ∧ True) ∧ ((!(okQuery q)) = false → Lm eAtom q.atoms ∧ (0 ≤ ((q.atoms.length : Nat) : Int) ∧ ((q.atoms.length : Nat) : Int) ≤ 64) ∧ inR ((1 : Int) * 2 ^ q.atoms.length) ∧ inR (((1 : Int) * 2 ^ q.atoms.length) - (1 : Int)) ∧ (((1 : Int) * 2 ^ q.atoms.length) - (1 : Int)) = (fullM q) ∧ True)))) ?_
 intro n0
 simp only [List.length_map] at n0
 refine ⟨okQ_impl q, fun c0 => ?_, fun c0 => ?_⟩
 ·replace c0 := nt c0
  refine ⟨?_, trivial⟩
  ·first | (rw [fullM_no c0]; done) | (rw [fullM_yes c0]; done)
 ·replace c0 := nf c0
  have w := full_small (okQ_parts c0).2.1
  have w2 := (okQ_parts c0).2.1
  refine ⟨List.length_map _, ⟨by omega, by omega⟩, ⟨by omega, by omega⟩, ⟨by omega, by omega⟩, ?_, trivial⟩
  ·first | (rw [fullM_no c0]; done) | (rw [fullM_yes c0]; done)
abbrev K_isQ_spec (d : DatabaseD) (q : QueryD) : Prop := Con Tryz.prog 165 [.agg [.sl 162 3 (d.tables.map eTable)], .agg [.int .i64 q.variableCount, .sl 131 2 (q.atoms.map eAtom)]] (vB (isQFor d q)) []
theorem isQ_spec (d : DatabaseD) (q : QueryD) (hc : cDatabase d ≤ 1048576) : K_isQ_spec d q := by
 refine con_x tbOk mixedW Tryz.func165 (by kernel_rfl) (.call (vB (okQuery q)) [] <| .br (.fin []) (.loop Nat (Q1 Nat) [5, 6, 7, 11, 12, 13, 14, 15, 16, 17, 18, 19, 20, 21, 22, 23, 24, 25, 26, 27, 28, 29, 30, 31, 32, 33, 34, 35, 36, 37, 38, 39, 40, 41, 42] [600] (fun k => [(5, vI (k : Int))]) (fun k => []) (fun k => k ≤ q.atoms.length ∧ (q.atoms.take k).all (fun a => (lookT d a.name).2 && decide ((lookT d a.name).1.arity = (a.vars.length : Nat))) = true) (fun k => q.atoms.length - k) (fun k => .len q.atoms.length <| .br (.elem _ eAtom q.atoms (fun e23 => .call (.tup [.agg [.p none (.str (((lookT d e23.name).1).name)), vI (((lookT d e23.name).1).arity), .p none (.sl 32 1 ((((lookT d e23.name).1).rows).map eIntS))], vB ((lookT d e23.name).2)]) [] <| .br (.fin []) (.elem _ eAtom q.atoms (fun e37 => .len e37.vars.length <| .lit <| .lit <| .br (.fin []) (.back []))))) (.fin [])))) ?_
 refine Eq.mpr (by kernel_rfl : _ = ((d.tables.map eTable).length ≤ 9223372036854775807 → (q.atoms.map eAtom).length ≤ 9223372036854775807 → K_okQ_spec q ∧ (((!(okQuery q)) = true → (false) = (isQFor d q) ∧ True) ∧ ((!(okQuery q)) = false → (∃ (k : Nat), (0 : Int) = (k : Int) ∧ k ≤ q.atoms.length ∧ (q.atoms.take k).all (fun a => (lookT d a.name).2 && decide ((lookT d a.name).1.arity = (a.vars.length : Nat))) = true) ∧ ∀ (k : Nat), (k ≤ q.atoms.length ∧ (q.atoms.take k).all (fun a => (lookT d a.name).2 && decide ((lookT d a.name).1.arity = (a.vars.length : Nat))) = true) → Lm eAtom q.atoms ∧ (((decide ((k : Int) < ((q.atoms.length : Nat) : Int))) = true → 0 ≤ (k : Int) ∧ Em eAtom q.atoms k fun e23 => Con Tryz.prog 132 [.agg [.sl 162 3 (d.tables.map eTable)], .one (.str e23.name)] (.tup [.agg [.p none (.str (((lookT d e23.name).1).name)), vI (((lookT d e23.name).1).arity), .p none (.sl 32 1 ((((lookT d e23.name).1).rows).map eIntS))], vB ((lookT d e23.name).2)]) [] ∧ (((!((lookT d e23.name).2)) = true → (false) = (isQFor d q) ∧ True) ∧ ((!((lookT d e23.name).2)) = false → 0 ≤ (k : Int) ∧ Em eAtom q.atoms k fun e37 => Lm intD e37.vars ∧ (((!(decide ((((lookT d e23.name).1).arity) = ((e37.vars.length : Nat) : Int)))) = true → (false) = (isQFor d q) ∧ True) ∧ ((!(decide ((((lookT d e23.name).1).arity) = ((e37.vars.length : Nat) : Int)))) = false → inR ((k : Int) + (1 : Int)) ∧ ∃ (k' : Nat), ((k : Int) + (1 : Int)) = (k' : Int) ∧ (k' ≤ q.atoms.length ∧ (q.atoms.take k').all (fun a => (lookT d a.name).2 && decide ((lookT d a.name).1.arity = (a.vars.length : Nat))) = true) ∧ q.atoms.length - k' < q.atoms.length - k))))) ∧ ((decide ((k : Int) < ((q.atoms.length : Nat) : Int))) = false → (true) = (isQFor d q) ∧ True)))))) ?_
 intro n0 n1
 simp only [List.length_map] at n0 n1
 refine ⟨okQ_spec q, fun c0 => ?_, fun c0 => ?_⟩
 ·replace c0 := nt c0
  refine ⟨?_, trivial⟩
  ·first | (rw [isQFor, c0]; rfl) | (rw [isQFor, all_stop h23 hA, Bool.and_false]; done) | (rw [isQFor, c0, all_done (by omega) ha]; rfl)
 ·replace c0 := nf c0
  refine ⟨⟨0, rfl, Nat.zero_le _, rfl⟩, fun k ⟨hk, ha⟩ => ?_⟩
  refine ⟨List.length_map _, fun c1 => ?_, fun c1 => ?_⟩
  ·replace c1 := yq c1
   refine ⟨by omega, rfl, by omega, fun e23 h23 => ?_⟩
   try (obtain rfl := (same_at h23 h23).symm)
   refine ⟨con_stl (lkT_spec _ e23.name (by omega)) rfl, fun g31 => ?_, fun g31 => ?_⟩
   ·replace g31 := nt g31
    have hA : ((lookT d e23.name).2 && decide ((lookT d e23.name).1.arity = (e23.vars.length : Nat))) = false := by first | (rw [g31]; rfl) | (rw [g31]; simp [c2]; done)
    refine ⟨?_, trivial⟩
    ·first | (rw [isQFor, c0]; rfl) | (rw [isQFor, all_stop h23 hA, Bool.and_false]; done) | (rw [isQFor, c0, all_done (by omega) ha]; rfl)
   ·replace g31 := nf g31
    refine ⟨by omega, rfl, by omega, fun e37 h37 => ?_⟩
    try (obtain rfl := (same_at h23 h37).symm)
    refine ⟨List.length_map _, fun c2 => ?_, fun c2 => ?_⟩
    ·replace c2 := nq (nt c2)
     have hA : ((lookT d e23.name).2 && decide ((lookT d e23.name).1.arity = (e23.vars.length : Nat))) = false := by first | (rw [g31]; rfl) | (rw [g31]; simp [c2]; done)
     refine ⟨?_, trivial⟩
     ·first | (rw [isQFor, c0]; rfl) | (rw [isQFor, all_stop h23 hA, Bool.and_false]; done) | (rw [isQFor, c0, all_done (by omega) ha]; rfl)
    ·replace c2 := yq (nf c2)
     have hA : ((lookT d e23.name).2 && decide ((lookT d e23.name).1.arity = (e23.vars.length : Nat))) = true := by rw [g31]; simp [c2]
     refine ⟨⟨by omega, by omega⟩, ?_⟩
     exact ⟨k + 1, rfl, ⟨by omega, all_snoc h23 ha hA⟩, by omega⟩
  ·replace c1 := nq c1
   refine ⟨?_, trivial⟩
   ·first | (rw [isQFor, c0]; rfl) | (rw [isQFor, all_stop h23 hA, Bool.and_false]; done) | (rw [isQFor, c0, all_done (by omega) ha]; rfl)
abbrev K_full_spec (q : QueryD) : Prop := Con Tryz.prog 98 [.agg [.int .i64 q.variableCount, .sl 131 2 (q.atoms.map eAtom)]] (vI (fullM q)) []
theorem full_spec (q : QueryD) : K_full_spec q := by
 refine con_x tbOk mixedW Tryz.func98 (by kernel_rfl) (.call (vB (okQuery q)) [] <| .br (.fin []) (.len q.atoms.length <| .fin [])) ?_
 refine Eq.mpr (by kernel_rfl : _ = ((q.atoms.map eAtom).length ≤ 9223372036854775807 → K_okQ_spec q ∧ (((!(okQuery q)) = true → (0 : Int) = (fullM q) ∧ True) ∧ ((!(okQuery q)) = false → Lm eAtom q.atoms ∧ (0 ≤ ((q.atoms.length : Nat) : Int) ∧ ((q.atoms.length : Nat) : Int) ≤ 64) ∧ inR ((1 : Int) * 2 ^ q.atoms.length) ∧ inR (((1 : Int) * 2 ^ q.atoms.length) - (1 : Int)) ∧ (((1 : Int) * 2 ^ q.atoms.length) - (1 : Int)) = (fullM q) ∧ True)))) ?_
 intro n0
 simp only [List.length_map] at n0
 refine ⟨okQ_spec q, fun c0 => ?_, fun c0 => ?_⟩
 ·replace c0 := nt c0
  refine ⟨?_, trivial⟩
  ·first | (rw [fullM_no c0]; done) | (rw [fullM_yes c0]; done)
 ·replace c0 := nf c0
  have w := full_small (okQ_parts c0).2.1
  have w2 := (okQ_parts c0).2.1
  refine ⟨List.length_map _, ⟨by omega, by omega⟩, ⟨by omega, by omega⟩, ⟨by omega, by omega⟩, ?_, trivial⟩
  ·first | (rw [fullM_no c0]; done) | (rw [fullM_yes c0]; done)
abbrev k_acol_impl (a : AtomD) (l : List Int) : AV × List (Nat × Rs) := (.own 0, [(0, .arr 3 1 true ((atomCols a l).map intD))])
abbrev K_acol_impl (a : AtomD) (l : List Int) : Prop := Con Tryz.prog 111 [.agg [.str a.name, .sl 3 1 (a.vars.map intD)], .one (.sl 3 1 (l.map intD))] (k_acol_impl a l).1 (k_acol_impl a l).2
theorem acol_impl (a : AtomD) (l : List Int) (hl : a.vars.length ≤ 1048576) : K_acol_impl a l := by
 refine con_x tbOk mixedW Tryz.func111 (by kernel_rfl) (.len a.vars.length <| .loop (Nat × (List Int)) (Q2 Nat (List Int)) [5, 6, 7, 8, 12, 13, 14, 15, 16, 17, 18, 19, 20, 21, 22, 23, 24] [800, 2200, 2300] (fun yy0 => [(12, vI (yy0.1 : Int)), (5, .own 800)]) (fun yy0 => [(800, some (.arr 3 1 true (yy0.2.map intD)))]) (fun yy0 => yy0.1 ≤ a.vars.length ∧ yy0.2 = selN (fun i => decide (a.vars.getD i 0 ∈ l)) yy0.1) (fun yy0 => a.vars.length - yy0.1) (fun yy0 => .br (.elem _ intD a.vars (fun e15 => .call (vB (decide (e15 ∈ l))) [] <| .br (.app Int intD yy0.2 ([(yy0.1 : Int)] : List Int) <| .back [(800, 2300)]) (.back [(800, 800)]))) (.fin [(0, 800)]))) ?_
 refine Eq.mpr (by kernel_rfl : _ = ((a.vars.map intD).length ≤ 9223372036854775807 → (l.map intD).length ≤ 9223372036854775807 → Lm intD a.vars ∧ ((∃ (k : Nat) (out : List Int), (0 : Int) = (k : Int) ∧ [] = out.map intD ∧ k ≤ a.vars.length ∧ out = selN (fun i => decide (a.vars.getD i 0 ∈ l)) k) ∧ ∀ (k : Nat) (out : List Int), (k ≤ a.vars.length ∧ out = selN (fun i => decide (a.vars.getD i 0 ∈ l)) k) → ((decide ((k : Int) < ((a.vars.length : Nat) : Int))) = true → 0 ≤ (k : Int) ∧ Em intD a.vars k fun e15 => K_ctI l e15 ∧ (((decide (e15 ∈ l)) = true → out.map intD = out.map intD ∧ [[.int .i64 (k : Int)]] = ([(k : Int)] : List Int).map intD ∧ (∀ x, flatB (intD x) = true) ∧ (out.length + ([(k : Int)] : List Int).length) * 8 ≤ 140737488355328 ∧ inR ((k : Int) + (1 : Int)) ∧ ∃ (k' : Nat) (out' : List Int), ((k : Int) + (1 : Int)) = (k' : Int) ∧ (out ++ [(k : Int)]).map intD = out'.map intD ∧ (k' ≤ a.vars.length ∧ out' = selN (fun i => decide (a.vars.getD i 0 ∈ l)) k') ∧ a.vars.length - k' < a.vars.length - k) ∧ ((decide (e15 ∈ l)) = false → inR ((k : Int) + (1 : Int)) ∧ ∃ (k' : Nat) (out' : List Int), ((k : Int) + (1 : Int)) = (k' : Int) ∧ out.map intD = out'.map intD ∧ (k' ≤ a.vars.length ∧ out' = selN (fun i => decide (a.vars.getD i 0 ∈ l)) k') ∧ a.vars.length - k' < a.vars.length - k))) ∧ ((decide ((k : Int) < ((a.vars.length : Nat) : Int))) = false → out.map intD = (atomCols a l).map intD ∧ True)))) ?_
 intro n0 n1
 simp only [List.length_map] at n0 n1
 refine ⟨List.length_map _, ⟨0, ([] : List Int), rfl, rfl, Nat.zero_le _, rfl⟩, fun k out ⟨hk, ho⟩ => ?_⟩
 refine ⟨fun c0 => ?_, fun c0 => ?_⟩
 ·replace c0 := yq c0
  refine ⟨by omega, rfl, by omega, fun e15 h15 => ?_⟩
  refine ⟨ctI _ _, fun c1 => ?_, fun c1 => ?_⟩
  ·refine ⟨rfl, rfl, fun _ => rfl, by first | omega | (rw [ho]; have := selN_len (fun i => decide (a.vars.getD i 0 ∈ l)) k; simp only [List.length_cons, List.length_nil]; omega), ?_⟩
   refine ⟨⟨by omega, by omega⟩, ?_⟩
   exact ⟨k + 1, _, rfl, rfl, ⟨by omega, by first | (rw [ho, selN_yes (by rw [getD_at h15]; exact c1)]; done) | (rw [ho, selN_no (by rw [getD_at h15]; exact c1)]; done)⟩, by omega⟩
  ·refine ⟨⟨by omega, by omega⟩, ?_⟩
   exact ⟨k + 1, _, rfl, rfl, ⟨by omega, by first | (rw [ho, selN_yes (by rw [getD_at h15]; exact c1)]; done) | (rw [ho, selN_no (by rw [getD_at h15]; exact c1)]; done)⟩, by omega⟩
 ·replace c0 := nq c0
  refine ⟨?_, trivial⟩
  ·rw [atomCols, ho, show a.vars.length = k by omega]
abbrev k_acol_spec (a : AtomD) (l : List Int) : AV × List (Nat × Rs) := (.own 0, [(0, .arr 3 1 true ((atomCols a l).map intD))])
abbrev K_acol_spec (a : AtomD) (l : List Int) : Prop := Con Tryz.prog 101 [.agg [.str a.name, .sl 3 1 (a.vars.map intD)], .one (.sl 3 1 (l.map intD))] (k_acol_spec a l).1 (k_acol_spec a l).2
theorem acol_spec (a : AtomD) (l : List Int) (hl : a.vars.length ≤ 1048576) : K_acol_spec a l := by
 refine con_x tbOk mixedW Tryz.func101 (by kernel_rfl) (.loop (Nat × (List Int)) (Q2 Nat (List Int)) [5, 6, 7, 8, 9, 10, 11, 12, 13, 14, 15, 16, 17, 18, 19, 20, 21, 22, 23, 24, 25] [700, 2400, 2500] (fun yy0 => [(6, vI (yy0.1 : Int)), (5, .own 700)]) (fun yy0 => [(700, some (.arr 3 1 true (yy0.2.map intD)))]) (fun yy0 => yy0.1 ≤ a.vars.length ∧ yy0.2 = selN (fun i => decide (a.vars.getD i 0 ∈ l)) yy0.1) (fun yy0 => a.vars.length - yy0.1) (fun yy0 => .len a.vars.length <| .br (.elem _ intD a.vars (fun e19 => .call (vB (decide (e19 ∈ l))) [] <| .br (.app Int intD yy0.2 ([(yy0.1 : Int)] : List Int) <| .back [(700, 2500)]) (.back [(700, 700)]))) (.fin [(0, 700)]))) ?_
 refine Eq.mpr (by kernel_rfl : _ = ((a.vars.map intD).length ≤ 9223372036854775807 → (l.map intD).length ≤ 9223372036854775807 → (∃ (k : Nat) (out : List Int), (0 : Int) = (k : Int) ∧ [] = out.map intD ∧ k ≤ a.vars.length ∧ out = selN (fun i => decide (a.vars.getD i 0 ∈ l)) k) ∧ ∀ (k : Nat) (out : List Int), (k ≤ a.vars.length ∧ out = selN (fun i => decide (a.vars.getD i 0 ∈ l)) k) → Lm intD a.vars ∧ (((decide ((k : Int) < ((a.vars.length : Nat) : Int))) = true → 0 ≤ (k : Int) ∧ Em intD a.vars k fun e19 => K_hsI l e19 ∧ (((decide (e19 ∈ l)) = true → out.map intD = out.map intD ∧ [[.int .i64 (k : Int)]] = ([(k : Int)] : List Int).map intD ∧ (∀ x, flatB (intD x) = true) ∧ (out.length + ([(k : Int)] : List Int).length) * 8 ≤ 140737488355328 ∧ inR ((k : Int) + (1 : Int)) ∧ ∃ (k' : Nat) (out' : List Int), ((k : Int) + (1 : Int)) = (k' : Int) ∧ (out ++ [(k : Int)]).map intD = out'.map intD ∧ (k' ≤ a.vars.length ∧ out' = selN (fun i => decide (a.vars.getD i 0 ∈ l)) k') ∧ a.vars.length - k' < a.vars.length - k) ∧ ((decide (e19 ∈ l)) = false → inR ((k : Int) + (1 : Int)) ∧ ∃ (k' : Nat) (out' : List Int), ((k : Int) + (1 : Int)) = (k' : Int) ∧ out.map intD = out'.map intD ∧ (k' ≤ a.vars.length ∧ out' = selN (fun i => decide (a.vars.getD i 0 ∈ l)) k') ∧ a.vars.length - k' < a.vars.length - k))) ∧ ((decide ((k : Int) < ((a.vars.length : Nat) : Int))) = false → out.map intD = (atomCols a l).map intD ∧ True)))) ?_
 intro n0 n1
 simp only [List.length_map] at n0 n1
 refine ⟨⟨0, ([] : List Int), rfl, rfl, Nat.zero_le _, rfl⟩, fun k out ⟨hk, ho⟩ => ?_⟩
 refine ⟨List.length_map _, fun c0 => ?_, fun c0 => ?_⟩
 ·replace c0 := yq c0
  refine ⟨by omega, rfl, by omega, fun e19 h19 => ?_⟩
  refine ⟨hsI _ _, fun c1 => ?_, fun c1 => ?_⟩
  ·refine ⟨rfl, rfl, fun _ => rfl, by first | omega | (rw [ho]; have := selN_len (fun i => decide (a.vars.getD i 0 ∈ l)) k; simp only [List.length_cons, List.length_nil]; omega), ?_⟩
   refine ⟨⟨by omega, by omega⟩, ?_⟩
   exact ⟨k + 1, _, rfl, rfl, ⟨by omega, by first | (rw [ho, selN_yes (by rw [getD_at h19]; exact c1)]; done) | (rw [ho, selN_no (by rw [getD_at h19]; exact c1)]; done)⟩, by omega⟩
  ·refine ⟨⟨by omega, by omega⟩, ?_⟩
   exact ⟨k + 1, _, rfl, rfl, ⟨by omega, by first | (rw [ho, selN_yes (by rw [getD_at h19]; exact c1)]; done) | (rw [ho, selN_no (by rw [getD_at h19]; exact c1)]; done)⟩, by omega⟩
 ·replace c0 := nq c0
  refine ⟨?_, trivial⟩
  ·rw [atomCols, ho, show a.vars.length = k by omega]
def atomDeg (s : StoreD) (q : QueryD) (i : Nat) (l : List Int) : Int := (seqS (statAt s q i) (atomCols (q.atoms.getD i zAtom) l)).getD 0 0
def atOk (s : StoreD) (q : QueryD) (i : Int) : Bool := qOk s q 1 && inB i 0 ((q.atoms.length : Int) - 1)
def degA (s : StoreD) (q : QueryD) (i : Int) (l : List Int) : Int := if atOk s q i = true then atomDeg s q i.toNat l else -1
theorem degA_yes {s : StoreD} {q : QueryD} {i : Int} {l : List Int} (h : atOk s q i = true) : degA s q i l = atomDeg s q i.toNat l := by rw [degA, if_pos h]
theorem degA_no {s : StoreD} {q : QueryD} {i : Int} {l : List Int} (h : atOk s q i = false) : degA s q i l = -1 := by rw [degA, if_neg (by rw [h]; decide)]
theorem atOk_parts {s : StoreD} {q : QueryD} {i : Int} (h : atOk s q i = true) : qOk s q 1 = true ∧ 0 ≤ i ∧ i.toNat < q.atoms.length := by
  simp only [atOk, Bool.and_eq_true] at h
  have h1 := inB_true h.2
  exact ⟨h.1, h1.1, by omega⟩
end Go.Proofs.YtokkjaflmcjlhaaGreat
