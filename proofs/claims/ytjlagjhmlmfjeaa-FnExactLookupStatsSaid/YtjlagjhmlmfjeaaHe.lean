/-
  Statistics looked up, both sides.
-/
import Derived.Test.YtjlagjhmlmfjeaaHc
import Derived.Test.YtjlagjhmlmfjeaaHd
namespace Go.Proofs.Ytjlagjhmlmfjeaa
open Go.ChangeShapes Go.WideShapes Go.ChangeAt Go.RowKit
set_option linter.unusedVariables false
set_option linter.unusedSimpArgs false
def hitS (n : ByteArray) (x : TableStatsD) : Bool := (x.name.toList == n.toList) && okStats x
theorem find_at {α : Type} {p : α → Bool} {l : List α} {k : Nat} {x : α} (h : l[k]? = some x) (ha : (l.take k).all (fun y => !p y) = true) (hx : p x = true) : l.find? p = some x := by
  rw [List.find?_eq_some_iff_getElem]
  obtain ⟨hk, rfl⟩ := List.getElem?_eq_some_iff.1 h
  refine ⟨hx, k, hk, rfl, fun j hj => ?_⟩
  have := List.all_eq_true.1 ha l[j] (List.mem_iff_getElem.2 ⟨j, by simp; omega, by simp⟩)
  exact this
theorem find_no {α : Type} {p : α → Bool} {l : List α} (ha : l.all (fun y => !p y) = true) : l.find? p = none := by
  rw [List.find?_eq_none]
  intro x hx
  have := List.all_eq_true.1 ha x hx
  simpa using this
def lookS (c : CatalogueD) (n : ByteArray) : TableStatsD × Bool := match c.tables.find? (hitS n) with | some x => (x, true) | none => (zTableStats, false)
theorem lookS_yes {c : CatalogueD} {n : ByteArray} {x : TableStatsD} (h : c.tables.find? (hitS n) = some x) : lookS c n = (x, true) := by rw [lookS, h]
theorem lookS_no {c : CatalogueD} {n : ByteArray} (h : c.tables.find? (hitS n) = none) : lookS c n = (zTableStats, false) := by rw [lookS, h]
theorem lookS_small (c : CatalogueD) (n : ByteArray) : cTableStats (lookS c n).1 ≤ cCatalogue c := by
  have hS : cCatalogue c = cTableStatsS c.tables := rfl
  cases h : c.tables.find? (hitS n) with
  | none => rw [lookS_no h]; exact Nat.zero_le _
  | some x =>
    rw [lookS_yes h, hS]
    obtain ⟨i, hi⟩ := List.getElem?_of_mem (List.mem_of_find?_eq_some h)
    exact cTableStatsS_el hi

set_option maxRecDepth 100000 in
set_option maxHeartbeats 4000000 in
theorem look_impl (c : CatalogueD) (n : ByteArray) (hc : cCatalogue c ≤ 1048576) : Con Try.prog 26 [.agg [.int .i64 c.version, .sl 60 4 (c.tables.map eTableStats)], .one (.str n)] (.tup [.agg [.p none (.str (((lookS c n).1).name)), vI (((lookS c n).1).arity), vI (((lookS c n).1).rowCount), .own 0], vB ((lookS c n).2)]) [(0, .arr 104 3 true ((((lookS c n).1).groups).map eGroupStats))] := by
  refine con_x tbOk mixedW Try.func26 (by kernel_rfl) (.len c.tables.length <| .loop Nat (Q1 Nat) [7, 11, 12, 13, 14, 15, 16, 17, 18, 19, 20, 21, 22, 25] [700] (fun k => [(11, vI (k : Int))]) (fun k => []) (fun k => k ≤ c.tables.length ∧ (c.tables.take k).all (fun y => !hitS n y) = true) (fun k => c.tables.length - k) (fun k => .br (.elem TableStatsD eTableStats c.tables (fun e13 => .br (.call (vB (okStats e13)) [] <| .lit <| .br (.call (.agg [.p none (.str e13.name), vI e13.arity, vI e13.rowCount, .own 0]) [(0, .arr 104 3 true (e13.groups.map eGroupStats))] <| .fin [(0, 2400)]) (.back [])) (.back []))) (.fin []))) ?_
  refine Eq.mpr (by kernel_rfl : _ = ((c.tables.map eTableStats).length ≤ 9223372036854775807 → (c.tables.map eTableStats).length = c.tables.length ∧ ((∃ (k : Nat), (0 : Int) = (k : Int) ∧ k ≤ c.tables.length ∧ (c.tables.take k).all (fun y => !hitS n y) = true) ∧ ∀ (k : Nat), (k ≤ c.tables.length ∧ (c.tables.take k).all (fun y => !hitS n y) = true) → ((decide ((k : Int) < ((c.tables.length : Nat) : Int))) = true → 0 ≤ (k : Int) ∧ (c.tables.map eTableStats = c.tables.map eTableStats ∧ k < c.tables.length ∧ ∀ e13, c.tables[k]? = some e13 → ((e13.name.toList == n.toList) = true → Con Try.prog 62 [.agg [.str e13.name, .int .i64 e13.arity, .int .i64 e13.rowCount, .sl 104 3 (e13.groups.map eGroupStats)]] (vB (okStats e13)) [] ∧ (((okStats e13) = true → Con Try.prog 63 [.agg [.str e13.name, .int .i64 e13.arity, .int .i64 e13.rowCount, .sl 104 3 (e13.groups.map eGroupStats)]] (.agg [.p none (.str e13.name), vI e13.arity, vI e13.rowCount, .own 0]) [(0, .arr 104 3 true (e13.groups.map eGroupStats))] ∧ e13.name = (((lookS c n).1).name) ∧ e13.arity = (((lookS c n).1).arity) ∧ e13.rowCount = (((lookS c n).1).rowCount) ∧ (true) = ((lookS c n).2) ∧ e13.groups.map eGroupStats = (((lookS c n).1).groups).map eGroupStats ∧ True) ∧ ((okStats e13) = false → inR ((k : Int) + (1 : Int)) ∧ ∃ (k' : Nat), ((k : Int) + (1 : Int)) = (k' : Int) ∧ (k' ≤ c.tables.length ∧ (c.tables.take k').all (fun y => !hitS n y) = true) ∧ c.tables.length - k' < c.tables.length - k))) ∧ ((e13.name.toList == n.toList) = false → inR ((k : Int) + (1 : Int)) ∧ ∃ (k' : Nat), ((k : Int) + (1 : Int)) = (k' : Int) ∧ (k' ≤ c.tables.length ∧ (c.tables.take k').all (fun y => !hitS n y) = true) ∧ c.tables.length - k' < c.tables.length - k))) ∧ ((decide ((k : Int) < ((c.tables.length : Nat) : Int))) = false → ByteArray.empty = (((lookS c n).1).name) ∧ (0 : Int) = (((lookS c n).1).arity) ∧ (0 : Int) = (((lookS c n).1).rowCount) ∧ (false) = ((lookS c n).2) ∧ [] = (((lookS c n).1).groups).map eGroupStats ∧ True)))) ?_
  intro n0
  simp only [List.length_map] at n0
  have hS : cCatalogue c = cTableStatsS c.tables := rfl
  refine ⟨List.length_map _, ?_⟩
  refine ⟨⟨0, rfl, Nat.zero_le _, rfl⟩, fun k ⟨hk, ha⟩ => ?_⟩
  refine ⟨fun c0 => ?_, fun c0 => ?_⟩
  · replace c0 := of_decide_eq_true c0
    refine ⟨by omega, ?_⟩
    refine ⟨rfl, by omega, fun e13 h13 => ?_⟩
    try (obtain rfl := (same_at h13 h13).symm)
    have q1 := cTableStatsS_el h13
    refine ⟨fun g19 => ?_, fun g19 => ?_⟩
    · refine ⟨okS_impl _ (by omega), ?_⟩
      refine ⟨fun c1 => ?_, fun c1 => ?_⟩
      · have hf := find_at (p := hitS n) h13 ha (by simp [hitS, g19, c1])
        refine ⟨cpS_impl _ (by omega), ?_⟩
        refine ⟨?_, ?_, ?_, ?_, ?_, trivial⟩
        · first | (rw [lookS_yes hf] <;> rfl) | (rw [lookS_no hall] <;> rfl)
        · first | (rw [lookS_yes hf] <;> rfl) | (rw [lookS_no hall] <;> rfl)
        · first | (rw [lookS_yes hf] <;> rfl) | (rw [lookS_no hall] <;> rfl)
        · first | (rw [lookS_yes hf] <;> rfl) | (rw [lookS_no hall] <;> rfl)
        · first | (rw [lookS_yes hf] <;> rfl) | (rw [lookS_no hall] <;> rfl)
      · refine ⟨⟨by omega, by omega⟩, ?_⟩
        exact ⟨k + 1, rfl, ⟨by omega, all_snoc h13 ha (by first | (simp [hitS, g19, c1]; done) | (simp [hitS, g19]; done))⟩, by omega⟩
    · refine ⟨⟨by omega, by omega⟩, ?_⟩
      exact ⟨k + 1, rfl, ⟨by omega, all_snoc h13 ha (by first | (simp [hitS, g19, c1]; done) | (simp [hitS, g19]; done))⟩, by omega⟩
  · replace c0 := of_decide_eq_false c0
    have hall := find_no (all_done (by omega) ha)
    refine ⟨?_, ?_, ?_, ?_, ?_, trivial⟩
    · first | (rw [lookS_yes hf] <;> rfl) | (rw [lookS_no hall] <;> rfl)
    · first | (rw [lookS_yes hf] <;> rfl) | (rw [lookS_no hall] <;> rfl)
    · first | (rw [lookS_yes hf] <;> rfl) | (rw [lookS_no hall] <;> rfl)
    · first | (rw [lookS_yes hf] <;> rfl) | (rw [lookS_no hall] <;> rfl)
    · first | (rw [lookS_yes hf] <;> rfl) | (rw [lookS_no hall] <;> rfl)

set_option maxRecDepth 100000 in
set_option maxHeartbeats 4000000 in
theorem look_spec (c : CatalogueD) (n : ByteArray) (hc : cCatalogue c ≤ 1048576) : Con Try.prog 25 [.agg [.int .i64 c.version, .sl 60 4 (c.tables.map eTableStats)], .one (.str n)] (.tup [.agg [.p none (.str (((lookS c n).1).name)), vI (((lookS c n).1).arity), vI (((lookS c n).1).rowCount), .own 0], vB ((lookS c n).2)]) [(0, .arr 104 3 true ((((lookS c n).1).groups).map eGroupStats))] := by
  refine con_x tbOk mixedW Try.func25 (by kernel_rfl) (.loop Nat (Q1 Nat) [6, 7, 8, 9, 10, 11, 12, 13, 14, 15, 16, 17, 18, 19, 20, 21, 22, 23, 24, 25, 26, 27, 28, 29] [] (fun k => [(6, vI (k : Int))]) (fun k => []) (fun k => k ≤ c.tables.length ∧ (c.tables.take k).all (fun y => !hitS n y) = true) (fun k => c.tables.length - k) (fun k => .len c.tables.length <| .br (.elem TableStatsD eTableStats c.tables (fun e17 => .br (.elem TableStatsD eTableStats c.tables (fun e26 => .call (vB (okStats e26)) [] <| .lit <| .br (.elem TableStatsD eTableStats c.tables (fun e33 => .call (.agg [.p none (.str e33.name), vI e33.arity, vI e33.rowCount, .own 0]) [(0, .arr 104 3 true (e33.groups.map eGroupStats))] <| .fin [(0, 3500)])) (.back []))) (.back []))) (.fin []))) ?_
  refine Eq.mpr (by kernel_rfl : _ = ((c.tables.map eTableStats).length ≤ 9223372036854775807 → (∃ (k : Nat), (0 : Int) = (k : Int) ∧ k ≤ c.tables.length ∧ (c.tables.take k).all (fun y => !hitS n y) = true) ∧ ∀ (k : Nat), (k ≤ c.tables.length ∧ (c.tables.take k).all (fun y => !hitS n y) = true) → (c.tables.map eTableStats).length = c.tables.length ∧ (((decide ((k : Int) < ((c.tables.length : Nat) : Int))) = true → 0 ≤ (k : Int) ∧ (c.tables.map eTableStats = c.tables.map eTableStats ∧ k < c.tables.length ∧ ∀ e17, c.tables[k]? = some e17 → ((e17.name.toList == n.toList) = true → 0 ≤ (k : Int) ∧ (c.tables.map eTableStats = c.tables.map eTableStats ∧ k < c.tables.length ∧ ∀ e26, c.tables[k]? = some e26 → Con Try.prog 60 [.agg [.str e26.name, .int .i64 e26.arity, .int .i64 e26.rowCount, .sl 104 3 (e26.groups.map eGroupStats)]] (vB (okStats e26)) [] ∧ (((okStats e26) = true → 0 ≤ (k : Int) ∧ (c.tables.map eTableStats = c.tables.map eTableStats ∧ k < c.tables.length ∧ ∀ e33, c.tables[k]? = some e33 → Con Try.prog 61 [.agg [.str e33.name, .int .i64 e33.arity, .int .i64 e33.rowCount, .sl 104 3 (e33.groups.map eGroupStats)]] (.agg [.p none (.str e33.name), vI e33.arity, vI e33.rowCount, .own 0]) [(0, .arr 104 3 true (e33.groups.map eGroupStats))] ∧ e33.name = (((lookS c n).1).name) ∧ e33.arity = (((lookS c n).1).arity) ∧ e33.rowCount = (((lookS c n).1).rowCount) ∧ (true) = ((lookS c n).2) ∧ e33.groups.map eGroupStats = (((lookS c n).1).groups).map eGroupStats ∧ True)) ∧ ((okStats e26) = false → inR ((k : Int) + (1 : Int)) ∧ ∃ (k' : Nat), ((k : Int) + (1 : Int)) = (k' : Int) ∧ (k' ≤ c.tables.length ∧ (c.tables.take k').all (fun y => !hitS n y) = true) ∧ c.tables.length - k' < c.tables.length - k)))) ∧ ((e17.name.toList == n.toList) = false → inR ((k : Int) + (1 : Int)) ∧ ∃ (k' : Nat), ((k : Int) + (1 : Int)) = (k' : Int) ∧ (k' ≤ c.tables.length ∧ (c.tables.take k').all (fun y => !hitS n y) = true) ∧ c.tables.length - k' < c.tables.length - k))) ∧ ((decide ((k : Int) < ((c.tables.length : Nat) : Int))) = false → ByteArray.empty = (((lookS c n).1).name) ∧ (0 : Int) = (((lookS c n).1).arity) ∧ (0 : Int) = (((lookS c n).1).rowCount) ∧ (false) = ((lookS c n).2) ∧ [] = (((lookS c n).1).groups).map eGroupStats ∧ True)))) ?_
  intro n0
  simp only [List.length_map] at n0
  have hS : cCatalogue c = cTableStatsS c.tables := rfl
  refine ⟨⟨0, rfl, Nat.zero_le _, rfl⟩, fun k ⟨hk, ha⟩ => ?_⟩
  refine ⟨List.length_map _, ?_⟩
  refine ⟨fun c0 => ?_, fun c0 => ?_⟩
  · replace c0 := of_decide_eq_true c0
    refine ⟨by omega, ?_⟩
    refine ⟨rfl, by omega, fun e17 h17 => ?_⟩
    try (obtain rfl := (same_at h17 h17).symm)
    have q1 := cTableStatsS_el h17
    refine ⟨fun g22 => ?_, fun g22 => ?_⟩
    · refine ⟨by omega, ?_⟩
      refine ⟨rfl, by omega, fun e26 h26 => ?_⟩
      try (obtain rfl := (same_at h17 h26).symm)
      refine ⟨okS_spec _ (by omega), ?_⟩
      refine ⟨fun c1 => ?_, fun c1 => ?_⟩
      · have hf := find_at (p := hitS n) h17 ha (by simp [hitS, g22, c1])
        refine ⟨by omega, ?_⟩
        refine ⟨rfl, by omega, fun e33 h33 => ?_⟩
        try (obtain rfl := (same_at h17 h33).symm)
        refine ⟨cpS_spec _ (by omega), ?_⟩
        refine ⟨?_, ?_, ?_, ?_, ?_, trivial⟩
        · first | (rw [lookS_yes hf] <;> rfl) | (rw [lookS_no hall] <;> rfl)
        · first | (rw [lookS_yes hf] <;> rfl) | (rw [lookS_no hall] <;> rfl)
        · first | (rw [lookS_yes hf] <;> rfl) | (rw [lookS_no hall] <;> rfl)
        · first | (rw [lookS_yes hf] <;> rfl) | (rw [lookS_no hall] <;> rfl)
        · first | (rw [lookS_yes hf] <;> rfl) | (rw [lookS_no hall] <;> rfl)
      · refine ⟨⟨by omega, by omega⟩, ?_⟩
        exact ⟨k + 1, rfl, ⟨by omega, all_snoc h17 ha (by first | (simp [hitS, g22, c1]; done) | (simp [hitS, g22]; done))⟩, by omega⟩
    · refine ⟨⟨by omega, by omega⟩, ?_⟩
      exact ⟨k + 1, rfl, ⟨by omega, all_snoc h17 ha (by first | (simp [hitS, g22, c1]; done) | (simp [hitS, g22]; done))⟩, by omega⟩
  · replace c0 := of_decide_eq_false c0
    have hall := find_no (all_done (by omega) ha)
    refine ⟨?_, ?_, ?_, ?_, ?_, trivial⟩
    · first | (rw [lookS_yes hf] <;> rfl) | (rw [lookS_no hall] <;> rfl)
    · first | (rw [lookS_yes hf] <;> rfl) | (rw [lookS_no hall] <;> rfl)
    · first | (rw [lookS_yes hf] <;> rfl) | (rw [lookS_no hall] <;> rfl)
    · first | (rw [lookS_yes hf] <;> rfl) | (rw [lookS_no hall] <;> rfl)
    · first | (rw [lookS_yes hf] <;> rfl) | (rw [lookS_no hall] <;> rfl)
end Go.Proofs.Ytjlagjhmlmfjeaa
