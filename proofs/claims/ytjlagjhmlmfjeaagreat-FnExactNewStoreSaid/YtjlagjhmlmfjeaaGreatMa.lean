/-
  Tables looked up, both sides.
-/
import Derived.Test.YtjlagjhmlmfjeaaGreatJa
import Derived.Test.YtjlagjhmlmfjeaaGreatJb
import Derived.Test.YtjlagjhmlmfjeaaGreatFd
import Derived.Test.YtjlagjhmlmfjeaaGreatHb
namespace Go.Proofs.YtjlagjhmlmfjeaaGreat
open Go.ChangeShapes Go.WideShapes Go.ChangeAt Go.RowKit
set_option linter.unusedVariables false
set_option linter.unusedSimpArgs false
abbrev isN (n : ByteArray) : TableD → Bool := fun t => t.name.toList == n.toList
abbrev isI (v : Int) : Int → Bool := fun y => decide (v = y)
theorem idxF_find {α : Type} {p : α → Bool} {l : List α} : (idxF p l < 0 → l.find? p = none) ∧ (0 ≤ idxF p l → ∃ (k : Nat) (x : α), idxF p l = (k : Int) ∧ l[k]? = some x ∧ l.find? p = some x) := by
  unfold idxF
  cases e : l.findIdx? p with
  | none =>
    rw [List.findIdx?_eq_none_iff] at e
    refine ⟨fun _ => List.find?_eq_none.2 fun x hx => by rw [e x hx]; decide, fun h => absurd h (by decide)⟩
  | some k =>
    rw [List.findIdx?_eq_some_iff_getElem] at e
    obtain ⟨hk, hx, hj⟩ := e
    refine ⟨fun h => absurd h (by simp only; omega), fun _ => ⟨k, l[k], rfl, List.getElem?_eq_getElem hk, ?_⟩⟩
    rw [List.find?_eq_some_iff_getElem]
    exact ⟨hx, k, hk, rfl, fun j hjk => by have := hj j hjk; simpa using this⟩
theorem idxF_mem {l : List Int} {v : Int} : decide (0 ≤ idxF (isI v) l) = decide (v ∈ l) := by
  apply Bool.eq_iff_iff.2
  rw [decide_eq_true_eq, decide_eq_true_eq]
  constructor
  · intro h
    obtain ⟨k, x, _, hx, hf⟩ := idxF_find.2 h
    have h1 := List.find?_some hf
    have : v = x := by simpa [isI] using h1
    rw [this]; exact List.mem_of_getElem? hx
  · intro h
    rcases Int.lt_or_le (idxF (isI v) l) 0 with q | q
    · have := idxF_find.1 q
      rw [List.find?_eq_none] at this
      exact absurd (this v h) (by simp [isI])
    · exact q
def lookT (d : DatabaseD) (n : ByteArray) : TableD × Bool := if okDb d = true then (match d.tables.find? (isN n) with | some t => (t, true) | none => (zTable, false)) else (zTable, false)
theorem lookT_no {d : DatabaseD} {n : ByteArray} (h : okDb d = false ∨ d.tables.find? (isN n) = none) : lookT d n = (zTable, false) := by
  unfold lookT
  rcases h with h | h
  · rw [if_neg (by rw [h]; decide)]
  · rw [h]; split <;> rfl
theorem lookT_yes {d : DatabaseD} {n : ByteArray} {t : TableD} (h : okDb d = true) (hf : d.tables.find? (isN n) = some t) : lookT d n = (t, true) := by rw [lookT, if_pos h, hf]
theorem okDb_all {d : DatabaseD} (h : okDb d = true) : d.tables.all okTable = true := by
  simp only [okDb, Bool.and_eq_true] at h
  exact h.1
theorem lookT_ok {d : DatabaseD} {n : ByteArray} (h : (lookT d n).2 = true) : okTable (lookT d n).1 = true ∧ okDb d = true := by
  unfold lookT at *
  split at h
  · rename_i hd
    rw [if_pos hd]
    cases e : d.tables.find? (isN n) with
    | none => rw [e] at h; cases h
    | some t => exact ⟨List.all_eq_true.1 (okDb_all hd) t (List.mem_of_find?_eq_some e), hd⟩
  · cases h
theorem lookT_bad {d : DatabaseD} {n : ByteArray} (h : (lookT d n).2 = false) : (lookT d n).1 = zTable := by
  unfold lookT at *
  split at h
  · rename_i hd
    rw [if_pos hd]
    cases e : d.tables.find? (isN n) with
    | none => rfl
    | some t => rw [e] at h; cases h
  · rename_i hd; rw [if_neg hd]

set_option maxRecDepth 100000 in
set_option maxHeartbeats 4000000 in
theorem lkT1 (t : TableD) (n : ByteArray) : Con Tryz.prog 234 [.agg [.str t.name, .int .i64 t.arity, .sl 25 1 (t.rows.map eIntS)], .ref [.str n]] (vB (isN n t)) [] := by
  refine con_x tbOk mixedW Tryz.func234 (by kernel_rfl) (.fin []) ?_
  refine Eq.mpr (by kernel_rfl : _ = ((t.rows.map eIntS).length ≤ 9223372036854775807 → (t.name.toList == n.toList) = (isN n t) ∧ True)) ?_
  intro n0
  simp only [List.length_map] at n0
  refine ⟨?_, trivial⟩
  · rfl

set_option maxRecDepth 100000 in
set_option maxHeartbeats 4000000 in
theorem lkTF (l : List TableD) (n : ByteArray) : Con Tryz.prog 233 [.one (.sl 107 3 (l.map eTable)), .fn 234 [[.str n]]] (vI (idxF (isN n) l)) [] := by
  refine con_x tbOk mixedW Tryz.func233 (by kernel_rfl) (.len l.length <| .loop Nat (Q1 Nat) [5, 8, 9, 10, 11, 12, 13, 14, 15, 16, 18] [] (fun k => [(8, vI (k : Int))]) (fun k => []) (fun k => k ≤ l.length ∧ (l.take k).all (fun y => !isN n y) = true) (fun k => l.length - k) (fun k => .br (.elem TableD eTable l (fun e14 => .call (vB (isN n e14)) [] <| .br (.fin []) (.back []))) (.fin []))) ?_
  refine Eq.mpr (by kernel_rfl : _ = ((l.map eTable).length ≤ 9223372036854775807 → (l.map eTable).length = l.length ∧ ((∃ (k : Nat), (0 : Int) = (k : Int) ∧ k ≤ l.length ∧ (l.take k).all (fun y => !isN n y) = true) ∧ ∀ (k : Nat), (k ≤ l.length ∧ (l.take k).all (fun y => !isN n y) = true) → ((decide ((k : Int) < ((l.length : Nat) : Int))) = true → 0 ≤ (k : Int) ∧ (l.map eTable = l.map eTable ∧ k < l.length ∧ ∀ e14, l[k]? = some e14 → Con Tryz.prog 234 [.agg [.str e14.name, .int .i64 e14.arity, .sl 25 1 (e14.rows.map eIntS)], .ref [.str n]] (vB (isN n e14)) [] ∧ (((isN n e14) = true → (k : Int) = (idxF (isN n) l) ∧ True) ∧ ((isN n e14) = false → inR ((k : Int) + (1 : Int)) ∧ ∃ (k' : Nat), ((k : Int) + (1 : Int)) = (k' : Int) ∧ (k' ≤ l.length ∧ (l.take k').all (fun y => !isN n y) = true) ∧ l.length - k' < l.length - k)))) ∧ ((decide ((k : Int) < ((l.length : Nat) : Int))) = false → (-1 : Int) = (idxF (isN n) l) ∧ True)))) ?_
  intro n0
  simp only [List.length_map] at n0
  refine ⟨List.length_map _, ?_⟩
  refine ⟨⟨0, rfl, Nat.zero_le _, rfl⟩, fun k ⟨hk, ha⟩ => ?_⟩
  refine ⟨fun c0 => ?_, fun c0 => ?_⟩
  · replace c0 := of_decide_eq_true c0
    refine ⟨by omega, ?_⟩
    refine ⟨rfl, by omega, fun e14 h14 => ?_⟩
    refine ⟨lkT1 _ _, ?_⟩
    refine ⟨fun c1 => ?_, fun c1 => ?_⟩
    · have hE := idxF_at (p := isN n) h14 ha c1
      refine ⟨?_, trivial⟩
      · rw [hE]
    · refine ⟨⟨by omega, by omega⟩, ?_⟩
      exact ⟨k + 1, rfl, ⟨by omega, all_snoc h14 ha (by simp [c1])⟩, by omega⟩
  · replace c0 := of_decide_eq_false c0
    have hE := idxF_no (p := isN n) (all_done (by omega) ha)
    refine ⟨?_, trivial⟩
    · rw [hE]

set_option maxRecDepth 100000 in
set_option maxHeartbeats 4000000 in
theorem lkT_impl (d : DatabaseD) (n : ByteArray) (hc : cDatabase d ≤ 1048576) : Con Tryz.prog 213 [.agg [.sl 107 3 (d.tables.map eTable)], .one (.str n)] (.tup [.agg [.p none (.str (((lookT d n).1).name)), vI (((lookT d n).1).arity), .own 0], vB ((lookT d n).2)]) [(0, .arr 25 1 true ((((lookT d n).1).rows).map eIntS))] := by
  refine con_x tbOk mixedW Tryz.func213 (by kernel_rfl) (.call (vI (idxF (isN n) d.tables)) [] <| .br (.fin []) (.call (vB (okDb d)) [] <| .lit <| .lit <| .br (.fin []) (.elem TableD eTable d.tables (fun e22 => .call (.agg [.p none (.str e22.name), vI e22.arity, .own 0]) [(0, .arr 25 1 true (e22.rows.map eIntS))] <| .fin [(0, 2400)])))) ?_
  refine Eq.mpr (by kernel_rfl : _ = ((d.tables.map eTable).length ≤ 9223372036854775807 → Con Tryz.prog 233 [.one (.sl 107 3 (d.tables.map eTable)), .fn 234 [[.str n]]] (vI (idxF (isN n) d.tables)) [] ∧ (((decide ((idxF (isN n) d.tables) < (0 : Int))) = true → ByteArray.empty = (((lookT d n).1).name) ∧ (0 : Int) = (((lookT d n).1).arity) ∧ (false) = ((lookT d n).2) ∧ [] = (((lookT d n).1).rows).map eIntS ∧ True) ∧ ((decide ((idxF (isN n) d.tables) < (0 : Int))) = false → Con Tryz.prog 155 [.agg [.sl 107 3 (d.tables.map eTable)]] (vB (okDb d)) [] ∧ (((!(okDb d)) = true → ByteArray.empty = (((lookT d n).1).name) ∧ (0 : Int) = (((lookT d n).1).arity) ∧ (false) = ((lookT d n).2) ∧ [] = (((lookT d n).1).rows).map eIntS ∧ True) ∧ ((!(okDb d)) = false → 0 ≤ (idxF (isN n) d.tables) ∧ (d.tables.map eTable = d.tables.map eTable ∧ (idxF (isN n) d.tables).toNat < d.tables.length ∧ ∀ e22, d.tables[(idxF (isN n) d.tables).toNat]? = some e22 → Con Tryz.prog 134 [.agg [.str e22.name, .int .i64 e22.arity, .sl 25 1 (e22.rows.map eIntS)]] (.agg [.p none (.str e22.name), vI e22.arity, .own 0]) [(0, .arr 25 1 true (e22.rows.map eIntS))] ∧ e22.name = (((lookT d n).1).name) ∧ e22.arity = (((lookT d n).1).arity) ∧ (true) = ((lookT d n).2) ∧ e22.rows.map eIntS = (((lookT d n).1).rows).map eIntS ∧ True))))))) ?_
  intro n0
  simp only [List.length_map] at n0
  have q1 : cDatabase d = cTableS d.tables := rfl
  have hg := idxF_ge (isN n) d.tables
  refine ⟨lkTF _ _, ?_⟩
  refine ⟨fun g13 => ?_, fun g13 => ?_⟩
  · replace g13 := of_decide_eq_true g13
    have hbad : lookT d n = (zTable, false) := lookT_no (by first | (left; simpa using g15; done) | (left; simpa using c0; done) | (right; exact idxF_find.1 (by omega)))
    refine ⟨?_, ?_, ?_, ?_, trivial⟩
    · first | (rw [hbad] <;> rfl) | (rw [hok] <;> rfl)
    · first | (rw [hbad] <;> rfl) | (rw [hok] <;> rfl)
    · first | (rw [hbad] <;> rfl) | (rw [hok] <;> rfl)
    · first | (rw [hbad] <;> rfl) | (rw [hok] <;> rfl)
  · replace g13 := of_decide_eq_false g13
    refine ⟨db_impl _, ?_⟩
    refine ⟨fun c0 => ?_, fun c0 => ?_⟩
    · replace c0 := nt c0
      have hbad : lookT d n = (zTable, false) := lookT_no (by first | (left; simpa using g15; done) | (left; simpa using c0; done) | (right; exact idxF_find.1 (by omega)))
      refine ⟨?_, ?_, ?_, ?_, trivial⟩
      · first | (rw [hbad] <;> rfl) | (rw [hok] <;> rfl)
      · first | (rw [hbad] <;> rfl) | (rw [hok] <;> rfl)
      · first | (rw [hbad] <;> rfl) | (rw [hok] <;> rfl)
      · first | (rw [hbad] <;> rfl) | (rw [hok] <;> rfl)
    · replace c0 := nf c0
      have hd : okDb d = true := by simpa using c0
      obtain ⟨k, y, hk, hy, hf⟩ := idxF_find.2 (show 0 ≤ idxF (isN n) d.tables by omega)
      have hok := lookT_yes hd hf
      refine ⟨by omega, ?_⟩
      refine ⟨rfl, by omega, fun e22 h22 => ?_⟩
      have hyx : y = e22 := by rw [hk] at h22; exact (same_at (by simpa using h22) hy)
      have q2 := cTableS_el h22
      rw [hyx] at hok
      refine ⟨cpT_impl _ (by omega), ?_⟩
      refine ⟨?_, ?_, ?_, ?_, trivial⟩
      · first | (rw [hbad] <;> rfl) | (rw [hok] <;> rfl)
      · first | (rw [hbad] <;> rfl) | (rw [hok] <;> rfl)
      · first | (rw [hbad] <;> rfl) | (rw [hok] <;> rfl)
      · first | (rw [hbad] <;> rfl) | (rw [hok] <;> rfl)

set_option maxRecDepth 100000 in
set_option maxHeartbeats 4000000 in
theorem lkT_spec (d : DatabaseD) (n : ByteArray) (hc : cDatabase d ≤ 1048576) : Con Tryz.prog 211 [.agg [.sl 107 3 (d.tables.map eTable)], .one (.str n)] (.tup [.agg [.p none (.str (((lookT d n).1).name)), vI (((lookT d n).1).arity), .own 0], vB ((lookT d n).2)]) [(0, .arr 25 1 true ((((lookT d n).1).rows).map eIntS))] := by
  refine con_x tbOk mixedW Tryz.func211 (by kernel_rfl) (.loop Nat (Q1 Nat) [6, 7, 8, 9, 10, 11, 12, 13, 14, 15, 16, 17, 18, 19, 20, 21, 22, 23, 24, 25] [] (fun k => [(6, vI (k : Int))]) (fun k => []) (fun k => k ≤ d.tables.length ∧ (d.tables.take k).all (fun y => !isN n y) = true) (fun k => d.tables.length - k) (fun k => .len d.tables.length <| .br (.call (vB (okDb d)) [] <| .lit <| .br (.elem TableD eTable d.tables (fun e21 => .br (.elem TableD eTable d.tables (fun e29 => .call (.agg [.p none (.str e29.name), vI e29.arity, .own 0]) [(0, .arr 25 1 true (e29.rows.map eIntS))] <| .fin [(0, 3100)])) (.back []))) (.fin [])) (.fin []))) ?_
  refine Eq.mpr (by kernel_rfl : _ = ((d.tables.map eTable).length ≤ 9223372036854775807 → (∃ (k : Nat), (0 : Int) = (k : Int) ∧ k ≤ d.tables.length ∧ (d.tables.take k).all (fun y => !isN n y) = true) ∧ ∀ (k : Nat), (k ≤ d.tables.length ∧ (d.tables.take k).all (fun y => !isN n y) = true) → (d.tables.map eTable).length = d.tables.length ∧ (((decide ((k : Int) < ((d.tables.length : Nat) : Int))) = true → Con Tryz.prog 151 [.agg [.sl 107 3 (d.tables.map eTable)]] (vB (okDb d)) [] ∧ (((okDb d) = true → 0 ≤ (k : Int) ∧ (d.tables.map eTable = d.tables.map eTable ∧ k < d.tables.length ∧ ∀ e21, d.tables[k]? = some e21 → ((e21.name.toList == n.toList) = true → 0 ≤ (k : Int) ∧ (d.tables.map eTable = d.tables.map eTable ∧ k < d.tables.length ∧ ∀ e29, d.tables[k]? = some e29 → Con Tryz.prog 121 [.agg [.str e29.name, .int .i64 e29.arity, .sl 25 1 (e29.rows.map eIntS)]] (.agg [.p none (.str e29.name), vI e29.arity, .own 0]) [(0, .arr 25 1 true (e29.rows.map eIntS))] ∧ e29.name = (((lookT d n).1).name) ∧ e29.arity = (((lookT d n).1).arity) ∧ (true) = ((lookT d n).2) ∧ e29.rows.map eIntS = (((lookT d n).1).rows).map eIntS ∧ True)) ∧ ((e21.name.toList == n.toList) = false → inR ((k : Int) + (1 : Int)) ∧ ∃ (k' : Nat), ((k : Int) + (1 : Int)) = (k' : Int) ∧ (k' ≤ d.tables.length ∧ (d.tables.take k').all (fun y => !isN n y) = true) ∧ d.tables.length - k' < d.tables.length - k))) ∧ ((okDb d) = false → ByteArray.empty = (((lookT d n).1).name) ∧ (0 : Int) = (((lookT d n).1).arity) ∧ (false) = ((lookT d n).2) ∧ [] = (((lookT d n).1).rows).map eIntS ∧ True))) ∧ ((decide ((k : Int) < ((d.tables.length : Nat) : Int))) = false → ByteArray.empty = (((lookT d n).1).name) ∧ (0 : Int) = (((lookT d n).1).arity) ∧ (false) = ((lookT d n).2) ∧ [] = (((lookT d n).1).rows).map eIntS ∧ True)))) ?_
  intro n0
  simp only [List.length_map] at n0
  have q1 : cDatabase d = cTableS d.tables := rfl
  refine ⟨⟨0, rfl, Nat.zero_le _, rfl⟩, fun k ⟨hk, ha⟩ => ?_⟩
  refine ⟨List.length_map _, ?_⟩
  refine ⟨fun g12 => ?_, fun g12 => ?_⟩
  · replace g12 := of_decide_eq_true g12
    refine ⟨db_spec _, ?_⟩
    refine ⟨fun c0 => ?_, fun c0 => ?_⟩
    · refine ⟨by omega, ?_⟩
      refine ⟨rfl, by omega, fun e21 h21 => ?_⟩
      try (obtain rfl := (same_at h21 h21).symm)
      have q2 := cTableS_el h21
      refine ⟨fun c1 => ?_, fun c1 => ?_⟩
      · have hok := lookT_yes (n := n) c0 (find_at (p := isN n) h21 ha c1)
        refine ⟨by omega, ?_⟩
        refine ⟨rfl, by omega, fun e29 h29 => ?_⟩
        try (obtain rfl := (same_at h21 h29).symm)
        refine ⟨cpT_spec _ (by omega), ?_⟩
        refine ⟨?_, ?_, ?_, ?_, trivial⟩
        · first | (rw [hbad] <;> rfl) | (rw [hok] <;> rfl)
        · first | (rw [hbad] <;> rfl) | (rw [hok] <;> rfl)
        · first | (rw [hbad] <;> rfl) | (rw [hok] <;> rfl)
        · first | (rw [hbad] <;> rfl) | (rw [hok] <;> rfl)
      · refine ⟨⟨by omega, by omega⟩, ?_⟩
        exact ⟨k + 1, rfl, ⟨by omega, all_snoc h21 ha (by simp [isN, c1])⟩, by omega⟩
    · have hbad : lookT d n = (zTable, false) := lookT_no (by first | (left; exact c0) | (right; exact find_no (all_done (by omega) ha)))
      refine ⟨?_, ?_, ?_, ?_, trivial⟩
      · first | (rw [hbad] <;> rfl) | (rw [hok] <;> rfl)
      · first | (rw [hbad] <;> rfl) | (rw [hok] <;> rfl)
      · first | (rw [hbad] <;> rfl) | (rw [hok] <;> rfl)
      · first | (rw [hbad] <;> rfl) | (rw [hok] <;> rfl)
  · replace g12 := of_decide_eq_false g12
    have hbad : lookT d n = (zTable, false) := lookT_no (by first | (left; exact c0) | (right; exact find_no (all_done (by omega) ha)))
    refine ⟨?_, ?_, ?_, ?_, trivial⟩
    · first | (rw [hbad] <;> rfl) | (rw [hok] <;> rfl)
    · first | (rw [hbad] <;> rfl) | (rw [hok] <;> rfl)
    · first | (rw [hbad] <;> rfl) | (rw [hok] <;> rfl)
    · first | (rw [hbad] <;> rfl) | (rw [hok] <;> rfl)
end Go.Proofs.YtjlagjhmlmfjeaaGreat
