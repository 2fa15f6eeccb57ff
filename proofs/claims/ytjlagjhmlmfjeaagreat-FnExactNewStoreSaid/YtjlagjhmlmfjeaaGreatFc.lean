/-
  Valid tables.
-/
import Derived.Test.YtjlagjhmlmfjeaaGreatFb
namespace Go.Proofs.YtjlagjhmlmfjeaaGreat
open Go.ChangeShapes Go.WideShapes Go.ChangeAt Go.RowKit
set_option linter.unusedVariables false
set_option linter.unusedSimpArgs false
set_option maxRecDepth 100000 in
set_option maxHeartbeats 4000000 in
theorem tab_impl (t : TableD) : Con Tryz.prog 131 [.agg [.str t.name, .int .i64 t.arity, .sl 25 1 (t.rows.map eIntS)]] (vB (okTable t)) [] := by
  refine con_x tbOk mixedW Tryz.func131 (by kernel_rfl) (.len t.rows.length <| .loop Nat (Q1 Nat) [4, 8, 9, 10, 11, 12, 13, 14, 15, 16, 17] [] (fun k => [(8, vI (k : Int))]) (fun k => []) (fun k => k ≤ t.rows.length ∧ (t.rows.take k).all (okRow t.arity) = true) (fun k => t.rows.length - k) (fun k => .br (.elem (List Int) eIntS t.rows (fun e10 => .call (vB (okRow t.arity e10)) [] <| .br (.fin []) (.back []))) (.call (vB (okName t.name)) [] <| .br (.call (vB (inB t.arity (1 : Int) (3 : Int))) [] <| .lit <| .br (.len t.rows.length <| .lit <| .lit <| .br (.call (vB (ascR t.rows)) [] <| .fin []) (.fin [])) (.fin [])) (.fin [])))) ?_
  refine Eq.mpr (by kernel_rfl : _ = ((t.rows.map eIntS).length ≤ 9223372036854775807 → (t.rows.map eIntS).length = t.rows.length ∧ ((∃ (k : Nat), (0 : Int) = (k : Int) ∧ k ≤ t.rows.length ∧ (t.rows.take k).all (okRow t.arity) = true) ∧ ∀ (k : Nat), (k ≤ t.rows.length ∧ (t.rows.take k).all (okRow t.arity) = true) → ((decide ((k : Int) < ((t.rows.length : Nat) : Int))) = true → 0 ≤ (k : Int) ∧ (t.rows.map eIntS = t.rows.map eIntS ∧ k < t.rows.length ∧ ∀ e10, t.rows[k]? = some e10 → Con Tryz.prog 135 [.one (.sl 3 1 (e10.map intD)), .one (.int .i64 t.arity)] (vB (okRow t.arity e10)) [] ∧ (((!(okRow t.arity e10)) = true → (false) = (okTable t) ∧ True) ∧ ((!(okRow t.arity e10)) = false → inR ((k : Int) + (1 : Int)) ∧ ∃ (k' : Nat), ((k : Int) + (1 : Int)) = (k' : Int) ∧ (k' ≤ t.rows.length ∧ (t.rows.take k').all (okRow t.arity) = true) ∧ t.rows.length - k' < t.rows.length - k)))) ∧ ((decide ((k : Int) < ((t.rows.length : Nat) : Int))) = false → Con Tryz.prog 174 [.one (.str t.name)] (vB (okName t.name)) [] ∧ (((okName t.name) = true → Con Tryz.prog 149 [.one (.int .i64 t.arity), .one (.int .i64 (1 : Int)), .one (.int .i64 (3 : Int))] (vB (inB t.arity (1 : Int) (3 : Int))) [] ∧ (((inB t.arity (1 : Int) (3 : Int)) = true → (t.rows.map eIntS).length = t.rows.length ∧ (((decide (((t.rows.length : Nat) : Int) ≤ (8 : Int))) = true → Con Tryz.prog 175 [.one (.sl 25 1 (t.rows.map eIntS))] (vB (ascR t.rows)) [] ∧ (ascR t.rows) = (okTable t) ∧ True) ∧ ((decide (((t.rows.length : Nat) : Int) ≤ (8 : Int))) = false → (false) = (okTable t) ∧ True))) ∧ ((inB t.arity (1 : Int) (3 : Int)) = false → (false) = (okTable t) ∧ True))) ∧ ((okName t.name) = false → (false) = (okTable t) ∧ True)))))) ?_
  intro n0
  simp only [List.length_map] at n0
  refine ⟨List.length_map _, ?_⟩
  refine ⟨⟨0, rfl, Nat.zero_le _, rfl⟩, fun k ⟨hk, ha⟩ => ?_⟩
  refine ⟨fun c0 => ?_, fun c0 => ?_⟩
  · replace c0 := of_decide_eq_true c0
    refine ⟨by omega, ?_⟩
    refine ⟨rfl, by omega, fun e10 h10 => ?_⟩
    refine ⟨row_impl _ _, ?_⟩
    refine ⟨fun c1 => ?_, fun c1 => ?_⟩
    · replace c1 := nt c1
      refine ⟨?_, trivial⟩
      · first | (rw [okTable, all_stop h10 c1]; rfl) | (simp [okTable, hall, *]; done)
    · replace c1 := nf c1
      refine ⟨⟨by omega, by omega⟩, ?_⟩
      exact ⟨k + 1, rfl, ⟨by omega, all_snoc h10 ha c1⟩, by omega⟩
  · replace c0 := of_decide_eq_false c0
    have hall := all_done (by omega) ha
    refine ⟨name_impl _, ?_⟩
    refine ⟨fun g21 => ?_, fun g21 => ?_⟩
    · refine ⟨in_impl _ _ _, ?_⟩
      refine ⟨fun g26 => ?_, fun g26 => ?_⟩
      · refine ⟨List.length_map _, ?_⟩
        refine ⟨fun g32 => ?_, fun g32 => ?_⟩
        · replace g32 := of_decide_eq_true g32
          refine ⟨asc_impl _, ?_⟩
          refine ⟨?_, trivial⟩
          · first | (rw [okTable, all_stop h10 c1]; rfl) | (simp [okTable, hall, *]; done)
        · replace g32 := of_decide_eq_false g32
          refine ⟨?_, trivial⟩
          · first | (rw [okTable, all_stop h10 c1]; rfl) | (simp [okTable, hall, *]; done)
      · refine ⟨?_, trivial⟩
        · first | (rw [okTable, all_stop h10 c1]; rfl) | (simp [okTable, hall, *]; done)
    · refine ⟨?_, trivial⟩
      · first | (rw [okTable, all_stop h10 c1]; rfl) | (simp [okTable, hall, *]; done)

set_option maxRecDepth 100000 in
set_option maxHeartbeats 4000000 in
theorem tab_spec (t : TableD) : Con Tryz.prog 122 [.agg [.str t.name, .int .i64 t.arity, .sl 25 1 (t.rows.map eIntS)]] (vB (okTable t)) [] := by
  refine con_x tbOk mixedW Tryz.func122 (by kernel_rfl) (.call (vB (okName t.name)) [] <| .br (.fin []) (.call (vB (inB t.arity (1 : Int) (3 : Int))) [] <| .lit <| .lit <| .br (.fin []) (.len t.rows.length <| .lit <| .lit <| .br (.fin []) (.loop Nat (Q1 Nat) [3, 20, 21, 22, 23, 24, 25, 26, 27, 28, 29, 30, 31, 32, 33, 34, 35, 36, 37, 38, 39, 40, 41, 42, 43, 44, 45, 46, 47, 48, 49, 50, 51, 52, 53, 54] [] (fun k => [(3, vI (k : Int))]) (fun k => []) (fun k => k ≤ t.rows.length ∧ (t.rows.take k).all (okRow t.arity) = true ∧ (List.range (k - 1)).all (ascAt t.rows) = true) (fun k => t.rows.length - k) (fun k => .len t.rows.length <| .br (.elem (List Int) eIntS t.rows (fun e30 => .call (vB (okRow t.arity e30)) [] <| .br (.fin []) (.lit <| .lit <| .br (.elem (List Int) eIntS t.rows (fun e44 => .elem (List Int) eIntS t.rows (fun e49 => .call (vI (cmpR e44 e49)) [] <| .lit <| .lit <| .lit <| .lit <| .br (.fin []) (.back [])))) (.back [])))) (.fin [])))))) ?_
  refine Eq.mpr (by kernel_rfl : _ = ((t.rows.map eIntS).length ≤ 9223372036854775807 → Con Tryz.prog 170 [.one (.str t.name)] (vB (okName t.name)) [] ∧ (((!(okName t.name)) = true → (false) = (okTable t) ∧ True) ∧ ((!(okName t.name)) = false → Con Tryz.prog 148 [.one (.int .i64 t.arity), .one (.int .i64 (1 : Int)), .one (.int .i64 (3 : Int))] (vB (inB t.arity (1 : Int) (3 : Int))) [] ∧ (((!(inB t.arity (1 : Int) (3 : Int))) = true → (false) = (okTable t) ∧ True) ∧ ((!(inB t.arity (1 : Int) (3 : Int))) = false → (t.rows.map eIntS).length = t.rows.length ∧ (((decide ((8 : Int) < ((t.rows.length : Nat) : Int))) = true → (false) = (okTable t) ∧ True) ∧ ((decide ((8 : Int) < ((t.rows.length : Nat) : Int))) = false → (∃ (k : Nat), (0 : Int) = (k : Int) ∧ k ≤ t.rows.length ∧ (t.rows.take k).all (okRow t.arity) = true ∧ (List.range (k - 1)).all (ascAt t.rows) = true) ∧ ∀ (k : Nat), (k ≤ t.rows.length ∧ (t.rows.take k).all (okRow t.arity) = true ∧ (List.range (k - 1)).all (ascAt t.rows) = true) → (t.rows.map eIntS).length = t.rows.length ∧ (((decide ((k : Int) < ((t.rows.length : Nat) : Int))) = true → 0 ≤ (k : Int) ∧ (t.rows.map eIntS = t.rows.map eIntS ∧ k < t.rows.length ∧ ∀ e30, t.rows[k]? = some e30 → Con Tryz.prog 123 [.one (.sl 3 1 (e30.map intD)), .one (.int .i64 t.arity)] (vB (okRow t.arity e30)) [] ∧ (((!(okRow t.arity e30)) = true → (false) = (okTable t) ∧ True) ∧ ((!(okRow t.arity e30)) = false → ((decide ((0 : Int) < (k : Int))) = true → inR ((k : Int) - (1 : Int)) ∧ (0 ≤ ((k : Int) - (1 : Int)) ∧ (t.rows.map eIntS = t.rows.map eIntS ∧ ((k : Int) - (1 : Int)).toNat < t.rows.length ∧ ∀ e44, t.rows[((k : Int) - (1 : Int)).toNat]? = some e44 → 0 ≤ (k : Int) ∧ (t.rows.map eIntS = t.rows.map eIntS ∧ k < t.rows.length ∧ ∀ e49, t.rows[k]? = some e49 → Con Tryz.prog 126 [.one (.sl 3 1 (e44.map intD)), .one (.sl 3 1 (e49.map intD))] (vI (cmpR e44 e49)) [] ∧ (((decide ((0 : Int) ≤ (cmpR e44 e49))) = true → (false) = (okTable t) ∧ True) ∧ ((decide ((0 : Int) ≤ (cmpR e44 e49))) = false → inR ((k : Int) + (1 : Int)) ∧ ∃ (k' : Nat), ((k : Int) + (1 : Int)) = (k' : Int) ∧ (k' ≤ t.rows.length ∧ (t.rows.take k').all (okRow t.arity) = true ∧ (List.range (k' - 1)).all (ascAt t.rows) = true) ∧ t.rows.length - k' < t.rows.length - k)))))) ∧ ((decide ((0 : Int) < (k : Int))) = false → inR ((k : Int) + (1 : Int)) ∧ ∃ (k' : Nat), ((k : Int) + (1 : Int)) = (k' : Int) ∧ (k' ≤ t.rows.length ∧ (t.rows.take k').all (okRow t.arity) = true ∧ (List.range (k' - 1)).all (ascAt t.rows) = true) ∧ t.rows.length - k' < t.rows.length - k))))) ∧ ((decide ((k : Int) < ((t.rows.length : Nat) : Int))) = false → (true) = (okTable t) ∧ True)))))))))) ?_
  intro n0
  simp only [List.length_map] at n0
  refine ⟨name_spec _, ?_⟩
  refine ⟨fun g8 => ?_, fun g8 => ?_⟩
  · replace g8 := nt g8
    refine ⟨?_, trivial⟩
    · first | (rw [okTable, all_stop h30 g36]; rfl) | (rw [okTable, h8, hz]; simp [*]; done) | (rw [okTable, hz]; simp [*]; done) | (rw [okTable, h8]; simp [*]; done) | (simp [okTable, *]; done)
  · replace g8 := nf g8
    refine ⟨in_spec _ _ _, ?_⟩
    refine ⟨fun g14 => ?_, fun g14 => ?_⟩
    · replace g14 := nt g14
      refine ⟨?_, trivial⟩
      · first | (rw [okTable, all_stop h30 g36]; rfl) | (rw [okTable, h8, hz]; simp [*]; done) | (rw [okTable, hz]; simp [*]; done) | (rw [okTable, h8]; simp [*]; done) | (simp [okTable, *]; done)
    · replace g14 := nf g14
      refine ⟨List.length_map _, ?_⟩
      refine ⟨fun c0 => ?_, fun c0 => ?_⟩
      · replace c0 := of_decide_eq_true c0
        have h8 : decide ((t.rows.length : Int) ≤ 8) = false := by simp; omega
        refine ⟨?_, trivial⟩
        · first | (rw [okTable, all_stop h30 g36]; rfl) | (rw [okTable, h8, hz]; simp [*]; done) | (rw [okTable, hz]; simp [*]; done) | (rw [okTable, h8]; simp [*]; done) | (simp [okTable, *]; done)
      · replace c0 := of_decide_eq_false c0
        have h8 : decide ((t.rows.length : Int) ≤ 8) = true := by simp; omega
        refine ⟨⟨0, rfl, Nat.zero_le _, rfl, rfl⟩, fun k ⟨hk, ha, hs⟩ => ?_⟩
        refine ⟨List.length_map _, ?_⟩
        refine ⟨fun c1 => ?_, fun c1 => ?_⟩
        · replace c1 := of_decide_eq_true c1
          refine ⟨by omega, ?_⟩
          refine ⟨rfl, by omega, fun e30 h30 => ?_⟩
          refine ⟨row_spec _ _, ?_⟩
          refine ⟨fun g36 => ?_, fun g36 => ?_⟩
          · replace g36 := nt g36
            refine ⟨?_, trivial⟩
            · first | (rw [okTable, all_stop h30 g36]; rfl) | (rw [okTable, h8, hz]; simp [*]; done) | (rw [okTable, hz]; simp [*]; done) | (rw [okTable, h8]; simp [*]; done) | (simp [okTable, *]; done)
          · replace g36 := nf g36
            refine ⟨fun g39 => ?_, fun g39 => ?_⟩
            · replace g39 := of_decide_eq_true g39
              refine ⟨⟨by omega, by omega⟩, ?_⟩
              refine ⟨by omega, ?_⟩
              refine ⟨rfl, by omega, fun e44 h44 => ?_⟩
              have i44 : t.rows[k - 1]? = some e44 := by rw [← h44]; congr 1; omega
              refine ⟨by omega, ?_⟩
              refine ⟨rfl, by omega, fun e49 h49 => ?_⟩
              refine ⟨cmpRows_spec _ _, ?_⟩
              refine ⟨fun c2 => ?_, fun c2 => ?_⟩
              · replace c2 := of_decide_eq_true c2
                have hp : ascAt t.rows (k - 1) = false := by rw [ascAt, getD_at i44, show k - 1 + 1 = k by omega, getD_at h49]; simp; omega
                have hz : ascR t.rows = false := range_stop (by omega) hp
                refine ⟨?_, trivial⟩
                · first | (rw [okTable, all_stop h30 g36]; rfl) | (rw [okTable, h8, hz]; simp [*]; done) | (rw [okTable, hz]; simp [*]; done) | (rw [okTable, h8]; simp [*]; done) | (simp [okTable, *]; done)
              · replace c2 := of_decide_eq_false c2
                have hp : ascAt t.rows (k - 1) = true := by rw [ascAt, getD_at i44, show k - 1 + 1 = k by omega, getD_at h49]; simp; omega
                have hs2 : (List.range (k + 1 - 1)).all (ascAt t.rows) = true := by rw [show k + 1 - 1 = (k - 1) + 1 by omega]; exact range_snoc hs hp
                refine ⟨⟨by omega, by omega⟩, ?_⟩
                exact ⟨k + 1, rfl, ⟨by omega, all_snoc h30 ha g36, hs2⟩, by omega⟩
            · replace g39 := of_decide_eq_false g39
              have hs2 : (List.range (k + 1 - 1)).all (ascAt t.rows) = true := by rw [show k = 0 by omega]; rfl
              refine ⟨⟨by omega, by omega⟩, ?_⟩
              exact ⟨k + 1, rfl, ⟨by omega, all_snoc h30 ha g36, hs2⟩, by omega⟩
        · replace c1 := of_decide_eq_false c1
          have hall := all_done (by omega) ha
          have hz : ascR t.rows = true := by rw [ascR, show t.rows.length - 1 = k - 1 by omega, hs]
          refine ⟨?_, trivial⟩
          · first | (rw [okTable, all_stop h30 g36]; rfl) | (rw [okTable, h8, hz]; simp [*]; done) | (rw [okTable, hz]; simp [*]; done) | (rw [okTable, h8]; simp [*]; done) | (simp [okTable, *]; done)
end Go.Proofs.YtjlagjhmlmfjeaaGreat
