/-
  Valid tables: parts.
-/
import Derived.Test.YtjlagjhmlmfjeaaGreatEb
namespace Go.Proofs.YtjlagjhmlmfjeaaGreat
open Go.ChangeShapes Go.WideShapes Go.ChangeAt Go.RowKit
set_option linter.unusedVariables false
set_option linter.unusedSimpArgs false
set_option maxRecDepth 100000 in
set_option maxHeartbeats 4000000 in
theorem in_impl (n a b : Int) : Con Tryz.prog 149 [.one (.int .i64 n), .one (.int .i64 a), .one (.int .i64 b)] (vB (inB n a b)) [] := by
  refine con_x tbOk mixedW Tryz.func149 (by kernel_rfl) (.br (.fin []) (.fin [])) ?_
  refine Eq.mpr (by kernel_rfl : _ = (((decide (a ≤ n)) = true → (decide (n ≤ b)) = (inB n a b) ∧ True) ∧ ((decide (a ≤ n)) = false → (false) = (inB n a b) ∧ True))) ?_
  refine ⟨fun g10 => ?_, fun g10 => ?_⟩
  · replace g10 := of_decide_eq_true g10
    refine ⟨?_, trivial⟩
    · first | (simp [inB, g10]; done) | (simp [inB]; omega)
  · replace g10 := of_decide_eq_false g10
    refine ⟨?_, trivial⟩
    · first | (simp [inB, g10]; done) | (simp [inB]; omega)

set_option maxRecDepth 100000 in
set_option maxHeartbeats 4000000 in
theorem in_spec (n a b : Int) : Con Tryz.prog 148 [.one (.int .i64 n), .one (.int .i64 a), .one (.int .i64 b)] (vB (inB n a b)) [] := by
  refine con_x tbOk mixedW Tryz.func148 (by kernel_rfl) (.br (.fin []) (.fin [])) ?_
  refine Eq.mpr (by kernel_rfl : _ = (((decide (a ≤ n)) = true → (decide (n ≤ b)) = (inB n a b) ∧ True) ∧ ((decide (a ≤ n)) = false → (false) = (inB n a b) ∧ True))) ?_
  refine ⟨fun g10 => ?_, fun g10 => ?_⟩
  · replace g10 := of_decide_eq_true g10
    refine ⟨?_, trivial⟩
    · first | (simp [inB, g10]; done) | (simp [inB]; omega)
  · replace g10 := of_decide_eq_false g10
    refine ⟨?_, trivial⟩
    · first | (simp [inB, g10]; done) | (simp [inB]; omega)

def okVal (v : Int) : Bool := inB v 0 9
def okRow (n : Int) (r : List Int) : Bool := r.all okVal && decide ((r.length : Int) = n)
def okName (s : ByteArray) : Bool := decide ((s.size : Int) = 1) && (decide (97 ≤ byteAt s 0) && decide (byteAt s 0 ≤ 122))

set_option maxRecDepth 100000 in
set_option maxHeartbeats 4000000 in
theorem row_impl (r : List Int) (n : Int) : Con Tryz.prog 135 [.one (.sl 3 1 (r.map intD)), .one (.int .i64 n)] (vB (okRow n r)) [] := by
  refine con_x tbOk mixedW Tryz.func135 (by kernel_rfl) (.len r.length <| .loop Nat (Q1 Nat) [6, 9, 10, 11, 12, 13, 14, 15, 16] [] (fun k => [(9, vI (k : Int))]) (fun k => []) (fun k => k ≤ r.length ∧ (r.take k).all okVal = true) (fun k => r.length - k) (fun k => .br (.elem Int intD r (fun e11 => .call (vB (inB e11 (0 : Int) (9 : Int))) [] <| .br (.fin []) (.back []))) (.len r.length <| .fin []))) ?_
  refine Eq.mpr (by kernel_rfl : _ = ((r.map intD).length ≤ 9223372036854775807 → (r.map intD).length = r.length ∧ ((∃ (k : Nat), (0 : Int) = (k : Int) ∧ k ≤ r.length ∧ (r.take k).all okVal = true) ∧ ∀ (k : Nat), (k ≤ r.length ∧ (r.take k).all okVal = true) → ((decide ((k : Int) < ((r.length : Nat) : Int))) = true → 0 ≤ (k : Int) ∧ (r.map intD = r.map intD ∧ k < r.length ∧ ∀ e11, r[k]? = some e11 → Con Tryz.prog 149 [.one (.int .i64 e11), .one (.int .i64 (0 : Int)), .one (.int .i64 (9 : Int))] (vB (inB e11 (0 : Int) (9 : Int))) [] ∧ (((!(inB e11 (0 : Int) (9 : Int))) = true → (false) = (okRow n r) ∧ True) ∧ ((!(inB e11 (0 : Int) (9 : Int))) = false → inR ((k : Int) + (1 : Int)) ∧ ∃ (k' : Nat), ((k : Int) + (1 : Int)) = (k' : Int) ∧ (k' ≤ r.length ∧ (r.take k').all okVal = true) ∧ r.length - k' < r.length - k)))) ∧ ((decide ((k : Int) < ((r.length : Nat) : Int))) = false → (r.map intD).length = r.length ∧ (decide (((r.length : Nat) : Int) = n)) = (okRow n r) ∧ True)))) ?_
  intro n0
  simp only [List.length_map] at n0
  refine ⟨List.length_map _, ?_⟩
  refine ⟨⟨0, rfl, Nat.zero_le _, rfl⟩, fun k ⟨hk, ha⟩ => ?_⟩
  refine ⟨fun c0 => ?_, fun c0 => ?_⟩
  · replace c0 := of_decide_eq_true c0
    refine ⟨by omega, ?_⟩
    refine ⟨rfl, by omega, fun e11 h11 => ?_⟩
    refine ⟨in_impl _ _ _, ?_⟩
    refine ⟨fun c1 => ?_, fun c1 => ?_⟩
    · replace c1 := nt c1
      refine ⟨?_, trivial⟩
      · first | (rw [okRow, all_stop h11 c1]; rfl) | (rw [okRow, all_done (by omega) ha]; simp)
    · replace c1 := nf c1
      refine ⟨⟨by omega, by omega⟩, ?_⟩
      exact ⟨k + 1, rfl, ⟨by omega, all_snoc h11 ha c1⟩, by omega⟩
  · replace c0 := of_decide_eq_false c0
    refine ⟨List.length_map _, ?_⟩
    refine ⟨?_, trivial⟩
    · first | (rw [okRow, all_stop h11 c1]; rfl) | (rw [okRow, all_done (by omega) ha]; simp)

set_option maxRecDepth 100000 in
set_option maxHeartbeats 4000000 in
theorem row_spec (r : List Int) (n : Int) : Con Tryz.prog 123 [.one (.sl 3 1 (r.map intD)), .one (.int .i64 n)] (vB (okRow n r)) [] := by
  refine con_x tbOk mixedW Tryz.func123 (by kernel_rfl) (.loop Nat (Q1 Nat) [5, 6, 7, 8, 9, 10, 11, 12, 13, 14, 15, 16, 17] [] (fun k => [(5, vI (k : Int))]) (fun k => []) (fun k => k ≤ r.length ∧ (r.take k).all okVal = true) (fun k => r.length - k) (fun k => .len r.length <| .br (.elem Int intD r (fun e14 => .call (vB (inB e14 (0 : Int) (9 : Int))) [] <| .br (.fin []) (.back []))) (.len r.length <| .fin []))) ?_
  refine Eq.mpr (by kernel_rfl : _ = ((r.map intD).length ≤ 9223372036854775807 → (∃ (k : Nat), (0 : Int) = (k : Int) ∧ k ≤ r.length ∧ (r.take k).all okVal = true) ∧ ∀ (k : Nat), (k ≤ r.length ∧ (r.take k).all okVal = true) → (r.map intD).length = r.length ∧ (((decide ((k : Int) < ((r.length : Nat) : Int))) = true → 0 ≤ (k : Int) ∧ (r.map intD = r.map intD ∧ k < r.length ∧ ∀ e14, r[k]? = some e14 → Con Tryz.prog 148 [.one (.int .i64 e14), .one (.int .i64 (0 : Int)), .one (.int .i64 (9 : Int))] (vB (inB e14 (0 : Int) (9 : Int))) [] ∧ (((!(inB e14 (0 : Int) (9 : Int))) = true → (false) = (okRow n r) ∧ True) ∧ ((!(inB e14 (0 : Int) (9 : Int))) = false → inR ((k : Int) + (1 : Int)) ∧ ∃ (k' : Nat), ((k : Int) + (1 : Int)) = (k' : Int) ∧ (k' ≤ r.length ∧ (r.take k').all okVal = true) ∧ r.length - k' < r.length - k)))) ∧ ((decide ((k : Int) < ((r.length : Nat) : Int))) = false → (r.map intD).length = r.length ∧ (decide (((r.length : Nat) : Int) = n)) = (okRow n r) ∧ True)))) ?_
  intro n0
  simp only [List.length_map] at n0
  refine ⟨⟨0, rfl, Nat.zero_le _, rfl⟩, fun k ⟨hk, ha⟩ => ?_⟩
  refine ⟨List.length_map _, ?_⟩
  refine ⟨fun c0 => ?_, fun c0 => ?_⟩
  · replace c0 := of_decide_eq_true c0
    refine ⟨by omega, ?_⟩
    refine ⟨rfl, by omega, fun e14 h14 => ?_⟩
    refine ⟨in_spec _ _ _, ?_⟩
    refine ⟨fun c1 => ?_, fun c1 => ?_⟩
    · replace c1 := nt c1
      refine ⟨?_, trivial⟩
      · first | (rw [okRow, all_stop h14 c1]; rfl) | (rw [okRow, all_done (by omega) ha]; simp)
    · replace c1 := nf c1
      refine ⟨⟨by omega, by omega⟩, ?_⟩
      exact ⟨k + 1, rfl, ⟨by omega, all_snoc h14 ha c1⟩, by omega⟩
  · replace c0 := of_decide_eq_false c0
    refine ⟨List.length_map _, ?_⟩
    refine ⟨?_, trivial⟩
    · first | (rw [okRow, all_stop h14 c1]; rfl) | (rw [okRow, all_done (by omega) ha]; simp)

set_option maxRecDepth 100000 in
set_option maxHeartbeats 4000000 in
theorem name_impl (s : ByteArray) : Con Tryz.prog 174 [.one (.str s)] (vB (okName s)) [] := by
  refine con_x tbOk mixedW Tryz.func174 (by kernel_rfl) (.br (.lit <| .lit <| .lit <| .br (.fin []) (.fin [])) (.fin [])) ?_
  refine Eq.mpr (by kernel_rfl : _ = (((decide (((s.size : Nat) : Int) = (1 : Int))) = true → 0 ≤ (0 : Int) ∧ (0 : Int) < ((s.size : Nat) : Int) ∧ (((decide ((97 : Int) ≤ (byteAt s 0))) = true → 0 ≤ (0 : Int) ∧ (0 : Int) < ((s.size : Nat) : Int) ∧ (decide ((byteAt s 0) ≤ (122 : Int))) = (okName s) ∧ True) ∧ ((decide ((97 : Int) ≤ (byteAt s 0))) = false → (false) = (okName s) ∧ True))) ∧ ((decide (((s.size : Nat) : Int) = (1 : Int))) = false → (false) = (okName s) ∧ True))) ?_
  refine ⟨fun g6 => ?_, fun g6 => ?_⟩
  · replace g6 := of_decide_eq_true g6
    refine ⟨by omega, by omega, ?_⟩
    refine ⟨fun g11 => ?_, fun g11 => ?_⟩
    · replace g11 := of_decide_eq_true g11
      refine ⟨by omega, by omega, ?_⟩
      refine ⟨?_, trivial⟩
      · first | (simp [okName, g6]; done) | (simp [okName, g6, g11]; done) | (simp [okName, *]; done)
    · replace g11 := of_decide_eq_false g11
      refine ⟨?_, trivial⟩
      · first | (simp [okName, g6]; done) | (simp [okName, g6, g11]; done) | (simp [okName, *]; done)
  · replace g6 := of_decide_eq_false g6
    refine ⟨?_, trivial⟩
    · first | (simp [okName, g6]; done) | (simp [okName, g6, g11]; done) | (simp [okName, *]; done)

set_option maxRecDepth 100000 in
set_option maxHeartbeats 4000000 in
theorem name_spec (s : ByteArray) : Con Tryz.prog 170 [.one (.str s)] (vB (okName s)) [] := by
  refine con_x tbOk mixedW Tryz.func170 (by kernel_rfl) (.br (.lit <| .lit <| .lit <| .br (.fin []) (.fin [])) (.fin [])) ?_
  refine Eq.mpr (by kernel_rfl : _ = (((decide (((s.size : Nat) : Int) = (1 : Int))) = true → 0 ≤ (0 : Int) ∧ (0 : Int) < ((s.size : Nat) : Int) ∧ (((decide ((97 : Int) ≤ (byteAt s 0))) = true → 0 ≤ (0 : Int) ∧ (0 : Int) < ((s.size : Nat) : Int) ∧ (decide ((byteAt s 0) ≤ (122 : Int))) = (okName s) ∧ True) ∧ ((decide ((97 : Int) ≤ (byteAt s 0))) = false → (false) = (okName s) ∧ True))) ∧ ((decide (((s.size : Nat) : Int) = (1 : Int))) = false → (false) = (okName s) ∧ True))) ?_
  refine ⟨fun g6 => ?_, fun g6 => ?_⟩
  · replace g6 := of_decide_eq_true g6
    refine ⟨by omega, by omega, ?_⟩
    refine ⟨fun g11 => ?_, fun g11 => ?_⟩
    · replace g11 := of_decide_eq_true g11
      refine ⟨by omega, by omega, ?_⟩
      refine ⟨?_, trivial⟩
      · first | (simp [okName, g6]; done) | (simp [okName, g6, g11]; done) | (simp [okName, *]; done)
    · replace g11 := of_decide_eq_false g11
      refine ⟨?_, trivial⟩
      · first | (simp [okName, g6]; done) | (simp [okName, g6, g11]; done) | (simp [okName, *]; done)
  · replace g6 := of_decide_eq_false g6
    refine ⟨?_, trivial⟩
    · first | (simp [okName, g6]; done) | (simp [okName, g6, g11]; done) | (simp [okName, *]; done)

set_option maxRecDepth 100000 in
set_option maxHeartbeats 4000000 in
theorem nan_int (n : Int) : Con Tryz.prog 232 [.one (.int .i64 n)] (vB false) [] := by
  refine con_x tbOk mixedW Tryz.func232 (by kernel_rfl) (.fin []) ?_
  refine Eq.mpr (by kernel_rfl : _ = ((!(decide (n = n))) = false ∧ True)) ?_
  refine ⟨?_, trivial⟩
  · simp

def cmpI (a b : Int) : Int := if a < b then -1 else if b < a then 1 else 0

set_option maxRecDepth 100000 in
set_option maxHeartbeats 4000000 in
theorem cmp_int (a b : Int) : Con Tryz.prog 226 [.one (.int .i64 a), .one (.int .i64 b)] (vI (cmpI a b)) [] := by
  refine con_x tbOk mixedW Tryz.func226 (by kernel_rfl) (.call (vB false) [] <| .call (vB false) [] <| .lit <| .lit <| .br (.fin []) (.br (.fin []) (.fin []))) ?_
  refine Eq.mpr (by kernel_rfl : _ = (Con Tryz.prog 232 [.one (.int .i64 a)] (vB false) [] ∧ (Con Tryz.prog 232 [.one (.int .i64 b)] (vB false) [] ∧ (((decide (a < b)) = true → (-1 : Int) = (cmpI a b) ∧ True) ∧ ((decide (a < b)) = false → ((decide (b < a)) = true → (1 : Int) = (cmpI a b) ∧ True) ∧ ((decide (b < a)) = false → (0 : Int) = (cmpI a b) ∧ True)))))) ?_
  refine ⟨nan_int _, ?_⟩
  refine ⟨nan_int _, ?_⟩
  refine ⟨fun c3 => ?_, fun c3 => ?_⟩
  · replace c3 := of_decide_eq_true c3
    refine ⟨?_, trivial⟩
    · simp [cmpI, *]; try omega
  · replace c3 := of_decide_eq_false c3
    refine ⟨fun c4 => ?_, fun c4 => ?_⟩
    · replace c4 := of_decide_eq_true c4
      refine ⟨?_, trivial⟩
      · simp [cmpI, *]; try omega
    · replace c4 := of_decide_eq_false c4
      refine ⟨?_, trivial⟩
      · simp [cmpI, *]; try omega
end Go.Proofs.YtjlagjhmlmfjeaaGreat
