/-
  Walks: whole, negative.
-/
import Derived.Test.YtcgjlddpbkponaaLp0
import Derived.Test.YtcgjlddpbkponaaLpF
namespace Go.Proofs.Ytcgjlddpbkponaa
open Go.ChangeShapes Go.WideShapes Go.ChangeAt Go.RowKit
set_option linter.unusedVariables false
set_option linter.unusedSimpArgs false
set_option maxRecDepth 100000 in
set_option maxHeartbeats 4000000 in
theorem c_whole (n : Int) :
    Con Try.prog 70 [.one (.int .i64 n)] (.agg [.p none (.int .i64 n), .p none (.int .i64 1)]) [] := by
  refine con_of (N := 5) Try.func70 rfl rfl (by decide) (Nat.le_of_ble_eq_true rfl) ?_
  refine VC_seq (fun K1 k1 => ?_)
  refine VC_lit ?_
  refine goN (sd_alloc (cs := [.p none (.int _ _), .p none (.int _ _)]) ty35 rfl rfl) (Nat.le_of_ble_eq_true rfl) ?_
  refine op_nil ?_
  refine k1 _ ?_
  refine VC_seq (fun K2 k2 => ?_)
  refine VC_lit ?_
  refine goV (sd_move (v := .p none (.int _ _)) rfl) (Nat.le_of_ble_eq_true rfl) ?_
  refine goV (sd_build (cs := [.p none (.int _ _), .p none (.int _ _)]) pl35 (cells_ok.2 ⟨(by first | exact trivial | exact ⟨_, rfl⟩), (by first | exact trivial | exact ⟨_, rfl⟩), trivial⟩) rfl) (Nat.le_of_ble_eq_true rfl) ?_
  refine goW (sd_storeB (cs' := [.p none (.int _ _), .p none (.int _ _)]) ty35 rfl rfl (by first | exact trivial | exact ⟨_, rfl⟩) rfl (Nat.le_of_ble_eq_true rfl) rfl) ?_
  refine op_nil ?_
  refine k2 _ ?_
  refine VC_ret ?_
  show Fin _ _ _ _ _ _
  refine fin0 (xs := [.agg [.p none (.int _ _), .p none (.int _ _)]]) (.inr rfl) ⟨_, _, rfl, ⟨_, _, _, _, _, _, _, rfl, rfl, ty35, .inl ⟨rfl, rfl, rfl⟩⟩, rfl⟩ ?_
  show AV.agg [.p none (.int _ _), .p none (.int _ _)] = _
  rfl

set_option maxRecDepth 100000 in
set_option maxHeartbeats 4000000 in
theorem c_l15Int (n : Int) :
    Con Try.prog 68 [.one (.int .i64 n)] (.agg [.p none (.int .i64 n), .p none (.int .i64 1)]) [] := by
  refine con_of (N := 5) Try.func68 rfl rfl (by decide) (Nat.le_of_ble_eq_true rfl) ?_
  refine VC_seq (fun K1 k1 => ?_)
  refine VC_lit ?_
  refine goN (sd_alloc (cs := [.p none (.int _ _), .p none (.int _ _)]) ty35 rfl rfl) (Nat.le_of_ble_eq_true rfl) ?_
  refine op_nil ?_
  refine k1 _ ?_
  refine VC_seq (fun K2 k2 => ?_)
  refine VC_lit ?_
  refine goV (sd_move (v := .p none (.int _ _)) rfl) (Nat.le_of_ble_eq_true rfl) ?_
  refine goV (sd_build (cs := [.p none (.int _ _), .p none (.int _ _)]) pl35 (cells_ok.2 ⟨(by first | exact trivial | exact ⟨_, rfl⟩), (by first | exact trivial | exact ⟨_, rfl⟩), trivial⟩) rfl) (Nat.le_of_ble_eq_true rfl) ?_
  refine goW (sd_storeB (cs' := [.p none (.int _ _), .p none (.int _ _)]) ty35 rfl rfl (by first | exact trivial | exact ⟨_, rfl⟩) rfl (Nat.le_of_ble_eq_true rfl) rfl) ?_
  refine op_nil ?_
  refine k2 _ ?_
  refine VC_ret ?_
  show Fin _ _ _ _ _ _
  refine fin0 (xs := [.agg [.p none (.int _ _), .p none (.int _ _)]]) (.inr rfl) ⟨_, _, rfl, ⟨_, _, _, _, _, _, _, rfl, rfl, ty35, .inl ⟨rfl, rfl, rfl⟩⟩, rfl⟩ ?_
  show AV.agg [.p none (.int _ _), .p none (.int _ _)] = _
  rfl

set_option maxRecDepth 100000 in
set_option maxHeartbeats 4000000 in
theorem c_negative (n d : Int) (hn : -9223372036854775807 ≤ n ∧ n ≤ 9223372036854775807) :
    Con Try.prog 96 [qA n d] (.agg [.p none (.int .i64 (-n)), .p none (.int .i64 d)]) [] := by
  refine con_of (N := 9) Try.func96 rfl rfl (by decide) (Nat.le_of_ble_eq_true rfl) ?_
  refine VC_seq (fun K1 k1 => ?_)
  refine VC_lit ?_
  refine goN (sd_box (cs := [.p none (.int _ _), .p none (.int _ _)]) (by first | exact trivial | exact ⟨_, rfl⟩) rfl rfl) (Nat.le_of_ble_eq_true rfl) ?_
  refine goN (sd_alloc (cs := [.p none (.int _ _), .p none (.int _ _)]) ty35 rfl rfl) (Nat.le_of_ble_eq_true rfl) ?_
  refine op_nil ?_
  refine k1 _ ?_
  refine VC_seq (fun K2 k2 => ?_)
  refine VC_lit ?_
  refine goV (sd_fieldP fl35_0 rfl rfl) (Nat.le_of_ble_eq_true rfl) ?_
  refine goV (sd_loadB1 (v := .p none (.int _ _)) ty3 rfl rfl rfl) (Nat.le_of_ble_eq_true rfl) ?_
  refine goV (sd_neg rfl) (Nat.le_of_ble_eq_true rfl) ?_
  refine goV (sd_fieldP fl35_1 rfl rfl) (Nat.le_of_ble_eq_true rfl) ?_
  refine goV (sd_loadB1 (v := .p none (.int _ _)) ty3 rfl rfl rfl) (Nat.le_of_ble_eq_true rfl) ?_
  refine goV (sd_build (cs := [.p none (.int _ _), .p none (.int _ _)]) pl35 (cells_ok.2 ⟨(by first | exact trivial | exact ⟨_, rfl⟩), (by first | exact trivial | exact ⟨_, rfl⟩), trivial⟩) rfl) (Nat.le_of_ble_eq_true rfl) ?_
  refine goW (sd_storeB (cs' := [.p none (.int _ _), .p none (.int _ _)]) ty35 rfl rfl (by first | exact trivial | exact ⟨_, rfl⟩) rfl (Nat.le_of_ble_eq_true rfl) rfl) ?_
  refine op_nil ?_
  refine k2 _ ?_
  refine VC_ret ?_
  show Fin _ _ _ _ _ _
  refine fin0 (xs := [.agg [.p none (.int _ _), .p none (.int _ _)]]) (.inr rfl) ⟨_, _, rfl, ⟨_, _, _, _, _, _, _, rfl, rfl, ty35, .inl ⟨rfl, rfl, rfl⟩⟩, rfl⟩ ?_
  show AV.agg [.p none (.int _ _), .p none (.int _ _)] = _
  rw [IntWalk.i64_in _ (by omega)]; simp
end Go.Proofs.Ytcgjlddpbkponaa
