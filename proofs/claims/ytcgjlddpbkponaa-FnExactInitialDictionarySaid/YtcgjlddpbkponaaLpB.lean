/-
  Walks: comparing rationals.
-/
import Derived.Test.YtcgjlddpbkponaaLpA
namespace Go.Proofs.Ytcgjlddpbkponaa
open Go.ChangeShapes Go.WideShapes Go.ChangeAt Go.RowKit
set_option linter.unusedVariables false
set_option linter.unusedSimpArgs false
theorem mul_bnd {a b c d : Int} (h1 : validQ a b = true) (h2 : validQ c d = true) : -9223372036854775808 ≤ a * d ∧ a * d ≤ 9223372036854775807 := by
  have q1 := validQ_bnd h1
  have q2 := validQ_bnd h2
  have e1 : a * d ≤ 2147483647 * 2147483647 := by
    rcases Int.lt_or_le a 0 with h | h
    · have : a * d ≤ 0 := Int.mul_nonpos_of_nonpos_of_nonneg (by omega) (by omega)
      omega
    · exact Int.mul_le_mul (by omega) (by omega) (by omega) (by omega)
  have e2 : -(2147483647 * 2147483647) ≤ a * d := by
    rcases Int.lt_or_le a 0 with h | h
    · have : (-a) * d ≤ 2147483647 * 2147483647 := Int.mul_le_mul (by omega) (by omega) (by omega) (by omega)
      rw [Int.neg_mul] at this; omega
    · have : 0 ≤ a * d := Int.mul_nonneg (by omega) (by omega)
      omega
  omega

set_option maxRecDepth 100000 in
set_option maxHeartbeats 4000000 in
theorem c_cmp_impl1 (a b c d : Int) (h1 : validQ a b = false) :
    Con Try.prog 82 [qA a b, qA c d] (.p none (.int .i64 0)) [] := by
  refine con_of (N := 33) Try.func82 rfl rfl (by decide) (Nat.le_of_ble_eq_true rfl) ?_
  refine VC_seq (fun K1 k1 => ?_)
  refine VC_lit ?_
  refine goN (sd_box (cs := [.p none (.int _ _), .p none (.int _ _)]) (by first | exact trivial | exact ⟨_, rfl⟩) rfl rfl) (Nat.le_of_ble_eq_true rfl) ?_
  refine goN (sd_box (cs := [.p none (.int _ _), .p none (.int _ _)]) (by first | exact trivial | exact ⟨_, rfl⟩) rfl rfl) (Nat.le_of_ble_eq_true rfl) ?_
  refine goV (sd_assign (v := .p none _) rfl) (Nat.le_of_ble_eq_true rfl) ?_
  refine op_nil ?_
  refine k1 _ ?_
  refine VC_seq (fun K2 k2 => ?_)
  refine VC_seq (fun K3 k3 => ?_)
  refine VC_lit ?_
  refine goV (sd_loadB (vs := [.p none (.int _ _), .p none (.int _ _)]) ty35 rfl rfl (Nat.le_of_ble_eq_true rfl) rfl) (Nat.le_of_ble_eq_true rfl) ?_
  refine goV (sd_callF (v := .p none (.bool _)) rfl (c_valid_impl h1) (.inl rfl) rfl rfl rfl) (Nat.le_of_ble_eq_true rfl) ?_
  refine goV (sd_not rfl) (Nat.le_of_ble_eq_true rfl) ?_
  refine goV (sd_move (v := .p none (.bool _)) rfl) (Nat.le_of_ble_eq_true rfl) ?_
  refine op_gnoE rfl (Nat.le_of_ble_eq_true rfl) rfl rfl (Nat.le_of_ble_eq_true rfl) ?_
  refine op_gnoE rfl (Nat.le_of_ble_eq_true rfl) rfl rfl (Nat.le_of_ble_eq_true rfl) ?_
  refine op_gnoE rfl (Nat.le_of_ble_eq_true rfl) rfl rfl (Nat.le_of_ble_eq_true rfl) ?_
  refine goV (sd_pick (v := .p none (.bool _)) rfl rfl) (Nat.le_of_ble_eq_true rfl) ?_
  refine op_nil ?_
  refine k3 _ ?_
  refine VC_cond rfl (fun c0 => ?_) (fun c0 => absurd c0 (by first | decide | simp))
  refine VC_seq (fun K4 k4 => ?_)
  refine VC_lit ?_
  refine goV (sd_assign (v := .p none _) rfl) (Nat.le_of_ble_eq_true rfl) ?_
  refine op_nil ?_
  refine k4 _ ?_
  refine VC_ret ?_
  show Fin _ _ _ _ _ _
  refine fin0 (xs := [.p none (.int _ _)]) (.inr rfl) ⟨_, _, rfl, rfl, rfl⟩ ?_
  show AV.p none (.int _ _) = _
  rfl

set_option maxRecDepth 100000 in
set_option maxHeartbeats 4000000 in
theorem c_cmp_impl2 (a b c d : Int) (h1 : validQ a b = true) (h2 : validQ c d = false) :
    Con Try.prog 82 [qA a b, qA c d] (.p none (.int .i64 0)) [] := by
  refine con_of (N := 33) Try.func82 rfl rfl (by decide) (Nat.le_of_ble_eq_true rfl) ?_
  refine VC_seq (fun K1 k1 => ?_)
  refine VC_lit ?_
  refine goN (sd_box (cs := [.p none (.int _ _), .p none (.int _ _)]) (by first | exact trivial | exact ⟨_, rfl⟩) rfl rfl) (Nat.le_of_ble_eq_true rfl) ?_
  refine goN (sd_box (cs := [.p none (.int _ _), .p none (.int _ _)]) (by first | exact trivial | exact ⟨_, rfl⟩) rfl rfl) (Nat.le_of_ble_eq_true rfl) ?_
  refine goV (sd_assign (v := .p none _) rfl) (Nat.le_of_ble_eq_true rfl) ?_
  refine op_nil ?_
  refine k1 _ ?_
  refine VC_seq (fun K2 k2 => ?_)
  refine VC_seq (fun K3 k3 => ?_)
  refine VC_lit ?_
  refine goV (sd_loadB (vs := [.p none (.int _ _), .p none (.int _ _)]) ty35 rfl rfl (Nat.le_of_ble_eq_true rfl) rfl) (Nat.le_of_ble_eq_true rfl) ?_
  refine goV (sd_callF (v := .p none (.bool _)) rfl (c_valid_impl h1) (.inl rfl) rfl rfl rfl) (Nat.le_of_ble_eq_true rfl) ?_
  refine goV (sd_not rfl) (Nat.le_of_ble_eq_true rfl) ?_
  refine goV (sd_move (v := .p none (.bool _)) rfl) (Nat.le_of_ble_eq_true rfl) ?_
  refine op_gyes rfl (Nat.le_of_ble_eq_true rfl) rfl rfl ?_; refine goV (sd_loadB (vs := [.p none (.int _ _), .p none (.int _ _)]) ty35 rfl rfl (Nat.le_of_ble_eq_true rfl) rfl) (Nat.le_of_ble_eq_true rfl) ?_
  refine op_gyes rfl (Nat.le_of_ble_eq_true rfl) rfl rfl ?_; refine goV (sd_callF (v := .p none (.bool _)) rfl (c_valid_impl h2) (.inl rfl) rfl rfl rfl) (Nat.le_of_ble_eq_true rfl) ?_
  refine op_gyes rfl (Nat.le_of_ble_eq_true rfl) rfl rfl ?_; refine goV (sd_not rfl) (Nat.le_of_ble_eq_true rfl) ?_
  refine goV (sd_pick (v := .p none (.bool _)) rfl rfl) (Nat.le_of_ble_eq_true rfl) ?_
  refine op_nil ?_
  refine k3 _ ?_
  refine VC_cond rfl (fun c0 => ?_) (fun c0 => absurd c0 (by first | decide | simp))
  refine VC_seq (fun K4 k4 => ?_)
  refine VC_lit ?_
  refine goV (sd_assign (v := .p none _) rfl) (Nat.le_of_ble_eq_true rfl) ?_
  refine op_nil ?_
  refine k4 _ ?_
  refine VC_ret ?_
  show Fin _ _ _ _ _ _
  refine fin0 (xs := [.p none (.int _ _)]) (.inr rfl) ⟨_, _, rfl, rfl, rfl⟩ ?_
  show AV.p none (.int _ _) = _
  rfl

set_option maxRecDepth 100000 in
set_option maxHeartbeats 4000000 in
theorem c_cmp_impl3 (a b c d : Int) (h1 : validQ a b = true) (h2 : validQ c d = true) :
    Con Try.prog 82 [qA a b, qA c d] (.p none (.int .i64 (if a * d < c * b then -1 else if c * b < a * d then 1 else 0))) [] := by
  have b1 := mul_bnd h1 h2
  have b2 := mul_bnd h2 h1
  refine con_of (N := 33) Try.func82 rfl rfl (by decide) (Nat.le_of_ble_eq_true rfl) ?_
  refine VC_seq (fun K1 k1 => ?_)
  refine VC_lit ?_
  refine goN (sd_box (cs := [.p none (.int _ _), .p none (.int _ _)]) (by first | exact trivial | exact ⟨_, rfl⟩) rfl rfl) (Nat.le_of_ble_eq_true rfl) ?_
  refine goN (sd_box (cs := [.p none (.int _ _), .p none (.int _ _)]) (by first | exact trivial | exact ⟨_, rfl⟩) rfl rfl) (Nat.le_of_ble_eq_true rfl) ?_
  refine goV (sd_assign (v := .p none _) rfl) (Nat.le_of_ble_eq_true rfl) ?_
  refine op_nil ?_
  refine k1 _ ?_
  refine VC_seq (fun K2 k2 => ?_)
  refine VC_seq (fun K3 k3 => ?_)
  refine VC_lit ?_
  refine goV (sd_loadB (vs := [.p none (.int _ _), .p none (.int _ _)]) ty35 rfl rfl (Nat.le_of_ble_eq_true rfl) rfl) (Nat.le_of_ble_eq_true rfl) ?_
  refine goV (sd_callF (v := .p none (.bool _)) rfl (c_valid_impl h1) (.inl rfl) rfl rfl rfl) (Nat.le_of_ble_eq_true rfl) ?_
  refine goV (sd_not rfl) (Nat.le_of_ble_eq_true rfl) ?_
  refine goV (sd_move (v := .p none (.bool _)) rfl) (Nat.le_of_ble_eq_true rfl) ?_
  refine op_gyes rfl (Nat.le_of_ble_eq_true rfl) rfl rfl ?_; refine goV (sd_loadB (vs := [.p none (.int _ _), .p none (.int _ _)]) ty35 rfl rfl (Nat.le_of_ble_eq_true rfl) rfl) (Nat.le_of_ble_eq_true rfl) ?_
  refine op_gyes rfl (Nat.le_of_ble_eq_true rfl) rfl rfl ?_; refine goV (sd_callF (v := .p none (.bool _)) rfl (c_valid_impl h2) (.inl rfl) rfl rfl rfl) (Nat.le_of_ble_eq_true rfl) ?_
  refine op_gyes rfl (Nat.le_of_ble_eq_true rfl) rfl rfl ?_; refine goV (sd_not rfl) (Nat.le_of_ble_eq_true rfl) ?_
  refine goV (sd_pick (v := .p none (.bool _)) rfl rfl) (Nat.le_of_ble_eq_true rfl) ?_
  refine op_nil ?_
  refine k3 _ ?_
  refine VC_cond rfl (fun c0 => absurd c0 (by first | decide | simp)) (fun c0 => ?_)
  refine VC_skip ?_
  refine k2 _ ?_
  refine VC_seq (fun K4 k4 => ?_)
  refine VC_drawn mixed ?_
  refine dgo (sd_fieldP fl35_0 rfl rfl) (by kernel_rfl) (dstOk (Nat.le_of_ble_eq_true rfl)) (by kernel_rfl) ?_
  refine dgo (sd_loadB1 (v := .p none (.int _ _)) ty3 rfl rfl rfl) (by kernel_rfl) (dstOk (Nat.le_of_ble_eq_true rfl)) (by kernel_rfl) ?_
  refine dgo (sd_fieldP fl35_1 rfl rfl) (by kernel_rfl) (dstOk (Nat.le_of_ble_eq_true rfl)) (by kernel_rfl) ?_
  refine dgo (sd_loadB1 (v := .p none (.int _ _)) ty3 rfl rfl rfl) (by kernel_rfl) (dstOk (Nat.le_of_ble_eq_true rfl)) (by kernel_rfl) ?_
  refine dgo (sd_mulI rfl rfl ?_) (by kernel_rfl) (dstOk (Nat.le_of_ble_eq_true rfl)) (by kernel_rfl) ?_; (focus (first | omega | (constructor <;> omega)))
  refine dgo (sd_fieldP fl35_0 rfl rfl) (by kernel_rfl) (dstOk (Nat.le_of_ble_eq_true rfl)) (by kernel_rfl) ?_
  refine dgo (sd_loadB1 (v := .p none (.int _ _)) ty3 rfl rfl rfl) (by kernel_rfl) (dstOk (Nat.le_of_ble_eq_true rfl)) (by kernel_rfl) ?_
  refine dgo (sd_fieldP fl35_1 rfl rfl) (by kernel_rfl) (dstOk (Nat.le_of_ble_eq_true rfl)) (by kernel_rfl) ?_
  refine dgo (sd_loadB1 (v := .p none (.int _ _)) ty3 rfl rfl rfl) (by kernel_rfl) (dstOk (Nat.le_of_ble_eq_true rfl)) (by kernel_rfl) ?_
  refine dgo (sd_mulI rfl rfl ?_) (by kernel_rfl) (dstOk (Nat.le_of_ble_eq_true rfl)) (by kernel_rfl) ?_; (focus (first | omega | (constructor <;> omega)))
  refine dgo (sd_assign (v := .p none (.int _ _)) rfl) (by kernel_rfl) (dstOk (Nat.le_of_ble_eq_true rfl)) (by kernel_rfl) ?_
  refine dgo (sd_assign (v := .p none (.int _ _)) rfl) (by kernel_rfl) (dstOk (Nat.le_of_ble_eq_true rfl)) (by kernel_rfl) ?_
  refine dnil ⟨by kernel_rfl, ?_⟩
  refine k4 _ ?_
  refine VC_seq (fun K5 k5 => ?_)
  refine VC_block ?_
  refine VC_seq (fun K6 k6 => ?_)
  refine VC_lit ?_
  refine goV (sd_move (v := .p none (.int _ _)) rfl) (Nat.le_of_ble_eq_true rfl) ?_
  refine goV (sd_move (v := .p none (.int _ _)) rfl) (Nat.le_of_ble_eq_true rfl) ?_
  refine goV (sd_lss rfl rfl) (Nat.le_of_ble_eq_true rfl) ?_
  refine goV (sd_assign (v := .p none (.bool _)) rfl) (Nat.le_of_ble_eq_true rfl) ?_
  refine op_nil ?_
  refine k6 _ ?_
  refine VC_cond rfl (fun c1 => ?_) (fun c1 => ?_)
  · refine VC_seq (fun K7 k7 => ?_)
    refine VC_lit ?_
    refine goV (sd_assign (v := .p none _) rfl) (Nat.le_of_ble_eq_true rfl) ?_
    refine op_nil ?_
    refine k7 _ ?_
    refine VC_ret ?_
    show Fin _ _ _ _ _ _
    refine fin0 (xs := [.p none (.int _ _)]) (.inr rfl) ⟨_, _, rfl, rfl, rfl⟩ ?_
    show AV.p none (.int _ _) = _
    first | (rw [if_pos (by simpa using c1)]) | (rw [if_neg (by simpa using c1), if_pos (by simpa using c2)]) | (rw [if_neg (by simpa using c1), if_neg (by simpa using c2)])
  · refine VC_seq (fun K8 k8 => ?_)
    refine VC_lit ?_
    refine goV (sd_move (v := .p none (.int _ _)) rfl) (Nat.le_of_ble_eq_true rfl) ?_
    refine goV (sd_move (v := .p none (.int _ _)) rfl) (Nat.le_of_ble_eq_true rfl) ?_
    refine goV (sd_gtr rfl rfl) (Nat.le_of_ble_eq_true rfl) ?_
    refine goV (sd_assign (v := .p none (.bool _)) rfl) (Nat.le_of_ble_eq_true rfl) ?_
    refine op_nil ?_
    refine k8 _ ?_
    refine VC_cond rfl (fun c2 => ?_) (fun c2 => ?_)
    · refine VC_seq (fun K9 k9 => ?_)
      refine VC_lit ?_
      refine goV (sd_assign (v := .p none _) rfl) (Nat.le_of_ble_eq_true rfl) ?_
      refine op_nil ?_
      refine k9 _ ?_
      refine VC_ret ?_
      show Fin _ _ _ _ _ _
      refine fin0 (xs := [.p none (.int _ _)]) (.inr rfl) ⟨_, _, rfl, rfl, rfl⟩ ?_
      show AV.p none (.int _ _) = _
      first | (rw [if_pos (by simpa using c1)]) | (rw [if_neg (by simpa using c1), if_pos (by simpa using c2)]) | (rw [if_neg (by simpa using c1), if_neg (by simpa using c2)])
    · refine VC_skip ?_
      refine k5 _ ?_
      refine VC_seq (fun K10 k10 => ?_)
      refine VC_lit ?_
      refine goV (sd_assign (v := .p none _) rfl) (Nat.le_of_ble_eq_true rfl) ?_
      refine op_nil ?_
      refine k10 _ ?_
      refine VC_ret ?_
      show Fin _ _ _ _ _ _
      refine fin0 (xs := [.p none (.int _ _)]) (.inr rfl) ⟨_, _, rfl, rfl, rfl⟩ ?_
      show AV.p none (.int _ _) = _
      first | (rw [if_pos (by simpa using c1)]) | (rw [if_neg (by simpa using c1), if_pos (by simpa using c2)]) | (rw [if_neg (by simpa using c1), if_neg (by simpa using c2)])

theorem c_cmp_impl {a b c d t : Int} (h : cmpQ a b c d = t) : Con Try.prog 82 [qA a b, qA c d] (.p none (.int .i64 t)) [] := by
  subst h
  unfold cmpQ
  cases h1 : validQ a b
  · rw [if_neg (by simp)]; exact c_cmp_impl1 a b c d h1
  · cases h2 : validQ c d
    · rw [if_neg (by simp)]; exact c_cmp_impl2 a b c d h1 h2
    · rw [if_pos (by simp)]; exact c_cmp_impl3 a b c d h1 h2

set_option maxRecDepth 100000 in
set_option maxHeartbeats 4000000 in
theorem c_cmp_spec1 (a b c d : Int) (h1 : validQ a b = false) :
    Con Try.prog 80 [qA a b, qA c d] (.p none (.int .i64 0)) [] := by
  refine con_of (N := 31) Try.func80 rfl rfl (by decide) (Nat.le_of_ble_eq_true rfl) ?_
  refine VC_seq (fun K1 k1 => ?_)
  refine VC_lit ?_
  refine goN (sd_box (cs := [.p none (.int _ _), .p none (.int _ _)]) (by first | exact trivial | exact ⟨_, rfl⟩) rfl rfl) (Nat.le_of_ble_eq_true rfl) ?_
  refine goN (sd_box (cs := [.p none (.int _ _), .p none (.int _ _)]) (by first | exact trivial | exact ⟨_, rfl⟩) rfl rfl) (Nat.le_of_ble_eq_true rfl) ?_
  refine goV (sd_assign (v := .p none _) rfl) (Nat.le_of_ble_eq_true rfl) ?_
  refine op_nil ?_
  refine k1 _ ?_
  refine VC_seq (fun K2 k2 => ?_)
  refine VC_seq (fun K3 k3 => ?_)
  refine VC_lit ?_
  refine goV (sd_loadB (vs := [.p none (.int _ _), .p none (.int _ _)]) ty35 rfl rfl (Nat.le_of_ble_eq_true rfl) rfl) (Nat.le_of_ble_eq_true rfl) ?_
  refine goV (sd_callF (v := .p none (.bool _)) rfl (c_valid_spec h1) (.inl rfl) rfl rfl rfl) (Nat.le_of_ble_eq_true rfl) ?_
  refine goV (sd_not rfl) (Nat.le_of_ble_eq_true rfl) ?_
  refine goV (sd_move (v := .p none (.bool _)) rfl) (Nat.le_of_ble_eq_true rfl) ?_
  refine op_gnoE rfl (Nat.le_of_ble_eq_true rfl) rfl rfl (Nat.le_of_ble_eq_true rfl) ?_
  refine op_gnoE rfl (Nat.le_of_ble_eq_true rfl) rfl rfl (Nat.le_of_ble_eq_true rfl) ?_
  refine op_gnoE rfl (Nat.le_of_ble_eq_true rfl) rfl rfl (Nat.le_of_ble_eq_true rfl) ?_
  refine goV (sd_pick (v := .p none (.bool _)) rfl rfl) (Nat.le_of_ble_eq_true rfl) ?_
  refine op_nil ?_
  refine k3 _ ?_
  refine VC_cond rfl (fun c0 => ?_) (fun c0 => absurd c0 (by first | decide | simp))
  refine VC_seq (fun K4 k4 => ?_)
  refine VC_lit ?_
  refine goV (sd_assign (v := .p none _) rfl) (Nat.le_of_ble_eq_true rfl) ?_
  refine op_nil ?_
  refine k4 _ ?_
  refine VC_ret ?_
  show Fin _ _ _ _ _ _
  refine fin0 (xs := [.p none (.int _ _)]) (.inr rfl) ⟨_, _, rfl, rfl, rfl⟩ ?_
  show AV.p none (.int _ _) = _
  rfl

set_option maxRecDepth 100000 in
set_option maxHeartbeats 4000000 in
theorem c_cmp_spec2 (a b c d : Int) (h1 : validQ a b = true) (h2 : validQ c d = false) :
    Con Try.prog 80 [qA a b, qA c d] (.p none (.int .i64 0)) [] := by
  refine con_of (N := 31) Try.func80 rfl rfl (by decide) (Nat.le_of_ble_eq_true rfl) ?_
  refine VC_seq (fun K1 k1 => ?_)
  refine VC_lit ?_
  refine goN (sd_box (cs := [.p none (.int _ _), .p none (.int _ _)]) (by first | exact trivial | exact ⟨_, rfl⟩) rfl rfl) (Nat.le_of_ble_eq_true rfl) ?_
  refine goN (sd_box (cs := [.p none (.int _ _), .p none (.int _ _)]) (by first | exact trivial | exact ⟨_, rfl⟩) rfl rfl) (Nat.le_of_ble_eq_true rfl) ?_
  refine goV (sd_assign (v := .p none _) rfl) (Nat.le_of_ble_eq_true rfl) ?_
  refine op_nil ?_
  refine k1 _ ?_
  refine VC_seq (fun K2 k2 => ?_)
  refine VC_seq (fun K3 k3 => ?_)
  refine VC_lit ?_
  refine goV (sd_loadB (vs := [.p none (.int _ _), .p none (.int _ _)]) ty35 rfl rfl (Nat.le_of_ble_eq_true rfl) rfl) (Nat.le_of_ble_eq_true rfl) ?_
  refine goV (sd_callF (v := .p none (.bool _)) rfl (c_valid_spec h1) (.inl rfl) rfl rfl rfl) (Nat.le_of_ble_eq_true rfl) ?_
  refine goV (sd_not rfl) (Nat.le_of_ble_eq_true rfl) ?_
  refine goV (sd_move (v := .p none (.bool _)) rfl) (Nat.le_of_ble_eq_true rfl) ?_
  refine op_gyes rfl (Nat.le_of_ble_eq_true rfl) rfl rfl ?_; refine goV (sd_loadB (vs := [.p none (.int _ _), .p none (.int _ _)]) ty35 rfl rfl (Nat.le_of_ble_eq_true rfl) rfl) (Nat.le_of_ble_eq_true rfl) ?_
  refine op_gyes rfl (Nat.le_of_ble_eq_true rfl) rfl rfl ?_; refine goV (sd_callF (v := .p none (.bool _)) rfl (c_valid_spec h2) (.inl rfl) rfl rfl rfl) (Nat.le_of_ble_eq_true rfl) ?_
  refine op_gyes rfl (Nat.le_of_ble_eq_true rfl) rfl rfl ?_; refine goV (sd_not rfl) (Nat.le_of_ble_eq_true rfl) ?_
  refine goV (sd_pick (v := .p none (.bool _)) rfl rfl) (Nat.le_of_ble_eq_true rfl) ?_
  refine op_nil ?_
  refine k3 _ ?_
  refine VC_cond rfl (fun c0 => ?_) (fun c0 => absurd c0 (by first | decide | simp))
  refine VC_seq (fun K4 k4 => ?_)
  refine VC_lit ?_
  refine goV (sd_assign (v := .p none _) rfl) (Nat.le_of_ble_eq_true rfl) ?_
  refine op_nil ?_
  refine k4 _ ?_
  refine VC_ret ?_
  show Fin _ _ _ _ _ _
  refine fin0 (xs := [.p none (.int _ _)]) (.inr rfl) ⟨_, _, rfl, rfl, rfl⟩ ?_
  show AV.p none (.int _ _) = _
  rfl

set_option maxRecDepth 100000 in
set_option maxHeartbeats 4000000 in
theorem c_cmp_spec3 (a b c d : Int) (h1 : validQ a b = true) (h2 : validQ c d = true) :
    Con Try.prog 80 [qA a b, qA c d] (.p none (.int .i64 (if a * d < c * b then -1 else if c * b < a * d then 1 else 0))) [] := by
  have b1 := mul_bnd h1 h2
  have b2 := mul_bnd h2 h1
  refine con_of (N := 31) Try.func80 rfl rfl (by decide) (Nat.le_of_ble_eq_true rfl) ?_
  refine VC_seq (fun K1 k1 => ?_)
  refine VC_lit ?_
  refine goN (sd_box (cs := [.p none (.int _ _), .p none (.int _ _)]) (by first | exact trivial | exact ⟨_, rfl⟩) rfl rfl) (Nat.le_of_ble_eq_true rfl) ?_
  refine goN (sd_box (cs := [.p none (.int _ _), .p none (.int _ _)]) (by first | exact trivial | exact ⟨_, rfl⟩) rfl rfl) (Nat.le_of_ble_eq_true rfl) ?_
  refine goV (sd_assign (v := .p none _) rfl) (Nat.le_of_ble_eq_true rfl) ?_
  refine op_nil ?_
  refine k1 _ ?_
  refine VC_seq (fun K2 k2 => ?_)
  refine VC_seq (fun K3 k3 => ?_)
  refine VC_lit ?_
  refine goV (sd_loadB (vs := [.p none (.int _ _), .p none (.int _ _)]) ty35 rfl rfl (Nat.le_of_ble_eq_true rfl) rfl) (Nat.le_of_ble_eq_true rfl) ?_
  refine goV (sd_callF (v := .p none (.bool _)) rfl (c_valid_spec h1) (.inl rfl) rfl rfl rfl) (Nat.le_of_ble_eq_true rfl) ?_
  refine goV (sd_not rfl) (Nat.le_of_ble_eq_true rfl) ?_
  refine goV (sd_move (v := .p none (.bool _)) rfl) (Nat.le_of_ble_eq_true rfl) ?_
  refine op_gyes rfl (Nat.le_of_ble_eq_true rfl) rfl rfl ?_; refine goV (sd_loadB (vs := [.p none (.int _ _), .p none (.int _ _)]) ty35 rfl rfl (Nat.le_of_ble_eq_true rfl) rfl) (Nat.le_of_ble_eq_true rfl) ?_
  refine op_gyes rfl (Nat.le_of_ble_eq_true rfl) rfl rfl ?_; refine goV (sd_callF (v := .p none (.bool _)) rfl (c_valid_spec h2) (.inl rfl) rfl rfl rfl) (Nat.le_of_ble_eq_true rfl) ?_
  refine op_gyes rfl (Nat.le_of_ble_eq_true rfl) rfl rfl ?_; refine goV (sd_not rfl) (Nat.le_of_ble_eq_true rfl) ?_
  refine goV (sd_pick (v := .p none (.bool _)) rfl rfl) (Nat.le_of_ble_eq_true rfl) ?_
  refine op_nil ?_
  refine k3 _ ?_
  refine VC_cond rfl (fun c0 => absurd c0 (by first | decide | simp)) (fun c0 => ?_)
  refine VC_skip ?_
  refine k2 _ ?_
  refine VC_seq (fun K4 k4 => ?_)
  refine VC_lit ?_
  refine goV (sd_fieldP fl35_0 rfl rfl) (Nat.le_of_ble_eq_true rfl) ?_
  refine goV (sd_loadB1 (v := .p none (.int _ _)) ty3 rfl rfl rfl) (Nat.le_of_ble_eq_true rfl) ?_
  refine goV (sd_fieldP fl35_1 rfl rfl) (Nat.le_of_ble_eq_true rfl) ?_
  refine goV (sd_loadB1 (v := .p none (.int _ _)) ty3 rfl rfl rfl) (Nat.le_of_ble_eq_true rfl) ?_
  refine goV (sd_mulI rfl rfl ?_) (Nat.le_of_ble_eq_true rfl) ?_; (focus (first | omega | (constructor <;> omega)))
  refine goV (sd_assign (v := .p none (.int _ _)) rfl) (Nat.le_of_ble_eq_true rfl) ?_
  refine op_nil ?_
  refine k4 _ ?_
  refine VC_seq (fun K5 k5 => ?_)
  refine VC_lit ?_
  refine goV (sd_fieldP fl35_0 rfl rfl) (Nat.le_of_ble_eq_true rfl) ?_
  refine goV (sd_loadB1 (v := .p none (.int _ _)) ty3 rfl rfl rfl) (Nat.le_of_ble_eq_true rfl) ?_
  refine goV (sd_fieldP fl35_1 rfl rfl) (Nat.le_of_ble_eq_true rfl) ?_
  refine goV (sd_loadB1 (v := .p none (.int _ _)) ty3 rfl rfl rfl) (Nat.le_of_ble_eq_true rfl) ?_
  refine goV (sd_mulI rfl rfl ?_) (Nat.le_of_ble_eq_true rfl) ?_; (focus (first | omega | (constructor <;> omega)))
  refine goV (sd_assign (v := .p none (.int _ _)) rfl) (Nat.le_of_ble_eq_true rfl) ?_
  refine op_nil ?_
  refine k5 _ ?_
  refine VC_seq (fun K6 k6 => ?_)
  refine VC_seq (fun K7 k7 => ?_)
  refine VC_lit ?_
  refine goV (sd_move (v := .p none (.int _ _)) rfl) (Nat.le_of_ble_eq_true rfl) ?_
  refine goV (sd_move (v := .p none (.int _ _)) rfl) (Nat.le_of_ble_eq_true rfl) ?_
  refine goV (sd_lss rfl rfl) (Nat.le_of_ble_eq_true rfl) ?_
  refine op_nil ?_
  refine k7 _ ?_
  refine VC_cond rfl (fun c1 => ?_) (fun c1 => ?_)
  · refine VC_seq (fun K8 k8 => ?_)
    refine VC_lit ?_
    refine goV (sd_assign (v := .p none _) rfl) (Nat.le_of_ble_eq_true rfl) ?_
    refine op_nil ?_
    refine k8 _ ?_
    refine VC_ret ?_
    show Fin _ _ _ _ _ _
    refine fin0 (xs := [.p none (.int _ _)]) (.inr rfl) ⟨_, _, rfl, rfl, rfl⟩ ?_
    show AV.p none (.int _ _) = _
    first | (rw [if_pos (by simpa using c1)]) | (rw [if_neg (by simpa using c1), if_pos (by simpa using c2)]) | (rw [if_neg (by simpa using c1), if_neg (by simpa using c2)])
  · refine VC_skip ?_
    refine k6 _ ?_
    refine VC_seq (fun K9 k9 => ?_)
    refine VC_seq (fun K10 k10 => ?_)
    refine VC_lit ?_
    refine goV (sd_move (v := .p none (.int _ _)) rfl) (Nat.le_of_ble_eq_true rfl) ?_
    refine goV (sd_move (v := .p none (.int _ _)) rfl) (Nat.le_of_ble_eq_true rfl) ?_
    refine goV (sd_gtr rfl rfl) (Nat.le_of_ble_eq_true rfl) ?_
    refine op_nil ?_
    refine k10 _ ?_
    refine VC_cond rfl (fun c2 => ?_) (fun c2 => ?_)
    · refine VC_seq (fun K11 k11 => ?_)
      refine VC_lit ?_
      refine goV (sd_assign (v := .p none _) rfl) (Nat.le_of_ble_eq_true rfl) ?_
      refine op_nil ?_
      refine k11 _ ?_
      refine VC_ret ?_
      show Fin _ _ _ _ _ _
      refine fin0 (xs := [.p none (.int _ _)]) (.inr rfl) ⟨_, _, rfl, rfl, rfl⟩ ?_
      show AV.p none (.int _ _) = _
      first | (rw [if_pos (by simpa using c1)]) | (rw [if_neg (by simpa using c1), if_pos (by simpa using c2)]) | (rw [if_neg (by simpa using c1), if_neg (by simpa using c2)])
    · refine VC_skip ?_
      refine k9 _ ?_
      refine VC_seq (fun K12 k12 => ?_)
      refine VC_lit ?_
      refine goV (sd_assign (v := .p none _) rfl) (Nat.le_of_ble_eq_true rfl) ?_
      refine op_nil ?_
      refine k12 _ ?_
      refine VC_ret ?_
      show Fin _ _ _ _ _ _
      refine fin0 (xs := [.p none (.int _ _)]) (.inr rfl) ⟨_, _, rfl, rfl, rfl⟩ ?_
      show AV.p none (.int _ _) = _
      first | (rw [if_pos (by simpa using c1)]) | (rw [if_neg (by simpa using c1), if_pos (by simpa using c2)]) | (rw [if_neg (by simpa using c1), if_neg (by simpa using c2)])

theorem c_cmp_spec {a b c d t : Int} (h : cmpQ a b c d = t) : Con Try.prog 80 [qA a b, qA c d] (.p none (.int .i64 t)) [] := by
  subst h
  unfold cmpQ
  cases h1 : validQ a b
  · rw [if_neg (by simp)]; exact c_cmp_spec1 a b c d h1
  · cases h2 : validQ c d
    · rw [if_neg (by simp)]; exact c_cmp_spec2 a b c d h1 h2
    · rw [if_pos (by simp)]; exact c_cmp_spec3 a b c d h1 h2
end Go.Proofs.Ytcgjlddpbkponaa
