/-
  Walks: the objective and the limits at a point.
-/
import Derived.Test.YtcgjlddpbkponaaLpC
namespace Go.Proofs.Ytcgjlddpbkponaa
open Go.ChangeShapes Go.WideShapes Go.ChangeAt Go.RowKit
set_option linter.unusedVariables false
set_option linter.unusedSimpArgs false
def atQ (ok : Bool) (l : List Int) (xs : List RationalD) : Int × Int × Bool := if ok = true ∧ xs.length = l.length then dotGo l xs 0 1 else (0, 0, false)
theorem okProg_bnd {p : ProgramD} (h : okProg p = true) : 1 ≤ p.objective.length ∧ p.objective.length ≤ 15 ∧ p.rows.length ≤ 64 ∧ p.limits.length = p.rows.length ∧ (∀ r ∈ p.rows, r.length = p.objective.length) := by
  simp only [okProg, Bool.and_eq_true, decide_eq_true_eq] at h
  obtain ⟨⟨⟨⟨⟨h1, h2⟩, h3⟩, h4⟩, h5⟩, h6⟩ := h
  have := inB_true h1
  refine ⟨by omega, by omega, h2, h3, fun r hr => ?_⟩
  have := List.all_eq_true.1 h5 r hr
  simp only [okRow, Bool.and_eq_true, decide_eq_true_eq] at this
  omega

set_option maxRecDepth 100000 in
set_option maxHeartbeats 4000000 in
theorem c_ObjectiveAt_impl0 (p : ProgramD) (xs : List RationalD) (hf : FitsP p) (h : okProg p = false) :
    Con Try.prog 27 [.agg (progD p), .one (rats xs)] (qT (0, 0, false)) [] := by
  refine con_of (N := 16) Try.func27 rfl rfl (by decide) (Nat.le_of_ble_eq_true rfl) ?_
  refine VC_seq (fun K1 k1 => ?_)
  refine VC_lit ?_
  refine goN (sd_box (cs := [_, _, _]) (by first | exact trivial | exact ⟨_, rfl⟩) rfl rfl) (Nat.le_of_ble_eq_true rfl) ?_
  refine goN (sd_alloc (cs := [.p none (.int _ _), .p none (.int _ _)]) ty35 rfl rfl) (Nat.le_of_ble_eq_true rfl) ?_
  refine goV (sd_assign (v := .p none _) rfl) (Nat.le_of_ble_eq_true rfl) ?_
  refine op_nil ?_
  refine k1 _ ?_
  refine VC_seq (fun K2 k2 => ?_)
  refine VC_seq (fun K3 k3 => ?_)
  refine VC_lit ?_
  refine goV (sd_loadB (vs := [_, _, _]) ty28 rfl rfl (Nat.le_of_ble_eq_true rfl) rfl) (Nat.le_of_ble_eq_true rfl) ?_
  refine goV (sd_callF (v := .p none (.bool _)) rfl (c_prog_impl hf h) (.inl rfl) rfl rfl rfl) (Nat.le_of_ble_eq_true rfl) ?_
  refine goV (sd_not rfl) (Nat.le_of_ble_eq_true rfl) ?_
  refine op_nil ?_
  refine k3 _ ?_
  refine VC_cond rfl (fun c0 => ?_) (fun c0 => absurd c0 (by first | decide | simp))
  refine VC_seq (fun K4 k4 => ?_)
  refine VC_lit ?_
  refine goV (sd_build (cs := [.p none (.int _ _), .p none (.int _ _)]) pl35 (by simp) rfl) (Nat.le_of_ble_eq_true rfl) ?_
  refine goW (sd_storeB (cs' := [.p none (.int _ _), .p none (.int _ _)]) ty35 rfl rfl (by first | exact trivial | exact ⟨_, rfl⟩) rfl (Nat.le_of_ble_eq_true rfl) rfl) ?_
  refine goV (sd_assign (v := .p none _) rfl) (Nat.le_of_ble_eq_true rfl) ?_
  refine op_nil ?_
  refine k4 _ ?_
  refine VC_ret ?_
  show Fin _ _ _ _ _ _
  refine fin0 (xs := [.agg [.p none (.int _ _), .p none (.int _ _)], .p none (.bool _)]) (.inr rfl) ⟨_, _, rfl, ⟨_, _, _, _, _, _, _, rfl, rfl, ty35, .inl ⟨rfl, rfl, rfl⟩⟩, ⟨_, _, rfl, rfl, rfl⟩⟩ ?_
  show AV.tup _ = _
  rfl

set_option maxRecDepth 100000 in
set_option maxHeartbeats 4000000 in
theorem c_ObjectiveAt_impl1 (p : ProgramD) (xs : List RationalD) (hf : FitsP p) (h : okProg p = true) :
    Con Try.prog 27 [.agg (progD p), .one (rats xs)] (qT (if p.objective.length = xs.length then dotGo p.objective xs 0 1 else (0, 0, false))) [] := by
  have hb := okProg_bnd h
  refine con_of (N := 16) Try.func27 rfl rfl (by decide) (Nat.le_of_ble_eq_true rfl) ?_
  refine VC_seq (fun K1 k1 => ?_)
  refine VC_lit ?_
  refine goN (sd_box (cs := [_, _, _]) (by first | exact trivial | exact ⟨_, rfl⟩) rfl rfl) (Nat.le_of_ble_eq_true rfl) ?_
  refine goN (sd_alloc (cs := [.p none (.int _ _), .p none (.int _ _)]) ty35 rfl rfl) (Nat.le_of_ble_eq_true rfl) ?_
  refine goV (sd_assign (v := .p none _) rfl) (Nat.le_of_ble_eq_true rfl) ?_
  refine op_nil ?_
  refine k1 _ ?_
  refine VC_seq (fun K2 k2 => ?_)
  refine VC_seq (fun K3 k3 => ?_)
  refine VC_lit ?_
  refine goV (sd_loadB (vs := [_, _, _]) ty28 rfl rfl (Nat.le_of_ble_eq_true rfl) rfl) (Nat.le_of_ble_eq_true rfl) ?_
  refine goV (sd_callF (v := .p none (.bool _)) rfl (c_prog_impl hf h) (.inl rfl) rfl rfl rfl) (Nat.le_of_ble_eq_true rfl) ?_
  refine goV (sd_not rfl) (Nat.le_of_ble_eq_true rfl) ?_
  refine op_nil ?_
  refine k3 _ ?_
  refine VC_cond rfl (fun c0 => absurd c0 (by first | decide | simp)) (fun c0 => ?_)
  refine VC_skip ?_
  refine k2 _ ?_
  refine VC_seq (fun K4 k4 => ?_)
  refine VC_lit ?_
  refine goV (sd_fieldP fl28_0 rfl rfl) (Nat.le_of_ble_eq_true rfl) ?_
  refine goV (sd_loadB1 (v := .p none (.sl _ _ _)) ty22 rfl rfl rfl) (Nat.le_of_ble_eq_true rfl) ?_
  refine goV (sd_move (v := .p none (.sl _ _ _)) rfl) (Nat.le_of_ble_eq_true rfl) ?_
  refine goV (sd_callF (v := .tup _) rfl (c_product (l := p.objective) (by omega) rfl) (.inl rfl) rfl rfl rfl) (Nat.le_of_ble_eq_true rfl) ?_
  refine goV (sd_extract rfl rfl) (Nat.le_of_ble_eq_true rfl) ?_
  refine goV (sd_extract rfl rfl) (Nat.le_of_ble_eq_true rfl) ?_
  refine goW (sd_storeB (cs' := [.p none (.int _ _), .p none (.int _ _)]) ty35 rfl rfl (by first | exact trivial | exact ⟨_, rfl⟩) rfl (Nat.le_of_ble_eq_true rfl) rfl) ?_
  refine goV (sd_assign (v := .p none (.bool _)) rfl) (Nat.le_of_ble_eq_true rfl) ?_
  refine op_nil ?_
  refine k4 _ ?_
  refine VC_ret ?_
  show Fin _ _ _ _ _ _
  refine fin0 (xs := [.agg [.p none (.int _ _), .p none (.int _ _)], .p none (.bool _)]) (.inr rfl) ⟨_, _, rfl, ⟨_, _, _, _, _, _, _, rfl, rfl, ty35, .inl ⟨rfl, rfl, rfl⟩⟩, ⟨_, _, rfl, rfl, rfl⟩⟩ ?_
  show AV.tup _ = _
  rfl

set_option maxRecDepth 100000 in
set_option maxHeartbeats 4000000 in
theorem c_ObjectiveAt_spec0 (p : ProgramD) (xs : List RationalD) (hf : FitsP p) (h : okProg p = false) :
    Con Try.prog 26 [.agg (progD p), .one (rats xs)] (qT (0, 0, false)) [] := by
  refine con_of (N := 29) Try.func26 rfl rfl (by decide) (Nat.le_of_ble_eq_true rfl) ?_
  refine VC_seq (fun K1 k1 => ?_)
  refine VC_lit ?_
  refine goN (sd_box (cs := [_, _, _]) (by first | exact trivial | exact ⟨_, rfl⟩) rfl rfl) (Nat.le_of_ble_eq_true rfl) ?_
  refine goN (sd_alloc (cs := [.p none (.int _ _), .p none (.int _ _)]) ty35 rfl rfl) (Nat.le_of_ble_eq_true rfl) ?_
  refine goV (sd_assign (v := .p none _) rfl) (Nat.le_of_ble_eq_true rfl) ?_
  refine op_nil ?_
  refine k1 _ ?_
  refine VC_seq (fun K2 k2 => ?_)
  refine VC_seq (fun K3 k3 => ?_)
  refine VC_lit ?_
  refine goV (sd_loadB (vs := [_, _, _]) ty28 rfl rfl (Nat.le_of_ble_eq_true rfl) rfl) (Nat.le_of_ble_eq_true rfl) ?_
  refine goV (sd_callF (v := .p none (.bool _)) rfl (c_prog_spec hf h) (.inl rfl) rfl rfl rfl) (Nat.le_of_ble_eq_true rfl) ?_
  refine goV (sd_not rfl) (Nat.le_of_ble_eq_true rfl) ?_
  refine goV (sd_move (v := .p none (.bool _)) rfl) (Nat.le_of_ble_eq_true rfl) ?_
  refine op_gnoE rfl (Nat.le_of_ble_eq_true rfl) rfl rfl (Nat.le_of_ble_eq_true rfl) ?_
  refine op_gnoE rfl (Nat.le_of_ble_eq_true rfl) rfl rfl (Nat.le_of_ble_eq_true rfl) ?_
  refine op_gnoE rfl (Nat.le_of_ble_eq_true rfl) rfl rfl (Nat.le_of_ble_eq_true rfl) ?_
  refine op_gnoE rfl (Nat.le_of_ble_eq_true rfl) rfl rfl (Nat.le_of_ble_eq_true rfl) ?_
  refine op_gnoE rfl (Nat.le_of_ble_eq_true rfl) rfl rfl (Nat.le_of_ble_eq_true rfl) ?_
  refine op_gnoE rfl (Nat.le_of_ble_eq_true rfl) rfl rfl (Nat.le_of_ble_eq_true rfl) ?_
  refine goV (sd_pick (v := .p none (.bool _)) rfl rfl) (Nat.le_of_ble_eq_true rfl) ?_
  refine op_nil ?_
  refine k3 _ ?_
  refine VC_cond rfl (fun c0 => ?_) (fun c0 => absurd c0 (by first | decide | simp))
  refine VC_seq (fun K4 k4 => ?_)
  refine VC_lit ?_
  refine goV (sd_build (cs := [.p none (.int _ _), .p none (.int _ _)]) pl35 (by simp) rfl) (Nat.le_of_ble_eq_true rfl) ?_
  refine goW (sd_storeB (cs' := [.p none (.int _ _), .p none (.int _ _)]) ty35 rfl rfl (by first | exact trivial | exact ⟨_, rfl⟩) rfl (Nat.le_of_ble_eq_true rfl) rfl) ?_
  refine goV (sd_assign (v := .p none _) rfl) (Nat.le_of_ble_eq_true rfl) ?_
  refine op_nil ?_
  refine k4 _ ?_
  refine VC_ret ?_
  show Fin _ _ _ _ _ _
  refine fin0 (xs := [.agg [.p none (.int _ _), .p none (.int _ _)], .p none (.bool _)]) (.inr rfl) ⟨_, _, rfl, ⟨_, _, _, _, _, _, _, rfl, rfl, ty35, .inl ⟨rfl, rfl, rfl⟩⟩, ⟨_, _, rfl, rfl, rfl⟩⟩ ?_
  show AV.tup _ = _
  rfl

set_option maxRecDepth 100000 in
set_option maxHeartbeats 4000000 in
theorem c_ObjectiveAt_spec1 (p : ProgramD) (xs : List RationalD) (hf : FitsP p) (h : okProg p = true) (hl : ¬ xs.length = p.objective.length) :
    Con Try.prog 26 [.agg (progD p), .one (rats xs)] (qT (0, 0, false)) [] := by
  refine con_of (N := 29) Try.func26 rfl rfl (by decide) (Nat.le_of_ble_eq_true rfl) ?_
  refine VC_seq (fun K1 k1 => ?_)
  refine VC_lit ?_
  refine goN (sd_box (cs := [_, _, _]) (by first | exact trivial | exact ⟨_, rfl⟩) rfl rfl) (Nat.le_of_ble_eq_true rfl) ?_
  refine goN (sd_alloc (cs := [.p none (.int _ _), .p none (.int _ _)]) ty35 rfl rfl) (Nat.le_of_ble_eq_true rfl) ?_
  refine goV (sd_assign (v := .p none _) rfl) (Nat.le_of_ble_eq_true rfl) ?_
  refine op_nil ?_
  refine k1 _ ?_
  refine VC_seq (fun K2 k2 => ?_)
  refine VC_seq (fun K3 k3 => ?_)
  refine VC_lit ?_
  refine goV (sd_loadB (vs := [_, _, _]) ty28 rfl rfl (Nat.le_of_ble_eq_true rfl) rfl) (Nat.le_of_ble_eq_true rfl) ?_
  refine goV (sd_callF (v := .p none (.bool _)) rfl (c_prog_spec hf h) (.inl rfl) rfl rfl rfl) (Nat.le_of_ble_eq_true rfl) ?_
  refine goV (sd_not rfl) (Nat.le_of_ble_eq_true rfl) ?_
  refine goV (sd_move (v := .p none (.bool _)) rfl) (Nat.le_of_ble_eq_true rfl) ?_
  refine op_gyes rfl (Nat.le_of_ble_eq_true rfl) rfl rfl ?_; refine goV (sd_move (v := .p none (.sl _ _ _)) rfl) (Nat.le_of_ble_eq_true rfl) ?_
  refine op_gyes rfl (Nat.le_of_ble_eq_true rfl) rfl rfl ?_; refine goV (sd_len Try.underlying38 len_pm) (Nat.le_of_ble_eq_true rfl) ?_
  refine op_gyes rfl (Nat.le_of_ble_eq_true rfl) rfl rfl ?_; refine goV (sd_fieldP fl28_0 rfl rfl) (Nat.le_of_ble_eq_true rfl) ?_
  refine op_gyes rfl (Nat.le_of_ble_eq_true rfl) rfl rfl ?_; refine goV (sd_loadB1 (v := .p none (.sl _ _ _)) ty22 rfl rfl rfl) (Nat.le_of_ble_eq_true rfl) ?_
  refine op_gyes rfl (Nat.le_of_ble_eq_true rfl) rfl rfl ?_; refine goV (sd_len Try.underlying22 len_pm) (Nat.le_of_ble_eq_true rfl) ?_
  refine op_gyes rfl (Nat.le_of_ble_eq_true rfl) rfl rfl ?_; refine goV (sd_neq rfl rfl) (Nat.le_of_ble_eq_true rfl) ?_
  refine goV (sd_pick (v := .p none (.bool _)) rfl rfl) (Nat.le_of_ble_eq_true rfl) ?_
  refine op_nil ?_
  refine k3 _ ?_
  refine VC_cond rfl (fun c0 => ?_) (fun c0 => absurd c0 (by simp; omega))
  refine VC_seq (fun K4 k4 => ?_)
  refine VC_lit ?_
  refine goV (sd_build (cs := [.p none (.int _ _), .p none (.int _ _)]) pl35 (by simp) rfl) (Nat.le_of_ble_eq_true rfl) ?_
  refine goW (sd_storeB (cs' := [.p none (.int _ _), .p none (.int _ _)]) ty35 rfl rfl (by first | exact trivial | exact ⟨_, rfl⟩) rfl (Nat.le_of_ble_eq_true rfl) rfl) ?_
  refine goV (sd_assign (v := .p none _) rfl) (Nat.le_of_ble_eq_true rfl) ?_
  refine op_nil ?_
  refine k4 _ ?_
  refine VC_ret ?_
  show Fin _ _ _ _ _ _
  refine fin0 (xs := [.agg [.p none (.int _ _), .p none (.int _ _)], .p none (.bool _)]) (.inr rfl) ⟨_, _, rfl, ⟨_, _, _, _, _, _, _, rfl, rfl, ty35, .inl ⟨rfl, rfl, rfl⟩⟩, ⟨_, _, rfl, rfl, rfl⟩⟩ ?_
  show AV.tup _ = _
  rfl

set_option maxRecDepth 100000 in
set_option maxHeartbeats 4000000 in
theorem c_ObjectiveAt_spec2 (p : ProgramD) (xs : List RationalD) (hf : FitsP p) (h : okProg p = true) (hl : xs.length = p.objective.length) :
    Con Try.prog 26 [.agg (progD p), .one (rats xs)] (qT (dotGo p.objective xs 0 1)) [] := by
  have hb := okProg_bnd h
  refine con_of (N := 29) Try.func26 rfl rfl (by decide) (Nat.le_of_ble_eq_true rfl) ?_
  refine VC_seq (fun K1 k1 => ?_)
  refine VC_lit ?_
  refine goN (sd_box (cs := [_, _, _]) (by first | exact trivial | exact ⟨_, rfl⟩) rfl rfl) (Nat.le_of_ble_eq_true rfl) ?_
  refine goN (sd_alloc (cs := [.p none (.int _ _), .p none (.int _ _)]) ty35 rfl rfl) (Nat.le_of_ble_eq_true rfl) ?_
  refine goV (sd_assign (v := .p none _) rfl) (Nat.le_of_ble_eq_true rfl) ?_
  refine op_nil ?_
  refine k1 _ ?_
  refine VC_seq (fun K2 k2 => ?_)
  refine VC_seq (fun K3 k3 => ?_)
  refine VC_lit ?_
  refine goV (sd_loadB (vs := [_, _, _]) ty28 rfl rfl (Nat.le_of_ble_eq_true rfl) rfl) (Nat.le_of_ble_eq_true rfl) ?_
  refine goV (sd_callF (v := .p none (.bool _)) rfl (c_prog_spec hf h) (.inl rfl) rfl rfl rfl) (Nat.le_of_ble_eq_true rfl) ?_
  refine goV (sd_not rfl) (Nat.le_of_ble_eq_true rfl) ?_
  refine goV (sd_move (v := .p none (.bool _)) rfl) (Nat.le_of_ble_eq_true rfl) ?_
  refine op_gyes rfl (Nat.le_of_ble_eq_true rfl) rfl rfl ?_; refine goV (sd_move (v := .p none (.sl _ _ _)) rfl) (Nat.le_of_ble_eq_true rfl) ?_
  refine op_gyes rfl (Nat.le_of_ble_eq_true rfl) rfl rfl ?_; refine goV (sd_len Try.underlying38 len_pm) (Nat.le_of_ble_eq_true rfl) ?_
  refine op_gyes rfl (Nat.le_of_ble_eq_true rfl) rfl rfl ?_; refine goV (sd_fieldP fl28_0 rfl rfl) (Nat.le_of_ble_eq_true rfl) ?_
  refine op_gyes rfl (Nat.le_of_ble_eq_true rfl) rfl rfl ?_; refine goV (sd_loadB1 (v := .p none (.sl _ _ _)) ty22 rfl rfl rfl) (Nat.le_of_ble_eq_true rfl) ?_
  refine op_gyes rfl (Nat.le_of_ble_eq_true rfl) rfl rfl ?_; refine goV (sd_len Try.underlying22 len_pm) (Nat.le_of_ble_eq_true rfl) ?_
  refine op_gyes rfl (Nat.le_of_ble_eq_true rfl) rfl rfl ?_; refine goV (sd_neq rfl rfl) (Nat.le_of_ble_eq_true rfl) ?_
  refine goV (sd_pick (v := .p none (.bool _)) rfl rfl) (Nat.le_of_ble_eq_true rfl) ?_
  refine op_nil ?_
  refine k3 _ ?_
  refine VC_cond rfl (fun c0 => absurd c0 (by simp; omega)) (fun c0 => ?_)
  refine VC_skip ?_
  refine k2 _ ?_
  refine VC_seq (fun K4 k4 => ?_)
  refine VC_lit ?_
  refine goV (sd_fieldP fl28_0 rfl rfl) (Nat.le_of_ble_eq_true rfl) ?_
  refine goV (sd_loadB1 (v := .p none (.sl _ _ _)) ty22 rfl rfl rfl) (Nat.le_of_ble_eq_true rfl) ?_
  refine goV (sd_move (v := .p none (.sl _ _ _)) rfl) (Nat.le_of_ble_eq_true rfl) ?_
  refine goV (sd_callF (v := .tup _) rfl (c_dot p.objective xs (by omega)) (.inl rfl) rfl rfl rfl) (Nat.le_of_ble_eq_true rfl) ?_
  refine goV (sd_move (v := .tup _) rfl) (Nat.le_of_ble_eq_true rfl) ?_
  refine goV (sd_extract rfl rfl) (Nat.le_of_ble_eq_true rfl) ?_
  refine goV (sd_extract rfl rfl) (Nat.le_of_ble_eq_true rfl) ?_
  refine goN (sd_alloc (cs := [.p none (.int _ _), .p none (.int _ _)]) ty35 rfl rfl) (Nat.le_of_ble_eq_true rfl) ?_
  refine goW (sd_storeB (cs' := [.p none (.int _ _), .p none (.int _ _)]) ty35 rfl rfl (by first | exact trivial | exact ⟨_, rfl⟩) rfl (Nat.le_of_ble_eq_true rfl) rfl) ?_
  refine goV (sd_assign (v := .p none (.bool _)) rfl) (Nat.le_of_ble_eq_true rfl) ?_
  refine op_nil ?_
  refine k4 _ ?_
  refine VC_seq (fun K5 k5 => ?_)
  refine VC_lit ?_
  refine goV (sd_loadB (vs := [.p none (.int _ _), .p none (.int _ _)]) ty35 rfl rfl (Nat.le_of_ble_eq_true rfl) rfl) (Nat.le_of_ble_eq_true rfl) ?_
  refine goV (sd_move (v := .p none (.bool _)) rfl) (Nat.le_of_ble_eq_true rfl) ?_
  refine goW (sd_storeB (cs' := [.p none (.int _ _), .p none (.int _ _)]) ty35 rfl rfl (by first | exact trivial | exact ⟨_, rfl⟩) rfl (Nat.le_of_ble_eq_true rfl) rfl) ?_
  refine goV (sd_assign (v := .p none (.bool _)) rfl) (Nat.le_of_ble_eq_true rfl) ?_
  refine op_nil ?_
  refine k5 _ ?_
  refine VC_ret ?_
  show Fin _ _ _ _ _ _
  refine fin0 (xs := [.agg [.p none (.int _ _), .p none (.int _ _)], .p none (.bool _)]) (.inr rfl) ⟨_, _, rfl, ⟨_, _, _, _, _, _, _, rfl, rfl, ty35, .inl ⟨rfl, rfl, rfl⟩⟩, ⟨_, _, rfl, rfl, rfl⟩⟩ ?_
  show AV.tup _ = _
  rfl

theorem c_ObjectiveAt_impl {p : ProgramD} {xs : List RationalD} {q : Int × Int × Bool} (hf : FitsP p) (h : atQ (okProg p) p.objective xs = q) : Con Try.prog 27 [.agg (progD p), .one (rats xs)] (qT q) [] := by
  subst h
  unfold atQ
  cases hv : okProg p
  · rw [if_neg (by simp)]; exact c_ObjectiveAt_impl0 p xs hf hv
  · have := c_ObjectiveAt_impl1 p xs hf hv
    by_cases hl : xs.length = p.objective.length
    · rw [if_pos ⟨rfl, hl⟩]; rwa [if_pos hl.symm] at this
    · rw [if_neg (by simp [hl])]; rwa [if_neg (fun e => hl e.symm)] at this
theorem c_ObjectiveAt_spec {p : ProgramD} {xs : List RationalD} {q : Int × Int × Bool} (hf : FitsP p) (h : atQ (okProg p) p.objective xs = q) : Con Try.prog 26 [.agg (progD p), .one (rats xs)] (qT q) [] := by
  subst h
  unfold atQ
  cases hv : okProg p
  · rw [if_neg (by simp)]; exact c_ObjectiveAt_spec0 p xs hf hv
  · by_cases hl : xs.length = p.objective.length
    · rw [if_pos ⟨rfl, hl⟩]; exact c_ObjectiveAt_spec2 p xs hf hv hl
    · rw [if_neg (by simp [hl])]; exact c_ObjectiveAt_spec1 p xs hf hv hl

set_option maxRecDepth 100000 in
set_option maxHeartbeats 4000000 in
theorem c_LimitAt_impl0 (p : ProgramD) (xs : List RationalD) (hf : FitsP p) (h : okProg p = false) :
    Con Try.prog 23 [.agg (progD p), .one (rats xs)] (qT (0, 0, false)) [] := by
  refine con_of (N := 16) Try.func23 rfl rfl (by decide) (Nat.le_of_ble_eq_true rfl) ?_
  refine VC_seq (fun K1 k1 => ?_)
  refine VC_lit ?_
  refine goN (sd_box (cs := [_, _, _]) (by first | exact trivial | exact ⟨_, rfl⟩) rfl rfl) (Nat.le_of_ble_eq_true rfl) ?_
  refine goN (sd_alloc (cs := [.p none (.int _ _), .p none (.int _ _)]) ty35 rfl rfl) (Nat.le_of_ble_eq_true rfl) ?_
  refine goV (sd_assign (v := .p none _) rfl) (Nat.le_of_ble_eq_true rfl) ?_
  refine op_nil ?_
  refine k1 _ ?_
  refine VC_seq (fun K2 k2 => ?_)
  refine VC_seq (fun K3 k3 => ?_)
  refine VC_lit ?_
  refine goV (sd_loadB (vs := [_, _, _]) ty28 rfl rfl (Nat.le_of_ble_eq_true rfl) rfl) (Nat.le_of_ble_eq_true rfl) ?_
  refine goV (sd_callF (v := .p none (.bool _)) rfl (c_prog_impl hf h) (.inl rfl) rfl rfl rfl) (Nat.le_of_ble_eq_true rfl) ?_
  refine goV (sd_not rfl) (Nat.le_of_ble_eq_true rfl) ?_
  refine op_nil ?_
  refine k3 _ ?_
  refine VC_cond rfl (fun c0 => ?_) (fun c0 => absurd c0 (by first | decide | simp))
  refine VC_seq (fun K4 k4 => ?_)
  refine VC_lit ?_
  refine goV (sd_build (cs := [.p none (.int _ _), .p none (.int _ _)]) pl35 (by simp) rfl) (Nat.le_of_ble_eq_true rfl) ?_
  refine goW (sd_storeB (cs' := [.p none (.int _ _), .p none (.int _ _)]) ty35 rfl rfl (by first | exact trivial | exact ⟨_, rfl⟩) rfl (Nat.le_of_ble_eq_true rfl) rfl) ?_
  refine goV (sd_assign (v := .p none _) rfl) (Nat.le_of_ble_eq_true rfl) ?_
  refine op_nil ?_
  refine k4 _ ?_
  refine VC_ret ?_
  show Fin _ _ _ _ _ _
  refine fin0 (xs := [.agg [.p none (.int _ _), .p none (.int _ _)], .p none (.bool _)]) (.inr rfl) ⟨_, _, rfl, ⟨_, _, _, _, _, _, _, rfl, rfl, ty35, .inl ⟨rfl, rfl, rfl⟩⟩, ⟨_, _, rfl, rfl, rfl⟩⟩ ?_
  show AV.tup _ = _
  rfl

set_option maxRecDepth 100000 in
set_option maxHeartbeats 4000000 in
theorem c_LimitAt_impl1 (p : ProgramD) (xs : List RationalD) (hf : FitsP p) (h : okProg p = true) :
    Con Try.prog 23 [.agg (progD p), .one (rats xs)] (qT (if p.limits.length = xs.length then dotGo p.limits xs 0 1 else (0, 0, false))) [] := by
  have hb := okProg_bnd h
  refine con_of (N := 16) Try.func23 rfl rfl (by decide) (Nat.le_of_ble_eq_true rfl) ?_
  refine VC_seq (fun K1 k1 => ?_)
  refine VC_lit ?_
  refine goN (sd_box (cs := [_, _, _]) (by first | exact trivial | exact ⟨_, rfl⟩) rfl rfl) (Nat.le_of_ble_eq_true rfl) ?_
  refine goN (sd_alloc (cs := [.p none (.int _ _), .p none (.int _ _)]) ty35 rfl rfl) (Nat.le_of_ble_eq_true rfl) ?_
  refine goV (sd_assign (v := .p none _) rfl) (Nat.le_of_ble_eq_true rfl) ?_
  refine op_nil ?_
  refine k1 _ ?_
  refine VC_seq (fun K2 k2 => ?_)
  refine VC_seq (fun K3 k3 => ?_)
  refine VC_lit ?_
  refine goV (sd_loadB (vs := [_, _, _]) ty28 rfl rfl (Nat.le_of_ble_eq_true rfl) rfl) (Nat.le_of_ble_eq_true rfl) ?_
  refine goV (sd_callF (v := .p none (.bool _)) rfl (c_prog_impl hf h) (.inl rfl) rfl rfl rfl) (Nat.le_of_ble_eq_true rfl) ?_
  refine goV (sd_not rfl) (Nat.le_of_ble_eq_true rfl) ?_
  refine op_nil ?_
  refine k3 _ ?_
  refine VC_cond rfl (fun c0 => absurd c0 (by first | decide | simp)) (fun c0 => ?_)
  refine VC_skip ?_
  refine k2 _ ?_
  refine VC_seq (fun K4 k4 => ?_)
  refine VC_lit ?_
  refine goV (sd_fieldP fl28_2 rfl rfl) (Nat.le_of_ble_eq_true rfl) ?_
  refine goV (sd_loadB1 (v := .p none (.sl _ _ _)) ty22 rfl rfl rfl) (Nat.le_of_ble_eq_true rfl) ?_
  refine goV (sd_move (v := .p none (.sl _ _ _)) rfl) (Nat.le_of_ble_eq_true rfl) ?_
  refine goV (sd_callF (v := .tup _) rfl (c_product (l := p.limits) (by omega) rfl) (.inl rfl) rfl rfl rfl) (Nat.le_of_ble_eq_true rfl) ?_
  refine goV (sd_extract rfl rfl) (Nat.le_of_ble_eq_true rfl) ?_
  refine goV (sd_extract rfl rfl) (Nat.le_of_ble_eq_true rfl) ?_
  refine goW (sd_storeB (cs' := [.p none (.int _ _), .p none (.int _ _)]) ty35 rfl rfl (by first | exact trivial | exact ⟨_, rfl⟩) rfl (Nat.le_of_ble_eq_true rfl) rfl) ?_
  refine goV (sd_assign (v := .p none (.bool _)) rfl) (Nat.le_of_ble_eq_true rfl) ?_
  refine op_nil ?_
  refine k4 _ ?_
  refine VC_ret ?_
  show Fin _ _ _ _ _ _
  refine fin0 (xs := [.agg [.p none (.int _ _), .p none (.int _ _)], .p none (.bool _)]) (.inr rfl) ⟨_, _, rfl, ⟨_, _, _, _, _, _, _, rfl, rfl, ty35, .inl ⟨rfl, rfl, rfl⟩⟩, ⟨_, _, rfl, rfl, rfl⟩⟩ ?_
  show AV.tup _ = _
  rfl

set_option maxRecDepth 100000 in
set_option maxHeartbeats 4000000 in
theorem c_LimitAt_spec0 (p : ProgramD) (xs : List RationalD) (hf : FitsP p) (h : okProg p = false) :
    Con Try.prog 21 [.agg (progD p), .one (rats xs)] (qT (0, 0, false)) [] := by
  refine con_of (N := 29) Try.func21 rfl rfl (by decide) (Nat.le_of_ble_eq_true rfl) ?_
  refine VC_seq (fun K1 k1 => ?_)
  refine VC_lit ?_
  refine goN (sd_box (cs := [_, _, _]) (by first | exact trivial | exact ⟨_, rfl⟩) rfl rfl) (Nat.le_of_ble_eq_true rfl) ?_
  refine goN (sd_alloc (cs := [.p none (.int _ _), .p none (.int _ _)]) ty35 rfl rfl) (Nat.le_of_ble_eq_true rfl) ?_
  refine goV (sd_assign (v := .p none _) rfl) (Nat.le_of_ble_eq_true rfl) ?_
  refine op_nil ?_
  refine k1 _ ?_
  refine VC_seq (fun K2 k2 => ?_)
  refine VC_seq (fun K3 k3 => ?_)
  refine VC_lit ?_
  refine goV (sd_loadB (vs := [_, _, _]) ty28 rfl rfl (Nat.le_of_ble_eq_true rfl) rfl) (Nat.le_of_ble_eq_true rfl) ?_
  refine goV (sd_callF (v := .p none (.bool _)) rfl (c_prog_spec hf h) (.inl rfl) rfl rfl rfl) (Nat.le_of_ble_eq_true rfl) ?_
  refine goV (sd_not rfl) (Nat.le_of_ble_eq_true rfl) ?_
  refine goV (sd_move (v := .p none (.bool _)) rfl) (Nat.le_of_ble_eq_true rfl) ?_
  refine op_gnoE rfl (Nat.le_of_ble_eq_true rfl) rfl rfl (Nat.le_of_ble_eq_true rfl) ?_
  refine op_gnoE rfl (Nat.le_of_ble_eq_true rfl) rfl rfl (Nat.le_of_ble_eq_true rfl) ?_
  refine op_gnoE rfl (Nat.le_of_ble_eq_true rfl) rfl rfl (Nat.le_of_ble_eq_true rfl) ?_
  refine op_gnoE rfl (Nat.le_of_ble_eq_true rfl) rfl rfl (Nat.le_of_ble_eq_true rfl) ?_
  refine op_gnoE rfl (Nat.le_of_ble_eq_true rfl) rfl rfl (Nat.le_of_ble_eq_true rfl) ?_
  refine op_gnoE rfl (Nat.le_of_ble_eq_true rfl) rfl rfl (Nat.le_of_ble_eq_true rfl) ?_
  refine goV (sd_pick (v := .p none (.bool _)) rfl rfl) (Nat.le_of_ble_eq_true rfl) ?_
  refine op_nil ?_
  refine k3 _ ?_
  refine VC_cond rfl (fun c0 => ?_) (fun c0 => absurd c0 (by first | decide | simp))
  refine VC_seq (fun K4 k4 => ?_)
  refine VC_lit ?_
  refine goV (sd_build (cs := [.p none (.int _ _), .p none (.int _ _)]) pl35 (by simp) rfl) (Nat.le_of_ble_eq_true rfl) ?_
  refine goW (sd_storeB (cs' := [.p none (.int _ _), .p none (.int _ _)]) ty35 rfl rfl (by first | exact trivial | exact ⟨_, rfl⟩) rfl (Nat.le_of_ble_eq_true rfl) rfl) ?_
  refine goV (sd_assign (v := .p none _) rfl) (Nat.le_of_ble_eq_true rfl) ?_
  refine op_nil ?_
  refine k4 _ ?_
  refine VC_ret ?_
  show Fin _ _ _ _ _ _
  refine fin0 (xs := [.agg [.p none (.int _ _), .p none (.int _ _)], .p none (.bool _)]) (.inr rfl) ⟨_, _, rfl, ⟨_, _, _, _, _, _, _, rfl, rfl, ty35, .inl ⟨rfl, rfl, rfl⟩⟩, ⟨_, _, rfl, rfl, rfl⟩⟩ ?_
  show AV.tup _ = _
  rfl

set_option maxRecDepth 100000 in
set_option maxHeartbeats 4000000 in
theorem c_LimitAt_spec1 (p : ProgramD) (xs : List RationalD) (hf : FitsP p) (h : okProg p = true) (hl : ¬ xs.length = p.limits.length) :
    Con Try.prog 21 [.agg (progD p), .one (rats xs)] (qT (0, 0, false)) [] := by
  refine con_of (N := 29) Try.func21 rfl rfl (by decide) (Nat.le_of_ble_eq_true rfl) ?_
  refine VC_seq (fun K1 k1 => ?_)
  refine VC_lit ?_
  refine goN (sd_box (cs := [_, _, _]) (by first | exact trivial | exact ⟨_, rfl⟩) rfl rfl) (Nat.le_of_ble_eq_true rfl) ?_
  refine goN (sd_alloc (cs := [.p none (.int _ _), .p none (.int _ _)]) ty35 rfl rfl) (Nat.le_of_ble_eq_true rfl) ?_
  refine goV (sd_assign (v := .p none _) rfl) (Nat.le_of_ble_eq_true rfl) ?_
  refine op_nil ?_
  refine k1 _ ?_
  refine VC_seq (fun K2 k2 => ?_)
  refine VC_seq (fun K3 k3 => ?_)
  refine VC_lit ?_
  refine goV (sd_loadB (vs := [_, _, _]) ty28 rfl rfl (Nat.le_of_ble_eq_true rfl) rfl) (Nat.le_of_ble_eq_true rfl) ?_
  refine goV (sd_callF (v := .p none (.bool _)) rfl (c_prog_spec hf h) (.inl rfl) rfl rfl rfl) (Nat.le_of_ble_eq_true rfl) ?_
  refine goV (sd_not rfl) (Nat.le_of_ble_eq_true rfl) ?_
  refine goV (sd_move (v := .p none (.bool _)) rfl) (Nat.le_of_ble_eq_true rfl) ?_
  refine op_gyes rfl (Nat.le_of_ble_eq_true rfl) rfl rfl ?_; refine goV (sd_move (v := .p none (.sl _ _ _)) rfl) (Nat.le_of_ble_eq_true rfl) ?_
  refine op_gyes rfl (Nat.le_of_ble_eq_true rfl) rfl rfl ?_; refine goV (sd_len Try.underlying38 len_pm) (Nat.le_of_ble_eq_true rfl) ?_
  refine op_gyes rfl (Nat.le_of_ble_eq_true rfl) rfl rfl ?_; refine goV (sd_fieldP fl28_2 rfl rfl) (Nat.le_of_ble_eq_true rfl) ?_
  refine op_gyes rfl (Nat.le_of_ble_eq_true rfl) rfl rfl ?_; refine goV (sd_loadB1 (v := .p none (.sl _ _ _)) ty22 rfl rfl rfl) (Nat.le_of_ble_eq_true rfl) ?_
  refine op_gyes rfl (Nat.le_of_ble_eq_true rfl) rfl rfl ?_; refine goV (sd_len Try.underlying22 len_pm) (Nat.le_of_ble_eq_true rfl) ?_
  refine op_gyes rfl (Nat.le_of_ble_eq_true rfl) rfl rfl ?_; refine goV (sd_neq rfl rfl) (Nat.le_of_ble_eq_true rfl) ?_
  refine goV (sd_pick (v := .p none (.bool _)) rfl rfl) (Nat.le_of_ble_eq_true rfl) ?_
  refine op_nil ?_
  refine k3 _ ?_
  refine VC_cond rfl (fun c0 => ?_) (fun c0 => absurd c0 (by simp; omega))
  refine VC_seq (fun K4 k4 => ?_)
  refine VC_lit ?_
  refine goV (sd_build (cs := [.p none (.int _ _), .p none (.int _ _)]) pl35 (by simp) rfl) (Nat.le_of_ble_eq_true rfl) ?_
  refine goW (sd_storeB (cs' := [.p none (.int _ _), .p none (.int _ _)]) ty35 rfl rfl (by first | exact trivial | exact ⟨_, rfl⟩) rfl (Nat.le_of_ble_eq_true rfl) rfl) ?_
  refine goV (sd_assign (v := .p none _) rfl) (Nat.le_of_ble_eq_true rfl) ?_
  refine op_nil ?_
  refine k4 _ ?_
  refine VC_ret ?_
  show Fin _ _ _ _ _ _
  refine fin0 (xs := [.agg [.p none (.int _ _), .p none (.int _ _)], .p none (.bool _)]) (.inr rfl) ⟨_, _, rfl, ⟨_, _, _, _, _, _, _, rfl, rfl, ty35, .inl ⟨rfl, rfl, rfl⟩⟩, ⟨_, _, rfl, rfl, rfl⟩⟩ ?_
  show AV.tup _ = _
  rfl

set_option maxRecDepth 100000 in
set_option maxHeartbeats 4000000 in
theorem c_LimitAt_spec2 (p : ProgramD) (xs : List RationalD) (hf : FitsP p) (h : okProg p = true) (hl : xs.length = p.limits.length) :
    Con Try.prog 21 [.agg (progD p), .one (rats xs)] (qT (dotGo p.limits xs 0 1)) [] := by
  have hb := okProg_bnd h
  refine con_of (N := 29) Try.func21 rfl rfl (by decide) (Nat.le_of_ble_eq_true rfl) ?_
  refine VC_seq (fun K1 k1 => ?_)
  refine VC_lit ?_
  refine goN (sd_box (cs := [_, _, _]) (by first | exact trivial | exact ⟨_, rfl⟩) rfl rfl) (Nat.le_of_ble_eq_true rfl) ?_
  refine goN (sd_alloc (cs := [.p none (.int _ _), .p none (.int _ _)]) ty35 rfl rfl) (Nat.le_of_ble_eq_true rfl) ?_
  refine goV (sd_assign (v := .p none _) rfl) (Nat.le_of_ble_eq_true rfl) ?_
  refine op_nil ?_
  refine k1 _ ?_
  refine VC_seq (fun K2 k2 => ?_)
  refine VC_seq (fun K3 k3 => ?_)
  refine VC_lit ?_
  refine goV (sd_loadB (vs := [_, _, _]) ty28 rfl rfl (Nat.le_of_ble_eq_true rfl) rfl) (Nat.le_of_ble_eq_true rfl) ?_
  refine goV (sd_callF (v := .p none (.bool _)) rfl (c_prog_spec hf h) (.inl rfl) rfl rfl rfl) (Nat.le_of_ble_eq_true rfl) ?_
  refine goV (sd_not rfl) (Nat.le_of_ble_eq_true rfl) ?_
  refine goV (sd_move (v := .p none (.bool _)) rfl) (Nat.le_of_ble_eq_true rfl) ?_
  refine op_gyes rfl (Nat.le_of_ble_eq_true rfl) rfl rfl ?_; refine goV (sd_move (v := .p none (.sl _ _ _)) rfl) (Nat.le_of_ble_eq_true rfl) ?_
  refine op_gyes rfl (Nat.le_of_ble_eq_true rfl) rfl rfl ?_; refine goV (sd_len Try.underlying38 len_pm) (Nat.le_of_ble_eq_true rfl) ?_
  refine op_gyes rfl (Nat.le_of_ble_eq_true rfl) rfl rfl ?_; refine goV (sd_fieldP fl28_2 rfl rfl) (Nat.le_of_ble_eq_true rfl) ?_
  refine op_gyes rfl (Nat.le_of_ble_eq_true rfl) rfl rfl ?_; refine goV (sd_loadB1 (v := .p none (.sl _ _ _)) ty22 rfl rfl rfl) (Nat.le_of_ble_eq_true rfl) ?_
  refine op_gyes rfl (Nat.le_of_ble_eq_true rfl) rfl rfl ?_; refine goV (sd_len Try.underlying22 len_pm) (Nat.le_of_ble_eq_true rfl) ?_
  refine op_gyes rfl (Nat.le_of_ble_eq_true rfl) rfl rfl ?_; refine goV (sd_neq rfl rfl) (Nat.le_of_ble_eq_true rfl) ?_
  refine goV (sd_pick (v := .p none (.bool _)) rfl rfl) (Nat.le_of_ble_eq_true rfl) ?_
  refine op_nil ?_
  refine k3 _ ?_
  refine VC_cond rfl (fun c0 => absurd c0 (by simp; omega)) (fun c0 => ?_)
  refine VC_skip ?_
  refine k2 _ ?_
  refine VC_seq (fun K4 k4 => ?_)
  refine VC_lit ?_
  refine goV (sd_fieldP fl28_2 rfl rfl) (Nat.le_of_ble_eq_true rfl) ?_
  refine goV (sd_loadB1 (v := .p none (.sl _ _ _)) ty22 rfl rfl rfl) (Nat.le_of_ble_eq_true rfl) ?_
  refine goV (sd_move (v := .p none (.sl _ _ _)) rfl) (Nat.le_of_ble_eq_true rfl) ?_
  refine goV (sd_callF (v := .tup _) rfl (c_dot p.limits xs (by omega)) (.inl rfl) rfl rfl rfl) (Nat.le_of_ble_eq_true rfl) ?_
  refine goV (sd_move (v := .tup _) rfl) (Nat.le_of_ble_eq_true rfl) ?_
  refine goV (sd_extract rfl rfl) (Nat.le_of_ble_eq_true rfl) ?_
  refine goV (sd_extract rfl rfl) (Nat.le_of_ble_eq_true rfl) ?_
  refine goN (sd_alloc (cs := [.p none (.int _ _), .p none (.int _ _)]) ty35 rfl rfl) (Nat.le_of_ble_eq_true rfl) ?_
  refine goW (sd_storeB (cs' := [.p none (.int _ _), .p none (.int _ _)]) ty35 rfl rfl (by first | exact trivial | exact ⟨_, rfl⟩) rfl (Nat.le_of_ble_eq_true rfl) rfl) ?_
  refine goV (sd_assign (v := .p none (.bool _)) rfl) (Nat.le_of_ble_eq_true rfl) ?_
  refine op_nil ?_
  refine k4 _ ?_
  refine VC_seq (fun K5 k5 => ?_)
  refine VC_lit ?_
  refine goV (sd_loadB (vs := [.p none (.int _ _), .p none (.int _ _)]) ty35 rfl rfl (Nat.le_of_ble_eq_true rfl) rfl) (Nat.le_of_ble_eq_true rfl) ?_
  refine goV (sd_move (v := .p none (.bool _)) rfl) (Nat.le_of_ble_eq_true rfl) ?_
  refine goW (sd_storeB (cs' := [.p none (.int _ _), .p none (.int _ _)]) ty35 rfl rfl (by first | exact trivial | exact ⟨_, rfl⟩) rfl (Nat.le_of_ble_eq_true rfl) rfl) ?_
  refine goV (sd_assign (v := .p none (.bool _)) rfl) (Nat.le_of_ble_eq_true rfl) ?_
  refine op_nil ?_
  refine k5 _ ?_
  refine VC_ret ?_
  show Fin _ _ _ _ _ _
  refine fin0 (xs := [.agg [.p none (.int _ _), .p none (.int _ _)], .p none (.bool _)]) (.inr rfl) ⟨_, _, rfl, ⟨_, _, _, _, _, _, _, rfl, rfl, ty35, .inl ⟨rfl, rfl, rfl⟩⟩, ⟨_, _, rfl, rfl, rfl⟩⟩ ?_
  show AV.tup _ = _
  rfl

theorem c_LimitAt_impl {p : ProgramD} {xs : List RationalD} {q : Int × Int × Bool} (hf : FitsP p) (h : atQ (okProg p) p.limits xs = q) : Con Try.prog 23 [.agg (progD p), .one (rats xs)] (qT q) [] := by
  subst h
  unfold atQ
  cases hv : okProg p
  · rw [if_neg (by simp)]; exact c_LimitAt_impl0 p xs hf hv
  · have := c_LimitAt_impl1 p xs hf hv
    by_cases hl : xs.length = p.limits.length
    · rw [if_pos ⟨rfl, hl⟩]; rwa [if_pos hl.symm] at this
    · rw [if_neg (by simp [hl])]; rwa [if_neg (fun e => hl e.symm)] at this
theorem c_LimitAt_spec {p : ProgramD} {xs : List RationalD} {q : Int × Int × Bool} (hf : FitsP p) (h : atQ (okProg p) p.limits xs = q) : Con Try.prog 21 [.agg (progD p), .one (rats xs)] (qT q) [] := by
  subst h
  unfold atQ
  cases hv : okProg p
  · rw [if_neg (by simp)]; exact c_LimitAt_spec0 p xs hf hv
  · by_cases hl : xs.length = p.limits.length
    · rw [if_pos ⟨rfl, hl⟩]; exact c_LimitAt_spec2 p xs hf hv hl
    · rw [if_neg (by simp [hl])]; exact c_LimitAt_spec1 p xs hf hv hl
end Go.Proofs.Ytcgjlddpbkponaa
