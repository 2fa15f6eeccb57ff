/-
  Valid dictionaries: the reference's walk.
-/
import Derived.Test.YtcgjlddpbkponaaDcD
namespace Go.Proofs.Ytcgjlddpbkponaa
open Go.ChangeShapes Go.WideShapes Go.ChangeAt Go.RowKit
set_option linter.unusedVariables false
set_option linter.unusedSimpArgs false
theorem chain5 (a b c d e : Bool) : a = false ∨ (a = true ∧ b = false) ∨ (a = true ∧ b = true ∧ c = false) ∨ (a = true ∧ b = true ∧ c = true ∧ d = false) ∨ (a = true ∧ b = true ∧ c = true ∧ d = true ∧ e = false) ∨ (a = true ∧ b = true ∧ c = true ∧ d = true ∧ e = true) := by cases a <;> cases b <;> cases c <;> cases d <;> cases e <;> simp
theorem okPerm_no' {l : List Int} {k : Nat} (hk : k < l.length) (h : (l.any fun x => decide (x = (k : Int))) = false) : okPerm l = false := by
  cases e : okPerm l
  · rfl
  · have := List.all_eq_true.1 e k (List.mem_range.2 hk)
    rw [h] at this; cases this
theorem okPerm_yes {l : List Int} (h : ∀ i, i < l.length → (l.any fun x => decide (x = (i : Int))) = true) : okPerm l = true := List.all_eq_true.2 fun i hi => h i (List.mem_range.1 hi)
theorem bn_true {b : Bool} (h : (!b) = true) : b = false := by cases b <;> simp_all
theorem bn_false {b : Bool} (h : (!b) = false) : b = true := by cases b <;> simp_all
theorem okRats_len {l : List RationalD} {n : Int} (h : ¬ (l.length : Int) = n) : okRats l n = false := by simp [okRats, h]
theorem okRats_all {l : List RationalD} {n : Int} (h : (l.length : Int) = n) : okRats l n = l.all okRat := by simp [okRats, h]
theorem succ_all {p : Nat → Prop} {k : Nat} (ha : ∀ i, i < k → p i) (h : p k) : ∀ i, i < k + 1 → p i := by
  intro i hi
  rcases Nat.lt_or_eq_of_le (Nat.le_of_lt_succ hi) with h' | rfl
  · exact ha i h'
  · exact h

set_option maxRecDepth 100000 in
set_option maxHeartbeats 4000000 in
theorem c_okDic_spec0 (d : DictionaryD) (hs : SmallD d) :
    Con Try.prog 44 [.agg (dicD d)] (.p none (.bool (okDic d))) [] := by
  obtain ⟨s0, s1, s2, s3, s4⟩ := hs
  refine con_of (N := 95) Try.func44 rfl rfl (by decide) (Nat.le_of_ble_eq_true rfl) ?_
  refine VC_seq (fun K1 k1 => ?_)
  refine VC_lit ?_
  refine goN (sd_box (cs := [_, _, _, _, _, .p none (.int _ _), .p none (.int _ _)]) (by first | exact trivial | exact ⟨_, rfl⟩) rfl rfl) (Nat.le_of_ble_eq_true rfl) ?_
  refine goV (sd_assign (v := .p none _) rfl) (Nat.le_of_ble_eq_true rfl) ?_
  refine op_nil ?_
  refine k1 _ ?_
  refine VC_seq (fun K2 k2 => ?_)
  refine VC_lit ?_
  refine goV (sd_fieldP fl45_0 rfl rfl) (Nat.le_of_ble_eq_true rfl) ?_
  refine goV (sd_loadB1 (v := .p none (.sl _ _ _)) ty22 rfl rfl rfl) (Nat.le_of_ble_eq_true rfl) ?_
  refine goV (sd_len Try.underlying22 len_pm) (Nat.le_of_ble_eq_true rfl) ?_
  refine goV (sd_assign (v := .p none (.int _ _)) rfl) (Nat.le_of_ble_eq_true rfl) ?_
  refine op_nil ?_
  refine k2 _ ?_
  refine VC_seq (fun K3 k3 => ?_)
  refine VC_lit ?_
  refine goV (sd_fieldP fl45_1 rfl rfl) (Nat.le_of_ble_eq_true rfl) ?_
  refine goV (sd_loadB1 (v := .p none (.sl _ _ _)) ty22 rfl rfl rfl) (Nat.le_of_ble_eq_true rfl) ?_
  refine goV (sd_len Try.underlying22 len_pm) (Nat.le_of_ble_eq_true rfl) ?_
  refine goV (sd_assign (v := .p none (.int _ _)) rfl) (Nat.le_of_ble_eq_true rfl) ?_
  refine op_nil ?_
  refine k3 _ ?_
  refine VC_seq (fun K4 k4 => ?_)
  refine VC_seq (fun K5 k5 => ?_)
  rcases chain5 (decide (d.basic.length ≤ 64)) (inB d.others.length 1 15) (decide (d.table.length = d.basic.length)) (decide (d.consts.length = d.basic.length)) (decide (d.costs.length = d.others.length)) with q0 | ⟨q0, q1⟩ | ⟨q0, q1, q2⟩ | ⟨q0, q1, q2, q3⟩ | ⟨q0, q1, q2, q3, q4⟩ | ⟨q0, q1, q2, q3, q4⟩
  · have g0 : decide ((64 : Int) < (d.basic.length : Int)) = true := by simp at q0 ⊢; omega
    refine VC_lit ?_
    refine goV (sd_move (v := .p none (.int _ _)) rfl) (Nat.le_of_ble_eq_true rfl) ?_
    refine goV (sd_gtr rfl rfl) (Nat.le_of_ble_eq_true rfl) ?_
    refine goV (sd_move (v := .p none (.bool _)) rfl) (Nat.le_of_ble_eq_true rfl) ?_
    refine op_gnoE rfl (Nat.le_of_ble_eq_true rfl) rfl g0 (Nat.le_of_ble_eq_true rfl) ?_
    refine op_gnoE rfl (Nat.le_of_ble_eq_true rfl) rfl g0 (Nat.le_of_ble_eq_true rfl) ?_
    refine op_gnoE rfl (Nat.le_of_ble_eq_true rfl) rfl g0 (Nat.le_of_ble_eq_true rfl) ?_
    refine goV (sd_pickH (v := .p none (.bool _)) rfl g0 rfl) (Nat.le_of_ble_eq_true rfl) ?_
    refine goV (sd_move (v := .p none (.bool _)) rfl) (Nat.le_of_ble_eq_true rfl) ?_
    refine op_gnoE rfl (Nat.le_of_ble_eq_true rfl) rfl rfl (Nat.le_of_ble_eq_true rfl) ?_
    refine op_gnoE rfl (Nat.le_of_ble_eq_true rfl) rfl rfl (Nat.le_of_ble_eq_true rfl) ?_
    refine op_gnoE rfl (Nat.le_of_ble_eq_true rfl) rfl rfl (Nat.le_of_ble_eq_true rfl) ?_
    refine op_gnoE rfl (Nat.le_of_ble_eq_true rfl) rfl rfl (Nat.le_of_ble_eq_true rfl) ?_
    refine op_gnoE rfl (Nat.le_of_ble_eq_true rfl) rfl rfl (Nat.le_of_ble_eq_true rfl) ?_
    refine goV (sd_pick (v := .p none (.bool _)) rfl rfl) (Nat.le_of_ble_eq_true rfl) ?_
    refine goV (sd_move (v := .p none (.bool _)) rfl) (Nat.le_of_ble_eq_true rfl) ?_
    refine op_gnoE rfl (Nat.le_of_ble_eq_true rfl) rfl rfl (Nat.le_of_ble_eq_true rfl) ?_
    refine op_gnoE rfl (Nat.le_of_ble_eq_true rfl) rfl rfl (Nat.le_of_ble_eq_true rfl) ?_
    refine op_gnoE rfl (Nat.le_of_ble_eq_true rfl) rfl rfl (Nat.le_of_ble_eq_true rfl) ?_
    refine op_gnoE rfl (Nat.le_of_ble_eq_true rfl) rfl rfl (Nat.le_of_ble_eq_true rfl) ?_
    refine op_gnoE rfl (Nat.le_of_ble_eq_true rfl) rfl rfl (Nat.le_of_ble_eq_true rfl) ?_
    refine goV (sd_pick (v := .p none (.bool _)) rfl rfl) (Nat.le_of_ble_eq_true rfl) ?_
    refine goV (sd_move (v := .p none (.bool _)) rfl) (Nat.le_of_ble_eq_true rfl) ?_
    refine op_gnoE rfl (Nat.le_of_ble_eq_true rfl) rfl rfl (Nat.le_of_ble_eq_true rfl) ?_
    refine op_gnoE rfl (Nat.le_of_ble_eq_true rfl) rfl rfl (Nat.le_of_ble_eq_true rfl) ?_
    refine op_gnoE rfl (Nat.le_of_ble_eq_true rfl) rfl rfl (Nat.le_of_ble_eq_true rfl) ?_
    refine op_gnoE rfl (Nat.le_of_ble_eq_true rfl) rfl rfl (Nat.le_of_ble_eq_true rfl) ?_
    refine op_gnoE rfl (Nat.le_of_ble_eq_true rfl) rfl rfl (Nat.le_of_ble_eq_true rfl) ?_
    refine goV (sd_pick (v := .p none (.bool _)) rfl rfl) (Nat.le_of_ble_eq_true rfl) ?_
    refine op_nil ?_
    refine k5 _ ?_
    refine VC_cond rfl (fun c0 => ?_) (fun c0 => absurd c0 (by first | decide | simp))
    refine VC_seq (fun K6 k6 => ?_)
    refine VC_lit ?_
    refine goV (sd_assign (v := .p none _) rfl) (Nat.le_of_ble_eq_true rfl) ?_
    refine op_nil ?_
    refine k6 _ ?_
    refine VC_ret ?_
    show Fin _ _ _ _ _ _
    refine fin0 (xs := [.p none (.bool _)]) (.inr rfl) ⟨_, _, rfl, rfl, rfl⟩ ?_
    show AV.p none (.bool _) = _
    first | (rw [okDic, q0]; rfl) | (rw [okDic, q0, q1]; rfl) | (rw [okDic, q0, q1, q2]; rfl) | (rw [okDic, q0, q1, q2, hp]; rfl) | (rw [okDic, q0, q1, q2, hp, all_stop hx e4]; rfl) | (rw [okDic, q0, q1, q2, hp, all_done hge ha, f3, r0]; rfl) | (rw [okDic, q0, q1, q2, hp, all_done hge ha, f3, f4, r0, r1]; rfl) | (rw [okDic, q0, q1, q2, hp, all_done hge ha, f3, f4, r0, r1, r2]; rfl) | (rw [okDic, f3]; simp) | (rw [okDic, f4]; simp)
  · have g0 : decide ((64 : Int) < (d.basic.length : Int)) = false := by simp at q0 ⊢; omega
    refine VC_lit ?_
    refine goV (sd_move (v := .p none (.int _ _)) rfl) (Nat.le_of_ble_eq_true rfl) ?_
    refine goV (sd_gtr rfl rfl) (Nat.le_of_ble_eq_true rfl) ?_
    refine goV (sd_move (v := .p none (.bool _)) rfl) (Nat.le_of_ble_eq_true rfl) ?_
    refine op_gyes rfl (Nat.le_of_ble_eq_true rfl) rfl g0 ?_; refine goV (sd_move (v := .p none (.int _ _)) rfl) (Nat.le_of_ble_eq_true rfl) ?_
    refine op_gyes rfl (Nat.le_of_ble_eq_true rfl) rfl g0 ?_; refine goV (sd_callF (v := .p none (.bool _)) rfl (c_l1In q1) (.inl rfl) rfl rfl rfl) (Nat.le_of_ble_eq_true rfl) ?_
    refine op_gyes rfl (Nat.le_of_ble_eq_true rfl) rfl g0 ?_; refine goV (sd_not rfl) (Nat.le_of_ble_eq_true rfl) ?_
    refine goV (sd_pickH (v := .p none (.bool _)) rfl g0 rfl) (Nat.le_of_ble_eq_true rfl) ?_
    refine goV (sd_move (v := .p none (.bool _)) rfl) (Nat.le_of_ble_eq_true rfl) ?_
    refine op_gnoE rfl (Nat.le_of_ble_eq_true rfl) rfl rfl (Nat.le_of_ble_eq_true rfl) ?_
    refine op_gnoE rfl (Nat.le_of_ble_eq_true rfl) rfl rfl (Nat.le_of_ble_eq_true rfl) ?_
    refine op_gnoE rfl (Nat.le_of_ble_eq_true rfl) rfl rfl (Nat.le_of_ble_eq_true rfl) ?_
    refine op_gnoE rfl (Nat.le_of_ble_eq_true rfl) rfl rfl (Nat.le_of_ble_eq_true rfl) ?_
    refine op_gnoE rfl (Nat.le_of_ble_eq_true rfl) rfl rfl (Nat.le_of_ble_eq_true rfl) ?_
    refine goV (sd_pick (v := .p none (.bool _)) rfl rfl) (Nat.le_of_ble_eq_true rfl) ?_
    refine goV (sd_move (v := .p none (.bool _)) rfl) (Nat.le_of_ble_eq_true rfl) ?_
    refine op_gnoE rfl (Nat.le_of_ble_eq_true rfl) rfl rfl (Nat.le_of_ble_eq_true rfl) ?_
    refine op_gnoE rfl (Nat.le_of_ble_eq_true rfl) rfl rfl (Nat.le_of_ble_eq_true rfl) ?_
    refine op_gnoE rfl (Nat.le_of_ble_eq_true rfl) rfl rfl (Nat.le_of_ble_eq_true rfl) ?_
    refine op_gnoE rfl (Nat.le_of_ble_eq_true rfl) rfl rfl (Nat.le_of_ble_eq_true rfl) ?_
    refine op_gnoE rfl (Nat.le_of_ble_eq_true rfl) rfl rfl (Nat.le_of_ble_eq_true rfl) ?_
    refine goV (sd_pick (v := .p none (.bool _)) rfl rfl) (Nat.le_of_ble_eq_true rfl) ?_
    refine goV (sd_move (v := .p none (.bool _)) rfl) (Nat.le_of_ble_eq_true rfl) ?_
    refine op_gnoE rfl (Nat.le_of_ble_eq_true rfl) rfl rfl (Nat.le_of_ble_eq_true rfl) ?_
    refine op_gnoE rfl (Nat.le_of_ble_eq_true rfl) rfl rfl (Nat.le_of_ble_eq_true rfl) ?_
    refine op_gnoE rfl (Nat.le_of_ble_eq_true rfl) rfl rfl (Nat.le_of_ble_eq_true rfl) ?_
    refine op_gnoE rfl (Nat.le_of_ble_eq_true rfl) rfl rfl (Nat.le_of_ble_eq_true rfl) ?_
    refine op_gnoE rfl (Nat.le_of_ble_eq_true rfl) rfl rfl (Nat.le_of_ble_eq_true rfl) ?_
    refine goV (sd_pick (v := .p none (.bool _)) rfl rfl) (Nat.le_of_ble_eq_true rfl) ?_
    refine op_nil ?_
    refine k5 _ ?_
    refine VC_cond rfl (fun c0 => ?_) (fun c0 => absurd c0 (by first | decide | simp))
    refine VC_seq (fun K7 k7 => ?_)
    refine VC_lit ?_
    refine goV (sd_assign (v := .p none _) rfl) (Nat.le_of_ble_eq_true rfl) ?_
    refine op_nil ?_
    refine k7 _ ?_
    refine VC_ret ?_
    show Fin _ _ _ _ _ _
    refine fin0 (xs := [.p none (.bool _)]) (.inr rfl) ⟨_, _, rfl, rfl, rfl⟩ ?_
    show AV.p none (.bool _) = _
    first | (rw [okDic, q0]; rfl) | (rw [okDic, q0, q1]; rfl) | (rw [okDic, q0, q1, q2]; rfl) | (rw [okDic, q0, q1, q2, hp]; rfl) | (rw [okDic, q0, q1, q2, hp, all_stop hx e4]; rfl) | (rw [okDic, q0, q1, q2, hp, all_done hge ha, f3, r0]; rfl) | (rw [okDic, q0, q1, q2, hp, all_done hge ha, f3, f4, r0, r1]; rfl) | (rw [okDic, q0, q1, q2, hp, all_done hge ha, f3, f4, r0, r1, r2]; rfl) | (rw [okDic, f3]; simp) | (rw [okDic, f4]; simp)
  · have g0 : decide ((64 : Int) < (d.basic.length : Int)) = false := by simp at q0 ⊢; omega
    have g2 : (!decide ((d.table.length : Int) = (d.basic.length : Int))) = true := by simp at q2 ⊢; omega
    refine VC_lit ?_
    refine goV (sd_move (v := .p none (.int _ _)) rfl) (Nat.le_of_ble_eq_true rfl) ?_
    refine goV (sd_gtr rfl rfl) (Nat.le_of_ble_eq_true rfl) ?_
    refine goV (sd_move (v := .p none (.bool _)) rfl) (Nat.le_of_ble_eq_true rfl) ?_
    refine op_gyes rfl (Nat.le_of_ble_eq_true rfl) rfl g0 ?_; refine goV (sd_move (v := .p none (.int _ _)) rfl) (Nat.le_of_ble_eq_true rfl) ?_
    refine op_gyes rfl (Nat.le_of_ble_eq_true rfl) rfl g0 ?_; refine goV (sd_callF (v := .p none (.bool _)) rfl (c_l1In q1) (.inl rfl) rfl rfl rfl) (Nat.le_of_ble_eq_true rfl) ?_
    refine op_gyes rfl (Nat.le_of_ble_eq_true rfl) rfl g0 ?_; refine goV (sd_not rfl) (Nat.le_of_ble_eq_true rfl) ?_
    refine goV (sd_pickH (v := .p none (.bool _)) rfl g0 rfl) (Nat.le_of_ble_eq_true rfl) ?_
    refine goV (sd_move (v := .p none (.bool _)) rfl) (Nat.le_of_ble_eq_true rfl) ?_
    refine op_gyes rfl (Nat.le_of_ble_eq_true rfl) rfl rfl ?_; refine goV (sd_fieldP fl45_2 rfl rfl) (Nat.le_of_ble_eq_true rfl) ?_
    refine op_gyes rfl (Nat.le_of_ble_eq_true rfl) rfl rfl ?_; refine goV (sd_loadB1 (v := .p none (.sl _ _ _)) ty43 rfl rfl rfl) (Nat.le_of_ble_eq_true rfl) ?_
    refine op_gyes rfl (Nat.le_of_ble_eq_true rfl) rfl rfl ?_; refine goV (sd_len Try.underlying43 len_pm) (Nat.le_of_ble_eq_true rfl) ?_
    refine op_gyes rfl (Nat.le_of_ble_eq_true rfl) rfl rfl ?_; refine goV (sd_move (v := .p none (.int _ _)) rfl) (Nat.le_of_ble_eq_true rfl) ?_
    refine op_gyes rfl (Nat.le_of_ble_eq_true rfl) rfl rfl ?_; refine goV (sd_neq rfl rfl) (Nat.le_of_ble_eq_true rfl) ?_
    refine goV (sd_pick (v := .p none (.bool _)) rfl rfl) (Nat.le_of_ble_eq_true rfl) ?_
    refine goV (sd_move (v := .p none (.bool _)) rfl) (Nat.le_of_ble_eq_true rfl) ?_
    refine op_gnoE rfl (Nat.le_of_ble_eq_true rfl) rfl g2 (Nat.le_of_ble_eq_true rfl) ?_
    refine op_gnoE rfl (Nat.le_of_ble_eq_true rfl) rfl g2 (Nat.le_of_ble_eq_true rfl) ?_
    refine op_gnoE rfl (Nat.le_of_ble_eq_true rfl) rfl g2 (Nat.le_of_ble_eq_true rfl) ?_
    refine op_gnoE rfl (Nat.le_of_ble_eq_true rfl) rfl g2 (Nat.le_of_ble_eq_true rfl) ?_
    refine op_gnoE rfl (Nat.le_of_ble_eq_true rfl) rfl g2 (Nat.le_of_ble_eq_true rfl) ?_
    refine goV (sd_pickH (v := .p none (.bool _)) rfl g2 rfl) (Nat.le_of_ble_eq_true rfl) ?_
    refine goV (sd_move (v := .p none (.bool _)) rfl) (Nat.le_of_ble_eq_true rfl) ?_
    refine op_gnoE rfl (Nat.le_of_ble_eq_true rfl) rfl rfl (Nat.le_of_ble_eq_true rfl) ?_
    refine op_gnoE rfl (Nat.le_of_ble_eq_true rfl) rfl rfl (Nat.le_of_ble_eq_true rfl) ?_
    refine op_gnoE rfl (Nat.le_of_ble_eq_true rfl) rfl rfl (Nat.le_of_ble_eq_true rfl) ?_
    refine op_gnoE rfl (Nat.le_of_ble_eq_true rfl) rfl rfl (Nat.le_of_ble_eq_true rfl) ?_
    refine op_gnoE rfl (Nat.le_of_ble_eq_true rfl) rfl rfl (Nat.le_of_ble_eq_true rfl) ?_
    refine goV (sd_pick (v := .p none (.bool _)) rfl rfl) (Nat.le_of_ble_eq_true rfl) ?_
    refine op_nil ?_
    refine k5 _ ?_
    refine VC_cond rfl (fun c0 => ?_) (fun c0 => absurd c0 (by first | decide | simp))
    refine VC_seq (fun K8 k8 => ?_)
    refine VC_lit ?_
    refine goV (sd_assign (v := .p none _) rfl) (Nat.le_of_ble_eq_true rfl) ?_
    refine op_nil ?_
    refine k8 _ ?_
    refine VC_ret ?_
    show Fin _ _ _ _ _ _
    refine fin0 (xs := [.p none (.bool _)]) (.inr rfl) ⟨_, _, rfl, rfl, rfl⟩ ?_
    show AV.p none (.bool _) = _
    first | (rw [okDic, q0]; rfl) | (rw [okDic, q0, q1]; rfl) | (rw [okDic, q0, q1, q2]; rfl) | (rw [okDic, q0, q1, q2, hp]; rfl) | (rw [okDic, q0, q1, q2, hp, all_stop hx e4]; rfl) | (rw [okDic, q0, q1, q2, hp, all_done hge ha, f3, r0]; rfl) | (rw [okDic, q0, q1, q2, hp, all_done hge ha, f3, f4, r0, r1]; rfl) | (rw [okDic, q0, q1, q2, hp, all_done hge ha, f3, f4, r0, r1, r2]; rfl) | (rw [okDic, f3]; simp) | (rw [okDic, f4]; simp)
  · have g0 : decide ((64 : Int) < (d.basic.length : Int)) = false := by simp at q0 ⊢; omega
    have g2 : (!decide ((d.table.length : Int) = (d.basic.length : Int))) = false := by simp at q2 ⊢; omega
    have g3 : (!decide ((d.consts.length : Int) = (d.basic.length : Int))) = true := by simp at q3 ⊢; omega
    have f3 := okRats_len (l := d.consts) (n := (d.basic.length : Int)) (by simp at q3 ⊢; omega)
    refine VC_lit ?_
    refine goV (sd_move (v := .p none (.int _ _)) rfl) (Nat.le_of_ble_eq_true rfl) ?_
    refine goV (sd_gtr rfl rfl) (Nat.le_of_ble_eq_true rfl) ?_
    refine goV (sd_move (v := .p none (.bool _)) rfl) (Nat.le_of_ble_eq_true rfl) ?_
    refine op_gyes rfl (Nat.le_of_ble_eq_true rfl) rfl g0 ?_; refine goV (sd_move (v := .p none (.int _ _)) rfl) (Nat.le_of_ble_eq_true rfl) ?_
    refine op_gyes rfl (Nat.le_of_ble_eq_true rfl) rfl g0 ?_; refine goV (sd_callF (v := .p none (.bool _)) rfl (c_l1In q1) (.inl rfl) rfl rfl rfl) (Nat.le_of_ble_eq_true rfl) ?_
    refine op_gyes rfl (Nat.le_of_ble_eq_true rfl) rfl g0 ?_; refine goV (sd_not rfl) (Nat.le_of_ble_eq_true rfl) ?_
    refine goV (sd_pickH (v := .p none (.bool _)) rfl g0 rfl) (Nat.le_of_ble_eq_true rfl) ?_
    refine goV (sd_move (v := .p none (.bool _)) rfl) (Nat.le_of_ble_eq_true rfl) ?_
    refine op_gyes rfl (Nat.le_of_ble_eq_true rfl) rfl rfl ?_; refine goV (sd_fieldP fl45_2 rfl rfl) (Nat.le_of_ble_eq_true rfl) ?_
    refine op_gyes rfl (Nat.le_of_ble_eq_true rfl) rfl rfl ?_; refine goV (sd_loadB1 (v := .p none (.sl _ _ _)) ty43 rfl rfl rfl) (Nat.le_of_ble_eq_true rfl) ?_
    refine op_gyes rfl (Nat.le_of_ble_eq_true rfl) rfl rfl ?_; refine goV (sd_len Try.underlying43 len_pm) (Nat.le_of_ble_eq_true rfl) ?_
    refine op_gyes rfl (Nat.le_of_ble_eq_true rfl) rfl rfl ?_; refine goV (sd_move (v := .p none (.int _ _)) rfl) (Nat.le_of_ble_eq_true rfl) ?_
    refine op_gyes rfl (Nat.le_of_ble_eq_true rfl) rfl rfl ?_; refine goV (sd_neq rfl rfl) (Nat.le_of_ble_eq_true rfl) ?_
    refine goV (sd_pick (v := .p none (.bool _)) rfl rfl) (Nat.le_of_ble_eq_true rfl) ?_
    refine goV (sd_move (v := .p none (.bool _)) rfl) (Nat.le_of_ble_eq_true rfl) ?_
    refine op_gyes rfl (Nat.le_of_ble_eq_true rfl) rfl g2 ?_; refine goV (sd_fieldP fl45_3 rfl rfl) (Nat.le_of_ble_eq_true rfl) ?_
    refine op_gyes rfl (Nat.le_of_ble_eq_true rfl) rfl g2 ?_; refine goV (sd_loadB1 (v := .p none (.sl _ _ _)) ty38 rfl rfl rfl) (Nat.le_of_ble_eq_true rfl) ?_
    refine op_gyes rfl (Nat.le_of_ble_eq_true rfl) rfl g2 ?_; refine goV (sd_len Try.underlying38 len_pm) (Nat.le_of_ble_eq_true rfl) ?_
    refine op_gyes rfl (Nat.le_of_ble_eq_true rfl) rfl g2 ?_; refine goV (sd_move (v := .p none (.int _ _)) rfl) (Nat.le_of_ble_eq_true rfl) ?_
    refine op_gyes rfl (Nat.le_of_ble_eq_true rfl) rfl g2 ?_; refine goV (sd_neq rfl rfl) (Nat.le_of_ble_eq_true rfl) ?_
    refine goV (sd_pickH (v := .p none (.bool _)) rfl g2 rfl) (Nat.le_of_ble_eq_true rfl) ?_
    refine goV (sd_move (v := .p none (.bool _)) rfl) (Nat.le_of_ble_eq_true rfl) ?_
    refine op_gnoE rfl (Nat.le_of_ble_eq_true rfl) rfl g3 (Nat.le_of_ble_eq_true rfl) ?_
    refine op_gnoE rfl (Nat.le_of_ble_eq_true rfl) rfl g3 (Nat.le_of_ble_eq_true rfl) ?_
    refine op_gnoE rfl (Nat.le_of_ble_eq_true rfl) rfl g3 (Nat.le_of_ble_eq_true rfl) ?_
    refine op_gnoE rfl (Nat.le_of_ble_eq_true rfl) rfl g3 (Nat.le_of_ble_eq_true rfl) ?_
    refine op_gnoE rfl (Nat.le_of_ble_eq_true rfl) rfl g3 (Nat.le_of_ble_eq_true rfl) ?_
    refine goV (sd_pickH (v := .p none (.bool _)) rfl g3 rfl) (Nat.le_of_ble_eq_true rfl) ?_
    refine op_nil ?_
    refine k5 _ ?_
    refine VC_cond rfl (fun c0 => ?_) (fun c0 => absurd c0 (by first | decide | simp))
    refine VC_seq (fun K9 k9 => ?_)
    refine VC_lit ?_
    refine goV (sd_assign (v := .p none _) rfl) (Nat.le_of_ble_eq_true rfl) ?_
    refine op_nil ?_
    refine k9 _ ?_
    refine VC_ret ?_
    show Fin _ _ _ _ _ _
    refine fin0 (xs := [.p none (.bool _)]) (.inr rfl) ⟨_, _, rfl, rfl, rfl⟩ ?_
    show AV.p none (.bool _) = _
    first | (rw [okDic, q0]; rfl) | (rw [okDic, q0, q1]; rfl) | (rw [okDic, q0, q1, q2]; rfl) | (rw [okDic, q0, q1, q2, hp]; rfl) | (rw [okDic, q0, q1, q2, hp, all_stop hx e4]; rfl) | (rw [okDic, q0, q1, q2, hp, all_done hge ha, f3, r0]; rfl) | (rw [okDic, q0, q1, q2, hp, all_done hge ha, f3, f4, r0, r1]; rfl) | (rw [okDic, q0, q1, q2, hp, all_done hge ha, f3, f4, r0, r1, r2]; rfl) | (rw [okDic, f3]; simp) | (rw [okDic, f4]; simp)
  · have g0 : decide ((64 : Int) < (d.basic.length : Int)) = false := by simp at q0 ⊢; omega
    have g2 : (!decide ((d.table.length : Int) = (d.basic.length : Int))) = false := by simp at q2 ⊢; omega
    have g3 : (!decide ((d.consts.length : Int) = (d.basic.length : Int))) = false := by simp at q3 ⊢; omega
    have g4 : (!decide ((d.costs.length : Int) = (d.others.length : Int))) = true := by simp at q4 ⊢; omega
    have f4 := okRats_len (l := d.costs) (n := (d.others.length : Int)) (by simp at q4 ⊢; omega)
    refine VC_lit ?_
    refine goV (sd_move (v := .p none (.int _ _)) rfl) (Nat.le_of_ble_eq_true rfl) ?_
    refine goV (sd_gtr rfl rfl) (Nat.le_of_ble_eq_true rfl) ?_
    refine goV (sd_move (v := .p none (.bool _)) rfl) (Nat.le_of_ble_eq_true rfl) ?_
    refine op_gyes rfl (Nat.le_of_ble_eq_true rfl) rfl g0 ?_; refine goV (sd_move (v := .p none (.int _ _)) rfl) (Nat.le_of_ble_eq_true rfl) ?_
    refine op_gyes rfl (Nat.le_of_ble_eq_true rfl) rfl g0 ?_; refine goV (sd_callF (v := .p none (.bool _)) rfl (c_l1In q1) (.inl rfl) rfl rfl rfl) (Nat.le_of_ble_eq_true rfl) ?_
    refine op_gyes rfl (Nat.le_of_ble_eq_true rfl) rfl g0 ?_; refine goV (sd_not rfl) (Nat.le_of_ble_eq_true rfl) ?_
    refine goV (sd_pickH (v := .p none (.bool _)) rfl g0 rfl) (Nat.le_of_ble_eq_true rfl) ?_
    refine goV (sd_move (v := .p none (.bool _)) rfl) (Nat.le_of_ble_eq_true rfl) ?_
    refine op_gyes rfl (Nat.le_of_ble_eq_true rfl) rfl rfl ?_; refine goV (sd_fieldP fl45_2 rfl rfl) (Nat.le_of_ble_eq_true rfl) ?_
    refine op_gyes rfl (Nat.le_of_ble_eq_true rfl) rfl rfl ?_; refine goV (sd_loadB1 (v := .p none (.sl _ _ _)) ty43 rfl rfl rfl) (Nat.le_of_ble_eq_true rfl) ?_
    refine op_gyes rfl (Nat.le_of_ble_eq_true rfl) rfl rfl ?_; refine goV (sd_len Try.underlying43 len_pm) (Nat.le_of_ble_eq_true rfl) ?_
    refine op_gyes rfl (Nat.le_of_ble_eq_true rfl) rfl rfl ?_; refine goV (sd_move (v := .p none (.int _ _)) rfl) (Nat.le_of_ble_eq_true rfl) ?_
    refine op_gyes rfl (Nat.le_of_ble_eq_true rfl) rfl rfl ?_; refine goV (sd_neq rfl rfl) (Nat.le_of_ble_eq_true rfl) ?_
    refine goV (sd_pick (v := .p none (.bool _)) rfl rfl) (Nat.le_of_ble_eq_true rfl) ?_
    refine goV (sd_move (v := .p none (.bool _)) rfl) (Nat.le_of_ble_eq_true rfl) ?_
    refine op_gyes rfl (Nat.le_of_ble_eq_true rfl) rfl g2 ?_; refine goV (sd_fieldP fl45_3 rfl rfl) (Nat.le_of_ble_eq_true rfl) ?_
    refine op_gyes rfl (Nat.le_of_ble_eq_true rfl) rfl g2 ?_; refine goV (sd_loadB1 (v := .p none (.sl _ _ _)) ty38 rfl rfl rfl) (Nat.le_of_ble_eq_true rfl) ?_
    refine op_gyes rfl (Nat.le_of_ble_eq_true rfl) rfl g2 ?_; refine goV (sd_len Try.underlying38 len_pm) (Nat.le_of_ble_eq_true rfl) ?_
    refine op_gyes rfl (Nat.le_of_ble_eq_true rfl) rfl g2 ?_; refine goV (sd_move (v := .p none (.int _ _)) rfl) (Nat.le_of_ble_eq_true rfl) ?_
    refine op_gyes rfl (Nat.le_of_ble_eq_true rfl) rfl g2 ?_; refine goV (sd_neq rfl rfl) (Nat.le_of_ble_eq_true rfl) ?_
    refine goV (sd_pickH (v := .p none (.bool _)) rfl g2 rfl) (Nat.le_of_ble_eq_true rfl) ?_
    refine goV (sd_move (v := .p none (.bool _)) rfl) (Nat.le_of_ble_eq_true rfl) ?_
    refine op_gyes rfl (Nat.le_of_ble_eq_true rfl) rfl g3 ?_; refine goV (sd_fieldP fl45_4 rfl rfl) (Nat.le_of_ble_eq_true rfl) ?_
    refine op_gyes rfl (Nat.le_of_ble_eq_true rfl) rfl g3 ?_; refine goV (sd_loadB1 (v := .p none (.sl _ _ _)) ty38 rfl rfl rfl) (Nat.le_of_ble_eq_true rfl) ?_
    refine op_gyes rfl (Nat.le_of_ble_eq_true rfl) rfl g3 ?_; refine goV (sd_len Try.underlying38 len_pm) (Nat.le_of_ble_eq_true rfl) ?_
    refine op_gyes rfl (Nat.le_of_ble_eq_true rfl) rfl g3 ?_; refine goV (sd_move (v := .p none (.int _ _)) rfl) (Nat.le_of_ble_eq_true rfl) ?_
    refine op_gyes rfl (Nat.le_of_ble_eq_true rfl) rfl g3 ?_; refine goV (sd_neq rfl rfl) (Nat.le_of_ble_eq_true rfl) ?_
    refine goV (sd_pickH (v := .p none (.bool _)) rfl g3 rfl) (Nat.le_of_ble_eq_true rfl) ?_
    refine op_nil ?_
    refine k5 _ ?_
    refine VC_cond rfl (fun c0 => ?_) (fun c0 => absurd c0 (by rw [g4]; decide))
    refine VC_seq (fun K10 k10 => ?_)
    refine VC_lit ?_
    refine goV (sd_assign (v := .p none _) rfl) (Nat.le_of_ble_eq_true rfl) ?_
    refine op_nil ?_
    refine k10 _ ?_
    refine VC_ret ?_
    show Fin _ _ _ _ _ _
    refine fin0 (xs := [.p none (.bool _)]) (.inr rfl) ⟨_, _, rfl, rfl, rfl⟩ ?_
    show AV.p none (.bool _) = _
    first | (rw [okDic, q0]; rfl) | (rw [okDic, q0, q1]; rfl) | (rw [okDic, q0, q1, q2]; rfl) | (rw [okDic, q0, q1, q2, hp]; rfl) | (rw [okDic, q0, q1, q2, hp, all_stop hx e4]; rfl) | (rw [okDic, q0, q1, q2, hp, all_done hge ha, f3, r0]; rfl) | (rw [okDic, q0, q1, q2, hp, all_done hge ha, f3, f4, r0, r1]; rfl) | (rw [okDic, q0, q1, q2, hp, all_done hge ha, f3, f4, r0, r1, r2]; rfl) | (rw [okDic, f3]; simp) | (rw [okDic, f4]; simp)
  · have g0 : decide ((64 : Int) < (d.basic.length : Int)) = false := by simp at q0 ⊢; omega
    have g2 : (!decide ((d.table.length : Int) = (d.basic.length : Int))) = false := by simp at q2 ⊢; omega
    have g3 : (!decide ((d.consts.length : Int) = (d.basic.length : Int))) = false := by simp at q3 ⊢; omega
    have g4 : (!decide ((d.costs.length : Int) = (d.others.length : Int))) = false := by simp at q4 ⊢; omega
    have hin := inB_true q1
    have h64 : d.basic.length ≤ 64 := by simpa using q0
    have htl : d.table.length = d.basic.length := by simpa using q2
    have f3 := okRats_all (l := d.consts) (n := (d.basic.length : Int)) (by simp at q3 ⊢; omega)
    have f4 := okRats_all (l := d.costs) (n := (d.others.length : Int)) (by simp at q4 ⊢; omega)
    refine VC_lit ?_
    refine goV (sd_move (v := .p none (.int _ _)) rfl) (Nat.le_of_ble_eq_true rfl) ?_
    refine goV (sd_gtr rfl rfl) (Nat.le_of_ble_eq_true rfl) ?_
    refine goV (sd_move (v := .p none (.bool _)) rfl) (Nat.le_of_ble_eq_true rfl) ?_
    refine op_gyes rfl (Nat.le_of_ble_eq_true rfl) rfl g0 ?_; refine goV (sd_move (v := .p none (.int _ _)) rfl) (Nat.le_of_ble_eq_true rfl) ?_
    refine op_gyes rfl (Nat.le_of_ble_eq_true rfl) rfl g0 ?_; refine goV (sd_callF (v := .p none (.bool _)) rfl (c_l1In q1) (.inl rfl) rfl rfl rfl) (Nat.le_of_ble_eq_true rfl) ?_
    refine op_gyes rfl (Nat.le_of_ble_eq_true rfl) rfl g0 ?_; refine goV (sd_not rfl) (Nat.le_of_ble_eq_true rfl) ?_
    refine goV (sd_pickH (v := .p none (.bool _)) rfl g0 rfl) (Nat.le_of_ble_eq_true rfl) ?_
    refine goV (sd_move (v := .p none (.bool _)) rfl) (Nat.le_of_ble_eq_true rfl) ?_
    refine op_gyes rfl (Nat.le_of_ble_eq_true rfl) rfl rfl ?_; refine goV (sd_fieldP fl45_2 rfl rfl) (Nat.le_of_ble_eq_true rfl) ?_
    refine op_gyes rfl (Nat.le_of_ble_eq_true rfl) rfl rfl ?_; refine goV (sd_loadB1 (v := .p none (.sl _ _ _)) ty43 rfl rfl rfl) (Nat.le_of_ble_eq_true rfl) ?_
    refine op_gyes rfl (Nat.le_of_ble_eq_true rfl) rfl rfl ?_; refine goV (sd_len Try.underlying43 len_pm) (Nat.le_of_ble_eq_true rfl) ?_
    refine op_gyes rfl (Nat.le_of_ble_eq_true rfl) rfl rfl ?_; refine goV (sd_move (v := .p none (.int _ _)) rfl) (Nat.le_of_ble_eq_true rfl) ?_
    refine op_gyes rfl (Nat.le_of_ble_eq_true rfl) rfl rfl ?_; refine goV (sd_neq rfl rfl) (Nat.le_of_ble_eq_true rfl) ?_
    refine goV (sd_pick (v := .p none (.bool _)) rfl rfl) (Nat.le_of_ble_eq_true rfl) ?_
    refine goV (sd_move (v := .p none (.bool _)) rfl) (Nat.le_of_ble_eq_true rfl) ?_
    refine op_gyes rfl (Nat.le_of_ble_eq_true rfl) rfl g2 ?_; refine goV (sd_fieldP fl45_3 rfl rfl) (Nat.le_of_ble_eq_true rfl) ?_
    refine op_gyes rfl (Nat.le_of_ble_eq_true rfl) rfl g2 ?_; refine goV (sd_loadB1 (v := .p none (.sl _ _ _)) ty38 rfl rfl rfl) (Nat.le_of_ble_eq_true rfl) ?_
    refine op_gyes rfl (Nat.le_of_ble_eq_true rfl) rfl g2 ?_; refine goV (sd_len Try.underlying38 len_pm) (Nat.le_of_ble_eq_true rfl) ?_
    refine op_gyes rfl (Nat.le_of_ble_eq_true rfl) rfl g2 ?_; refine goV (sd_move (v := .p none (.int _ _)) rfl) (Nat.le_of_ble_eq_true rfl) ?_
    refine op_gyes rfl (Nat.le_of_ble_eq_true rfl) rfl g2 ?_; refine goV (sd_neq rfl rfl) (Nat.le_of_ble_eq_true rfl) ?_
    refine goV (sd_pickH (v := .p none (.bool _)) rfl g2 rfl) (Nat.le_of_ble_eq_true rfl) ?_
    refine goV (sd_move (v := .p none (.bool _)) rfl) (Nat.le_of_ble_eq_true rfl) ?_
    refine op_gyes rfl (Nat.le_of_ble_eq_true rfl) rfl g3 ?_; refine goV (sd_fieldP fl45_4 rfl rfl) (Nat.le_of_ble_eq_true rfl) ?_
    refine op_gyes rfl (Nat.le_of_ble_eq_true rfl) rfl g3 ?_; refine goV (sd_loadB1 (v := .p none (.sl _ _ _)) ty38 rfl rfl rfl) (Nat.le_of_ble_eq_true rfl) ?_
    refine op_gyes rfl (Nat.le_of_ble_eq_true rfl) rfl g3 ?_; refine goV (sd_len Try.underlying38 len_pm) (Nat.le_of_ble_eq_true rfl) ?_
    refine op_gyes rfl (Nat.le_of_ble_eq_true rfl) rfl g3 ?_; refine goV (sd_move (v := .p none (.int _ _)) rfl) (Nat.le_of_ble_eq_true rfl) ?_
    refine op_gyes rfl (Nat.le_of_ble_eq_true rfl) rfl g3 ?_; refine goV (sd_neq rfl rfl) (Nat.le_of_ble_eq_true rfl) ?_
    refine goV (sd_pickH (v := .p none (.bool _)) rfl g3 rfl) (Nat.le_of_ble_eq_true rfl) ?_
    refine op_nil ?_
    refine k5 _ ?_
    refine VC_cond rfl (fun c0 => absurd c0 (by rw [g4]; decide)) (fun c0 => ?_)
    refine VC_skip ?_
    refine k4 _ ?_
    refine VC_seq (fun K11 k11 => ?_)
    refine VC_drawn mixed ?_
    refine dgo (sd_slice0 Try.underlying22 ty3 rfl) (by kernel_rfl) (dstOk (Nat.le_of_ble_eq_true rfl)) (by kernel_rfl) ?_
    refine dgo (sd_fieldP fl45_0 rfl rfl) (by kernel_rfl) (dstOk (Nat.le_of_ble_eq_true rfl)) (by kernel_rfl) ?_
    refine dgo (sd_loadB1 (v := .p none (.sl _ _ _)) ty22 rfl rfl rfl) (by kernel_rfl) (dstOk (Nat.le_of_ble_eq_true rfl)) (by kernel_rfl) ?_
    refine dgo (sd_appF Try.underlying22 ty3 (Nat.le_of_ble_eq_true rfl) ⟨rfl, rfl⟩ ⟨trivial, rfl, rfl⟩ (flats_ints d.basic) ?_ ?_ (List.nil_append _) rfl) (by kernel_rfl) (dstOk (Nat.le_of_ble_eq_true rfl)) (by kernel_rfl) ?_; (focus (first | (simp; done) | (simp; omega) | (simp at *; omega))); (focus (unfold maxLen; first | (simp; done) | (simp; omega) | (simp at *; omega)))
    refine dgo (sd_fieldP fl45_1 rfl rfl) (by kernel_rfl) (dstOk (Nat.le_of_ble_eq_true rfl)) (by kernel_rfl) ?_
    refine dgo (sd_loadB1 (v := .p none (.sl _ _ _)) ty22 rfl rfl rfl) (by kernel_rfl) (dstOk (Nat.le_of_ble_eq_true rfl)) (by kernel_rfl) ?_
    refine dgo (sd_appF Try.underlying22 ty3 (Nat.le_of_ble_eq_true rfl) ⟨rfl, rfl⟩ ⟨trivial, rfl, rfl⟩ (flats_ints d.others) ?_ ?_ (List.map_append (f := intD)).symm rfl) (by kernel_rfl) (dstOk (Nat.le_of_ble_eq_true rfl)) (by kernel_rfl) ?_; (focus (first | (simp; done) | (simp; omega) | (simp at *; omega))); (focus (unfold maxLen; first | (simp; done) | (simp; omega) | (simp at *; omega)))
    refine dgo (sd_assign (v := .own _) rfl) (by kernel_rfl) (dstOk (Nat.le_of_ble_eq_true rfl)) (by kernel_rfl) ?_
    refine dnil ⟨by kernel_rfl, ?_⟩
    refine k11 _ ?_
    refine VC_seq (fun K12 k12 => ?_)
    refine VC_seq (fun K13 k13 => ?_)
    refine VC_lit ?_
    refine goV (sd_assign (v := .p none _) rfl) (Nat.le_of_ble_eq_true rfl) ?_
    refine op_nil ?_
    refine k13 _ ?_
    refine VC_block ?_
    refine VC_le (S' := mk [(1, .ptr 100 0), (3, .p none (.int .i64 (d.basic.length : Int))), (4, .p none (.int .i64 (d.others.length : Int))), (5, .own 4800), (6, .p none (.int .i64 ((0) : Int)))] [(100, some (.box 45 [.p none (ints d.basic), .p none (ints d.others), .p none (ratss d.table), .p none (rats d.consts), .p none (rats d.costs), .p none (.int .i64 d.value.num), .p none (.int .i64 d.value.den)])), (4800, some (.arr 3 1 true ((d.basic ++ d.others).map intD)))]) id (le_mk ⟨(by first | rfl | (simp [findS, findO, mapA, mapR]; done)), (by first | rfl | (simp [findS, findO, mapA, mapR]; done)), (by first | rfl | (simp [findS, findO, mapA, mapR]; done)), (by first | rfl | (simp [findS, findO, mapA, mapR]; done)), (by first | rfl | (simp [findS, findO, mapA, mapR]; done)), trivial⟩ ⟨(by first | rfl | (simp [findS, findO, mapA, mapR]; done)), (by first | rfl | (simp [findS, findO, mapA, mapR]; done)), trivial⟩ rfl) ?_
    refine VC_loop (fun nn SS => ∃ (k : Nat), SS = mk [(1, .ptr 100 0), (3, .p none (.int .i64 (d.basic.length : Int))), (4, .p none (.int .i64 (d.others.length : Int))), (5, .own 4800), (6, .p none (.int .i64 (k : Int)))] [(100, some (.box 45 [.p none (ints d.basic), .p none (ints d.others), .p none (ratss d.table), .p none (rats d.consts), .p none (rats d.costs), .p none (.int .i64 d.value.num), .p none (.int .i64 d.value.den)])), (4800, some (.arr 3 1 true ((d.basic ++ d.others).map intD)))] ∧ nn = d.basic.length + d.others.length - k ∧ k ≤ d.basic.length + d.others.length ∧ ∀ (i : Nat), i < k → ((d.basic ++ d.others).any fun x => decide (x = (i : Int))) = true) _ ⟨0, rfl, rfl, Nat.zero_le _, fun i h => absurd h (Nat.not_lt_zero _)⟩ (fun nn SS hI => ?_)
    obtain ⟨k, rfl, rfl, hk, ha⟩ := hI
    refine VC_seq (fun K14 k14 => ?_)
    refine VC_seq (fun K15 k15 => ?_)
    refine VC_lit ?_
    refine goV (sd_move (v := .p none (.int _ _)) rfl) (Nat.le_of_ble_eq_true rfl) ?_
    refine goV (sd_move (v := .p none (.int _ _)) rfl) (Nat.le_of_ble_eq_true rfl) ?_
    refine goV (sd_move (v := .p none (.int _ _)) rfl) (Nat.le_of_ble_eq_true rfl) ?_
    refine goV (sd_addI rfl rfl ?_) (Nat.le_of_ble_eq_true rfl) ?_; (focus (first | omega | (constructor <;> omega)))
    refine goV (sd_lss rfl rfl) (Nat.le_of_ble_eq_true rfl) ?_
    refine op_nil ?_
    refine k15 _ ?_
    refine VC_cond rfl (fun c1 => ?_) (fun c1 => ?_)
    · have hlt : k < d.basic.length + d.others.length := by have := of_decide_eq_true c1; omega
      refine VC_skip ?_
      refine k14 _ ?_
      refine VC_seq (fun K16 k16 => ?_)
      refine VC_block ?_
      refine VC_seq (fun K17 k17 => ?_)
      refine VC_lit ?_
      refine goV (sd_move (v := .own _) rfl) (Nat.le_of_ble_eq_true rfl) ?_
      refine goV (sd_move (v := .p none (.int _ _)) rfl) (Nat.le_of_ble_eq_true rfl) ?_
      refine goV (sd_callF (v := .p none (.bool _)) rfl (c_l7Has0 (d.basic ++ d.others) k (by simp; omega)) (.inl rfl) rfl rfl rfl) (Nat.le_of_ble_eq_true rfl) ?_
      refine goV (sd_not rfl) (Nat.le_of_ble_eq_true rfl) ?_
      refine op_nil ?_
      refine k17 _ ?_
      refine VC_cond rfl (fun c2 => ?_) (fun c2 => ?_)
      · have hp : okPerm (d.basic ++ d.others) = false := okPerm_no' (k := k) (by simp; omega) (bn_true c2)
        refine VC_seq (fun K18 k18 => ?_)
        refine VC_lit ?_
        refine goV (sd_assign (v := .p none _) rfl) (Nat.le_of_ble_eq_true rfl) ?_
        refine op_nil ?_
        refine k18 _ ?_
        refine VC_ret ?_
        show Fin _ _ _ _ _ _
        refine fin0 (xs := [.p none (.bool _)]) (.inr rfl) ⟨_, _, rfl, rfl, rfl⟩ ?_
        show AV.p none (.bool _) = _
        first | (rw [okDic, q0]; rfl) | (rw [okDic, q0, q1]; rfl) | (rw [okDic, q0, q1, q2]; rfl) | (rw [okDic, q0, q1, q2, hp]; rfl) | (rw [okDic, q0, q1, q2, hp, all_stop hx e4]; rfl) | (rw [okDic, q0, q1, q2, hp, all_done hge ha, f3, r0]; rfl) | (rw [okDic, q0, q1, q2, hp, all_done hge ha, f3, f4, r0, r1]; rfl) | (rw [okDic, q0, q1, q2, hp, all_done hge ha, f3, f4, r0, r1, r2]; rfl) | (rw [okDic, f3]; simp) | (rw [okDic, f4]; simp)
      · refine VC_skip ?_
        refine k16 _ ?_
        refine VC_lit ?_
        refine goV (sd_move (v := .p none (.int _ _)) rfl) (Nat.le_of_ble_eq_true rfl) ?_
        refine goV (sd_addI rfl rfl ?_) (Nat.le_of_ble_eq_true rfl) ?_; (focus (first | omega | (constructor <;> omega)))
        refine goV (sd_assign (v := .p none (.int _ _)) rfl) (Nat.le_of_ble_eq_true rfl) ?_
        refine op_nil ?_
        exact ⟨_, id, mk [(1, .ptr 100 0), (3, .p none (.int .i64 (d.basic.length : Int))), (4, .p none (.int .i64 (d.others.length : Int))), (5, .own 4800), (6, .p none (.int .i64 ((k + 1) : Int)))] [(100, some (.box 45 [.p none (ints d.basic), .p none (ints d.others), .p none (ratss d.table), .p none (rats d.consts), .p none (rats d.costs), .p none (.int .i64 d.value.num), .p none (.int .i64 d.value.den)])), (4800, some (.arr 3 1 true ((d.basic ++ d.others).map intD)))], by omega, le_mk ⟨(by first | rfl | (simp [findS, findO, mapA, mapR]; done)), (by first | rfl | (simp [findS, findO, mapA, mapR]; done)), (by first | rfl | (simp [findS, findO, mapA, mapR]; done)), (by first | rfl | (simp [findS, findO, mapA, mapR]; done)), (by first | rfl | (simp [findS, findO, mapA, mapR]; done)), trivial⟩ ⟨(by first | rfl | (simp [findS, findO, mapA, mapR]; done)), (by first | rfl | (simp [findS, findO, mapA, mapR]; done)), trivial⟩ rfl, k + 1, rfl, rfl, hlt, succ_all (p := fun (i : Nat) => ((d.basic ++ d.others).any fun x => decide (x = (i : Int))) = true) ha (bn_false c2)⟩
    · have hge : d.basic.length + d.others.length ≤ k := by have := of_decide_eq_false c1; omega
      have hp : okPerm (d.basic ++ d.others) = true := okPerm_yes (fun i hi => ha i (by simp at hi; omega))
      refine VC_exit ?_
      refine k12 _ ?_
      refine VC_seq (fun K19 k19 => ?_)
      refine VC_seq (fun K20 k20 => ?_)
      refine VC_lit ?_
      refine goV (sd_assign (v := .p none _) rfl) (Nat.le_of_ble_eq_true rfl) ?_
      refine op_nil ?_
      refine k20 _ ?_
      refine VC_block ?_
      refine VC_le (S' := mk [(1, .ptr 100 0), (3, .p none (.int .i64 (d.basic.length : Int))), (4, .p none (.int .i64 (d.others.length : Int))), (7, .p none (.int .i64 ((0) : Int)))] [(100, some (.box 45 [.p none (ints d.basic), .p none (ints d.others), .p none (ratss d.table), .p none (rats d.consts), .p none (rats d.costs), .p none (.int .i64 d.value.num), .p none (.int .i64 d.value.den)]))]) id (le_mk ⟨(by first | rfl | (simp [findS, findO, mapA, mapR]; done)), (by first | rfl | (simp [findS, findO, mapA, mapR]; done)), (by first | rfl | (simp [findS, findO, mapA, mapR]; done)), (by first | rfl | (simp [findS, findO, mapA, mapR]; done)), trivial⟩ ⟨(by first | rfl | (simp [findS, findO, mapA, mapR]; done)), trivial⟩ rfl) ?_
      refine VC_loop (fun nn SS => ∃ (k : Nat), SS = mk [(1, .ptr 100 0), (3, .p none (.int .i64 (d.basic.length : Int))), (4, .p none (.int .i64 (d.others.length : Int))), (7, .p none (.int .i64 (k : Int)))] [(100, some (.box 45 [.p none (ints d.basic), .p none (ints d.others), .p none (ratss d.table), .p none (rats d.consts), .p none (rats d.costs), .p none (.int .i64 d.value.num), .p none (.int .i64 d.value.den)]))] ∧ nn = d.basic.length - k ∧ k ≤ d.basic.length ∧ (d.table.take k).all (fun r => okRats r d.others.length) = true) _ ⟨0, rfl, rfl, Nat.zero_le _, rfl⟩ (fun nn SS hI => ?_)
      obtain ⟨k, rfl, rfl, hk, ha⟩ := hI
      refine VC_seq (fun K21 k21 => ?_)
      refine VC_seq (fun K22 k22 => ?_)
      refine VC_lit ?_
      refine goV (sd_move (v := .p none (.int _ _)) rfl) (Nat.le_of_ble_eq_true rfl) ?_
      refine goV (sd_move (v := .p none (.int _ _)) rfl) (Nat.le_of_ble_eq_true rfl) ?_
      refine goV (sd_lss rfl rfl) (Nat.le_of_ble_eq_true rfl) ?_
      refine op_nil ?_
      refine k22 _ ?_
      refine VC_cond rfl (fun c3 => ?_) (fun c3 => ?_)
      · have hlt : k < d.basic.length := by simpa using c3
        have hlt' : k < d.table.length := by omega
        obtain ⟨x, hx⟩ : ∃ x, d.table[k]? = some x := ⟨_, List.getElem?_eq_getElem hlt'⟩
        refine VC_skip ?_
        refine k21 _ ?_
        refine VC_seq (fun K23 k23 => ?_)
        refine VC_block ?_
        refine VC_seq (fun K24 k24 => ?_)
        by_cases hxl : x.length = d.others.length
        · have g5 : (!decide ((x.length : Int) = (d.others.length : Int))) = false := by simp [hxl]
          have e0 := okRats_all (l := x) (n := (d.others.length : Int)) (by omega)
          refine VC_lit ?_
          refine goV (sd_fieldP fl45_2 rfl rfl) (Nat.le_of_ble_eq_true rfl) ?_
          refine goV (sd_loadB1 (v := .p none (.sl _ _ _)) ty43 rfl rfl rfl) (Nat.le_of_ble_eq_true rfl) ?_
          refine goV (sd_move (v := .p none (.int _ _)) rfl) (Nat.le_of_ble_eq_true rfl) ?_
          refine goV (sd_index Try.underlying43 ty38 rfl rfl ?_ (map_at hx)) (Nat.le_of_ble_eq_true rfl) ?_; (focus (omega))
          refine goV (sd_loadR1 (v := .p none (.sl _ _ _)) ty38 rfl rfl rfl) (Nat.le_of_ble_eq_true rfl) ?_
          refine goV (sd_len Try.underlying38 len_pm) (Nat.le_of_ble_eq_true rfl) ?_
          refine goV (sd_move (v := .p none (.int _ _)) rfl) (Nat.le_of_ble_eq_true rfl) ?_
          refine goV (sd_neq rfl rfl) (Nat.le_of_ble_eq_true rfl) ?_
          refine goV (sd_move (v := .p none (.bool _)) rfl) (Nat.le_of_ble_eq_true rfl) ?_
          refine op_gyes rfl (Nat.le_of_ble_eq_true rfl) rfl g5 ?_; refine goV (sd_fieldP fl45_2 rfl rfl) (Nat.le_of_ble_eq_true rfl) ?_
          refine op_gyes rfl (Nat.le_of_ble_eq_true rfl) rfl g5 ?_; refine goV (sd_loadB1 (v := .p none (.sl _ _ _)) ty43 rfl rfl rfl) (Nat.le_of_ble_eq_true rfl) ?_
          refine op_gyes rfl (Nat.le_of_ble_eq_true rfl) rfl g5 ?_; refine goV (sd_move (v := .p none (.int _ _)) rfl) (Nat.le_of_ble_eq_true rfl) ?_
          refine op_gyes rfl (Nat.le_of_ble_eq_true rfl) rfl g5 ?_; refine goV (sd_index Try.underlying43 ty38 rfl rfl ?_ (map_at hx)) (Nat.le_of_ble_eq_true rfl) ?_; (focus (omega))
          refine op_gyes rfl (Nat.le_of_ble_eq_true rfl) rfl g5 ?_; refine goV (sd_loadR1 (v := .p none (.sl _ _ _)) ty38 rfl rfl rfl) (Nat.le_of_ble_eq_true rfl) ?_
          refine op_gyes rfl (Nat.le_of_ble_eq_true rfl) rfl g5 ?_; refine goV (sd_callF (v := .p none (.bool _)) rfl (c_all x (s2 x (List.mem_of_getElem? hx))) (.inl rfl) rfl rfl rfl) (Nat.le_of_ble_eq_true rfl) ?_
          refine op_gyes rfl (Nat.le_of_ble_eq_true rfl) rfl g5 ?_; refine goV (sd_not rfl) (Nat.le_of_ble_eq_true rfl) ?_
          refine goV (sd_pickH (v := .p none (.bool _)) rfl g5 rfl) (Nat.le_of_ble_eq_true rfl) ?_
          refine op_nil ?_
          refine k24 _ ?_
          refine VC_cond rfl (fun c4 => ?_) (fun c4 => ?_)
          · have e4 : okRats x d.others.length = false := by first | exact e0 | (rw [e0]; simpa using c4)
            refine VC_seq (fun K25 k25 => ?_)
            refine VC_lit ?_
            refine goV (sd_assign (v := .p none _) rfl) (Nat.le_of_ble_eq_true rfl) ?_
            refine op_nil ?_
            refine k25 _ ?_
            refine VC_ret ?_
            show Fin _ _ _ _ _ _
            refine fin0 (xs := [.p none (.bool _)]) (.inr rfl) ⟨_, _, rfl, rfl, rfl⟩ ?_
            show AV.p none (.bool _) = _
            first | (rw [okDic, q0]; rfl) | (rw [okDic, q0, q1]; rfl) | (rw [okDic, q0, q1, q2]; rfl) | (rw [okDic, q0, q1, q2, hp]; rfl) | (rw [okDic, q0, q1, q2, hp, all_stop hx e4]; rfl) | (rw [okDic, q0, q1, q2, hp, all_done hge ha, f3, r0]; rfl) | (rw [okDic, q0, q1, q2, hp, all_done hge ha, f3, f4, r0, r1]; rfl) | (rw [okDic, q0, q1, q2, hp, all_done hge ha, f3, f4, r0, r1, r2]; rfl) | (rw [okDic, f3]; simp) | (rw [okDic, f4]; simp)
          · have e4 : okRats x d.others.length = true := by rw [e0]; simpa using c4
            refine VC_skip ?_
            refine k23 _ ?_
            refine VC_lit ?_
            refine goV (sd_move (v := .p none (.int _ _)) rfl) (Nat.le_of_ble_eq_true rfl) ?_
            refine goV (sd_addI rfl rfl ?_) (Nat.le_of_ble_eq_true rfl) ?_; (focus (first | omega | (constructor <;> omega)))
            refine goV (sd_assign (v := .p none (.int _ _)) rfl) (Nat.le_of_ble_eq_true rfl) ?_
            refine op_nil ?_
            exact ⟨_, id, mk [(1, .ptr 100 0), (3, .p none (.int .i64 (d.basic.length : Int))), (4, .p none (.int .i64 (d.others.length : Int))), (7, .p none (.int .i64 ((k + 1) : Int)))] [(100, some (.box 45 [.p none (ints d.basic), .p none (ints d.others), .p none (ratss d.table), .p none (rats d.consts), .p none (rats d.costs), .p none (.int .i64 d.value.num), .p none (.int .i64 d.value.den)]))], by omega, le_mk ⟨(by first | rfl | (simp [findS, findO, mapA, mapR]; done)), (by first | rfl | (simp [findS, findO, mapA, mapR]; done)), (by first | rfl | (simp [findS, findO, mapA, mapR]; done)), (by first | rfl | (simp [findS, findO, mapA, mapR]; done)), trivial⟩ ⟨(by first | rfl | (simp [findS, findO, mapA, mapR]; done)), trivial⟩ rfl, k + 1, rfl, rfl, hlt, all_snoc hx ha e4⟩
        · have g5 : (!decide ((x.length : Int) = (d.others.length : Int))) = true := by simp; omega
          have e0 := okRats_len (l := x) (n := (d.others.length : Int)) (by omega)
          refine VC_lit ?_
          refine goV (sd_fieldP fl45_2 rfl rfl) (Nat.le_of_ble_eq_true rfl) ?_
          refine goV (sd_loadB1 (v := .p none (.sl _ _ _)) ty43 rfl rfl rfl) (Nat.le_of_ble_eq_true rfl) ?_
          refine goV (sd_move (v := .p none (.int _ _)) rfl) (Nat.le_of_ble_eq_true rfl) ?_
          refine goV (sd_index Try.underlying43 ty38 rfl rfl ?_ (map_at hx)) (Nat.le_of_ble_eq_true rfl) ?_; (focus (omega))
          refine goV (sd_loadR1 (v := .p none (.sl _ _ _)) ty38 rfl rfl rfl) (Nat.le_of_ble_eq_true rfl) ?_
          refine goV (sd_len Try.underlying38 len_pm) (Nat.le_of_ble_eq_true rfl) ?_
          refine goV (sd_move (v := .p none (.int _ _)) rfl) (Nat.le_of_ble_eq_true rfl) ?_
          refine goV (sd_neq rfl rfl) (Nat.le_of_ble_eq_true rfl) ?_
          refine goV (sd_move (v := .p none (.bool _)) rfl) (Nat.le_of_ble_eq_true rfl) ?_
          refine op_gnoE rfl (Nat.le_of_ble_eq_true rfl) rfl g5 (Nat.le_of_ble_eq_true rfl) ?_
          refine op_gnoE rfl (Nat.le_of_ble_eq_true rfl) rfl g5 (Nat.le_of_ble_eq_true rfl) ?_
          refine op_gnoE rfl (Nat.le_of_ble_eq_true rfl) rfl g5 (Nat.le_of_ble_eq_true rfl) ?_
          refine op_gnoE rfl (Nat.le_of_ble_eq_true rfl) rfl g5 (Nat.le_of_ble_eq_true rfl) ?_
          refine op_gnoE rfl (Nat.le_of_ble_eq_true rfl) rfl g5 (Nat.le_of_ble_eq_true rfl) ?_
          refine op_gnoE rfl (Nat.le_of_ble_eq_true rfl) rfl g5 (Nat.le_of_ble_eq_true rfl) ?_
          refine op_gnoE rfl (Nat.le_of_ble_eq_true rfl) rfl g5 (Nat.le_of_ble_eq_true rfl) ?_
          refine goV (sd_pickH (v := .p none (.bool _)) rfl g5 rfl) (Nat.le_of_ble_eq_true rfl) ?_
          refine op_nil ?_
          refine k24 _ ?_
          refine VC_cond rfl (fun c4 => ?_) (fun c4 => absurd c4 (by first | decide | simp))
          have e4 : okRats x d.others.length = false := by first | exact e0 | (rw [e0]; simpa using c4)
          refine VC_seq (fun K26 k26 => ?_)
          refine VC_lit ?_
          refine goV (sd_assign (v := .p none _) rfl) (Nat.le_of_ble_eq_true rfl) ?_
          refine op_nil ?_
          refine k26 _ ?_
          refine VC_ret ?_
          show Fin _ _ _ _ _ _
          refine fin0 (xs := [.p none (.bool _)]) (.inr rfl) ⟨_, _, rfl, rfl, rfl⟩ ?_
          show AV.p none (.bool _) = _
          first | (rw [okDic, q0]; rfl) | (rw [okDic, q0, q1]; rfl) | (rw [okDic, q0, q1, q2]; rfl) | (rw [okDic, q0, q1, q2, hp]; rfl) | (rw [okDic, q0, q1, q2, hp, all_stop hx e4]; rfl) | (rw [okDic, q0, q1, q2, hp, all_done hge ha, f3, r0]; rfl) | (rw [okDic, q0, q1, q2, hp, all_done hge ha, f3, f4, r0, r1]; rfl) | (rw [okDic, q0, q1, q2, hp, all_done hge ha, f3, f4, r0, r1, r2]; rfl) | (rw [okDic, f3]; simp) | (rw [okDic, f4]; simp)
      · have hge : d.table.length ≤ k := by have := of_decide_eq_false c3; omega
        refine VC_exit ?_
        refine k19 _ ?_
        refine VC_seq (fun K27 k27 => ?_)
        rcases chain3 (d.consts.all okRat) (d.costs.all okRat) (validQ d.value.num d.value.den) with r0 | ⟨r0, r1⟩ | ⟨r0, r1, r2⟩ | ⟨r0, r1, r2⟩
        · skip
          refine VC_lit ?_
          refine goV (sd_fieldP fl45_3 rfl rfl) (Nat.le_of_ble_eq_true rfl) ?_
          refine goV (sd_loadB1 (v := .p none (.sl _ _ _)) ty38 rfl rfl rfl) (Nat.le_of_ble_eq_true rfl) ?_
          refine goV (sd_callF (v := .p none (.bool _)) rfl (c_all' (l := d.consts) (by omega) r0) (.inl rfl) rfl rfl rfl) (Nat.le_of_ble_eq_true rfl) ?_
          refine goV (sd_move (v := .p none (.bool _)) rfl) (Nat.le_of_ble_eq_true rfl) ?_
          refine op_gnoE rfl (Nat.le_of_ble_eq_true rfl) rfl rfl (Nat.le_of_ble_eq_true rfl) ?_
          refine op_gnoE rfl (Nat.le_of_ble_eq_true rfl) rfl rfl (Nat.le_of_ble_eq_true rfl) ?_
          refine op_gnoE rfl (Nat.le_of_ble_eq_true rfl) rfl rfl (Nat.le_of_ble_eq_true rfl) ?_
          refine goV (sd_pick (v := .p none (.bool _)) rfl rfl) (Nat.le_of_ble_eq_true rfl) ?_
          refine goV (sd_move (v := .p none (.bool _)) rfl) (Nat.le_of_ble_eq_true rfl) ?_
          refine op_gnoE rfl (Nat.le_of_ble_eq_true rfl) rfl rfl (Nat.le_of_ble_eq_true rfl) ?_
          refine op_gnoE rfl (Nat.le_of_ble_eq_true rfl) rfl rfl (Nat.le_of_ble_eq_true rfl) ?_
          refine op_gnoE rfl (Nat.le_of_ble_eq_true rfl) rfl rfl (Nat.le_of_ble_eq_true rfl) ?_
          refine goV (sd_pick (v := .p none (.bool _)) rfl rfl) (Nat.le_of_ble_eq_true rfl) ?_
          refine goV (sd_assign (v := .p none (.bool _)) rfl) (Nat.le_of_ble_eq_true rfl) ?_
          refine op_nil ?_
          refine k27 _ ?_
          refine VC_ret ?_
          show Fin _ _ _ _ _ _
          refine fin0 (xs := [.p none (.bool _)]) (.inr rfl) ⟨_, _, rfl, rfl, rfl⟩ ?_
          show AV.p none (.bool _) = _
          first | (rw [okDic, q0]; rfl) | (rw [okDic, q0, q1]; rfl) | (rw [okDic, q0, q1, q2]; rfl) | (rw [okDic, q0, q1, q2, hp]; rfl) | (rw [okDic, q0, q1, q2, hp, all_stop hx e4]; rfl) | (rw [okDic, q0, q1, q2, hp, all_done hge ha, f3, r0]; rfl) | (rw [okDic, q0, q1, q2, hp, all_done hge ha, f3, f4, r0, r1]; rfl) | (rw [okDic, q0, q1, q2, hp, all_done hge ha, f3, f4, r0, r1, r2]; rfl) | (rw [okDic, f3]; simp) | (rw [okDic, f4]; simp)
        · skip
          refine VC_lit ?_
          refine goV (sd_fieldP fl45_3 rfl rfl) (Nat.le_of_ble_eq_true rfl) ?_
          refine goV (sd_loadB1 (v := .p none (.sl _ _ _)) ty38 rfl rfl rfl) (Nat.le_of_ble_eq_true rfl) ?_
          refine goV (sd_callF (v := .p none (.bool _)) rfl (c_all' (l := d.consts) (by omega) r0) (.inl rfl) rfl rfl rfl) (Nat.le_of_ble_eq_true rfl) ?_
          refine goV (sd_move (v := .p none (.bool _)) rfl) (Nat.le_of_ble_eq_true rfl) ?_
          refine op_gyes rfl (Nat.le_of_ble_eq_true rfl) rfl rfl ?_; refine goV (sd_fieldP fl45_4 rfl rfl) (Nat.le_of_ble_eq_true rfl) ?_
          refine op_gyes rfl (Nat.le_of_ble_eq_true rfl) rfl rfl ?_; refine goV (sd_loadB1 (v := .p none (.sl _ _ _)) ty38 rfl rfl rfl) (Nat.le_of_ble_eq_true rfl) ?_
          refine op_gyes rfl (Nat.le_of_ble_eq_true rfl) rfl rfl ?_; refine goV (sd_callF (v := .p none (.bool _)) rfl (c_all' (l := d.costs) (by omega) r1) (.inl rfl) rfl rfl rfl) (Nat.le_of_ble_eq_true rfl) ?_
          refine goV (sd_pick (v := .p none (.bool _)) rfl rfl) (Nat.le_of_ble_eq_true rfl) ?_
          refine goV (sd_move (v := .p none (.bool _)) rfl) (Nat.le_of_ble_eq_true rfl) ?_
          refine op_gnoE rfl (Nat.le_of_ble_eq_true rfl) rfl rfl (Nat.le_of_ble_eq_true rfl) ?_
          refine op_gnoE rfl (Nat.le_of_ble_eq_true rfl) rfl rfl (Nat.le_of_ble_eq_true rfl) ?_
          refine op_gnoE rfl (Nat.le_of_ble_eq_true rfl) rfl rfl (Nat.le_of_ble_eq_true rfl) ?_
          refine goV (sd_pick (v := .p none (.bool _)) rfl rfl) (Nat.le_of_ble_eq_true rfl) ?_
          refine goV (sd_assign (v := .p none (.bool _)) rfl) (Nat.le_of_ble_eq_true rfl) ?_
          refine op_nil ?_
          refine k27 _ ?_
          refine VC_ret ?_
          show Fin _ _ _ _ _ _
          refine fin0 (xs := [.p none (.bool _)]) (.inr rfl) ⟨_, _, rfl, rfl, rfl⟩ ?_
          show AV.p none (.bool _) = _
          first | (rw [okDic, q0]; rfl) | (rw [okDic, q0, q1]; rfl) | (rw [okDic, q0, q1, q2]; rfl) | (rw [okDic, q0, q1, q2, hp]; rfl) | (rw [okDic, q0, q1, q2, hp, all_stop hx e4]; rfl) | (rw [okDic, q0, q1, q2, hp, all_done hge ha, f3, r0]; rfl) | (rw [okDic, q0, q1, q2, hp, all_done hge ha, f3, f4, r0, r1]; rfl) | (rw [okDic, q0, q1, q2, hp, all_done hge ha, f3, f4, r0, r1, r2]; rfl) | (rw [okDic, f3]; simp) | (rw [okDic, f4]; simp)
        · skip
          refine VC_lit ?_
          refine goV (sd_fieldP fl45_3 rfl rfl) (Nat.le_of_ble_eq_true rfl) ?_
          refine goV (sd_loadB1 (v := .p none (.sl _ _ _)) ty38 rfl rfl rfl) (Nat.le_of_ble_eq_true rfl) ?_
          refine goV (sd_callF (v := .p none (.bool _)) rfl (c_all' (l := d.consts) (by omega) r0) (.inl rfl) rfl rfl rfl) (Nat.le_of_ble_eq_true rfl) ?_
          refine goV (sd_move (v := .p none (.bool _)) rfl) (Nat.le_of_ble_eq_true rfl) ?_
          refine op_gyes rfl (Nat.le_of_ble_eq_true rfl) rfl rfl ?_; refine goV (sd_fieldP fl45_4 rfl rfl) (Nat.le_of_ble_eq_true rfl) ?_
          refine op_gyes rfl (Nat.le_of_ble_eq_true rfl) rfl rfl ?_; refine goV (sd_loadB1 (v := .p none (.sl _ _ _)) ty38 rfl rfl rfl) (Nat.le_of_ble_eq_true rfl) ?_
          refine op_gyes rfl (Nat.le_of_ble_eq_true rfl) rfl rfl ?_; refine goV (sd_callF (v := .p none (.bool _)) rfl (c_all' (l := d.costs) (by omega) r1) (.inl rfl) rfl rfl rfl) (Nat.le_of_ble_eq_true rfl) ?_
          refine goV (sd_pick (v := .p none (.bool _)) rfl rfl) (Nat.le_of_ble_eq_true rfl) ?_
          refine goV (sd_move (v := .p none (.bool _)) rfl) (Nat.le_of_ble_eq_true rfl) ?_
          refine op_gyes rfl (Nat.le_of_ble_eq_true rfl) rfl rfl ?_; refine goV (sd_fieldP fl45_5 rfl rfl) (Nat.le_of_ble_eq_true rfl) ?_
          refine op_gyes rfl (Nat.le_of_ble_eq_true rfl) rfl rfl ?_; refine goV (sd_loadB (vs := [.p none (.int _ _), .p none (.int _ _)]) ty35 rfl rfl (Nat.le_of_ble_eq_true rfl) rfl) (Nat.le_of_ble_eq_true rfl) ?_
          refine op_gyes rfl (Nat.le_of_ble_eq_true rfl) rfl rfl ?_; refine goV (sd_callF (v := .p none (.bool _)) rfl (c_valid_spec r2) (.inl rfl) rfl rfl rfl) (Nat.le_of_ble_eq_true rfl) ?_
          refine goV (sd_pick (v := .p none (.bool _)) rfl rfl) (Nat.le_of_ble_eq_true rfl) ?_
          refine goV (sd_assign (v := .p none (.bool _)) rfl) (Nat.le_of_ble_eq_true rfl) ?_
          refine op_nil ?_
          refine k27 _ ?_
          refine VC_ret ?_
          show Fin _ _ _ _ _ _
          refine fin0 (xs := [.p none (.bool _)]) (.inr rfl) ⟨_, _, rfl, rfl, rfl⟩ ?_
          show AV.p none (.bool _) = _
          first | (rw [okDic, q0]; rfl) | (rw [okDic, q0, q1]; rfl) | (rw [okDic, q0, q1, q2]; rfl) | (rw [okDic, q0, q1, q2, hp]; rfl) | (rw [okDic, q0, q1, q2, hp, all_stop hx e4]; rfl) | (rw [okDic, q0, q1, q2, hp, all_done hge ha, f3, r0]; rfl) | (rw [okDic, q0, q1, q2, hp, all_done hge ha, f3, f4, r0, r1]; rfl) | (rw [okDic, q0, q1, q2, hp, all_done hge ha, f3, f4, r0, r1, r2]; rfl) | (rw [okDic, f3]; simp) | (rw [okDic, f4]; simp)
        · skip
          refine VC_lit ?_
          refine goV (sd_fieldP fl45_3 rfl rfl) (Nat.le_of_ble_eq_true rfl) ?_
          refine goV (sd_loadB1 (v := .p none (.sl _ _ _)) ty38 rfl rfl rfl) (Nat.le_of_ble_eq_true rfl) ?_
          refine goV (sd_callF (v := .p none (.bool _)) rfl (c_all' (l := d.consts) (by omega) r0) (.inl rfl) rfl rfl rfl) (Nat.le_of_ble_eq_true rfl) ?_
          refine goV (sd_move (v := .p none (.bool _)) rfl) (Nat.le_of_ble_eq_true rfl) ?_
          refine op_gyes rfl (Nat.le_of_ble_eq_true rfl) rfl rfl ?_; refine goV (sd_fieldP fl45_4 rfl rfl) (Nat.le_of_ble_eq_true rfl) ?_
          refine op_gyes rfl (Nat.le_of_ble_eq_true rfl) rfl rfl ?_; refine goV (sd_loadB1 (v := .p none (.sl _ _ _)) ty38 rfl rfl rfl) (Nat.le_of_ble_eq_true rfl) ?_
          refine op_gyes rfl (Nat.le_of_ble_eq_true rfl) rfl rfl ?_; refine goV (sd_callF (v := .p none (.bool _)) rfl (c_all' (l := d.costs) (by omega) r1) (.inl rfl) rfl rfl rfl) (Nat.le_of_ble_eq_true rfl) ?_
          refine goV (sd_pick (v := .p none (.bool _)) rfl rfl) (Nat.le_of_ble_eq_true rfl) ?_
          refine goV (sd_move (v := .p none (.bool _)) rfl) (Nat.le_of_ble_eq_true rfl) ?_
          refine op_gyes rfl (Nat.le_of_ble_eq_true rfl) rfl rfl ?_; refine goV (sd_fieldP fl45_5 rfl rfl) (Nat.le_of_ble_eq_true rfl) ?_
          refine op_gyes rfl (Nat.le_of_ble_eq_true rfl) rfl rfl ?_; refine goV (sd_loadB (vs := [.p none (.int _ _), .p none (.int _ _)]) ty35 rfl rfl (Nat.le_of_ble_eq_true rfl) rfl) (Nat.le_of_ble_eq_true rfl) ?_
          refine op_gyes rfl (Nat.le_of_ble_eq_true rfl) rfl rfl ?_; refine goV (sd_callF (v := .p none (.bool _)) rfl (c_valid_spec r2) (.inl rfl) rfl rfl rfl) (Nat.le_of_ble_eq_true rfl) ?_
          refine goV (sd_pick (v := .p none (.bool _)) rfl rfl) (Nat.le_of_ble_eq_true rfl) ?_
          refine goV (sd_assign (v := .p none (.bool _)) rfl) (Nat.le_of_ble_eq_true rfl) ?_
          refine op_nil ?_
          refine k27 _ ?_
          refine VC_ret ?_
          show Fin _ _ _ _ _ _
          refine fin0 (xs := [.p none (.bool _)]) (.inr rfl) ⟨_, _, rfl, rfl, rfl⟩ ?_
          show AV.p none (.bool _) = _
          first | (rw [okDic, q0]; rfl) | (rw [okDic, q0, q1]; rfl) | (rw [okDic, q0, q1, q2]; rfl) | (rw [okDic, q0, q1, q2, hp]; rfl) | (rw [okDic, q0, q1, q2, hp, all_stop hx e4]; rfl) | (rw [okDic, q0, q1, q2, hp, all_done hge ha, f3, r0]; rfl) | (rw [okDic, q0, q1, q2, hp, all_done hge ha, f3, f4, r0, r1]; rfl) | (rw [okDic, q0, q1, q2, hp, all_done hge ha, f3, f4, r0, r1, r2]; rfl) | (rw [okDic, f3]; simp) | (rw [okDic, f4]; simp)

theorem small_dic {d : DictionaryD} (hc : d.count ≤ 1048576) : SmallD d := by
  have hcn : d.count = d.basic.length + d.others.length + cntL List.length d.table + d.consts.length + d.costs.length := rfl
  refine ⟨by omega, by omega, fun r hr => ?_, by omega, by omega⟩
  obtain ⟨i, hi, e⟩ := List.getElem_of_mem hr
  have := cntL_mem List.length (xs := d.table) (k := i) (x := r) (by rw [← e]; exact List.getElem?_eq_getElem hi)
  omega
theorem c_okDic_impl {d : DictionaryD} {t : Bool} (hs : SmallD d) (h : okDic d = t) : Con Try.prog 46 [.agg (dicD d)] (.p none (.bool t)) [] := by
  subst h
  exact c_okDic_impl0 d hs
theorem c_okDic_spec {d : DictionaryD} {t : Bool} (hs : SmallD d) (h : okDic d = t) : Con Try.prog 44 [.agg (dicD d)] (.p none (.bool t)) [] := by
  subst h
  exact c_okDic_spec0 d hs
end Go.Proofs.Ytcgjlddpbkponaa
