/-
  Walks: optimal solutions.
-/
import Derived.Test.YtcgjlddpbkponaaLpN
import Derived.Test.YtcgjlddpbkponaaSolD
namespace Go.Proofs.Ytcgjlddpbkponaa
open Go.ChangeShapes Go.WideShapes Go.ChangeAt Go.RowKit
set_option linter.unusedVariables false
set_option linter.unusedSimpArgs false
def solD (s : SolutionD) : List Dat := [.int .i64 s.value.num, .int .i64 s.value.den, rats s.point, rats s.prices]
def FitsS (s : SolutionD) : Prop := (Fits s.value.num ∧ Fits s.value.den) ∧ (∀ x ∈ s.point, Fits x.num ∧ Fits x.den) ∧ (∀ x ∈ s.prices, Fits x.num ∧ Fits x.den)
def eqQ (a b c d : Int) : Bool := a == c && b == d
def optimal (p : ProgramD) (s : SolutionD) : Bool := (atQ (okProg p) p.objective s.point).2.2 && ((atQ (okProg p) p.limits s.prices).2.2 && (eqQ (atQ (okProg p) p.objective s.point).1 (atQ (okProg p) p.objective s.point).2.1 s.value.num s.value.den && (eqQ (atQ (okProg p) p.limits s.prices).1 (atQ (okProg p) p.limits s.prices).2.1 s.value.num s.value.den && (feasible p s.point && dual p s.prices))))
theorem eqQ_swap {a b c d e f : Int} : (eqQ a b c d && eqQ a b e f) = (eqQ a b e f && eqQ c d e f) := by
  rw [Bool.eq_iff_iff]
  simp only [eqQ, Bool.and_eq_true, beq_iff_eq]
  constructor <;> (intro h; omega)
theorem chain6 (a b c d e f : Bool) : a = false ∨ (a = true ∧ b = false) ∨ (a = true ∧ b = true ∧ c = false) ∨ (a = true ∧ b = true ∧ c = true ∧ d = false) ∨ (a = true ∧ b = true ∧ c = true ∧ d = true ∧ e = false) ∨ (a = true ∧ b = true ∧ c = true ∧ d = true ∧ e = true) := by cases a <;> cases b <;> cases c <;> cases d <;> cases e <;> simp

set_option maxRecDepth 100000 in
set_option maxHeartbeats 4000000 in
theorem c_opt_impl0 (p : ProgramD) (s : SolutionD) (hf : FitsP p) (h1 : s.point.length ≤ 9223372036854775807) (h2 : s.prices.length ≤ 9223372036854775807) (o1 o2 l1 l2 : Int) (o3 l3 f g : Bool) (ho : atQ (okProg p) p.objective s.point = (o1, o2, o3)) (hl : atQ (okProg p) p.limits s.prices = (l1, l2, l3)) (hff : feasible p s.point = f) (hgg : dual p s.prices = g) :
    Con Try.prog 41 [.agg (progD p), .agg (solD s)] (.p none (.bool (o3 && (l3 && ((o1 == s.value.num && o2 == s.value.den) && ((l1 == s.value.num && l2 == s.value.den) && (f && g))))))) [] := by
  refine con_of (N := 51) Try.func41 rfl rfl (by decide) (Nat.le_of_ble_eq_true rfl) ?_
  refine VC_seq (fun K1 k1 => ?_)
  refine VC_lit ?_
  refine goN (sd_box (cs := [_, _, _]) (by first | exact trivial | exact ⟨_, rfl⟩) rfl rfl) (Nat.le_of_ble_eq_true rfl) ?_
  refine goN (sd_box (cs := [.p none (.int _ _), .p none (.int _ _), _, _]) (by first | exact trivial | exact ⟨_, rfl⟩) rfl rfl) (Nat.le_of_ble_eq_true rfl) ?_
  refine goV (sd_assign (v := .p none _) rfl) (Nat.le_of_ble_eq_true rfl) ?_
  refine op_nil ?_
  refine k1 _ ?_
  refine VC_seq (fun K2 k2 => ?_)
  refine VC_lit ?_
  refine goV (sd_loadB (vs := [_, _, _]) ty28 rfl rfl (Nat.le_of_ble_eq_true rfl) rfl) (Nat.le_of_ble_eq_true rfl) ?_
  refine goV (sd_fieldP fl58_1 rfl rfl) (Nat.le_of_ble_eq_true rfl) ?_
  refine goV (sd_loadB1 (v := .p none (.sl _ _ _)) ty38 rfl rfl rfl) (Nat.le_of_ble_eq_true rfl) ?_
  refine goV (sd_callF (v := .tup _) rfl (c_ObjectiveAt_impl hf ho) (.inl rfl) rfl rfl rfl) (Nat.le_of_ble_eq_true rfl) ?_
  refine goV (sd_move (v := .tup _) rfl) (Nat.le_of_ble_eq_true rfl) ?_
  refine goV (sd_extract rfl rfl) (Nat.le_of_ble_eq_true rfl) ?_
  refine goV (sd_extract rfl rfl) (Nat.le_of_ble_eq_true rfl) ?_
  refine goN (sd_alloc (cs := [.p none (.int _ _), .p none (.int _ _)]) ty35 rfl rfl) (Nat.le_of_ble_eq_true rfl) ?_
  refine goW (sd_storeB (cs' := [.p none (.int _ _), .p none (.int _ _)]) ty35 rfl rfl (by first | exact trivial | exact ⟨_, rfl⟩) rfl (Nat.le_of_ble_eq_true rfl) rfl) ?_
  refine goV (sd_assign (v := .p none (.bool _)) rfl) (Nat.le_of_ble_eq_true rfl) ?_
  refine op_nil ?_
  refine k2 _ ?_
  refine VC_seq (fun K3 k3 => ?_)
  refine VC_lit ?_
  refine goV (sd_loadB (vs := [_, _, _]) ty28 rfl rfl (Nat.le_of_ble_eq_true rfl) rfl) (Nat.le_of_ble_eq_true rfl) ?_
  refine goV (sd_fieldP fl58_2 rfl rfl) (Nat.le_of_ble_eq_true rfl) ?_
  refine goV (sd_loadB1 (v := .p none (.sl _ _ _)) ty38 rfl rfl rfl) (Nat.le_of_ble_eq_true rfl) ?_
  refine goV (sd_callF (v := .tup _) rfl (c_LimitAt_impl hf hl) (.inl rfl) rfl rfl rfl) (Nat.le_of_ble_eq_true rfl) ?_
  refine goV (sd_move (v := .tup _) rfl) (Nat.le_of_ble_eq_true rfl) ?_
  refine goV (sd_extract rfl rfl) (Nat.le_of_ble_eq_true rfl) ?_
  refine goV (sd_extract rfl rfl) (Nat.le_of_ble_eq_true rfl) ?_
  refine goN (sd_alloc (cs := [.p none (.int _ _), .p none (.int _ _)]) ty35 rfl rfl) (Nat.le_of_ble_eq_true rfl) ?_
  refine goW (sd_storeB (cs' := [.p none (.int _ _), .p none (.int _ _)]) ty35 rfl rfl (by first | exact trivial | exact ⟨_, rfl⟩) rfl (Nat.le_of_ble_eq_true rfl) rfl) ?_
  refine goV (sd_assign (v := .p none (.bool _)) rfl) (Nat.le_of_ble_eq_true rfl) ?_
  refine op_nil ?_
  refine k3 _ ?_
  refine VC_seq (fun K4 k4 => ?_)
  rcases chain6 (o3) (l3) ((o1 == s.value.num && o2 == s.value.den)) ((l1 == s.value.num && l2 == s.value.den)) (f) (g) with q0 | ⟨q0, q1⟩ | ⟨q0, q1, q2⟩ | ⟨q0, q1, q2, q3⟩ | ⟨q0, q1, q2, q3, q4⟩ | ⟨q0, q1, q2, q3, q4⟩
  · subst q0
    refine VC_lit ?_
    refine goV (sd_move (v := .p none (.bool _)) rfl) (Nat.le_of_ble_eq_true rfl) ?_
    refine goV (sd_move (v := .p none (.bool _)) rfl) (Nat.le_of_ble_eq_true rfl) ?_
    refine op_gnoE rfl (Nat.le_of_ble_eq_true rfl) rfl rfl (Nat.le_of_ble_eq_true rfl) ?_
    refine goV (sd_pick (v := .p none (.bool _)) rfl rfl) (Nat.le_of_ble_eq_true rfl) ?_
    refine goV (sd_move (v := .p none (.bool _)) rfl) (Nat.le_of_ble_eq_true rfl) ?_
    refine op_gnoE rfl (Nat.le_of_ble_eq_true rfl) rfl rfl (Nat.le_of_ble_eq_true rfl) ?_
    refine op_gnoE rfl (Nat.le_of_ble_eq_true rfl) rfl rfl (Nat.le_of_ble_eq_true rfl) ?_
    refine op_gnoE rfl (Nat.le_of_ble_eq_true rfl) rfl rfl (Nat.le_of_ble_eq_true rfl) ?_
    refine op_gnoE rfl (Nat.le_of_ble_eq_true rfl) rfl rfl (Nat.le_of_ble_eq_true rfl) ?_
    refine goV (sd_pick (v := .p none (.bool _)) rfl rfl) (Nat.le_of_ble_eq_true rfl) ?_
    refine goV (sd_move (v := .p none (.bool _)) rfl) (Nat.le_of_ble_eq_true rfl) ?_
    refine op_gnoE rfl (Nat.le_of_ble_eq_true rfl) rfl rfl (Nat.le_of_ble_eq_true rfl) ?_
    refine op_gnoE rfl (Nat.le_of_ble_eq_true rfl) rfl rfl (Nat.le_of_ble_eq_true rfl) ?_
    refine op_gnoE rfl (Nat.le_of_ble_eq_true rfl) rfl rfl (Nat.le_of_ble_eq_true rfl) ?_
    refine op_gnoE rfl (Nat.le_of_ble_eq_true rfl) rfl rfl (Nat.le_of_ble_eq_true rfl) ?_
    refine goV (sd_pick (v := .p none (.bool _)) rfl rfl) (Nat.le_of_ble_eq_true rfl) ?_
    refine goV (sd_move (v := .p none (.bool _)) rfl) (Nat.le_of_ble_eq_true rfl) ?_
    refine op_gnoE rfl (Nat.le_of_ble_eq_true rfl) rfl rfl (Nat.le_of_ble_eq_true rfl) ?_
    refine op_gnoE rfl (Nat.le_of_ble_eq_true rfl) rfl rfl (Nat.le_of_ble_eq_true rfl) ?_
    refine op_gnoE rfl (Nat.le_of_ble_eq_true rfl) rfl rfl (Nat.le_of_ble_eq_true rfl) ?_
    refine op_gnoE rfl (Nat.le_of_ble_eq_true rfl) rfl rfl (Nat.le_of_ble_eq_true rfl) ?_
    refine goV (sd_pick (v := .p none (.bool _)) rfl rfl) (Nat.le_of_ble_eq_true rfl) ?_
    refine goV (sd_move (v := .p none (.bool _)) rfl) (Nat.le_of_ble_eq_true rfl) ?_
    refine op_gnoE rfl (Nat.le_of_ble_eq_true rfl) rfl rfl (Nat.le_of_ble_eq_true rfl) ?_
    refine op_gnoE rfl (Nat.le_of_ble_eq_true rfl) rfl rfl (Nat.le_of_ble_eq_true rfl) ?_
    refine op_gnoE rfl (Nat.le_of_ble_eq_true rfl) rfl rfl (Nat.le_of_ble_eq_true rfl) ?_
    refine op_gnoE rfl (Nat.le_of_ble_eq_true rfl) rfl rfl (Nat.le_of_ble_eq_true rfl) ?_
    refine goV (sd_pick (v := .p none (.bool _)) rfl rfl) (Nat.le_of_ble_eq_true rfl) ?_
    refine goV (sd_assign (v := .p none (.bool _)) rfl) (Nat.le_of_ble_eq_true rfl) ?_
    refine op_nil ?_
    refine k4 _ ?_
    refine VC_ret ?_
    show Fin _ _ _ _ _ _
    refine fin0 (xs := [.p none (.bool _)]) (.inr rfl) ⟨_, _, rfl, rfl, rfl⟩ ?_
    show AV.p none (.bool _) = _
    first | rfl | (simp only [q2]; rfl) | (simp only [q3]; rfl) | (simp only [q4]; rfl) | (simp only [q2, q3]; rfl) | (simp only [q2, q3, q4]; rfl)
  · subst q0
    subst q1
    refine VC_lit ?_
    refine goV (sd_move (v := .p none (.bool _)) rfl) (Nat.le_of_ble_eq_true rfl) ?_
    refine goV (sd_move (v := .p none (.bool _)) rfl) (Nat.le_of_ble_eq_true rfl) ?_
    refine op_gyes rfl (Nat.le_of_ble_eq_true rfl) rfl rfl ?_; refine goV (sd_move (v := .p none (.bool _)) rfl) (Nat.le_of_ble_eq_true rfl) ?_
    refine goV (sd_pick (v := .p none (.bool _)) rfl rfl) (Nat.le_of_ble_eq_true rfl) ?_
    refine goV (sd_move (v := .p none (.bool _)) rfl) (Nat.le_of_ble_eq_true rfl) ?_
    refine op_gnoE rfl (Nat.le_of_ble_eq_true rfl) rfl rfl (Nat.le_of_ble_eq_true rfl) ?_
    refine op_gnoE rfl (Nat.le_of_ble_eq_true rfl) rfl rfl (Nat.le_of_ble_eq_true rfl) ?_
    refine op_gnoE rfl (Nat.le_of_ble_eq_true rfl) rfl rfl (Nat.le_of_ble_eq_true rfl) ?_
    refine op_gnoE rfl (Nat.le_of_ble_eq_true rfl) rfl rfl (Nat.le_of_ble_eq_true rfl) ?_
    refine goV (sd_pick (v := .p none (.bool _)) rfl rfl) (Nat.le_of_ble_eq_true rfl) ?_
    refine goV (sd_move (v := .p none (.bool _)) rfl) (Nat.le_of_ble_eq_true rfl) ?_
    refine op_gnoE rfl (Nat.le_of_ble_eq_true rfl) rfl rfl (Nat.le_of_ble_eq_true rfl) ?_
    refine op_gnoE rfl (Nat.le_of_ble_eq_true rfl) rfl rfl (Nat.le_of_ble_eq_true rfl) ?_
    refine op_gnoE rfl (Nat.le_of_ble_eq_true rfl) rfl rfl (Nat.le_of_ble_eq_true rfl) ?_
    refine op_gnoE rfl (Nat.le_of_ble_eq_true rfl) rfl rfl (Nat.le_of_ble_eq_true rfl) ?_
    refine goV (sd_pick (v := .p none (.bool _)) rfl rfl) (Nat.le_of_ble_eq_true rfl) ?_
    refine goV (sd_move (v := .p none (.bool _)) rfl) (Nat.le_of_ble_eq_true rfl) ?_
    refine op_gnoE rfl (Nat.le_of_ble_eq_true rfl) rfl rfl (Nat.le_of_ble_eq_true rfl) ?_
    refine op_gnoE rfl (Nat.le_of_ble_eq_true rfl) rfl rfl (Nat.le_of_ble_eq_true rfl) ?_
    refine op_gnoE rfl (Nat.le_of_ble_eq_true rfl) rfl rfl (Nat.le_of_ble_eq_true rfl) ?_
    refine op_gnoE rfl (Nat.le_of_ble_eq_true rfl) rfl rfl (Nat.le_of_ble_eq_true rfl) ?_
    refine goV (sd_pick (v := .p none (.bool _)) rfl rfl) (Nat.le_of_ble_eq_true rfl) ?_
    refine goV (sd_move (v := .p none (.bool _)) rfl) (Nat.le_of_ble_eq_true rfl) ?_
    refine op_gnoE rfl (Nat.le_of_ble_eq_true rfl) rfl rfl (Nat.le_of_ble_eq_true rfl) ?_
    refine op_gnoE rfl (Nat.le_of_ble_eq_true rfl) rfl rfl (Nat.le_of_ble_eq_true rfl) ?_
    refine op_gnoE rfl (Nat.le_of_ble_eq_true rfl) rfl rfl (Nat.le_of_ble_eq_true rfl) ?_
    refine op_gnoE rfl (Nat.le_of_ble_eq_true rfl) rfl rfl (Nat.le_of_ble_eq_true rfl) ?_
    refine goV (sd_pick (v := .p none (.bool _)) rfl rfl) (Nat.le_of_ble_eq_true rfl) ?_
    refine goV (sd_assign (v := .p none (.bool _)) rfl) (Nat.le_of_ble_eq_true rfl) ?_
    refine op_nil ?_
    refine k4 _ ?_
    refine VC_ret ?_
    show Fin _ _ _ _ _ _
    refine fin0 (xs := [.p none (.bool _)]) (.inr rfl) ⟨_, _, rfl, rfl, rfl⟩ ?_
    show AV.p none (.bool _) = _
    first | rfl | (simp only [q2]; rfl) | (simp only [q3]; rfl) | (simp only [q4]; rfl) | (simp only [q2, q3]; rfl) | (simp only [q2, q3, q4]; rfl)
  · subst q0
    subst q1
    refine VC_lit ?_
    refine goV (sd_move (v := .p none (.bool _)) rfl) (Nat.le_of_ble_eq_true rfl) ?_
    refine goV (sd_move (v := .p none (.bool _)) rfl) (Nat.le_of_ble_eq_true rfl) ?_
    refine op_gyes rfl (Nat.le_of_ble_eq_true rfl) rfl rfl ?_; refine goV (sd_move (v := .p none (.bool _)) rfl) (Nat.le_of_ble_eq_true rfl) ?_
    refine goV (sd_pick (v := .p none (.bool _)) rfl rfl) (Nat.le_of_ble_eq_true rfl) ?_
    refine goV (sd_move (v := .p none (.bool _)) rfl) (Nat.le_of_ble_eq_true rfl) ?_
    refine op_gyes rfl (Nat.le_of_ble_eq_true rfl) rfl rfl ?_; refine goV (sd_loadB (vs := [.p none (.int _ _), .p none (.int _ _)]) ty35 rfl rfl (Nat.le_of_ble_eq_true rfl) rfl) (Nat.le_of_ble_eq_true rfl) ?_
    refine op_gyes rfl (Nat.le_of_ble_eq_true rfl) rfl rfl ?_; refine goV (sd_fieldP fl58_0 rfl rfl) (Nat.le_of_ble_eq_true rfl) ?_
    refine op_gyes rfl (Nat.le_of_ble_eq_true rfl) rfl rfl ?_; refine goV (sd_loadB (vs := [.p none (.int _ _), .p none (.int _ _)]) ty35 rfl rfl (Nat.le_of_ble_eq_true rfl) rfl) (Nat.le_of_ble_eq_true rfl) ?_
    refine op_gyes rfl (Nat.le_of_ble_eq_true rfl) rfl rfl ?_; refine goV (sd_eqlQ rfl rfl) (Nat.le_of_ble_eq_true rfl) ?_
    refine goV (sd_pick (v := .p none (.bool _)) rfl rfl) (Nat.le_of_ble_eq_true rfl) ?_
    refine goV (sd_move (v := .p none (.bool _)) rfl) (Nat.le_of_ble_eq_true rfl) ?_
    refine op_gnoE rfl (Nat.le_of_ble_eq_true rfl) rfl q2 (Nat.le_of_ble_eq_true rfl) ?_
    refine op_gnoE rfl (Nat.le_of_ble_eq_true rfl) rfl q2 (Nat.le_of_ble_eq_true rfl) ?_
    refine op_gnoE rfl (Nat.le_of_ble_eq_true rfl) rfl q2 (Nat.le_of_ble_eq_true rfl) ?_
    refine op_gnoE rfl (Nat.le_of_ble_eq_true rfl) rfl q2 (Nat.le_of_ble_eq_true rfl) ?_
    refine goV (sd_pickH (v := .p none (.bool _)) rfl q2 rfl) (Nat.le_of_ble_eq_true rfl) ?_
    refine goV (sd_move (v := .p none (.bool _)) rfl) (Nat.le_of_ble_eq_true rfl) ?_
    refine op_gnoE rfl (Nat.le_of_ble_eq_true rfl) rfl rfl (Nat.le_of_ble_eq_true rfl) ?_
    refine op_gnoE rfl (Nat.le_of_ble_eq_true rfl) rfl rfl (Nat.le_of_ble_eq_true rfl) ?_
    refine op_gnoE rfl (Nat.le_of_ble_eq_true rfl) rfl rfl (Nat.le_of_ble_eq_true rfl) ?_
    refine op_gnoE rfl (Nat.le_of_ble_eq_true rfl) rfl rfl (Nat.le_of_ble_eq_true rfl) ?_
    refine goV (sd_pick (v := .p none (.bool _)) rfl rfl) (Nat.le_of_ble_eq_true rfl) ?_
    refine goV (sd_move (v := .p none (.bool _)) rfl) (Nat.le_of_ble_eq_true rfl) ?_
    refine op_gnoE rfl (Nat.le_of_ble_eq_true rfl) rfl rfl (Nat.le_of_ble_eq_true rfl) ?_
    refine op_gnoE rfl (Nat.le_of_ble_eq_true rfl) rfl rfl (Nat.le_of_ble_eq_true rfl) ?_
    refine op_gnoE rfl (Nat.le_of_ble_eq_true rfl) rfl rfl (Nat.le_of_ble_eq_true rfl) ?_
    refine op_gnoE rfl (Nat.le_of_ble_eq_true rfl) rfl rfl (Nat.le_of_ble_eq_true rfl) ?_
    refine goV (sd_pick (v := .p none (.bool _)) rfl rfl) (Nat.le_of_ble_eq_true rfl) ?_
    refine goV (sd_assign (v := .p none (.bool _)) rfl) (Nat.le_of_ble_eq_true rfl) ?_
    refine op_nil ?_
    refine k4 _ ?_
    refine VC_ret ?_
    show Fin _ _ _ _ _ _
    refine fin0 (xs := [.p none (.bool _)]) (.inr rfl) ⟨_, _, rfl, rfl, rfl⟩ ?_
    show AV.p none (.bool _) = _
    first | rfl | (simp only [q2]; rfl) | (simp only [q3]; rfl) | (simp only [q4]; rfl) | (simp only [q2, q3]; rfl) | (simp only [q2, q3, q4]; rfl)
  · subst q0
    subst q1
    refine VC_lit ?_
    refine goV (sd_move (v := .p none (.bool _)) rfl) (Nat.le_of_ble_eq_true rfl) ?_
    refine goV (sd_move (v := .p none (.bool _)) rfl) (Nat.le_of_ble_eq_true rfl) ?_
    refine op_gyes rfl (Nat.le_of_ble_eq_true rfl) rfl rfl ?_; refine goV (sd_move (v := .p none (.bool _)) rfl) (Nat.le_of_ble_eq_true rfl) ?_
    refine goV (sd_pick (v := .p none (.bool _)) rfl rfl) (Nat.le_of_ble_eq_true rfl) ?_
    refine goV (sd_move (v := .p none (.bool _)) rfl) (Nat.le_of_ble_eq_true rfl) ?_
    refine op_gyes rfl (Nat.le_of_ble_eq_true rfl) rfl rfl ?_; refine goV (sd_loadB (vs := [.p none (.int _ _), .p none (.int _ _)]) ty35 rfl rfl (Nat.le_of_ble_eq_true rfl) rfl) (Nat.le_of_ble_eq_true rfl) ?_
    refine op_gyes rfl (Nat.le_of_ble_eq_true rfl) rfl rfl ?_; refine goV (sd_fieldP fl58_0 rfl rfl) (Nat.le_of_ble_eq_true rfl) ?_
    refine op_gyes rfl (Nat.le_of_ble_eq_true rfl) rfl rfl ?_; refine goV (sd_loadB (vs := [.p none (.int _ _), .p none (.int _ _)]) ty35 rfl rfl (Nat.le_of_ble_eq_true rfl) rfl) (Nat.le_of_ble_eq_true rfl) ?_
    refine op_gyes rfl (Nat.le_of_ble_eq_true rfl) rfl rfl ?_; refine goV (sd_eqlQ rfl rfl) (Nat.le_of_ble_eq_true rfl) ?_
    refine goV (sd_pick (v := .p none (.bool _)) rfl rfl) (Nat.le_of_ble_eq_true rfl) ?_
    refine goV (sd_move (v := .p none (.bool _)) rfl) (Nat.le_of_ble_eq_true rfl) ?_
    refine op_gyes rfl (Nat.le_of_ble_eq_true rfl) rfl q2 ?_; refine goV (sd_loadB (vs := [.p none (.int _ _), .p none (.int _ _)]) ty35 rfl rfl (Nat.le_of_ble_eq_true rfl) rfl) (Nat.le_of_ble_eq_true rfl) ?_
    refine op_gyes rfl (Nat.le_of_ble_eq_true rfl) rfl q2 ?_; refine goV (sd_fieldP fl58_0 rfl rfl) (Nat.le_of_ble_eq_true rfl) ?_
    refine op_gyes rfl (Nat.le_of_ble_eq_true rfl) rfl q2 ?_; refine goV (sd_loadB (vs := [.p none (.int _ _), .p none (.int _ _)]) ty35 rfl rfl (Nat.le_of_ble_eq_true rfl) rfl) (Nat.le_of_ble_eq_true rfl) ?_
    refine op_gyes rfl (Nat.le_of_ble_eq_true rfl) rfl q2 ?_; refine goV (sd_eqlQ rfl rfl) (Nat.le_of_ble_eq_true rfl) ?_
    refine goV (sd_pickH (v := .p none (.bool _)) rfl q2 rfl) (Nat.le_of_ble_eq_true rfl) ?_
    refine goV (sd_move (v := .p none (.bool _)) rfl) (Nat.le_of_ble_eq_true rfl) ?_
    refine op_gnoE rfl (Nat.le_of_ble_eq_true rfl) rfl q3 (Nat.le_of_ble_eq_true rfl) ?_
    refine op_gnoE rfl (Nat.le_of_ble_eq_true rfl) rfl q3 (Nat.le_of_ble_eq_true rfl) ?_
    refine op_gnoE rfl (Nat.le_of_ble_eq_true rfl) rfl q3 (Nat.le_of_ble_eq_true rfl) ?_
    refine op_gnoE rfl (Nat.le_of_ble_eq_true rfl) rfl q3 (Nat.le_of_ble_eq_true rfl) ?_
    refine goV (sd_pickH (v := .p none (.bool _)) rfl q3 rfl) (Nat.le_of_ble_eq_true rfl) ?_
    refine goV (sd_move (v := .p none (.bool _)) rfl) (Nat.le_of_ble_eq_true rfl) ?_
    refine op_gnoE rfl (Nat.le_of_ble_eq_true rfl) rfl rfl (Nat.le_of_ble_eq_true rfl) ?_
    refine op_gnoE rfl (Nat.le_of_ble_eq_true rfl) rfl rfl (Nat.le_of_ble_eq_true rfl) ?_
    refine op_gnoE rfl (Nat.le_of_ble_eq_true rfl) rfl rfl (Nat.le_of_ble_eq_true rfl) ?_
    refine op_gnoE rfl (Nat.le_of_ble_eq_true rfl) rfl rfl (Nat.le_of_ble_eq_true rfl) ?_
    refine goV (sd_pick (v := .p none (.bool _)) rfl rfl) (Nat.le_of_ble_eq_true rfl) ?_
    refine goV (sd_assign (v := .p none (.bool _)) rfl) (Nat.le_of_ble_eq_true rfl) ?_
    refine op_nil ?_
    refine k4 _ ?_
    refine VC_ret ?_
    show Fin _ _ _ _ _ _
    refine fin0 (xs := [.p none (.bool _)]) (.inr rfl) ⟨_, _, rfl, rfl, rfl⟩ ?_
    show AV.p none (.bool _) = _
    first | rfl | (simp only [q2]; rfl) | (simp only [q3]; rfl) | (simp only [q4]; rfl) | (simp only [q2, q3]; rfl) | (simp only [q2, q3, q4]; rfl)
  · subst q0
    subst q1
    subst q4
    refine VC_lit ?_
    refine goV (sd_move (v := .p none (.bool _)) rfl) (Nat.le_of_ble_eq_true rfl) ?_
    refine goV (sd_move (v := .p none (.bool _)) rfl) (Nat.le_of_ble_eq_true rfl) ?_
    refine op_gyes rfl (Nat.le_of_ble_eq_true rfl) rfl rfl ?_; refine goV (sd_move (v := .p none (.bool _)) rfl) (Nat.le_of_ble_eq_true rfl) ?_
    refine goV (sd_pick (v := .p none (.bool _)) rfl rfl) (Nat.le_of_ble_eq_true rfl) ?_
    refine goV (sd_move (v := .p none (.bool _)) rfl) (Nat.le_of_ble_eq_true rfl) ?_
    refine op_gyes rfl (Nat.le_of_ble_eq_true rfl) rfl rfl ?_; refine goV (sd_loadB (vs := [.p none (.int _ _), .p none (.int _ _)]) ty35 rfl rfl (Nat.le_of_ble_eq_true rfl) rfl) (Nat.le_of_ble_eq_true rfl) ?_
    refine op_gyes rfl (Nat.le_of_ble_eq_true rfl) rfl rfl ?_; refine goV (sd_fieldP fl58_0 rfl rfl) (Nat.le_of_ble_eq_true rfl) ?_
    refine op_gyes rfl (Nat.le_of_ble_eq_true rfl) rfl rfl ?_; refine goV (sd_loadB (vs := [.p none (.int _ _), .p none (.int _ _)]) ty35 rfl rfl (Nat.le_of_ble_eq_true rfl) rfl) (Nat.le_of_ble_eq_true rfl) ?_
    refine op_gyes rfl (Nat.le_of_ble_eq_true rfl) rfl rfl ?_; refine goV (sd_eqlQ rfl rfl) (Nat.le_of_ble_eq_true rfl) ?_
    refine goV (sd_pick (v := .p none (.bool _)) rfl rfl) (Nat.le_of_ble_eq_true rfl) ?_
    refine goV (sd_move (v := .p none (.bool _)) rfl) (Nat.le_of_ble_eq_true rfl) ?_
    refine op_gyes rfl (Nat.le_of_ble_eq_true rfl) rfl q2 ?_; refine goV (sd_loadB (vs := [.p none (.int _ _), .p none (.int _ _)]) ty35 rfl rfl (Nat.le_of_ble_eq_true rfl) rfl) (Nat.le_of_ble_eq_true rfl) ?_
    refine op_gyes rfl (Nat.le_of_ble_eq_true rfl) rfl q2 ?_; refine goV (sd_fieldP fl58_0 rfl rfl) (Nat.le_of_ble_eq_true rfl) ?_
    refine op_gyes rfl (Nat.le_of_ble_eq_true rfl) rfl q2 ?_; refine goV (sd_loadB (vs := [.p none (.int _ _), .p none (.int _ _)]) ty35 rfl rfl (Nat.le_of_ble_eq_true rfl) rfl) (Nat.le_of_ble_eq_true rfl) ?_
    refine op_gyes rfl (Nat.le_of_ble_eq_true rfl) rfl q2 ?_; refine goV (sd_eqlQ rfl rfl) (Nat.le_of_ble_eq_true rfl) ?_
    refine goV (sd_pickH (v := .p none (.bool _)) rfl q2 rfl) (Nat.le_of_ble_eq_true rfl) ?_
    refine goV (sd_move (v := .p none (.bool _)) rfl) (Nat.le_of_ble_eq_true rfl) ?_
    refine op_gyes rfl (Nat.le_of_ble_eq_true rfl) rfl q3 ?_; refine goV (sd_loadB (vs := [_, _, _]) ty28 rfl rfl (Nat.le_of_ble_eq_true rfl) rfl) (Nat.le_of_ble_eq_true rfl) ?_
    refine op_gyes rfl (Nat.le_of_ble_eq_true rfl) rfl q3 ?_; refine goV (sd_fieldP fl58_1 rfl rfl) (Nat.le_of_ble_eq_true rfl) ?_
    refine op_gyes rfl (Nat.le_of_ble_eq_true rfl) rfl q3 ?_; refine goV (sd_loadB1 (v := .p none (.sl _ _ _)) ty38 rfl rfl rfl) (Nat.le_of_ble_eq_true rfl) ?_
    refine op_gyes rfl (Nat.le_of_ble_eq_true rfl) rfl q3 ?_; refine goV (sd_callF (v := .p none (.bool _)) rfl (c_feas_impl hf h1 hff) (.inl rfl) rfl rfl rfl) (Nat.le_of_ble_eq_true rfl) ?_
    refine goV (sd_pickH (v := .p none (.bool _)) rfl q3 rfl) (Nat.le_of_ble_eq_true rfl) ?_
    refine goV (sd_move (v := .p none (.bool _)) rfl) (Nat.le_of_ble_eq_true rfl) ?_
    refine op_gnoE rfl (Nat.le_of_ble_eq_true rfl) rfl rfl (Nat.le_of_ble_eq_true rfl) ?_
    refine op_gnoE rfl (Nat.le_of_ble_eq_true rfl) rfl rfl (Nat.le_of_ble_eq_true rfl) ?_
    refine op_gnoE rfl (Nat.le_of_ble_eq_true rfl) rfl rfl (Nat.le_of_ble_eq_true rfl) ?_
    refine op_gnoE rfl (Nat.le_of_ble_eq_true rfl) rfl rfl (Nat.le_of_ble_eq_true rfl) ?_
    refine goV (sd_pick (v := .p none (.bool _)) rfl rfl) (Nat.le_of_ble_eq_true rfl) ?_
    refine goV (sd_assign (v := .p none (.bool _)) rfl) (Nat.le_of_ble_eq_true rfl) ?_
    refine op_nil ?_
    refine k4 _ ?_
    refine VC_ret ?_
    show Fin _ _ _ _ _ _
    refine fin0 (xs := [.p none (.bool _)]) (.inr rfl) ⟨_, _, rfl, rfl, rfl⟩ ?_
    show AV.p none (.bool _) = _
    first | rfl | (simp only [q2]; rfl) | (simp only [q3]; rfl) | (simp only [q4]; rfl) | (simp only [q2, q3]; rfl) | (simp only [q2, q3, q4]; rfl)
  · subst q0
    subst q1
    subst q4
    refine VC_lit ?_
    refine goV (sd_move (v := .p none (.bool _)) rfl) (Nat.le_of_ble_eq_true rfl) ?_
    refine goV (sd_move (v := .p none (.bool _)) rfl) (Nat.le_of_ble_eq_true rfl) ?_
    refine op_gyes rfl (Nat.le_of_ble_eq_true rfl) rfl rfl ?_; refine goV (sd_move (v := .p none (.bool _)) rfl) (Nat.le_of_ble_eq_true rfl) ?_
    refine goV (sd_pick (v := .p none (.bool _)) rfl rfl) (Nat.le_of_ble_eq_true rfl) ?_
    refine goV (sd_move (v := .p none (.bool _)) rfl) (Nat.le_of_ble_eq_true rfl) ?_
    refine op_gyes rfl (Nat.le_of_ble_eq_true rfl) rfl rfl ?_; refine goV (sd_loadB (vs := [.p none (.int _ _), .p none (.int _ _)]) ty35 rfl rfl (Nat.le_of_ble_eq_true rfl) rfl) (Nat.le_of_ble_eq_true rfl) ?_
    refine op_gyes rfl (Nat.le_of_ble_eq_true rfl) rfl rfl ?_; refine goV (sd_fieldP fl58_0 rfl rfl) (Nat.le_of_ble_eq_true rfl) ?_
    refine op_gyes rfl (Nat.le_of_ble_eq_true rfl) rfl rfl ?_; refine goV (sd_loadB (vs := [.p none (.int _ _), .p none (.int _ _)]) ty35 rfl rfl (Nat.le_of_ble_eq_true rfl) rfl) (Nat.le_of_ble_eq_true rfl) ?_
    refine op_gyes rfl (Nat.le_of_ble_eq_true rfl) rfl rfl ?_; refine goV (sd_eqlQ rfl rfl) (Nat.le_of_ble_eq_true rfl) ?_
    refine goV (sd_pick (v := .p none (.bool _)) rfl rfl) (Nat.le_of_ble_eq_true rfl) ?_
    refine goV (sd_move (v := .p none (.bool _)) rfl) (Nat.le_of_ble_eq_true rfl) ?_
    refine op_gyes rfl (Nat.le_of_ble_eq_true rfl) rfl q2 ?_; refine goV (sd_loadB (vs := [.p none (.int _ _), .p none (.int _ _)]) ty35 rfl rfl (Nat.le_of_ble_eq_true rfl) rfl) (Nat.le_of_ble_eq_true rfl) ?_
    refine op_gyes rfl (Nat.le_of_ble_eq_true rfl) rfl q2 ?_; refine goV (sd_fieldP fl58_0 rfl rfl) (Nat.le_of_ble_eq_true rfl) ?_
    refine op_gyes rfl (Nat.le_of_ble_eq_true rfl) rfl q2 ?_; refine goV (sd_loadB (vs := [.p none (.int _ _), .p none (.int _ _)]) ty35 rfl rfl (Nat.le_of_ble_eq_true rfl) rfl) (Nat.le_of_ble_eq_true rfl) ?_
    refine op_gyes rfl (Nat.le_of_ble_eq_true rfl) rfl q2 ?_; refine goV (sd_eqlQ rfl rfl) (Nat.le_of_ble_eq_true rfl) ?_
    refine goV (sd_pickH (v := .p none (.bool _)) rfl q2 rfl) (Nat.le_of_ble_eq_true rfl) ?_
    refine goV (sd_move (v := .p none (.bool _)) rfl) (Nat.le_of_ble_eq_true rfl) ?_
    refine op_gyes rfl (Nat.le_of_ble_eq_true rfl) rfl q3 ?_; refine goV (sd_loadB (vs := [_, _, _]) ty28 rfl rfl (Nat.le_of_ble_eq_true rfl) rfl) (Nat.le_of_ble_eq_true rfl) ?_
    refine op_gyes rfl (Nat.le_of_ble_eq_true rfl) rfl q3 ?_; refine goV (sd_fieldP fl58_1 rfl rfl) (Nat.le_of_ble_eq_true rfl) ?_
    refine op_gyes rfl (Nat.le_of_ble_eq_true rfl) rfl q3 ?_; refine goV (sd_loadB1 (v := .p none (.sl _ _ _)) ty38 rfl rfl rfl) (Nat.le_of_ble_eq_true rfl) ?_
    refine op_gyes rfl (Nat.le_of_ble_eq_true rfl) rfl q3 ?_; refine goV (sd_callF (v := .p none (.bool _)) rfl (c_feas_impl hf h1 hff) (.inl rfl) rfl rfl rfl) (Nat.le_of_ble_eq_true rfl) ?_
    refine goV (sd_pickH (v := .p none (.bool _)) rfl q3 rfl) (Nat.le_of_ble_eq_true rfl) ?_
    refine goV (sd_move (v := .p none (.bool _)) rfl) (Nat.le_of_ble_eq_true rfl) ?_
    refine op_gyes rfl (Nat.le_of_ble_eq_true rfl) rfl rfl ?_; refine goV (sd_loadB (vs := [_, _, _]) ty28 rfl rfl (Nat.le_of_ble_eq_true rfl) rfl) (Nat.le_of_ble_eq_true rfl) ?_
    refine op_gyes rfl (Nat.le_of_ble_eq_true rfl) rfl rfl ?_; refine goV (sd_fieldP fl58_2 rfl rfl) (Nat.le_of_ble_eq_true rfl) ?_
    refine op_gyes rfl (Nat.le_of_ble_eq_true rfl) rfl rfl ?_; refine goV (sd_loadB1 (v := .p none (.sl _ _ _)) ty38 rfl rfl rfl) (Nat.le_of_ble_eq_true rfl) ?_
    refine op_gyes rfl (Nat.le_of_ble_eq_true rfl) rfl rfl ?_; refine goV (sd_callF (v := .p none (.bool _)) rfl (c_dual_impl hf h2 hgg) (.inl rfl) rfl rfl rfl) (Nat.le_of_ble_eq_true rfl) ?_
    refine goV (sd_pick (v := .p none (.bool _)) rfl rfl) (Nat.le_of_ble_eq_true rfl) ?_
    refine goV (sd_assign (v := .p none (.bool _)) rfl) (Nat.le_of_ble_eq_true rfl) ?_
    refine op_nil ?_
    refine k4 _ ?_
    refine VC_ret ?_
    show Fin _ _ _ _ _ _
    refine fin0 (xs := [.p none (.bool _)]) (.inr rfl) ⟨_, _, rfl, rfl, rfl⟩ ?_
    show AV.p none (.bool _) = _
    first | rfl | (simp only [q2]; rfl) | (simp only [q3]; rfl) | (simp only [q4]; rfl) | (simp only [q2, q3]; rfl) | (simp only [q2, q3, q4]; rfl)
end Go.Proofs.Ytcgjlddpbkponaa
