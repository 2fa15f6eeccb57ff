/-
  Walks: feasible points.
-/
import Derived.Test.YtcgjlddpbkponaaLpI
namespace Go.Proofs.Ytcgjlddpbkponaa
open Go.ChangeShapes Go.WideShapes Go.ChangeAt Go.RowKit
set_option linter.unusedVariables false
set_option linter.unusedSimpArgs false
def feasOk (xs : List RationalD) (z : List Int × Int) : Bool := (dotGo z.1 xs 0 1).2.2 && decide (cmpQ (dotGo z.1 xs 0 1).1 (dotGo z.1 xs 0 1).2.1 z.2 1 ≤ 0)
def feasible (p : ProgramD) (xs : List RationalD) : Bool := okProg p && (posRats xs p.objective.length && (p.rows.zip p.limits).all (feasOk xs))
theorem zip_at {α β : Type} {l : List α} {m : List β} {k : Nat} {a : α} {b : β} (h1 : l[k]? = some a) (h2 : m[k]? = some b) : (l.zip m)[k]? = some (a, b) := by rw [List.getElem?_zip_eq_some]; exact ⟨h1, h2⟩
theorem feasOk_eq {xs : List RationalD} {r : List Int} {b d1 d2 t : Int} {d3 : Bool} (hd : dotGo r xs 0 1 = (d1, d2, d3)) (ht : cmpQ d1 d2 b 1 = t) : feasOk xs (r, b) = (d3 && decide (t ≤ 0)) := by simp [feasOk, hd, ht]
theorem posRats_len {l : List RationalD} {n : Int} (h : posRats l n = true) : (l.length : Int) = n ∧ l.all posRat = true := by rw [posRats_eq] at h; simpa using h

theorem c_notNeg' {l : List RationalD} {n : Int} {t : Bool} (hl : l.length ≤ 9223372036854775807) (h : posRats l n = t) : Con Try.prog 81 [.one (rats l), .one (.int .i64 n)] (.p none (.bool t)) [] := by subst h; exact c_notNeg l n hl
theorem c_positive' {l : List RationalD} {t : Bool} (hl : l.length ≤ 9223372036854775807) (h : l.all posRat = t) : Con Try.prog 79 [.one (rats l)] (.p none (.bool t)) [] := by subst h; exact c_positive l hl
theorem c_dot' {l : List Int} {xs : List RationalD} {q : Int × Int × Bool} (hl : l.length ≤ 9223372036854775807) (h : dotGo l xs 0 1 = q) : Con Try.prog 65 [.one (ints l), .one (rats xs)] (qT q) [] := by subst h; exact c_dot l xs hl

set_option maxRecDepth 100000 in
set_option maxHeartbeats 4000000 in
theorem c_feas_impl0 (p : ProgramD) (xs : List RationalD) (hf : FitsP p) (hxs : xs.length ≤ 9223372036854775807) (hv : okProg p = false) :
    Con Try.prog 35 [.agg (progD p), .one (rats xs)] (.p none (.bool false)) [] := by
  refine con_of (N := 48) Try.func35 rfl rfl (by decide) (Nat.le_of_ble_eq_true rfl) ?_
  refine VC_seq (fun K1 k1 => ?_)
  refine VC_lit ?_
  refine goN (sd_box (cs := [_, _, _]) (by first | exact trivial | exact ⟨_, rfl⟩) rfl rfl) (Nat.le_of_ble_eq_true rfl) ?_
  refine goV (sd_assign (v := .p none _) rfl) (Nat.le_of_ble_eq_true rfl) ?_
  refine op_nil ?_
  refine k1 _ ?_
  refine VC_seq (fun K2 k2 => ?_)
  refine VC_seq (fun K3 k3 => ?_)
  refine VC_lit ?_
  refine goV (sd_loadB (vs := [_, _, _]) ty28 rfl rfl (Nat.le_of_ble_eq_true rfl) rfl) (Nat.le_of_ble_eq_true rfl) ?_
  refine goV (sd_callF (v := .p none (.bool _)) rfl (c_prog_impl hf hv) (.inl rfl) rfl rfl rfl) (Nat.le_of_ble_eq_true rfl) ?_
  refine goV (sd_not rfl) (Nat.le_of_ble_eq_true rfl) ?_
  refine goV (sd_move (v := .p none (.bool _)) rfl) (Nat.le_of_ble_eq_true rfl) ?_
  refine op_gnoE rfl (Nat.le_of_ble_eq_true rfl) rfl rfl (Nat.le_of_ble_eq_true rfl) ?_
  refine op_gnoE rfl (Nat.le_of_ble_eq_true rfl) rfl rfl (Nat.le_of_ble_eq_true rfl) ?_
  refine op_gnoE rfl (Nat.le_of_ble_eq_true rfl) rfl rfl (Nat.le_of_ble_eq_true rfl) ?_
  refine op_gnoE rfl (Nat.le_of_ble_eq_true rfl) rfl rfl (Nat.le_of_ble_eq_true rfl) ?_
  refine op_gnoE rfl (Nat.le_of_ble_eq_true rfl) rfl rfl (Nat.le_of_ble_eq_true rfl) ?_
  refine op_gnoE rfl (Nat.le_of_ble_eq_true rfl) rfl rfl (Nat.le_of_ble_eq_true rfl) ?_
  refine goV (sd_pick (v := .p none (.bool _)) rfl rfl) (Nat.le_of_ble_eq_true rfl) ?_
  refine op_nil ?_
  refine k3 _ ?_
  refine VC_cond rfl (fun c0 => ?_) (fun c0 => absurd c0 (by first | decide | simp))
  refine VC_seq (fun K4 k4 => ?_)
  refine VC_lit ?_
  refine goV (sd_assign (v := .p none _) rfl) (Nat.le_of_ble_eq_true rfl) ?_
  refine op_nil ?_
  refine k4 _ ?_
  refine VC_ret ?_
  show Fin _ _ _ _ _ _
  refine fin0 (xs := [.p none (.bool _)]) (.inr rfl) ⟨_, _, rfl, rfl, rfl⟩ ?_
  show AV.p none (.bool _) = _
  rfl

set_option maxRecDepth 100000 in
set_option maxHeartbeats 4000000 in
theorem c_feas_impl1 (p : ProgramD) (xs : List RationalD) (hf : FitsP p) (hxs : xs.length ≤ 9223372036854775807) (hv : okProg p = true) (hn : posRats xs p.objective.length = false) :
    Con Try.prog 35 [.agg (progD p), .one (rats xs)] (.p none (.bool false)) [] := by
  refine con_of (N := 48) Try.func35 rfl rfl (by decide) (Nat.le_of_ble_eq_true rfl) ?_
  refine VC_seq (fun K1 k1 => ?_)
  refine VC_lit ?_
  refine goN (sd_box (cs := [_, _, _]) (by first | exact trivial | exact ⟨_, rfl⟩) rfl rfl) (Nat.le_of_ble_eq_true rfl) ?_
  refine goV (sd_assign (v := .p none _) rfl) (Nat.le_of_ble_eq_true rfl) ?_
  refine op_nil ?_
  refine k1 _ ?_
  refine VC_seq (fun K2 k2 => ?_)
  refine VC_seq (fun K3 k3 => ?_)
  refine VC_lit ?_
  refine goV (sd_loadB (vs := [_, _, _]) ty28 rfl rfl (Nat.le_of_ble_eq_true rfl) rfl) (Nat.le_of_ble_eq_true rfl) ?_
  refine goV (sd_callF (v := .p none (.bool _)) rfl (c_prog_impl hf hv) (.inl rfl) rfl rfl rfl) (Nat.le_of_ble_eq_true rfl) ?_
  refine goV (sd_not rfl) (Nat.le_of_ble_eq_true rfl) ?_
  refine goV (sd_move (v := .p none (.bool _)) rfl) (Nat.le_of_ble_eq_true rfl) ?_
  refine op_gyes rfl (Nat.le_of_ble_eq_true rfl) rfl rfl ?_; refine goV (sd_move (v := .p none (.sl _ _ _)) rfl) (Nat.le_of_ble_eq_true rfl) ?_
  refine op_gyes rfl (Nat.le_of_ble_eq_true rfl) rfl rfl ?_; refine goV (sd_fieldP fl28_0 rfl rfl) (Nat.le_of_ble_eq_true rfl) ?_
  refine op_gyes rfl (Nat.le_of_ble_eq_true rfl) rfl rfl ?_; refine goV (sd_loadB1 (v := .p none (.sl _ _ _)) ty22 rfl rfl rfl) (Nat.le_of_ble_eq_true rfl) ?_
  refine op_gyes rfl (Nat.le_of_ble_eq_true rfl) rfl rfl ?_; refine goV (sd_len Try.underlying22 len_pm) (Nat.le_of_ble_eq_true rfl) ?_
  refine op_gyes rfl (Nat.le_of_ble_eq_true rfl) rfl rfl ?_; refine goV (sd_callF (v := .p none (.bool _)) rfl (c_notNeg' hxs hn) (.inl rfl) rfl rfl rfl) (Nat.le_of_ble_eq_true rfl) ?_
  refine op_gyes rfl (Nat.le_of_ble_eq_true rfl) rfl rfl ?_; refine goV (sd_not rfl) (Nat.le_of_ble_eq_true rfl) ?_
  refine goV (sd_pick (v := .p none (.bool _)) rfl rfl) (Nat.le_of_ble_eq_true rfl) ?_
  refine op_nil ?_
  refine k3 _ ?_
  refine VC_cond rfl (fun c0 => ?_) (fun c0 => absurd c0 (by first | decide | simp))
  refine VC_seq (fun K4 k4 => ?_)
  refine VC_lit ?_
  refine goV (sd_assign (v := .p none _) rfl) (Nat.le_of_ble_eq_true rfl) ?_
  refine op_nil ?_
  refine k4 _ ?_
  refine VC_ret ?_
  show Fin _ _ _ _ _ _
  refine fin0 (xs := [.p none (.bool _)]) (.inr rfl) ⟨_, _, rfl, rfl, rfl⟩ ?_
  show AV.p none (.bool _) = _
  rfl

set_option maxRecDepth 100000 in
set_option maxHeartbeats 4000000 in
theorem c_feas_impl2 (p : ProgramD) (xs : List RationalD) (hf : FitsP p) (hxs : xs.length ≤ 9223372036854775807) (hv : okProg p = true) (hn : posRats xs p.objective.length = true) :
    Con Try.prog 35 [.agg (progD p), .one (rats xs)] (.p none (.bool ((p.rows.zip p.limits).all (feasOk xs)))) [] := by
  have hbd := okProg_bnd hv
  have hpl := posRats_len hn
  refine con_of (N := 48) Try.func35 rfl rfl (by decide) (Nat.le_of_ble_eq_true rfl) ?_
  refine VC_seq (fun K1 k1 => ?_)
  refine VC_lit ?_
  refine goN (sd_box (cs := [_, _, _]) (by first | exact trivial | exact ⟨_, rfl⟩) rfl rfl) (Nat.le_of_ble_eq_true rfl) ?_
  refine goV (sd_assign (v := .p none _) rfl) (Nat.le_of_ble_eq_true rfl) ?_
  refine op_nil ?_
  refine k1 _ ?_
  refine VC_seq (fun K2 k2 => ?_)
  refine VC_seq (fun K3 k3 => ?_)
  refine VC_lit ?_
  refine goV (sd_loadB (vs := [_, _, _]) ty28 rfl rfl (Nat.le_of_ble_eq_true rfl) rfl) (Nat.le_of_ble_eq_true rfl) ?_
  refine goV (sd_callF (v := .p none (.bool _)) rfl (c_prog_impl hf hv) (.inl rfl) rfl rfl rfl) (Nat.le_of_ble_eq_true rfl) ?_
  refine goV (sd_not rfl) (Nat.le_of_ble_eq_true rfl) ?_
  refine goV (sd_move (v := .p none (.bool _)) rfl) (Nat.le_of_ble_eq_true rfl) ?_
  refine op_gyes rfl (Nat.le_of_ble_eq_true rfl) rfl rfl ?_; refine goV (sd_move (v := .p none (.sl _ _ _)) rfl) (Nat.le_of_ble_eq_true rfl) ?_
  refine op_gyes rfl (Nat.le_of_ble_eq_true rfl) rfl rfl ?_; refine goV (sd_fieldP fl28_0 rfl rfl) (Nat.le_of_ble_eq_true rfl) ?_
  refine op_gyes rfl (Nat.le_of_ble_eq_true rfl) rfl rfl ?_; refine goV (sd_loadB1 (v := .p none (.sl _ _ _)) ty22 rfl rfl rfl) (Nat.le_of_ble_eq_true rfl) ?_
  refine op_gyes rfl (Nat.le_of_ble_eq_true rfl) rfl rfl ?_; refine goV (sd_len Try.underlying22 len_pm) (Nat.le_of_ble_eq_true rfl) ?_
  refine op_gyes rfl (Nat.le_of_ble_eq_true rfl) rfl rfl ?_; refine goV (sd_callF (v := .p none (.bool _)) rfl (c_notNeg' hxs hn) (.inl rfl) rfl rfl rfl) (Nat.le_of_ble_eq_true rfl) ?_
  refine op_gyes rfl (Nat.le_of_ble_eq_true rfl) rfl rfl ?_; refine goV (sd_not rfl) (Nat.le_of_ble_eq_true rfl) ?_
  refine goV (sd_pick (v := .p none (.bool _)) rfl rfl) (Nat.le_of_ble_eq_true rfl) ?_
  refine op_nil ?_
  refine k3 _ ?_
  refine VC_cond rfl (fun c0 => absurd c0 (by first | decide | simp)) (fun c0 => ?_)
  refine VC_skip ?_
  refine k2 _ ?_
  refine VC_seq (fun K4 k4 => ?_)
  refine VC_seq (fun K5 k5 => ?_)
  refine VC_lit ?_
  refine goV (sd_fieldP fl28_1 rfl rfl) (Nat.le_of_ble_eq_true rfl) ?_
  refine goV (sd_loadB1 (v := .p none (.sl _ _ _)) ty23 rfl rfl rfl) (Nat.le_of_ble_eq_true rfl) ?_
  refine goV (sd_len Try.underlying23 len_pm) (Nat.le_of_ble_eq_true rfl) ?_
  refine goV (sd_move (v := .p none _) rfl) (Nat.le_of_ble_eq_true rfl) ?_
  refine op_nil ?_
  refine k5 _ ?_
  refine VC_block ?_
  refine VC_le (S' := mk [(1, .p none (rats xs)), (2, .ptr 200 0), (4, .p none (.bool false)), (21, .p none (rowsD p.rows)), (22, .p none (.int .i64 (p.rows.length : Int))), (23, .p none (.int .i64 ((0) : Int)))] [(200, some (.box 28 [.p none (ints p.objective), .p none (rowsD p.rows), .p none (ints p.limits)]))]) id (le_mk ⟨(by first | rfl | (simp [findS, findO, mapA, mapR]; done)), (by first | rfl | (simp [findS, findO, mapA, mapR]; done)), (by first | rfl | (simp [findS, findO, mapA, mapR]; done)), (by first | rfl | (simp [findS, findO, mapA, mapR]; done)), (by first | rfl | (simp [findS, findO, mapA, mapR]; done)), (by first | rfl | (simp [findS, findO, mapA, mapR]; done)), trivial⟩ ⟨(by first | rfl | (simp [findS, findO, mapA, mapR]; done)), trivial⟩ rfl) ?_
  refine VC_loop (fun nn SS => ∃ (k : Nat), SS = mk [(1, .p none (rats xs)), (2, .ptr 200 0), (4, .p none (.bool false)), (21, .p none (rowsD p.rows)), (22, .p none (.int .i64 (p.rows.length : Int))), (23, .p none (.int .i64 (k : Int)))] [(200, some (.box 28 [.p none (ints p.objective), .p none (rowsD p.rows), .p none (ints p.limits)]))] ∧ nn = p.rows.length - k ∧ k ≤ p.rows.length ∧ ((p.rows.zip p.limits).take k).all (feasOk xs) = true) _ ⟨0, rfl, rfl, Nat.zero_le _, rfl⟩ (fun nn SS hI => ?_)
  obtain ⟨k, rfl, rfl, hk, ha⟩ := hI
  refine VC_seq (fun K6 k6 => ?_)
  refine VC_lit ?_
  refine goV (sd_lss rfl rfl) (Nat.le_of_ble_eq_true rfl) ?_
  refine op_nil ?_
  refine k6 _ ?_
  refine VC_seq (fun K7 k7 => ?_)
  refine VC_cond rfl (fun c1 => ?_) (fun c1 => ?_)
  · have hlt : k < p.rows.length := by simpa using c1
    obtain ⟨r, hr⟩ : ∃ r, p.rows[k]? = some r := ⟨_, List.getElem?_eq_getElem hlt⟩
    obtain ⟨b, hb⟩ : ∃ b, p.limits[k]? = some b := ⟨_, List.getElem?_eq_getElem (by omega)⟩
    have hlen : r.length = xs.length := by have := hbd.2.2.2.2 r (List.mem_of_getElem? hr); omega
    obtain ⟨d1, d2, d3, hd⟩ : ∃ d1 d2 d3, dotGo r xs 0 1 = (d1, d2, d3) := ⟨_, _, _, rfl⟩
    obtain ⟨t, ht⟩ : ∃ t, cmpQ d1 d2 b 1 = t := ⟨_, rfl⟩
    have hz := zip_at hr hb
    refine VC_skip ?_
    refine k7 _ ?_
    refine VC_seq (fun K8 k8 => ?_)
    refine VC_block ?_
    refine VC_seq (fun K9 k9 => ?_)
    refine VC_lit ?_
    refine goV (sd_move (v := .p none (.int _ _)) rfl) (Nat.le_of_ble_eq_true rfl) ?_
    refine goV (sd_index Try.underlying23 ty22 rfl rfl ?_ (map_at hr)) (Nat.le_of_ble_eq_true rfl) ?_; (focus (omega))
    refine goV (sd_loadR1 (v := .p none (.sl _ _ _)) ty22 rfl rfl rfl) (Nat.le_of_ble_eq_true rfl) ?_
    refine goV (sd_assign (v := .p none (.int _ _)) rfl) (Nat.le_of_ble_eq_true rfl) ?_
    refine goV (sd_assign (v := .p none (.sl _ _ _)) rfl) (Nat.le_of_ble_eq_true rfl) ?_
    refine op_nil ?_
    refine k9 _ ?_
    refine VC_seq (fun K10 k10 => ?_)
    refine VC_lit ?_
    refine goV (sd_move (v := .p none (.sl _ _ _)) rfl) (Nat.le_of_ble_eq_true rfl) ?_
    refine goV (sd_move (v := .p none (.sl _ _ _)) rfl) (Nat.le_of_ble_eq_true rfl) ?_
    refine goV (sd_callF (v := .tup _) rfl (c_product (l := r) (by omega) ((if_pos hlen).trans hd)) (.inl rfl) rfl rfl rfl) (Nat.le_of_ble_eq_true rfl) ?_
    refine goV (sd_move (v := .tup _) rfl) (Nat.le_of_ble_eq_true rfl) ?_
    refine goV (sd_extract rfl rfl) (Nat.le_of_ble_eq_true rfl) ?_
    refine goV (sd_extract rfl rfl) (Nat.le_of_ble_eq_true rfl) ?_
    refine goN (sd_alloc (cs := [.p none (.int _ _), .p none (.int _ _)]) ty35 rfl rfl) (Nat.le_of_ble_eq_true rfl) ?_
    refine goW (sd_storeB (cs' := [.p none (.int _ _), .p none (.int _ _)]) ty35 rfl rfl (by first | exact trivial | exact ⟨_, rfl⟩) rfl (Nat.le_of_ble_eq_true rfl) rfl) ?_
    refine goV (sd_assign (v := .p none (.bool _)) rfl) (Nat.le_of_ble_eq_true rfl) ?_
    refine op_nil ?_
    refine k10 _ ?_
    refine VC_seq (fun K11 k11 => ?_)
    cases d3
    · refine VC_drawn mixed ?_
      refine dgo (sd_move (v := .p none (.bool _)) rfl) (by kernel_rfl) (dstOk (Nat.le_of_ble_eq_true rfl)) (by kernel_rfl) ?_
      refine dgo (sd_not rfl) (by kernel_rfl) (dstOk (Nat.le_of_ble_eq_true rfl)) (by kernel_rfl) ?_
      refine dgo (sd_move (v := .p none (.bool _)) rfl) (by kernel_rfl) (dstOk (Nat.le_of_ble_eq_true rfl)) (by kernel_rfl) ?_
      refine dgoX rfl (Nat.le_of_ble_eq_true rfl) rfl rfl (by kernel_rfl) (dstOk (Nat.le_of_ble_eq_true rfl)) ?_
      refine dgoX rfl (Nat.le_of_ble_eq_true rfl) rfl rfl (by kernel_rfl) (dstOk (Nat.le_of_ble_eq_true rfl)) ?_
      refine dgoX rfl (Nat.le_of_ble_eq_true rfl) rfl rfl (by kernel_rfl) (dstOk (Nat.le_of_ble_eq_true rfl)) ?_
      refine dgoX rfl (Nat.le_of_ble_eq_true rfl) rfl rfl (by kernel_rfl) (dstOk (Nat.le_of_ble_eq_true rfl)) ?_
      refine dgoX rfl (Nat.le_of_ble_eq_true rfl) rfl rfl (by kernel_rfl) (dstOk (Nat.le_of_ble_eq_true rfl)) ?_
      refine dgoX rfl (Nat.le_of_ble_eq_true rfl) rfl rfl (by kernel_rfl) (dstOk (Nat.le_of_ble_eq_true rfl)) ?_
      refine dgoX rfl (Nat.le_of_ble_eq_true rfl) rfl rfl (by kernel_rfl) (dstOk (Nat.le_of_ble_eq_true rfl)) ?_
      refine dgoX rfl (Nat.le_of_ble_eq_true rfl) rfl rfl (by kernel_rfl) (dstOk (Nat.le_of_ble_eq_true rfl)) ?_
      refine dgoX rfl (Nat.le_of_ble_eq_true rfl) rfl rfl (by kernel_rfl) (dstOk (Nat.le_of_ble_eq_true rfl)) ?_
      refine dgo (sd_pick (v := .p none (.bool _)) rfl rfl) (by kernel_rfl) (dstOk (Nat.le_of_ble_eq_true rfl)) (by kernel_rfl) ?_
      refine dnil ⟨by kernel_rfl, ?_⟩
      refine k11 _ ?_
      refine VC_cond rfl (fun c2 => ?_) (fun c2 => absurd c2 (by first | decide | simp))
      have hq : feasOk xs (r, b) = false := (feasOk_eq hd ht).trans (by first | rfl | simpa using c2)
      refine VC_seq (fun K12 k12 => ?_)
      refine VC_lit ?_
      refine goV (sd_assign (v := .p none _) rfl) (Nat.le_of_ble_eq_true rfl) ?_
      refine op_nil ?_
      refine k12 _ ?_
      refine VC_ret ?_
      show Fin _ _ _ _ _ _
      refine fin0 (xs := [.p none (.bool _)]) (.inr rfl) ⟨_, _, rfl, rfl, rfl⟩ ?_
      show AV.p none (.bool _) = _
      first | rw [all_stop hz hq] | rw [all_done hge ha]
    · refine VC_drawn mixed ?_
      refine dgo (sd_move (v := .p none (.bool _)) rfl) (by kernel_rfl) (dstOk (Nat.le_of_ble_eq_true rfl)) (by kernel_rfl) ?_
      refine dgo (sd_not rfl) (by kernel_rfl) (dstOk (Nat.le_of_ble_eq_true rfl)) (by kernel_rfl) ?_
      refine dgo (sd_move (v := .p none (.bool _)) rfl) (by kernel_rfl) (dstOk (Nat.le_of_ble_eq_true rfl)) (by kernel_rfl) ?_
      refine dgoY rfl (Nat.le_of_ble_eq_true rfl) rfl rfl (sd_loadB (vs := [.p none (.int _ _), .p none (.int _ _)]) ty35 rfl rfl (Nat.le_of_ble_eq_true rfl) rfl) (by kernel_rfl) (dstOk (Nat.le_of_ble_eq_true rfl)) (by kernel_rfl) ?_
      refine dgoY rfl (Nat.le_of_ble_eq_true rfl) rfl rfl (sd_fieldP fl28_2 rfl rfl) (by kernel_rfl) (dstOk (Nat.le_of_ble_eq_true rfl)) (by kernel_rfl) ?_
      refine dgoY rfl (Nat.le_of_ble_eq_true rfl) rfl rfl (sd_loadB1 (v := .p none (.sl _ _ _)) ty22 rfl rfl rfl) (by kernel_rfl) (dstOk (Nat.le_of_ble_eq_true rfl)) (by kernel_rfl) ?_
      refine dgoY rfl (Nat.le_of_ble_eq_true rfl) rfl rfl (sd_move (v := .p none (.int _ _)) rfl) (by kernel_rfl) (dstOk (Nat.le_of_ble_eq_true rfl)) (by kernel_rfl) ?_
      refine dgoY rfl (Nat.le_of_ble_eq_true rfl) rfl rfl (sd_index Try.underlying22 ty3 rfl rfl ?_ (map_at hb)) (by kernel_rfl) (dstOk (Nat.le_of_ble_eq_true rfl)) (by kernel_rfl) ?_; (focus (omega))
      refine dgoY rfl (Nat.le_of_ble_eq_true rfl) rfl rfl (sd_loadR1 (v := .p none (.int _ _)) ty3 rfl rfl rfl) (by kernel_rfl) (dstOk (Nat.le_of_ble_eq_true rfl)) (by kernel_rfl) ?_
      refine dgoY rfl (Nat.le_of_ble_eq_true rfl) rfl rfl (sd_callF (v := .agg [.p none (.int _ _), .p none (.int _ _)]) rfl (c_whole _) (.inl rfl) rfl rfl rfl) (by kernel_rfl) (dstOk (Nat.le_of_ble_eq_true rfl)) (by kernel_rfl) ?_
      refine dgoY rfl (Nat.le_of_ble_eq_true rfl) rfl rfl (sd_callF (v := .p none (.int _ _)) rfl (c_cmp_impl ht) (.inl rfl) rfl rfl rfl) (by kernel_rfl) (dstOk (Nat.le_of_ble_eq_true rfl)) (by kernel_rfl) ?_
      refine dgoY rfl (Nat.le_of_ble_eq_true rfl) rfl rfl (sd_gtr rfl rfl) (by kernel_rfl) (dstOk (Nat.le_of_ble_eq_true rfl)) (by kernel_rfl) ?_
      refine dgo (sd_pick (v := .p none (.bool _)) rfl rfl) (by kernel_rfl) (dstOk (Nat.le_of_ble_eq_true rfl)) (by kernel_rfl) ?_
      refine dnil ⟨by kernel_rfl, ?_⟩
      refine k11 _ ?_
      refine VC_cond rfl (fun c2 => ?_) (fun c2 => ?_)
      · have hq : feasOk xs (r, b) = false := (feasOk_eq hd ht).trans (by first | rfl | simpa using c2)
        refine VC_seq (fun K13 k13 => ?_)
        refine VC_lit ?_
        refine goV (sd_assign (v := .p none _) rfl) (Nat.le_of_ble_eq_true rfl) ?_
        refine op_nil ?_
        refine k13 _ ?_
        refine VC_ret ?_
        show Fin _ _ _ _ _ _
        refine fin0 (xs := [.p none (.bool _)]) (.inr rfl) ⟨_, _, rfl, rfl, rfl⟩ ?_
        show AV.p none (.bool _) = _
        first | rw [all_stop hz hq] | rw [all_done hge ha]
      · have hq : feasOk xs (r, b) = true := (feasOk_eq hd ht).trans (by simpa using c2)
        refine VC_skip ?_
        refine k8 _ ?_
        refine VC_lit ?_
        refine goV (sd_addI rfl rfl ?_) (Nat.le_of_ble_eq_true rfl) ?_; (focus (first | omega | (constructor <;> omega)))
        refine goV (sd_move (v := .p none (.int _ _)) rfl) (Nat.le_of_ble_eq_true rfl) ?_
        refine op_nil ?_
        exact ⟨_, id, mk [(1, .p none (rats xs)), (2, .ptr 200 0), (4, .p none (.bool false)), (21, .p none (rowsD p.rows)), (22, .p none (.int .i64 (p.rows.length : Int))), (23, .p none (.int .i64 ((k + 1) : Int)))] [(200, some (.box 28 [.p none (ints p.objective), .p none (rowsD p.rows), .p none (ints p.limits)]))], by omega, le_mk ⟨(by first | rfl | (simp [findS, findO, mapA, mapR]; done)), (by first | rfl | (simp [findS, findO, mapA, mapR]; done)), (by first | rfl | (simp [findS, findO, mapA, mapR]; done)), (by first | rfl | (simp [findS, findO, mapA, mapR]; done)), (by first | rfl | (simp [findS, findO, mapA, mapR]; done)), (by first | rfl | (simp [findS, findO, mapA, mapR]; done)), trivial⟩ ⟨(by first | rfl | (simp [findS, findO, mapA, mapR]; done)), trivial⟩ rfl, k + 1, rfl, rfl, hlt, all_snoc hz ha hq⟩
  · have hge' : p.rows.length ≤ k := by simpa using c1
    have hge : (p.rows.zip p.limits).length ≤ k := by simp; omega
    refine VC_exit ?_
    refine k4 _ ?_
    refine VC_seq (fun K14 k14 => ?_)
    refine VC_lit ?_
    refine goV (sd_assign (v := .p none _) rfl) (Nat.le_of_ble_eq_true rfl) ?_
    refine op_nil ?_
    refine k14 _ ?_
    refine VC_ret ?_
    show Fin _ _ _ _ _ _
    refine fin0 (xs := [.p none (.bool _)]) (.inr rfl) ⟨_, _, rfl, rfl, rfl⟩ ?_
    show AV.p none (.bool _) = _
    first | rw [all_stop hz hq] | rw [all_done hge ha]

set_option maxRecDepth 100000 in
set_option maxHeartbeats 4000000 in
theorem c_feas_spec0 (p : ProgramD) (xs : List RationalD) (hf : FitsP p) (hxs : xs.length ≤ 9223372036854775807) (hv : okProg p = false) :
    Con Try.prog 34 [.agg (progD p), .one (rats xs)] (.p none (.bool false)) [] := by
  refine con_of (N := 54) Try.func34 rfl rfl (by decide) (Nat.le_of_ble_eq_true rfl) ?_
  refine VC_seq (fun K1 k1 => ?_)
  refine VC_lit ?_
  refine goN (sd_box (cs := [_, _, _]) (by first | exact trivial | exact ⟨_, rfl⟩) rfl rfl) (Nat.le_of_ble_eq_true rfl) ?_
  refine goV (sd_assign (v := .p none _) rfl) (Nat.le_of_ble_eq_true rfl) ?_
  refine op_nil ?_
  refine k1 _ ?_
  refine VC_seq (fun K2 k2 => ?_)
  refine VC_seq (fun K3 k3 => ?_)
  refine VC_lit ?_
  refine goV (sd_loadB (vs := [_, _, _]) ty28 rfl rfl (Nat.le_of_ble_eq_true rfl) rfl) (Nat.le_of_ble_eq_true rfl) ?_
  refine goV (sd_callF (v := .p none (.bool _)) rfl (c_prog_spec hf hv) (.inl rfl) rfl rfl rfl) (Nat.le_of_ble_eq_true rfl) ?_
  refine goV (sd_not rfl) (Nat.le_of_ble_eq_true rfl) ?_
  refine goV (sd_move (v := .p none (.bool _)) rfl) (Nat.le_of_ble_eq_true rfl) ?_
  refine op_gnoE rfl (Nat.le_of_ble_eq_true rfl) rfl rfl (Nat.le_of_ble_eq_true rfl) ?_
  refine op_gnoE rfl (Nat.le_of_ble_eq_true rfl) rfl rfl (Nat.le_of_ble_eq_true rfl) ?_
  refine op_gnoE rfl (Nat.le_of_ble_eq_true rfl) rfl rfl (Nat.le_of_ble_eq_true rfl) ?_
  refine op_gnoE rfl (Nat.le_of_ble_eq_true rfl) rfl rfl (Nat.le_of_ble_eq_true rfl) ?_
  refine op_gnoE rfl (Nat.le_of_ble_eq_true rfl) rfl rfl (Nat.le_of_ble_eq_true rfl) ?_
  refine op_gnoE rfl (Nat.le_of_ble_eq_true rfl) rfl rfl (Nat.le_of_ble_eq_true rfl) ?_
  refine goV (sd_pick (v := .p none (.bool _)) rfl rfl) (Nat.le_of_ble_eq_true rfl) ?_
  refine goV (sd_move (v := .p none (.bool _)) rfl) (Nat.le_of_ble_eq_true rfl) ?_
  refine op_gnoE rfl (Nat.le_of_ble_eq_true rfl) rfl rfl (Nat.le_of_ble_eq_true rfl) ?_
  refine op_gnoE rfl (Nat.le_of_ble_eq_true rfl) rfl rfl (Nat.le_of_ble_eq_true rfl) ?_
  refine op_gnoE rfl (Nat.le_of_ble_eq_true rfl) rfl rfl (Nat.le_of_ble_eq_true rfl) ?_
  refine goV (sd_pick (v := .p none (.bool _)) rfl rfl) (Nat.le_of_ble_eq_true rfl) ?_
  refine op_nil ?_
  refine k3 _ ?_
  refine VC_cond rfl (fun c0 => ?_) (fun c0 => absurd c0 (by first | decide | simp))
  refine VC_seq (fun K4 k4 => ?_)
  refine VC_lit ?_
  refine goV (sd_assign (v := .p none _) rfl) (Nat.le_of_ble_eq_true rfl) ?_
  refine op_nil ?_
  refine k4 _ ?_
  refine VC_ret ?_
  show Fin _ _ _ _ _ _
  refine fin0 (xs := [.p none (.bool _)]) (.inr rfl) ⟨_, _, rfl, rfl, rfl⟩ ?_
  show AV.p none (.bool _) = _
  rfl

set_option maxRecDepth 100000 in
set_option maxHeartbeats 4000000 in
theorem c_feas_spec1 (p : ProgramD) (xs : List RationalD) (hf : FitsP p) (hxs : xs.length ≤ 9223372036854775807) (hv : okProg p = true) (hl : xs.length ≠ p.objective.length) :
    Con Try.prog 34 [.agg (progD p), .one (rats xs)] (.p none (.bool false)) [] := by
  have e1 : (!decide ((xs.length : Int) = (p.objective.length : Int))) = true := by simp; omega
  refine con_of (N := 54) Try.func34 rfl rfl (by decide) (Nat.le_of_ble_eq_true rfl) ?_
  refine VC_seq (fun K1 k1 => ?_)
  refine VC_lit ?_
  refine goN (sd_box (cs := [_, _, _]) (by first | exact trivial | exact ⟨_, rfl⟩) rfl rfl) (Nat.le_of_ble_eq_true rfl) ?_
  refine goV (sd_assign (v := .p none _) rfl) (Nat.le_of_ble_eq_true rfl) ?_
  refine op_nil ?_
  refine k1 _ ?_
  refine VC_seq (fun K2 k2 => ?_)
  refine VC_seq (fun K3 k3 => ?_)
  refine VC_lit ?_
  refine goV (sd_loadB (vs := [_, _, _]) ty28 rfl rfl (Nat.le_of_ble_eq_true rfl) rfl) (Nat.le_of_ble_eq_true rfl) ?_
  refine goV (sd_callF (v := .p none (.bool _)) rfl (c_prog_spec hf hv) (.inl rfl) rfl rfl rfl) (Nat.le_of_ble_eq_true rfl) ?_
  refine goV (sd_not rfl) (Nat.le_of_ble_eq_true rfl) ?_
  refine goV (sd_move (v := .p none (.bool _)) rfl) (Nat.le_of_ble_eq_true rfl) ?_
  refine op_gyes rfl (Nat.le_of_ble_eq_true rfl) rfl rfl ?_; refine goV (sd_move (v := .p none (.sl _ _ _)) rfl) (Nat.le_of_ble_eq_true rfl) ?_
  refine op_gyes rfl (Nat.le_of_ble_eq_true rfl) rfl rfl ?_; refine goV (sd_len Try.underlying38 len_pm) (Nat.le_of_ble_eq_true rfl) ?_
  refine op_gyes rfl (Nat.le_of_ble_eq_true rfl) rfl rfl ?_; refine goV (sd_fieldP fl28_0 rfl rfl) (Nat.le_of_ble_eq_true rfl) ?_
  refine op_gyes rfl (Nat.le_of_ble_eq_true rfl) rfl rfl ?_; refine goV (sd_loadB1 (v := .p none (.sl _ _ _)) ty22 rfl rfl rfl) (Nat.le_of_ble_eq_true rfl) ?_
  refine op_gyes rfl (Nat.le_of_ble_eq_true rfl) rfl rfl ?_; refine goV (sd_len Try.underlying22 len_pm) (Nat.le_of_ble_eq_true rfl) ?_
  refine op_gyes rfl (Nat.le_of_ble_eq_true rfl) rfl rfl ?_; refine goV (sd_neq rfl rfl) (Nat.le_of_ble_eq_true rfl) ?_
  refine goV (sd_pick (v := .p none (.bool _)) rfl rfl) (Nat.le_of_ble_eq_true rfl) ?_
  refine goV (sd_move (v := .p none (.bool _)) rfl) (Nat.le_of_ble_eq_true rfl) ?_
  refine op_gnoE rfl (Nat.le_of_ble_eq_true rfl) rfl e1 (Nat.le_of_ble_eq_true rfl) ?_
  refine op_gnoE rfl (Nat.le_of_ble_eq_true rfl) rfl e1 (Nat.le_of_ble_eq_true rfl) ?_
  refine op_gnoE rfl (Nat.le_of_ble_eq_true rfl) rfl e1 (Nat.le_of_ble_eq_true rfl) ?_
  refine goV (sd_pickH (v := .p none (.bool _)) rfl e1 rfl) (Nat.le_of_ble_eq_true rfl) ?_
  refine op_nil ?_
  refine k3 _ ?_
  refine VC_cond rfl (fun c0 => ?_) (fun c0 => absurd c0 (by simp))
  refine VC_seq (fun K4 k4 => ?_)
  refine VC_lit ?_
  refine goV (sd_assign (v := .p none _) rfl) (Nat.le_of_ble_eq_true rfl) ?_
  refine op_nil ?_
  refine k4 _ ?_
  refine VC_ret ?_
  show Fin _ _ _ _ _ _
  refine fin0 (xs := [.p none (.bool _)]) (.inr rfl) ⟨_, _, rfl, rfl, rfl⟩ ?_
  show AV.p none (.bool _) = _
  rfl

set_option maxRecDepth 100000 in
set_option maxHeartbeats 4000000 in
theorem c_feas_spec1' (p : ProgramD) (xs : List RationalD) (hf : FitsP p) (hxs : xs.length ≤ 9223372036854775807) (hv : okProg p = true) (hl : xs.length = p.objective.length) (hq : xs.all posRat = false) :
    Con Try.prog 34 [.agg (progD p), .one (rats xs)] (.p none (.bool false)) [] := by
  have e1 : (!decide ((xs.length : Int) = (p.objective.length : Int))) = false := by simp; omega
  refine con_of (N := 54) Try.func34 rfl rfl (by decide) (Nat.le_of_ble_eq_true rfl) ?_
  refine VC_seq (fun K1 k1 => ?_)
  refine VC_lit ?_
  refine goN (sd_box (cs := [_, _, _]) (by first | exact trivial | exact ⟨_, rfl⟩) rfl rfl) (Nat.le_of_ble_eq_true rfl) ?_
  refine goV (sd_assign (v := .p none _) rfl) (Nat.le_of_ble_eq_true rfl) ?_
  refine op_nil ?_
  refine k1 _ ?_
  refine VC_seq (fun K2 k2 => ?_)
  refine VC_seq (fun K3 k3 => ?_)
  refine VC_lit ?_
  refine goV (sd_loadB (vs := [_, _, _]) ty28 rfl rfl (Nat.le_of_ble_eq_true rfl) rfl) (Nat.le_of_ble_eq_true rfl) ?_
  refine goV (sd_callF (v := .p none (.bool _)) rfl (c_prog_spec hf hv) (.inl rfl) rfl rfl rfl) (Nat.le_of_ble_eq_true rfl) ?_
  refine goV (sd_not rfl) (Nat.le_of_ble_eq_true rfl) ?_
  refine goV (sd_move (v := .p none (.bool _)) rfl) (Nat.le_of_ble_eq_true rfl) ?_
  refine op_gyes rfl (Nat.le_of_ble_eq_true rfl) rfl rfl ?_; refine goV (sd_move (v := .p none (.sl _ _ _)) rfl) (Nat.le_of_ble_eq_true rfl) ?_
  refine op_gyes rfl (Nat.le_of_ble_eq_true rfl) rfl rfl ?_; refine goV (sd_len Try.underlying38 len_pm) (Nat.le_of_ble_eq_true rfl) ?_
  refine op_gyes rfl (Nat.le_of_ble_eq_true rfl) rfl rfl ?_; refine goV (sd_fieldP fl28_0 rfl rfl) (Nat.le_of_ble_eq_true rfl) ?_
  refine op_gyes rfl (Nat.le_of_ble_eq_true rfl) rfl rfl ?_; refine goV (sd_loadB1 (v := .p none (.sl _ _ _)) ty22 rfl rfl rfl) (Nat.le_of_ble_eq_true rfl) ?_
  refine op_gyes rfl (Nat.le_of_ble_eq_true rfl) rfl rfl ?_; refine goV (sd_len Try.underlying22 len_pm) (Nat.le_of_ble_eq_true rfl) ?_
  refine op_gyes rfl (Nat.le_of_ble_eq_true rfl) rfl rfl ?_; refine goV (sd_neq rfl rfl) (Nat.le_of_ble_eq_true rfl) ?_
  refine goV (sd_pick (v := .p none (.bool _)) rfl rfl) (Nat.le_of_ble_eq_true rfl) ?_
  refine goV (sd_move (v := .p none (.bool _)) rfl) (Nat.le_of_ble_eq_true rfl) ?_
  refine op_gyes rfl (Nat.le_of_ble_eq_true rfl) rfl e1 ?_; refine goV (sd_move (v := .p none (.sl _ _ _)) rfl) (Nat.le_of_ble_eq_true rfl) ?_
  refine op_gyes rfl (Nat.le_of_ble_eq_true rfl) rfl e1 ?_; refine goV (sd_callF (v := .p none (.bool _)) rfl (c_positive' hxs hq) (.inl rfl) rfl rfl rfl) (Nat.le_of_ble_eq_true rfl) ?_
  refine op_gyes rfl (Nat.le_of_ble_eq_true rfl) rfl e1 ?_; refine goV (sd_not rfl) (Nat.le_of_ble_eq_true rfl) ?_
  refine goV (sd_pickH (v := .p none (.bool _)) rfl e1 rfl) (Nat.le_of_ble_eq_true rfl) ?_
  refine op_nil ?_
  refine k3 _ ?_
  refine VC_cond rfl (fun c0 => ?_) (fun c0 => absurd c0 (by simp))
  refine VC_seq (fun K4 k4 => ?_)
  refine VC_lit ?_
  refine goV (sd_assign (v := .p none _) rfl) (Nat.le_of_ble_eq_true rfl) ?_
  refine op_nil ?_
  refine k4 _ ?_
  refine VC_ret ?_
  show Fin _ _ _ _ _ _
  refine fin0 (xs := [.p none (.bool _)]) (.inr rfl) ⟨_, _, rfl, rfl, rfl⟩ ?_
  show AV.p none (.bool _) = _
  rfl

set_option maxRecDepth 100000 in
set_option maxHeartbeats 4000000 in
theorem c_feas_spec2 (p : ProgramD) (xs : List RationalD) (hf : FitsP p) (hxs : xs.length ≤ 9223372036854775807) (hv : okProg p = true) (hn : posRats xs p.objective.length = true) :
    Con Try.prog 34 [.agg (progD p), .one (rats xs)] (.p none (.bool ((p.rows.zip p.limits).all (feasOk xs)))) [] := by
  have hbd := okProg_bnd hv
  have hpl := posRats_len hn
  have e1 : (!decide ((xs.length : Int) = (p.objective.length : Int))) = false := by simp; omega
  refine con_of (N := 54) Try.func34 rfl rfl (by decide) (Nat.le_of_ble_eq_true rfl) ?_
  refine VC_seq (fun K1 k1 => ?_)
  refine VC_lit ?_
  refine goN (sd_box (cs := [_, _, _]) (by first | exact trivial | exact ⟨_, rfl⟩) rfl rfl) (Nat.le_of_ble_eq_true rfl) ?_
  refine goV (sd_assign (v := .p none _) rfl) (Nat.le_of_ble_eq_true rfl) ?_
  refine op_nil ?_
  refine k1 _ ?_
  refine VC_seq (fun K2 k2 => ?_)
  refine VC_seq (fun K3 k3 => ?_)
  refine VC_lit ?_
  refine goV (sd_loadB (vs := [_, _, _]) ty28 rfl rfl (Nat.le_of_ble_eq_true rfl) rfl) (Nat.le_of_ble_eq_true rfl) ?_
  refine goV (sd_callF (v := .p none (.bool _)) rfl (c_prog_spec hf hv) (.inl rfl) rfl rfl rfl) (Nat.le_of_ble_eq_true rfl) ?_
  refine goV (sd_not rfl) (Nat.le_of_ble_eq_true rfl) ?_
  refine goV (sd_move (v := .p none (.bool _)) rfl) (Nat.le_of_ble_eq_true rfl) ?_
  refine op_gyes rfl (Nat.le_of_ble_eq_true rfl) rfl rfl ?_; refine goV (sd_move (v := .p none (.sl _ _ _)) rfl) (Nat.le_of_ble_eq_true rfl) ?_
  refine op_gyes rfl (Nat.le_of_ble_eq_true rfl) rfl rfl ?_; refine goV (sd_len Try.underlying38 len_pm) (Nat.le_of_ble_eq_true rfl) ?_
  refine op_gyes rfl (Nat.le_of_ble_eq_true rfl) rfl rfl ?_; refine goV (sd_fieldP fl28_0 rfl rfl) (Nat.le_of_ble_eq_true rfl) ?_
  refine op_gyes rfl (Nat.le_of_ble_eq_true rfl) rfl rfl ?_; refine goV (sd_loadB1 (v := .p none (.sl _ _ _)) ty22 rfl rfl rfl) (Nat.le_of_ble_eq_true rfl) ?_
  refine op_gyes rfl (Nat.le_of_ble_eq_true rfl) rfl rfl ?_; refine goV (sd_len Try.underlying22 len_pm) (Nat.le_of_ble_eq_true rfl) ?_
  refine op_gyes rfl (Nat.le_of_ble_eq_true rfl) rfl rfl ?_; refine goV (sd_neq rfl rfl) (Nat.le_of_ble_eq_true rfl) ?_
  refine goV (sd_pick (v := .p none (.bool _)) rfl rfl) (Nat.le_of_ble_eq_true rfl) ?_
  refine goV (sd_move (v := .p none (.bool _)) rfl) (Nat.le_of_ble_eq_true rfl) ?_
  refine op_gyes rfl (Nat.le_of_ble_eq_true rfl) rfl e1 ?_; refine goV (sd_move (v := .p none (.sl _ _ _)) rfl) (Nat.le_of_ble_eq_true rfl) ?_
  refine op_gyes rfl (Nat.le_of_ble_eq_true rfl) rfl e1 ?_; refine goV (sd_callF (v := .p none (.bool _)) rfl (c_positive' hxs hpl.2) (.inl rfl) rfl rfl rfl) (Nat.le_of_ble_eq_true rfl) ?_
  refine op_gyes rfl (Nat.le_of_ble_eq_true rfl) rfl e1 ?_; refine goV (sd_not rfl) (Nat.le_of_ble_eq_true rfl) ?_
  refine goV (sd_pickH (v := .p none (.bool _)) rfl e1 rfl) (Nat.le_of_ble_eq_true rfl) ?_
  refine op_nil ?_
  refine k3 _ ?_
  refine VC_cond rfl (fun c0 => absurd c0 (by first | decide | simp)) (fun c0 => ?_)
  refine VC_skip ?_
  refine k2 _ ?_
  refine VC_seq (fun K4 k4 => ?_)
  refine VC_seq (fun K5 k5 => ?_)
  refine VC_lit ?_
  refine goV (sd_assign (v := .p none _) rfl) (Nat.le_of_ble_eq_true rfl) ?_
  refine op_nil ?_
  refine k5 _ ?_
  refine VC_block ?_
  refine VC_le (S' := mk [(1, .p none (rats xs)), (2, .ptr 200 0), (4, .p none (.bool false)), (5, .p none (.int .i64 ((0) : Int)))] [(200, some (.box 28 [.p none (ints p.objective), .p none (rowsD p.rows), .p none (ints p.limits)]))]) id (le_mk ⟨(by first | rfl | (simp [findS, findO, mapA, mapR]; done)), (by first | rfl | (simp [findS, findO, mapA, mapR]; done)), (by first | rfl | (simp [findS, findO, mapA, mapR]; done)), (by first | rfl | (simp [findS, findO, mapA, mapR]; done)), trivial⟩ ⟨(by first | rfl | (simp [findS, findO, mapA, mapR]; done)), trivial⟩ rfl) ?_
  refine VC_loop (fun nn SS => ∃ (k : Nat), SS = mk [(1, .p none (rats xs)), (2, .ptr 200 0), (4, .p none (.bool false)), (5, .p none (.int .i64 (k : Int)))] [(200, some (.box 28 [.p none (ints p.objective), .p none (rowsD p.rows), .p none (ints p.limits)]))] ∧ nn = p.rows.length - k ∧ k ≤ p.rows.length ∧ ((p.rows.zip p.limits).take k).all (feasOk xs) = true) _ ⟨0, rfl, rfl, Nat.zero_le _, rfl⟩ (fun nn SS hI => ?_)
  obtain ⟨k, rfl, rfl, hk, ha⟩ := hI
  refine VC_seq (fun K6 k6 => ?_)
  refine VC_seq (fun K7 k7 => ?_)
  refine VC_lit ?_
  refine goV (sd_move (v := .p none (.int _ _)) rfl) (Nat.le_of_ble_eq_true rfl) ?_
  refine goV (sd_fieldP fl28_1 rfl rfl) (Nat.le_of_ble_eq_true rfl) ?_
  refine goV (sd_loadB1 (v := .p none (.sl _ _ _)) ty23 rfl rfl rfl) (Nat.le_of_ble_eq_true rfl) ?_
  refine goV (sd_len Try.underlying23 len_pm) (Nat.le_of_ble_eq_true rfl) ?_
  refine goV (sd_lss rfl rfl) (Nat.le_of_ble_eq_true rfl) ?_
  refine op_nil ?_
  refine k7 _ ?_
  refine VC_cond rfl (fun c1 => ?_) (fun c1 => ?_)
  · have hlt : k < p.rows.length := by simpa using c1
    obtain ⟨r, hr⟩ : ∃ r, p.rows[k]? = some r := ⟨_, List.getElem?_eq_getElem hlt⟩
    obtain ⟨b, hb⟩ : ∃ b, p.limits[k]? = some b := ⟨_, List.getElem?_eq_getElem (by omega)⟩
    have hlen : r.length = xs.length := by have := hbd.2.2.2.2 r (List.mem_of_getElem? hr); omega
    obtain ⟨d1, d2, d3, hd⟩ : ∃ d1 d2 d3, dotGo r xs 0 1 = (d1, d2, d3) := ⟨_, _, _, rfl⟩
    obtain ⟨t, ht⟩ : ∃ t, cmpQ d1 d2 b 1 = t := ⟨_, rfl⟩
    have hz := zip_at hr hb
    refine VC_skip ?_
    refine k6 _ ?_
    refine VC_seq (fun K8 k8 => ?_)
    refine VC_block ?_
    refine VC_seq (fun K9 k9 => ?_)
    refine VC_lit ?_
    refine goV (sd_fieldP fl28_1 rfl rfl) (Nat.le_of_ble_eq_true rfl) ?_
    refine goV (sd_loadB1 (v := .p none (.sl _ _ _)) ty23 rfl rfl rfl) (Nat.le_of_ble_eq_true rfl) ?_
    refine goV (sd_move (v := .p none (.int _ _)) rfl) (Nat.le_of_ble_eq_true rfl) ?_
    refine goV (sd_index Try.underlying23 ty22 rfl rfl ?_ (map_at hr)) (Nat.le_of_ble_eq_true rfl) ?_; (focus (omega))
    refine goV (sd_loadR1 (v := .p none (.sl _ _ _)) ty22 rfl rfl rfl) (Nat.le_of_ble_eq_true rfl) ?_
    refine goV (sd_move (v := .p none (.sl _ _ _)) rfl) (Nat.le_of_ble_eq_true rfl) ?_
    refine goV (sd_callF (v := .tup _) rfl (c_dot' (l := r) (by omega) hd) (.inl rfl) rfl rfl rfl) (Nat.le_of_ble_eq_true rfl) ?_
    refine goV (sd_move (v := .tup _) rfl) (Nat.le_of_ble_eq_true rfl) ?_
    refine goV (sd_extract rfl rfl) (Nat.le_of_ble_eq_true rfl) ?_
    refine goV (sd_extract rfl rfl) (Nat.le_of_ble_eq_true rfl) ?_
    refine goN (sd_alloc (cs := [.p none (.int _ _), .p none (.int _ _)]) ty35 rfl rfl) (Nat.le_of_ble_eq_true rfl) ?_
    refine goW (sd_storeB (cs' := [.p none (.int _ _), .p none (.int _ _)]) ty35 rfl rfl (by first | exact trivial | exact ⟨_, rfl⟩) rfl (Nat.le_of_ble_eq_true rfl) rfl) ?_
    refine goV (sd_assign (v := .p none (.bool _)) rfl) (Nat.le_of_ble_eq_true rfl) ?_
    refine op_nil ?_
    refine k9 _ ?_
    refine VC_seq (fun K10 k10 => ?_)
    cases d3
    · refine VC_drawn mixed ?_
      refine dgo (sd_move (v := .p none (.bool _)) rfl) (by kernel_rfl) (dstOk (Nat.le_of_ble_eq_true rfl)) (by kernel_rfl) ?_
      refine dgo (sd_not rfl) (by kernel_rfl) (dstOk (Nat.le_of_ble_eq_true rfl)) (by kernel_rfl) ?_
      refine dgo (sd_move (v := .p none (.bool _)) rfl) (by kernel_rfl) (dstOk (Nat.le_of_ble_eq_true rfl)) (by kernel_rfl) ?_
      refine dgoX rfl (Nat.le_of_ble_eq_true rfl) rfl rfl (by kernel_rfl) (dstOk (Nat.le_of_ble_eq_true rfl)) ?_
      refine dgoX rfl (Nat.le_of_ble_eq_true rfl) rfl rfl (by kernel_rfl) (dstOk (Nat.le_of_ble_eq_true rfl)) ?_
      refine dgoX rfl (Nat.le_of_ble_eq_true rfl) rfl rfl (by kernel_rfl) (dstOk (Nat.le_of_ble_eq_true rfl)) ?_
      refine dgoX rfl (Nat.le_of_ble_eq_true rfl) rfl rfl (by kernel_rfl) (dstOk (Nat.le_of_ble_eq_true rfl)) ?_
      refine dgoX rfl (Nat.le_of_ble_eq_true rfl) rfl rfl (by kernel_rfl) (dstOk (Nat.le_of_ble_eq_true rfl)) ?_
      refine dgoX rfl (Nat.le_of_ble_eq_true rfl) rfl rfl (by kernel_rfl) (dstOk (Nat.le_of_ble_eq_true rfl)) ?_
      refine dgoX rfl (Nat.le_of_ble_eq_true rfl) rfl rfl (by kernel_rfl) (dstOk (Nat.le_of_ble_eq_true rfl)) ?_
      refine dgoX rfl (Nat.le_of_ble_eq_true rfl) rfl rfl (by kernel_rfl) (dstOk (Nat.le_of_ble_eq_true rfl)) ?_
      refine dgoX rfl (Nat.le_of_ble_eq_true rfl) rfl rfl (by kernel_rfl) (dstOk (Nat.le_of_ble_eq_true rfl)) ?_
      refine dgo (sd_pick (v := .p none (.bool _)) rfl rfl) (by kernel_rfl) (dstOk (Nat.le_of_ble_eq_true rfl)) (by kernel_rfl) ?_
      refine dnil ⟨by kernel_rfl, ?_⟩
      refine k10 _ ?_
      refine VC_cond rfl (fun c2 => ?_) (fun c2 => absurd c2 (by first | decide | simp))
      have hq : feasOk xs (r, b) = false := (feasOk_eq hd ht).trans (by first | rfl | simpa using c2)
      refine VC_seq (fun K11 k11 => ?_)
      refine VC_lit ?_
      refine goV (sd_assign (v := .p none _) rfl) (Nat.le_of_ble_eq_true rfl) ?_
      refine op_nil ?_
      refine k11 _ ?_
      refine VC_ret ?_
      show Fin _ _ _ _ _ _
      refine fin0 (xs := [.p none (.bool _)]) (.inr rfl) ⟨_, _, rfl, rfl, rfl⟩ ?_
      show AV.p none (.bool _) = _
      first | rw [all_stop hz hq] | rw [all_done hge ha]
    · refine VC_drawn mixed ?_
      refine dgo (sd_move (v := .p none (.bool _)) rfl) (by kernel_rfl) (dstOk (Nat.le_of_ble_eq_true rfl)) (by kernel_rfl) ?_
      refine dgo (sd_not rfl) (by kernel_rfl) (dstOk (Nat.le_of_ble_eq_true rfl)) (by kernel_rfl) ?_
      refine dgo (sd_move (v := .p none (.bool _)) rfl) (by kernel_rfl) (dstOk (Nat.le_of_ble_eq_true rfl)) (by kernel_rfl) ?_
      refine dgoY rfl (Nat.le_of_ble_eq_true rfl) rfl rfl (sd_loadB (vs := [.p none (.int _ _), .p none (.int _ _)]) ty35 rfl rfl (Nat.le_of_ble_eq_true rfl) rfl) (by kernel_rfl) (dstOk (Nat.le_of_ble_eq_true rfl)) (by kernel_rfl) ?_
      refine dgoY rfl (Nat.le_of_ble_eq_true rfl) rfl rfl (sd_fieldP fl28_2 rfl rfl) (by kernel_rfl) (dstOk (Nat.le_of_ble_eq_true rfl)) (by kernel_rfl) ?_
      refine dgoY rfl (Nat.le_of_ble_eq_true rfl) rfl rfl (sd_loadB1 (v := .p none (.sl _ _ _)) ty22 rfl rfl rfl) (by kernel_rfl) (dstOk (Nat.le_of_ble_eq_true rfl)) (by kernel_rfl) ?_
      refine dgoY rfl (Nat.le_of_ble_eq_true rfl) rfl rfl (sd_move (v := .p none (.int _ _)) rfl) (by kernel_rfl) (dstOk (Nat.le_of_ble_eq_true rfl)) (by kernel_rfl) ?_
      refine dgoY rfl (Nat.le_of_ble_eq_true rfl) rfl rfl (sd_index Try.underlying22 ty3 rfl rfl ?_ (map_at hb)) (by kernel_rfl) (dstOk (Nat.le_of_ble_eq_true rfl)) (by kernel_rfl) ?_; (focus (omega))
      refine dgoY rfl (Nat.le_of_ble_eq_true rfl) rfl rfl (sd_loadR1 (v := .p none (.int _ _)) ty3 rfl rfl rfl) (by kernel_rfl) (dstOk (Nat.le_of_ble_eq_true rfl)) (by kernel_rfl) ?_
      refine dgoY rfl (Nat.le_of_ble_eq_true rfl) rfl rfl (sd_callF (v := .agg [.p none (.int _ _), .p none (.int _ _)]) rfl (c_l15Int _) (.inl rfl) rfl rfl rfl) (by kernel_rfl) (dstOk (Nat.le_of_ble_eq_true rfl)) (by kernel_rfl) ?_
      refine dgoY rfl (Nat.le_of_ble_eq_true rfl) rfl rfl (sd_callF (v := .p none (.int _ _)) rfl (c_cmp_spec ht) (.inl rfl) rfl rfl rfl) (by kernel_rfl) (dstOk (Nat.le_of_ble_eq_true rfl)) (by kernel_rfl) ?_
      refine dgoY rfl (Nat.le_of_ble_eq_true rfl) rfl rfl (sd_gtr rfl rfl) (by kernel_rfl) (dstOk (Nat.le_of_ble_eq_true rfl)) (by kernel_rfl) ?_
      refine dgo (sd_pick (v := .p none (.bool _)) rfl rfl) (by kernel_rfl) (dstOk (Nat.le_of_ble_eq_true rfl)) (by kernel_rfl) ?_
      refine dnil ⟨by kernel_rfl, ?_⟩
      refine k10 _ ?_
      refine VC_cond rfl (fun c2 => ?_) (fun c2 => ?_)
      · have hq : feasOk xs (r, b) = false := (feasOk_eq hd ht).trans (by first | rfl | simpa using c2)
        refine VC_seq (fun K12 k12 => ?_)
        refine VC_lit ?_
        refine goV (sd_assign (v := .p none _) rfl) (Nat.le_of_ble_eq_true rfl) ?_
        refine op_nil ?_
        refine k12 _ ?_
        refine VC_ret ?_
        show Fin _ _ _ _ _ _
        refine fin0 (xs := [.p none (.bool _)]) (.inr rfl) ⟨_, _, rfl, rfl, rfl⟩ ?_
        show AV.p none (.bool _) = _
        first | rw [all_stop hz hq] | rw [all_done hge ha]
      · have hq : feasOk xs (r, b) = true := (feasOk_eq hd ht).trans (by simpa using c2)
        refine VC_skip ?_
        refine k8 _ ?_
        refine VC_lit ?_
        refine goV (sd_move (v := .p none (.int _ _)) rfl) (Nat.le_of_ble_eq_true rfl) ?_
        refine goV (sd_addI rfl rfl ?_) (Nat.le_of_ble_eq_true rfl) ?_; (focus (first | omega | (constructor <;> omega)))
        refine goV (sd_assign (v := .p none (.int _ _)) rfl) (Nat.le_of_ble_eq_true rfl) ?_
        refine op_nil ?_
        exact ⟨_, id, mk [(1, .p none (rats xs)), (2, .ptr 200 0), (4, .p none (.bool false)), (5, .p none (.int .i64 ((k + 1) : Int)))] [(200, some (.box 28 [.p none (ints p.objective), .p none (rowsD p.rows), .p none (ints p.limits)]))], by omega, le_mk ⟨(by first | rfl | (simp [findS, findO, mapA, mapR]; done)), (by first | rfl | (simp [findS, findO, mapA, mapR]; done)), (by first | rfl | (simp [findS, findO, mapA, mapR]; done)), (by first | rfl | (simp [findS, findO, mapA, mapR]; done)), trivial⟩ ⟨(by first | rfl | (simp [findS, findO, mapA, mapR]; done)), trivial⟩ rfl, k + 1, rfl, rfl, hlt, all_snoc hz ha hq⟩
  · have hge' : p.rows.length ≤ k := by simpa using c1
    have hge : (p.rows.zip p.limits).length ≤ k := by simp; omega
    refine VC_exit ?_
    refine k4 _ ?_
    refine VC_seq (fun K13 k13 => ?_)
    refine VC_lit ?_
    refine goV (sd_assign (v := .p none _) rfl) (Nat.le_of_ble_eq_true rfl) ?_
    refine op_nil ?_
    refine k13 _ ?_
    refine VC_ret ?_
    show Fin _ _ _ _ _ _
    refine fin0 (xs := [.p none (.bool _)]) (.inr rfl) ⟨_, _, rfl, rfl, rfl⟩ ?_
    show AV.p none (.bool _) = _
    first | rw [all_stop hz hq] | rw [all_done hge ha]

theorem c_feas_impl {p : ProgramD} {xs : List RationalD} {t : Bool} (hf : FitsP p) (hxs : xs.length ≤ 9223372036854775807) (h : feasible p xs = t) : Con Try.prog 35 [.agg (progD p), .one (rats xs)] (.p none (.bool t)) [] := by
  subst h
  unfold feasible
  cases hv : okProg p
  · exact c_feas_impl0 p xs hf hxs hv
  · cases hn : posRats xs p.objective.length
    · exact c_feas_impl1 p xs hf hxs hv hn
    · exact c_feas_impl2 p xs hf hxs hv hn
theorem c_feas_spec {p : ProgramD} {xs : List RationalD} {t : Bool} (hf : FitsP p) (hxs : xs.length ≤ 9223372036854775807) (h : feasible p xs = t) : Con Try.prog 34 [.agg (progD p), .one (rats xs)] (.p none (.bool t)) [] := by
  subst h
  unfold feasible
  cases hv : okProg p
  · exact c_feas_spec0 p xs hf hxs hv
  · cases hn : posRats xs p.objective.length
    · by_cases hl : xs.length = p.objective.length
      · refine c_feas_spec1' p xs hf hxs hv hl ?_
        rw [posRats_eq] at hn
        simpa [hl] using hn
      · exact c_feas_spec1 p xs hf hxs hv hl
    · exact c_feas_spec2 p xs hf hxs hv hn
end Go.Proofs.Ytcgjlddpbkponaa
