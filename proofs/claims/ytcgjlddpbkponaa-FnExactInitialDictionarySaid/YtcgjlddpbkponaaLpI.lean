/-
  Walks: lists of rationals.
-/
import Derived.Test.YtcgjlddpbkponaaLpD
namespace Go.Proofs.Ytcgjlddpbkponaa
open Go.ChangeShapes Go.WideShapes Go.ChangeAt Go.RowKit
set_option linter.unusedVariables false
set_option linter.unusedSimpArgs false
def okRat (x : RationalD) : Bool := validQ x.num x.den
def okRats (l : List RationalD) (n : Int) : Bool := l.all okRat && decide ((l.length : Int) = n)
theorem okRats_no {l : List RationalD} {n : Int} {k : Nat} {x : RationalD} (h : l[k]? = some x) (hx : okRat x = false) : okRats l n = false := by simp [okRats, all_stop h hx]
theorem okRats_yes {l : List RationalD} {n : Int} (h : l.all okRat = true) : okRats l n = decide ((l.length : Int) = n) := by simp [okRats, h]
def posRat (x : RationalD) : Bool := okRat x && !decide (x.num < 0)
def nneg (x : RationalD) : Bool := !decide (x.num < 0)
def posRats (l : List RationalD) (n : Int) : Bool := l.all nneg && okRats l n
theorem posRats_eq (l : List RationalD) (n : Int) : posRats l n = (decide ((l.length : Int) = n) && l.all posRat) := by
  have : l.all posRat = (l.all nneg && l.all okRat) := by
    rw [Bool.eq_iff_iff]
    simp only [List.all_eq_true, Bool.and_eq_true, posRat, nneg]
    exact ⟨fun h => ⟨fun x hx => (h x hx).2, fun x hx => (h x hx).1⟩, fun h x hx => ⟨h.2 x hx, h.1 x hx⟩⟩
  rw [this, posRats, okRats]
  cases l.all nneg <;> cases l.all okRat <;> cases decide ((l.length : Int) = n) <;> rfl

set_option maxRecDepth 100000 in
set_option maxHeartbeats 4000000 in
theorem c_validRats (l : List RationalD) (n : Int) (hl : l.length ≤ 9223372036854775807) :
    Con Try.prog 90 [.one (rats l), .one (.int .i64 n)] (.p none (.bool (okRats l n))) [] := by
  refine con_of (N := 21) Try.func90 rfl rfl (by decide) (Nat.le_of_ble_eq_true rfl) ?_
  refine VC_seq (fun K1 k1 => ?_)
  refine VC_lit ?_
  refine goV (sd_assign (v := .p none _) rfl) (Nat.le_of_ble_eq_true rfl) ?_
  refine op_nil ?_
  refine k1 _ ?_
  refine VC_seq (fun K2 k2 => ?_)
  refine VC_seq (fun K3 k3 => ?_)
  refine VC_lit ?_
  refine goV (sd_move (v := .p none (.sl _ _ _)) rfl) (Nat.le_of_ble_eq_true rfl) ?_
  refine goV (sd_len Try.underlying38 len_pm) (Nat.le_of_ble_eq_true rfl) ?_
  refine goV (sd_move (v := .p none _) rfl) (Nat.le_of_ble_eq_true rfl) ?_
  refine op_nil ?_
  refine k3 _ ?_
  refine VC_block ?_
  refine VC_le (S' := mk [(0, .p none (rats l)), (1, .p none (.int .i64 n)), (7, .p none (rats l)), (8, .p none (.int .i64 (l.length : Int))), (9, .p none (.int .i64 ((0) : Int)))] []) id (le_mk ⟨(by first | rfl | (simp [findS, findO, mapA, mapR]; done)), (by first | rfl | (simp [findS, findO, mapA, mapR]; done)), (by first | rfl | (simp [findS, findO, mapA, mapR]; done)), (by first | rfl | (simp [findS, findO, mapA, mapR]; done)), (by first | rfl | (simp [findS, findO, mapA, mapR]; done)), trivial⟩ trivial rfl) ?_
  refine VC_loop (fun nn SS => ∃ (k : Nat), SS = mk [(0, .p none (rats l)), (1, .p none (.int .i64 n)), (7, .p none (rats l)), (8, .p none (.int .i64 (l.length : Int))), (9, .p none (.int .i64 (k : Int)))] [] ∧ nn = l.length - k ∧ k ≤ l.length ∧ (l.take k).all okRat = true) _ ⟨0, rfl, rfl, Nat.zero_le _, rfl⟩ (fun nn SS hI => ?_)
  obtain ⟨k, rfl, rfl, hk, ha⟩ := hI
  refine VC_seq (fun K4 k4 => ?_)
  refine VC_lit ?_
  refine goV (sd_lss rfl rfl) (Nat.le_of_ble_eq_true rfl) ?_
  refine op_nil ?_
  refine k4 _ ?_
  refine VC_seq (fun K5 k5 => ?_)
  refine VC_cond rfl (fun c0 => ?_) (fun c0 => ?_)
  · have hlt : k < l.length := by simpa using c0
    obtain ⟨x, hx⟩ : ∃ x, l[k]? = some x := ⟨_, List.getElem?_eq_getElem hlt⟩
    refine VC_skip ?_
    refine k5 _ ?_
    refine VC_seq (fun K6 k6 => ?_)
    refine VC_block ?_
    refine VC_seq (fun K7 k7 => ?_)
    refine VC_lit ?_
    refine goV (sd_index Try.underlying38 ty35 rfl rfl ?_ (map_at hx)) (Nat.le_of_ble_eq_true rfl) ?_; (focus (omega))
    refine goV (sd_loadR (vs := [.p none (.int _ _), .p none (.int _ _)]) ty35 rfl (Nat.le_of_ble_eq_true rfl) rfl) (Nat.le_of_ble_eq_true rfl) ?_
    refine goN (sd_alloc (cs := [.p none (.int _ _), .p none (.int _ _)]) ty35 rfl rfl) (Nat.le_of_ble_eq_true rfl) ?_
    refine goW (sd_storeB (cs' := [.p none (.int _ _), .p none (.int _ _)]) ty35 rfl rfl (by first | exact trivial | exact ⟨_, rfl⟩) rfl (Nat.le_of_ble_eq_true rfl) rfl) ?_
    refine op_nil ?_
    refine k7 _ ?_
    refine VC_seq (fun K8 k8 => ?_)
    refine VC_lit ?_
    refine goV (sd_loadB (vs := [.p none (.int _ _), .p none (.int _ _)]) ty35 rfl rfl (Nat.le_of_ble_eq_true rfl) rfl) (Nat.le_of_ble_eq_true rfl) ?_
    refine goV (sd_callF (v := .p none (.bool _)) rfl (c_valid_impl (rfl : okRat x = _)) (.inl rfl) rfl rfl rfl) (Nat.le_of_ble_eq_true rfl) ?_
    refine goV (sd_not rfl) (Nat.le_of_ble_eq_true rfl) ?_
    refine op_nil ?_
    refine k8 _ ?_
    refine VC_cond rfl (fun c1 => ?_) (fun c1 => ?_)
    · refine VC_seq (fun K9 k9 => ?_)
      refine VC_lit ?_
      refine goV (sd_assign (v := .p none _) rfl) (Nat.le_of_ble_eq_true rfl) ?_
      refine op_nil ?_
      refine k9 _ ?_
      refine VC_ret ?_
      show Fin _ _ _ _ _ _
      refine fin0 (xs := [.p none (.bool _)]) (.inr rfl) ⟨_, _, rfl, rfl, rfl⟩ ?_
      show AV.p none (.bool _) = _
      first | rw [okRats_no hx (by simpa using c1)] | rw [okRats_yes (all_done hge ha)]
    · refine VC_skip ?_
      refine k6 _ ?_
      refine VC_lit ?_
      refine goV (sd_addI rfl rfl ?_) (Nat.le_of_ble_eq_true rfl) ?_; (focus (first | omega | (constructor <;> omega)))
      refine goV (sd_move (v := .p none (.int _ _)) rfl) (Nat.le_of_ble_eq_true rfl) ?_
      refine op_nil ?_
      exact ⟨_, id, mk [(0, .p none (rats l)), (1, .p none (.int .i64 n)), (7, .p none (rats l)), (8, .p none (.int .i64 (l.length : Int))), (9, .p none (.int .i64 ((k + 1) : Int)))] [], by omega, le_mk ⟨(by first | rfl | (simp [findS, findO, mapA, mapR]; done)), (by first | rfl | (simp [findS, findO, mapA, mapR]; done)), (by first | rfl | (simp [findS, findO, mapA, mapR]; done)), (by first | rfl | (simp [findS, findO, mapA, mapR]; done)), (by first | rfl | (simp [findS, findO, mapA, mapR]; done)), trivial⟩ trivial rfl, k + 1, rfl, rfl, hlt, all_snoc hx ha (by simpa using c1)⟩
  · have hge : l.length ≤ k := by simpa using c0
    refine VC_exit ?_
    refine k2 _ ?_
    refine VC_seq (fun K10 k10 => ?_)
    refine VC_lit ?_
    refine goV (sd_move (v := .p none (.sl _ _ _)) rfl) (Nat.le_of_ble_eq_true rfl) ?_
    refine goV (sd_len Try.underlying38 len_pm) (Nat.le_of_ble_eq_true rfl) ?_
    refine goV (sd_move (v := .p none (.int _ _)) rfl) (Nat.le_of_ble_eq_true rfl) ?_
    refine goV (sd_eql rfl rfl) (Nat.le_of_ble_eq_true rfl) ?_
    refine goV (sd_assign (v := .p none (.bool _)) rfl) (Nat.le_of_ble_eq_true rfl) ?_
    refine op_nil ?_
    refine k10 _ ?_
    refine VC_ret ?_
    show Fin _ _ _ _ _ _
    refine fin0 (xs := [.p none (.bool _)]) (.inr rfl) ⟨_, _, rfl, rfl, rfl⟩ ?_
    show AV.p none (.bool _) = _
    first | rw [okRats_no hx (by simpa using c1)] | rw [okRats_yes (all_done hge ha)]

set_option maxRecDepth 100000 in
set_option maxHeartbeats 4000000 in
theorem c_notNeg (l : List RationalD) (n : Int) (hl : l.length ≤ 9223372036854775807) :
    Con Try.prog 81 [.one (rats l), .one (.int .i64 n)] (.p none (.bool (posRats l n))) [] := by
  refine con_of (N := 20) Try.func81 rfl rfl (by decide) (Nat.le_of_ble_eq_true rfl) ?_
  refine VC_seq (fun K1 k1 => ?_)
  refine VC_lit ?_
  refine goV (sd_assign (v := .p none _) rfl) (Nat.le_of_ble_eq_true rfl) ?_
  refine op_nil ?_
  refine k1 _ ?_
  refine VC_seq (fun K2 k2 => ?_)
  refine VC_seq (fun K3 k3 => ?_)
  refine VC_lit ?_
  refine goV (sd_move (v := .p none (.sl _ _ _)) rfl) (Nat.le_of_ble_eq_true rfl) ?_
  refine goV (sd_len Try.underlying38 len_pm) (Nat.le_of_ble_eq_true rfl) ?_
  refine goV (sd_move (v := .p none _) rfl) (Nat.le_of_ble_eq_true rfl) ?_
  refine op_nil ?_
  refine k3 _ ?_
  refine VC_block ?_
  refine VC_le (S' := mk [(0, .p none (rats l)), (1, .p none (.int .i64 n)), (7, .p none (rats l)), (8, .p none (.int .i64 (l.length : Int))), (9, .p none (.int .i64 ((0) : Int)))] []) id (le_mk ⟨(by first | rfl | (simp [findS, findO, mapA, mapR]; done)), (by first | rfl | (simp [findS, findO, mapA, mapR]; done)), (by first | rfl | (simp [findS, findO, mapA, mapR]; done)), (by first | rfl | (simp [findS, findO, mapA, mapR]; done)), (by first | rfl | (simp [findS, findO, mapA, mapR]; done)), trivial⟩ trivial rfl) ?_
  refine VC_loop (fun nn SS => ∃ (k : Nat), SS = mk [(0, .p none (rats l)), (1, .p none (.int .i64 n)), (7, .p none (rats l)), (8, .p none (.int .i64 (l.length : Int))), (9, .p none (.int .i64 (k : Int)))] [] ∧ nn = l.length - k ∧ k ≤ l.length ∧ (l.take k).all nneg = true) _ ⟨0, rfl, rfl, Nat.zero_le _, rfl⟩ (fun nn SS hI => ?_)
  obtain ⟨k, rfl, rfl, hk, ha⟩ := hI
  refine VC_seq (fun K4 k4 => ?_)
  refine VC_lit ?_
  refine goV (sd_lss rfl rfl) (Nat.le_of_ble_eq_true rfl) ?_
  refine op_nil ?_
  refine k4 _ ?_
  refine VC_seq (fun K5 k5 => ?_)
  refine VC_cond rfl (fun c0 => ?_) (fun c0 => ?_)
  · have hlt : k < l.length := by simpa using c0
    obtain ⟨x, hx⟩ : ∃ x, l[k]? = some x := ⟨_, List.getElem?_eq_getElem hlt⟩
    refine VC_skip ?_
    refine k5 _ ?_
    refine VC_seq (fun K6 k6 => ?_)
    refine VC_block ?_
    refine VC_seq (fun K7 k7 => ?_)
    refine VC_lit ?_
    refine goV (sd_index Try.underlying38 ty35 rfl rfl ?_ (map_at hx)) (Nat.le_of_ble_eq_true rfl) ?_; (focus (omega))
    refine goV (sd_loadR (vs := [.p none (.int _ _), .p none (.int _ _)]) ty35 rfl (Nat.le_of_ble_eq_true rfl) rfl) (Nat.le_of_ble_eq_true rfl) ?_
    refine goN (sd_alloc (cs := [.p none (.int _ _), .p none (.int _ _)]) ty35 rfl rfl) (Nat.le_of_ble_eq_true rfl) ?_
    refine goW (sd_storeB (cs' := [.p none (.int _ _), .p none (.int _ _)]) ty35 rfl rfl (by first | exact trivial | exact ⟨_, rfl⟩) rfl (Nat.le_of_ble_eq_true rfl) rfl) ?_
    refine op_nil ?_
    refine k7 _ ?_
    refine VC_seq (fun K8 k8 => ?_)
    refine VC_lit ?_
    refine goV (sd_fieldP fl35_0 rfl rfl) (Nat.le_of_ble_eq_true rfl) ?_
    refine goV (sd_loadB1 (v := .p none (.int _ _)) ty3 rfl rfl rfl) (Nat.le_of_ble_eq_true rfl) ?_
    refine goV (sd_lss rfl rfl) (Nat.le_of_ble_eq_true rfl) ?_
    refine op_nil ?_
    refine k8 _ ?_
    refine VC_cond rfl (fun c1 => ?_) (fun c1 => ?_)
    · refine VC_seq (fun K9 k9 => ?_)
      refine VC_lit ?_
      refine goV (sd_assign (v := .p none _) rfl) (Nat.le_of_ble_eq_true rfl) ?_
      refine op_nil ?_
      refine k9 _ ?_
      refine VC_ret ?_
      show Fin _ _ _ _ _ _
      refine fin0 (xs := [.p none (.bool _)]) (.inr rfl) ⟨_, _, rfl, rfl, rfl⟩ ?_
      show AV.p none (.bool _) = _
      first | (rw [posRats, all_stop hx (by simp only [nneg, c1]; rfl)]; rfl) | (rw [posRats, all_done hge ha]; rfl)
    · refine VC_skip ?_
      refine k6 _ ?_
      refine VC_lit ?_
      refine goV (sd_addI rfl rfl ?_) (Nat.le_of_ble_eq_true rfl) ?_; (focus (first | omega | (constructor <;> omega)))
      refine goV (sd_move (v := .p none (.int _ _)) rfl) (Nat.le_of_ble_eq_true rfl) ?_
      refine op_nil ?_
      exact ⟨_, id, mk [(0, .p none (rats l)), (1, .p none (.int .i64 n)), (7, .p none (rats l)), (8, .p none (.int .i64 (l.length : Int))), (9, .p none (.int .i64 ((k + 1) : Int)))] [], by omega, le_mk ⟨(by first | rfl | (simp [findS, findO, mapA, mapR]; done)), (by first | rfl | (simp [findS, findO, mapA, mapR]; done)), (by first | rfl | (simp [findS, findO, mapA, mapR]; done)), (by first | rfl | (simp [findS, findO, mapA, mapR]; done)), (by first | rfl | (simp [findS, findO, mapA, mapR]; done)), trivial⟩ trivial rfl, k + 1, rfl, rfl, hlt, all_snoc hx ha (by simp only [nneg, c1]; rfl)⟩
  · have hge : l.length ≤ k := by simpa using c0
    refine VC_exit ?_
    refine k2 _ ?_
    refine VC_seq (fun K10 k10 => ?_)
    refine VC_lit ?_
    refine goV (sd_move (v := .p none (.sl _ _ _)) rfl) (Nat.le_of_ble_eq_true rfl) ?_
    refine goV (sd_move (v := .p none (.int _ _)) rfl) (Nat.le_of_ble_eq_true rfl) ?_
    refine goV (sd_callF (v := .p none (.bool _)) rfl (c_validRats l n hl) (.inl rfl) rfl rfl rfl) (Nat.le_of_ble_eq_true rfl) ?_
    refine goV (sd_assign (v := .p none (.bool _)) rfl) (Nat.le_of_ble_eq_true rfl) ?_
    refine op_nil ?_
    refine k10 _ ?_
    refine VC_ret ?_
    show Fin _ _ _ _ _ _
    refine fin0 (xs := [.p none (.bool _)]) (.inr rfl) ⟨_, _, rfl, rfl, rfl⟩ ?_
    show AV.p none (.bool _) = _
    first | (rw [posRats, all_stop hx (by simp only [nneg, c1]; rfl)]; rfl) | (rw [posRats, all_done hge ha]; rfl)

set_option maxRecDepth 100000 in
set_option maxHeartbeats 4000000 in
theorem c_positive (l : List RationalD) (hl : l.length ≤ 9223372036854775807) :
    Con Try.prog 79 [.one (rats l)] (.p none (.bool (l.all posRat))) [] := by
  refine con_of (N := 24) Try.func79 rfl rfl (by decide) (Nat.le_of_ble_eq_true rfl) ?_
  refine VC_seq (fun K1 k1 => ?_)
  refine VC_lit ?_
  refine goV (sd_assign (v := .p none _) rfl) (Nat.le_of_ble_eq_true rfl) ?_
  refine op_nil ?_
  refine k1 _ ?_
  refine VC_seq (fun K2 k2 => ?_)
  refine VC_seq (fun K3 k3 => ?_)
  refine VC_lit ?_
  refine goV (sd_assign (v := .p none _) rfl) (Nat.le_of_ble_eq_true rfl) ?_
  refine op_nil ?_
  refine k3 _ ?_
  refine VC_block ?_
  refine VC_le (S' := mk [(0, .p none (rats l)), (2, .p none (.bool false)), (3, .p none (.int .i64 ((0) : Int)))] []) id (le_mk ⟨(by first | rfl | (simp [findS, findO, mapA, mapR]; done)), (by first | rfl | (simp [findS, findO, mapA, mapR]; done)), (by first | rfl | (simp [findS, findO, mapA, mapR]; done)), trivial⟩ trivial rfl) ?_
  refine VC_loop (fun nn SS => ∃ (k : Nat), SS = mk [(0, .p none (rats l)), (2, .p none (.bool false)), (3, .p none (.int .i64 (k : Int)))] [] ∧ nn = l.length - k ∧ k ≤ l.length ∧ (l.take k).all posRat = true) _ ⟨0, rfl, rfl, Nat.zero_le _, rfl⟩ (fun nn SS hI => ?_)
  obtain ⟨k, rfl, rfl, hk, ha⟩ := hI
  refine VC_seq (fun K4 k4 => ?_)
  refine VC_seq (fun K5 k5 => ?_)
  refine VC_lit ?_
  refine goV (sd_move (v := .p none (.int _ _)) rfl) (Nat.le_of_ble_eq_true rfl) ?_
  refine goV (sd_move (v := .p none (.sl _ _ _)) rfl) (Nat.le_of_ble_eq_true rfl) ?_
  refine goV (sd_len Try.underlying38 len_pm) (Nat.le_of_ble_eq_true rfl) ?_
  refine goV (sd_lss rfl rfl) (Nat.le_of_ble_eq_true rfl) ?_
  refine op_nil ?_
  refine k5 _ ?_
  refine VC_cond rfl (fun c0 => ?_) (fun c0 => ?_)
  · have hlt : k < l.length := by simpa using c0
    obtain ⟨x, hx⟩ : ∃ x, l[k]? = some x := ⟨_, List.getElem?_eq_getElem hlt⟩
    refine VC_skip ?_
    refine k4 _ ?_
    refine VC_seq (fun K6 k6 => ?_)
    refine VC_block ?_
    refine VC_seq (fun K7 k7 => ?_)
    cases hv : validQ x.num x.den
    · refine VC_lit ?_
      refine goV (sd_move (v := .p none (.sl _ _ _)) rfl) (Nat.le_of_ble_eq_true rfl) ?_
      refine goV (sd_move (v := .p none (.int _ _)) rfl) (Nat.le_of_ble_eq_true rfl) ?_
      refine goV (sd_index Try.underlying38 ty35 rfl rfl ?_ (map_at hx)) (Nat.le_of_ble_eq_true rfl) ?_; (focus (omega))
      refine goV (sd_loadR (vs := [.p none (.int _ _), .p none (.int _ _)]) ty35 rfl (Nat.le_of_ble_eq_true rfl) rfl) (Nat.le_of_ble_eq_true rfl) ?_
      refine goV (sd_callF (v := .p none (.bool _)) rfl (c_valid_spec hv) (.inl rfl) rfl rfl rfl) (Nat.le_of_ble_eq_true rfl) ?_
      refine goV (sd_not rfl) (Nat.le_of_ble_eq_true rfl) ?_
      refine goV (sd_move (v := .p none (.bool _)) rfl) (Nat.le_of_ble_eq_true rfl) ?_
      refine op_gnoE rfl (Nat.le_of_ble_eq_true rfl) rfl rfl (Nat.le_of_ble_eq_true rfl) ?_
      refine op_gnoE rfl (Nat.le_of_ble_eq_true rfl) rfl rfl (Nat.le_of_ble_eq_true rfl) ?_
      refine op_gnoE rfl (Nat.le_of_ble_eq_true rfl) rfl rfl (Nat.le_of_ble_eq_true rfl) ?_
      refine op_gnoE rfl (Nat.le_of_ble_eq_true rfl) rfl rfl (Nat.le_of_ble_eq_true rfl) ?_
      refine op_gnoE rfl (Nat.le_of_ble_eq_true rfl) rfl rfl (Nat.le_of_ble_eq_true rfl) ?_
      refine op_gnoE rfl (Nat.le_of_ble_eq_true rfl) rfl rfl (Nat.le_of_ble_eq_true rfl) ?_
      refine goV (sd_pick (v := .p none (.bool _)) rfl rfl) (Nat.le_of_ble_eq_true rfl) ?_
      refine op_nil ?_
      refine k7 _ ?_
      refine VC_cond rfl (fun c1 => ?_) (fun c1 => absurd c1 (by first | decide | simp))
      refine VC_seq (fun K8 k8 => ?_)
      refine VC_lit ?_
      refine goV (sd_assign (v := .p none _) rfl) (Nat.le_of_ble_eq_true rfl) ?_
      refine op_nil ?_
      refine k8 _ ?_
      refine VC_ret ?_
      show Fin _ _ _ _ _ _
      refine fin0 (xs := [.p none (.bool _)]) (.inr rfl) ⟨_, _, rfl, rfl, rfl⟩ ?_
      show AV.p none (.bool _) = _
      first | (rw [all_stop hx (by simp only [posRat, okRat, hv]; rfl)]) | (rw [all_stop hx (by simp only [posRat, okRat, hv, c1]; rfl)]) | (rw [all_done hge ha])
    · refine VC_lit ?_
      refine goV (sd_move (v := .p none (.sl _ _ _)) rfl) (Nat.le_of_ble_eq_true rfl) ?_
      refine goV (sd_move (v := .p none (.int _ _)) rfl) (Nat.le_of_ble_eq_true rfl) ?_
      refine goV (sd_index Try.underlying38 ty35 rfl rfl ?_ (map_at hx)) (Nat.le_of_ble_eq_true rfl) ?_; (focus (omega))
      refine goV (sd_loadR (vs := [.p none (.int _ _), .p none (.int _ _)]) ty35 rfl (Nat.le_of_ble_eq_true rfl) rfl) (Nat.le_of_ble_eq_true rfl) ?_
      refine goV (sd_callF (v := .p none (.bool _)) rfl (c_valid_spec hv) (.inl rfl) rfl rfl rfl) (Nat.le_of_ble_eq_true rfl) ?_
      refine goV (sd_not rfl) (Nat.le_of_ble_eq_true rfl) ?_
      refine goV (sd_move (v := .p none (.bool _)) rfl) (Nat.le_of_ble_eq_true rfl) ?_
      refine op_gyes rfl (Nat.le_of_ble_eq_true rfl) rfl rfl ?_; refine goV (sd_move (v := .p none (.sl _ _ _)) rfl) (Nat.le_of_ble_eq_true rfl) ?_
      refine op_gyes rfl (Nat.le_of_ble_eq_true rfl) rfl rfl ?_; refine goV (sd_move (v := .p none (.int _ _)) rfl) (Nat.le_of_ble_eq_true rfl) ?_
      refine op_gyes rfl (Nat.le_of_ble_eq_true rfl) rfl rfl ?_; refine goV (sd_index Try.underlying38 ty35 rfl rfl ?_ (map_at hx)) (Nat.le_of_ble_eq_true rfl) ?_; (focus (omega))
      refine op_gyes rfl (Nat.le_of_ble_eq_true rfl) rfl rfl ?_; refine goV (sd_fieldR fl35_0 rfl rfl) (Nat.le_of_ble_eq_true rfl) ?_
      refine op_gyes rfl (Nat.le_of_ble_eq_true rfl) rfl rfl ?_; refine goV (sd_loadR1 (v := .p none (.int _ _)) ty3 rfl rfl rfl) (Nat.le_of_ble_eq_true rfl) ?_
      refine op_gyes rfl (Nat.le_of_ble_eq_true rfl) rfl rfl ?_; refine goV (sd_lss rfl rfl) (Nat.le_of_ble_eq_true rfl) ?_
      refine goV (sd_pick (v := .p none (.bool _)) rfl rfl) (Nat.le_of_ble_eq_true rfl) ?_
      refine op_nil ?_
      refine k7 _ ?_
      refine VC_cond rfl (fun c1 => ?_) (fun c1 => ?_)
      · refine VC_seq (fun K9 k9 => ?_)
        refine VC_lit ?_
        refine goV (sd_assign (v := .p none _) rfl) (Nat.le_of_ble_eq_true rfl) ?_
        refine op_nil ?_
        refine k9 _ ?_
        refine VC_ret ?_
        show Fin _ _ _ _ _ _
        refine fin0 (xs := [.p none (.bool _)]) (.inr rfl) ⟨_, _, rfl, rfl, rfl⟩ ?_
        show AV.p none (.bool _) = _
        first | (rw [all_stop hx (by simp only [posRat, okRat, hv]; rfl)]) | (rw [all_stop hx (by simp only [posRat, okRat, hv, c1]; rfl)]) | (rw [all_done hge ha])
      · refine VC_skip ?_
        refine k6 _ ?_
        refine VC_lit ?_
        refine goV (sd_move (v := .p none (.int _ _)) rfl) (Nat.le_of_ble_eq_true rfl) ?_
        refine goV (sd_addI rfl rfl ?_) (Nat.le_of_ble_eq_true rfl) ?_; (focus (first | omega | (constructor <;> omega)))
        refine goV (sd_assign (v := .p none (.int _ _)) rfl) (Nat.le_of_ble_eq_true rfl) ?_
        refine op_nil ?_
        exact ⟨_, id, mk [(0, .p none (rats l)), (2, .p none (.bool false)), (3, .p none (.int .i64 ((k + 1) : Int)))] [], by omega, le_mk ⟨(by first | rfl | (simp [findS, findO, mapA, mapR]; done)), (by first | rfl | (simp [findS, findO, mapA, mapR]; done)), (by first | rfl | (simp [findS, findO, mapA, mapR]; done)), trivial⟩ trivial rfl, k + 1, rfl, rfl, hlt, all_snoc hx ha (by simp only [posRat, okRat, hv, c1]; rfl)⟩
  · have hge : l.length ≤ k := by simpa using c0
    refine VC_exit ?_
    refine k2 _ ?_
    refine VC_seq (fun K10 k10 => ?_)
    refine VC_lit ?_
    refine goV (sd_assign (v := .p none _) rfl) (Nat.le_of_ble_eq_true rfl) ?_
    refine op_nil ?_
    refine k10 _ ?_
    refine VC_ret ?_
    show Fin _ _ _ _ _ _
    refine fin0 (xs := [.p none (.bool _)]) (.inr rfl) ⟨_, _, rfl, rfl, rfl⟩ ?_
    show AV.p none (.bool _) = _
    first | (rw [all_stop hx (by simp only [posRat, okRat, hv]; rfl)]) | (rw [all_stop hx (by simp only [posRat, okRat, hv, c1]; rfl)]) | (rw [all_done hge ha])

set_option maxRecDepth 100000 in
set_option maxHeartbeats 4000000 in
theorem c_all (l : List RationalD) (hl : l.length ≤ 9223372036854775807) :
    Con Try.prog 85 [.one (rats l)] (.p none (.bool (l.all okRat))) [] := by
  refine con_of (N := 16) Try.func85 rfl rfl (by decide) (Nat.le_of_ble_eq_true rfl) ?_
  refine VC_seq (fun K1 k1 => ?_)
  refine VC_lit ?_
  refine goV (sd_assign (v := .p none _) rfl) (Nat.le_of_ble_eq_true rfl) ?_
  refine op_nil ?_
  refine k1 _ ?_
  refine VC_seq (fun K2 k2 => ?_)
  refine VC_seq (fun K3 k3 => ?_)
  refine VC_lit ?_
  refine goV (sd_assign (v := .p none _) rfl) (Nat.le_of_ble_eq_true rfl) ?_
  refine op_nil ?_
  refine k3 _ ?_
  refine VC_block ?_
  refine VC_le (S' := mk [(0, .p none (rats l)), (2, .p none (.bool false)), (3, .p none (.int .i64 ((0) : Int)))] []) id (le_mk ⟨(by first | rfl | (simp [findS, findO, mapA, mapR]; done)), (by first | rfl | (simp [findS, findO, mapA, mapR]; done)), (by first | rfl | (simp [findS, findO, mapA, mapR]; done)), trivial⟩ trivial rfl) ?_
  refine VC_loop (fun nn SS => ∃ (k : Nat), SS = mk [(0, .p none (rats l)), (2, .p none (.bool false)), (3, .p none (.int .i64 (k : Int)))] [] ∧ nn = l.length - k ∧ k ≤ l.length ∧ (l.take k).all okRat = true) _ ⟨0, rfl, rfl, Nat.zero_le _, rfl⟩ (fun nn SS hI => ?_)
  obtain ⟨k, rfl, rfl, hk, ha⟩ := hI
  refine VC_seq (fun K4 k4 => ?_)
  refine VC_seq (fun K5 k5 => ?_)
  refine VC_lit ?_
  refine goV (sd_move (v := .p none (.int _ _)) rfl) (Nat.le_of_ble_eq_true rfl) ?_
  refine goV (sd_move (v := .p none (.sl _ _ _)) rfl) (Nat.le_of_ble_eq_true rfl) ?_
  refine goV (sd_len Try.underlying38 len_pm) (Nat.le_of_ble_eq_true rfl) ?_
  refine goV (sd_lss rfl rfl) (Nat.le_of_ble_eq_true rfl) ?_
  refine op_nil ?_
  refine k5 _ ?_
  refine VC_cond rfl (fun c0 => ?_) (fun c0 => ?_)
  · have hlt : k < l.length := by simpa using c0
    obtain ⟨x, hx⟩ : ∃ x, l[k]? = some x := ⟨_, List.getElem?_eq_getElem hlt⟩
    refine VC_skip ?_
    refine k4 _ ?_
    refine VC_seq (fun K6 k6 => ?_)
    refine VC_block ?_
    refine VC_seq (fun K7 k7 => ?_)
    refine VC_lit ?_
    refine goV (sd_move (v := .p none (.sl _ _ _)) rfl) (Nat.le_of_ble_eq_true rfl) ?_
    refine goV (sd_move (v := .p none (.int _ _)) rfl) (Nat.le_of_ble_eq_true rfl) ?_
    refine goV (sd_index Try.underlying38 ty35 rfl rfl ?_ (map_at hx)) (Nat.le_of_ble_eq_true rfl) ?_; (focus (omega))
    refine goV (sd_loadR (vs := [.p none (.int _ _), .p none (.int _ _)]) ty35 rfl (Nat.le_of_ble_eq_true rfl) rfl) (Nat.le_of_ble_eq_true rfl) ?_
    refine goV (sd_callF (v := .p none (.bool _)) rfl (c_valid_spec (rfl : okRat x = _)) (.inl rfl) rfl rfl rfl) (Nat.le_of_ble_eq_true rfl) ?_
    refine goV (sd_not rfl) (Nat.le_of_ble_eq_true rfl) ?_
    refine op_nil ?_
    refine k7 _ ?_
    refine VC_cond rfl (fun c1 => ?_) (fun c1 => ?_)
    · refine VC_seq (fun K8 k8 => ?_)
      refine VC_lit ?_
      refine goV (sd_assign (v := .p none _) rfl) (Nat.le_of_ble_eq_true rfl) ?_
      refine op_nil ?_
      refine k8 _ ?_
      refine VC_ret ?_
      show Fin _ _ _ _ _ _
      refine fin0 (xs := [.p none (.bool _)]) (.inr rfl) ⟨_, _, rfl, rfl, rfl⟩ ?_
      show AV.p none (.bool _) = _
      first | (rw [all_stop hx (by simpa using c1)]) | (rw [all_done hge ha])
    · refine VC_skip ?_
      refine k6 _ ?_
      refine VC_lit ?_
      refine goV (sd_move (v := .p none (.int _ _)) rfl) (Nat.le_of_ble_eq_true rfl) ?_
      refine goV (sd_addI rfl rfl ?_) (Nat.le_of_ble_eq_true rfl) ?_; (focus (first | omega | (constructor <;> omega)))
      refine goV (sd_assign (v := .p none (.int _ _)) rfl) (Nat.le_of_ble_eq_true rfl) ?_
      refine op_nil ?_
      exact ⟨_, id, mk [(0, .p none (rats l)), (2, .p none (.bool false)), (3, .p none (.int .i64 ((k + 1) : Int)))] [], by omega, le_mk ⟨(by first | rfl | (simp [findS, findO, mapA, mapR]; done)), (by first | rfl | (simp [findS, findO, mapA, mapR]; done)), (by first | rfl | (simp [findS, findO, mapA, mapR]; done)), trivial⟩ trivial rfl, k + 1, rfl, rfl, hlt, all_snoc hx ha (by simpa using c1)⟩
  · have hge : l.length ≤ k := by simpa using c0
    refine VC_exit ?_
    refine k2 _ ?_
    refine VC_seq (fun K9 k9 => ?_)
    refine VC_lit ?_
    refine goV (sd_assign (v := .p none _) rfl) (Nat.le_of_ble_eq_true rfl) ?_
    refine op_nil ?_
    refine k9 _ ?_
    refine VC_ret ?_
    show Fin _ _ _ _ _ _
    refine fin0 (xs := [.p none (.bool _)]) (.inr rfl) ⟨_, _, rfl, rfl, rfl⟩ ?_
    show AV.p none (.bool _) = _
    first | (rw [all_stop hx (by simpa using c1)]) | (rw [all_done hge ha])
end Go.Proofs.Ytcgjlddpbkponaa
