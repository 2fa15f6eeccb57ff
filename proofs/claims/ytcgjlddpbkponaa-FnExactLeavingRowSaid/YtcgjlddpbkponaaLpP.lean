/-
  Solutions: the laws' helpers as contracts.
-/
import Derived.Test.YtcgjlddpbkponaaLpOs
import Derived.Test.YtcgjlddpbkponaaLpG
namespace Go.Proofs.Ytcgjlddpbkponaa
open Go.ChangeShapes Go.WideShapes Go.ChangeAt Go.RowKit
set_option linter.unusedVariables false
set_option linter.unusedSimpArgs false
theorem rd_sol {w : World} {cs : List Value} {s : SolutionD} (h : SolutionR w cs s) : RdL (Lv w) w (solD s) cs := by
  obtain ⟨c0, c1, c2, c3, rfl, h0, h1, h2⟩ := h
  have e := h0.1
  simp only [List.cons.injEq, and_true] at e
  obtain ⟨rfl, rfl⟩ := e
  exact rdL_cons rdV_int (rdL_cons rdV_int (rdL_cons (rd_rats h1) (rdL_cons (rd_rats h2) rdL_nil)))
theorem fits_sol {w : World} {cs : List Value} {s : SolutionD} (h : SolutionR w cs s) : FitsS s := by
  obtain ⟨c0, c1, c2, c3, rfl, h0, h1, h2⟩ := h
  exact ⟨h0.2, fits_rats h1, fits_rats h2⟩
theorem szStep_two {a b : Nat} {m : Int} (h : (a : Int) ≤ m) (h' : (b : Int) ≤ m - a) : szStep (a + b) m = m - a - b := by rw [szStep_yes (by omega)]; omega
theorem szStep_no1 {a b : Nat} {m : Int} (h : ¬ (a : Int) ≤ m) : szStep (a + b) m = -1 := szStep_no (by omega)
theorem szStep_no2 {a b : Nat} {m : Int} (h' : ¬ (b : Int) ≤ m - a) : szStep (a + b) m = -1 := szStep_no (by omega)

set_option maxRecDepth 100000 in
set_option maxHeartbeats 4000000 in
theorem c_toRational (a b : Int) :
    Con Try.prog 66 [qA a b] (.agg [.p none (.int .i64 a), .p none (.int .i64 b)]) [] := by
  refine con_of (N := 11) Try.func66 rfl rfl (by decide) (Nat.le_of_ble_eq_true rfl) ?_
  refine VC_seq (fun K1 k1 => ?_)
  refine VC_lit ?_
  refine goN (sd_box (cs := [.p none (.int _ _), .p none (.int _ _)]) (by first | exact trivial | exact ⟨_, rfl⟩) rfl rfl) (Nat.le_of_ble_eq_true rfl) ?_
  refine goN (sd_alloc (cs := [.p none (.int _ _), .p none (.int _ _)]) ty35 rfl rfl) (Nat.le_of_ble_eq_true rfl) ?_
  refine op_nil ?_
  refine k1 _ ?_
  refine VC_seq (fun K2 k2 => ?_)
  refine VC_lit ?_
  refine goN (sd_alloc (cs := [.p none (.int _ _), .p none (.int _ _)]) ty35 rfl rfl) (Nat.le_of_ble_eq_true rfl) ?_
  refine op_nil ?_
  refine k2 _ ?_
  refine VC_seq (fun K3 k3 => ?_)
  refine VC_lit ?_
  refine goV (sd_fieldP fl52_0 rfl rfl) (Nat.le_of_ble_eq_true rfl) ?_
  refine goV (sd_loadB1 (v := .p none (.int _ _)) ty3 rfl rfl rfl) (Nat.le_of_ble_eq_true rfl) ?_
  refine goV (sd_fieldP fl35_0 rfl rfl) (Nat.le_of_ble_eq_true rfl) ?_
  refine goW (sd_storeB (cs' := [.p none (.int _ _), .p none (.int _ _)]) ty3 rfl rfl (by first | exact trivial | exact ⟨_, rfl⟩) rfl (Nat.le_of_ble_eq_true rfl) rfl) ?_
  refine op_nil ?_
  refine k3 _ ?_
  refine VC_seq (fun K4 k4 => ?_)
  refine VC_lit ?_
  refine goV (sd_fieldP fl52_1 rfl rfl) (Nat.le_of_ble_eq_true rfl) ?_
  refine goV (sd_loadB1 (v := .p none (.int _ _)) ty3 rfl rfl rfl) (Nat.le_of_ble_eq_true rfl) ?_
  refine goV (sd_fieldP fl35_1 rfl rfl) (Nat.le_of_ble_eq_true rfl) ?_
  refine goW (sd_storeB (cs' := [.p none (.int _ _), .p none (.int _ _)]) ty3 rfl rfl (by first | exact trivial | exact ⟨_, rfl⟩) rfl (Nat.le_of_ble_eq_true rfl) rfl) ?_
  refine op_nil ?_
  refine k4 _ ?_
  refine VC_seq (fun K5 k5 => ?_)
  refine VC_lit ?_
  refine goV (sd_loadB (vs := [.p none (.int _ _), .p none (.int _ _)]) ty35 rfl rfl (Nat.le_of_ble_eq_true rfl) rfl) (Nat.le_of_ble_eq_true rfl) ?_
  refine goW (sd_storeB (cs' := [.p none (.int _ _), .p none (.int _ _)]) ty35 rfl rfl (by first | exact trivial | exact ⟨_, rfl⟩) rfl (Nat.le_of_ble_eq_true rfl) rfl) ?_
  refine op_nil ?_
  refine k5 _ ?_
  refine VC_ret ?_
  show Fin _ _ _ _ _ _
  refine fin0 (xs := [.agg [.p none (.int _ _), .p none (.int _ _)]]) (.inr rfl) ⟨_, _, rfl, ⟨_, _, _, _, _, _, _, rfl, rfl, ty35, .inl ⟨rfl, rfl, rfl⟩⟩, rfl⟩ ?_
  show AV.agg [.p none (.int _ _), .p none (.int _ _)] = _
  rfl

set_option maxRecDepth 100000 in
set_option maxHeartbeats 4000000 in
theorem c_toSol (s : SolutionD) (hf : FitsS s) (hc : s.count ≤ 1048576) :
    Con Try.prog 40 [.agg (solD s)] (.agg [.p none (.int .i64 s.value.num), .p none (.int .i64 s.value.den), .own 2, .own 3]) [(2, .arr 35 2 true (s.point.map ratD)), (3, .arr 35 2 true (s.prices.map ratD))] := by
  unfold SolutionD.count at hc
  refine con_of (N := 17) Try.func40 rfl rfl (by decide) (Nat.le_of_ble_eq_true rfl) ?_
  refine VC_seq (fun K1 k1 => ?_)
  refine VC_lit ?_
  refine goN (sd_box (cs := [.p none (.int _ _), .p none (.int _ _), _, _]) (by first | exact trivial | exact ⟨_, rfl⟩) rfl rfl) (Nat.le_of_ble_eq_true rfl) ?_
  refine goN (sd_alloc (cs := [.p none (.int _ _), .p none (.int _ _), _, _]) ty58 rfl rfl) (Nat.le_of_ble_eq_true rfl) ?_
  refine op_nil ?_
  refine k1 _ ?_
  refine VC_seq (fun K2 k2 => ?_)
  refine VC_lit ?_
  refine goN (sd_alloc (cs := [.p none (.int _ _), .p none (.int _ _), _, _]) ty58 rfl rfl) (Nat.le_of_ble_eq_true rfl) ?_
  refine op_nil ?_
  refine k2 _ ?_
  refine VC_seq (fun K3 k3 => ?_)
  refine VC_lit ?_
  refine goV (sd_fieldP fl54_0 rfl rfl) (Nat.le_of_ble_eq_true rfl) ?_
  refine goV (sd_loadB (vs := [.p none (.int _ _), .p none (.int _ _)]) ty52 rfl rfl (Nat.le_of_ble_eq_true rfl) rfl) (Nat.le_of_ble_eq_true rfl) ?_
  refine goV (sd_callF (v := .agg [.p none (.int _ _), .p none (.int _ _)]) rfl (c_toRational _ _) (.inl rfl) rfl rfl rfl) (Nat.le_of_ble_eq_true rfl) ?_
  refine goV (sd_fieldP fl58_0 rfl rfl) (Nat.le_of_ble_eq_true rfl) ?_
  refine goW (sd_storeB (cs' := [.p none (.int _ _), .p none (.int _ _), _, _]) ty35 rfl rfl (by first | exact trivial | exact ⟨_, rfl⟩) rfl (Nat.le_of_ble_eq_true rfl) rfl) ?_
  refine op_nil ?_
  refine k3 _ ?_
  refine VC_seq (fun K4 k4 => ?_)
  refine VC_lit ?_
  refine goV (sd_fieldP fl54_1 rfl rfl) (Nat.le_of_ble_eq_true rfl) ?_
  refine goV (sd_loadB1 (v := .p none (.sl _ _ _)) ty32 rfl rfl rfl) (Nat.le_of_ble_eq_true rfl) ?_
  refine goC (sd_callF (v := .own _) rfl (c_toRats (l := s.point) hf.2.1 (by omega)) (.inl rfl) rfl rfl rfl) (Nat.le_of_ble_eq_true rfl) ?_
  refine goV (sd_fieldP fl58_1 rfl rfl) (Nat.le_of_ble_eq_true rfl) ?_
  refine goW (sd_storeB (cs' := [.p none (.int _ _), .p none (.int _ _), _, _]) ty38 rfl rfl (by first | exact trivial | exact ⟨_, rfl⟩) rfl (Nat.le_of_ble_eq_true rfl) rfl) ?_
  refine op_nil ?_
  refine k4 _ ?_
  refine VC_seq (fun K5 k5 => ?_)
  refine VC_lit ?_
  refine goV (sd_fieldP fl54_2 rfl rfl) (Nat.le_of_ble_eq_true rfl) ?_
  refine goV (sd_loadB1 (v := .p none (.sl _ _ _)) ty32 rfl rfl rfl) (Nat.le_of_ble_eq_true rfl) ?_
  refine goC (sd_callF (v := .own _) rfl (c_toRats (l := s.prices) hf.2.2 (by omega)) (.inl rfl) rfl rfl rfl) (Nat.le_of_ble_eq_true rfl) ?_
  refine goV (sd_fieldP fl58_2 rfl rfl) (Nat.le_of_ble_eq_true rfl) ?_
  refine goW (sd_storeB (cs' := [.p none (.int _ _), .p none (.int _ _), _, _]) ty38 rfl rfl (by first | exact trivial | exact ⟨_, rfl⟩) rfl (Nat.le_of_ble_eq_true rfl) rfl) ?_
  refine op_nil ?_
  refine k5 _ ?_
  refine VC_seq (fun K6 k6 => ?_)
  refine VC_lit ?_
  refine goV (sd_loadB (vs := [.p none (.int _ _), .p none (.int _ _), _, _]) ty58 rfl rfl (Nat.le_of_ble_eq_true rfl) rfl) (Nat.le_of_ble_eq_true rfl) ?_
  refine goW (sd_storeB (cs' := [.p none (.int _ _), .p none (.int _ _), _, _]) ty58 rfl rfl (by first | exact trivial | exact ⟨_, rfl⟩) rfl (Nat.le_of_ble_eq_true rfl) rfl) ?_
  refine op_nil ?_
  refine k6 _ ?_
  refine VC_ret ?_
  show Fin _ _ _ _ _ _
  exact fin1 (xs := [.agg [.p none (.int _ _), .p none (.int _ _), .own _, .own _]]) (fun h => if h = 2 then 1000 else 1400) (.inr rfl) ⟨_, _, rfl, ⟨_, _, _, _, _, _, _, rfl, rfl, ty58, .inl ⟨rfl, rfl, rfl⟩⟩, rfl⟩ rfl ⟨⟨rfl, rfl⟩, ⟨rfl, rfl⟩, trivial⟩ rfl

set_option maxRecDepth 100000 in
set_option maxHeartbeats 4000000 in
theorem c_eqSol (s : SolutionD) (hf : FitsS s) :
    Con Try.prog 42 [.agg (solD s), .agg (solD s)] (.p none (.bool true)) [] := by
  refine con_of (N := 23) Try.func42 rfl rfl (by decide) (Nat.le_of_ble_eq_true rfl) ?_
  refine VC_seq (fun K1 k1 => ?_)
  refine VC_lit ?_
  refine goN (sd_box (cs := [.p none (.int _ _), .p none (.int _ _), _, _]) (by first | exact trivial | exact ⟨_, rfl⟩) rfl rfl) (Nat.le_of_ble_eq_true rfl) ?_
  refine goN (sd_box (cs := [.p none (.int _ _), .p none (.int _ _), _, _]) (by first | exact trivial | exact ⟨_, rfl⟩) rfl rfl) (Nat.le_of_ble_eq_true rfl) ?_
  refine goV (sd_assign (v := .p none _) rfl) (Nat.le_of_ble_eq_true rfl) ?_
  refine op_nil ?_
  refine k1 _ ?_
  refine VC_seq (fun K2 k2 => ?_)
  refine VC_seq (fun K3 k3 => ?_)
  refine VC_lit ?_
  refine goV (sd_fieldP fl58_0 rfl rfl) (Nat.le_of_ble_eq_true rfl) ?_
  refine goV (sd_loadB (vs := [.p none (.int _ _), .p none (.int _ _)]) ty35 rfl rfl (Nat.le_of_ble_eq_true rfl) rfl) (Nat.le_of_ble_eq_true rfl) ?_
  refine goV (sd_fieldP fl58_0 rfl rfl) (Nat.le_of_ble_eq_true rfl) ?_
  refine goV (sd_loadB (vs := [.p none (.int _ _), .p none (.int _ _)]) ty35 rfl rfl (Nat.le_of_ble_eq_true rfl) rfl) (Nat.le_of_ble_eq_true rfl) ?_
  refine goV (sd_callF (v := .p none (.bool _)) rfl (c_eqRational _ _) (.inl rfl) rfl rfl rfl) (Nat.le_of_ble_eq_true rfl) ?_
  refine goV (sd_not rfl) (Nat.le_of_ble_eq_true rfl) ?_
  refine op_nil ?_
  refine k3 _ ?_
  refine VC_cond rfl (fun c0 => absurd c0 (by first | decide | simp)) (fun c0 => ?_)
  refine VC_skip ?_
  refine k2 _ ?_
  refine VC_seq (fun K4 k4 => ?_)
  refine VC_seq (fun K5 k5 => ?_)
  refine VC_lit ?_
  refine goV (sd_fieldP fl58_1 rfl rfl) (Nat.le_of_ble_eq_true rfl) ?_
  refine goV (sd_loadB1 (v := .p none (.sl _ _ _)) ty38 rfl rfl rfl) (Nat.le_of_ble_eq_true rfl) ?_
  refine goV (sd_fieldP fl58_1 rfl rfl) (Nat.le_of_ble_eq_true rfl) ?_
  refine goV (sd_loadB1 (v := .p none (.sl _ _ _)) ty38 rfl rfl rfl) (Nat.le_of_ble_eq_true rfl) ?_
  refine goV (sd_callF (v := .p none (.bool _)) rfl (c_eqRats (l := s.point) hf.2.1) (.inl rfl) rfl rfl rfl) (Nat.le_of_ble_eq_true rfl) ?_
  refine goV (sd_not rfl) (Nat.le_of_ble_eq_true rfl) ?_
  refine op_nil ?_
  refine k5 _ ?_
  refine VC_cond rfl (fun c1 => absurd c1 (by first | decide | simp)) (fun c1 => ?_)
  refine VC_skip ?_
  refine k4 _ ?_
  refine VC_seq (fun K6 k6 => ?_)
  refine VC_seq (fun K7 k7 => ?_)
  refine VC_lit ?_
  refine goV (sd_fieldP fl58_2 rfl rfl) (Nat.le_of_ble_eq_true rfl) ?_
  refine goV (sd_loadB1 (v := .p none (.sl _ _ _)) ty38 rfl rfl rfl) (Nat.le_of_ble_eq_true rfl) ?_
  refine goV (sd_fieldP fl58_2 rfl rfl) (Nat.le_of_ble_eq_true rfl) ?_
  refine goV (sd_loadB1 (v := .p none (.sl _ _ _)) ty38 rfl rfl rfl) (Nat.le_of_ble_eq_true rfl) ?_
  refine goV (sd_callF (v := .p none (.bool _)) rfl (c_eqRats (l := s.prices) hf.2.2) (.inl rfl) rfl rfl rfl) (Nat.le_of_ble_eq_true rfl) ?_
  refine goV (sd_not rfl) (Nat.le_of_ble_eq_true rfl) ?_
  refine op_nil ?_
  refine k7 _ ?_
  refine VC_cond rfl (fun c2 => absurd c2 (by first | decide | simp)) (fun c2 => ?_)
  refine VC_skip ?_
  refine k6 _ ?_
  refine VC_seq (fun K8 k8 => ?_)
  refine VC_lit ?_
  refine goV (sd_assign (v := .p none _) rfl) (Nat.le_of_ble_eq_true rfl) ?_
  refine op_nil ?_
  refine k8 _ ?_
  refine VC_ret ?_
  show Fin _ _ _ _ _ _
  refine fin0 (xs := [.p none (.bool _)]) (.inr rfl) ⟨_, _, rfl, rfl, rfl⟩ ?_
  show AV.p none (.bool _) = _
  rfl

set_option maxRecDepth 100000 in
set_option maxHeartbeats 4000000 in
theorem c_szSol0 (s : SolutionD) (m : Int) (hf : FitsS s) (h0 : 0 ≤ m) (h1 : m ≤ 1048576) :
    Con Try.prog 38 [.agg (solD s), .one (.int .i64 m)] (.p none (.int .i64 (szStep (s.point.length + s.prices.length) m))) [] := by
  refine con_of (N := 18) Try.func38 rfl rfl (by decide) (Nat.le_of_ble_eq_true rfl) ?_
  refine VC_seq (fun K1 k1 => ?_)
  refine VC_lit ?_
  refine goN (sd_box (cs := [.p none (.int _ _), .p none (.int _ _), _, _]) (by first | exact trivial | exact ⟨_, rfl⟩) rfl rfl) (Nat.le_of_ble_eq_true rfl) ?_
  refine goV (sd_assign (v := .p none _) rfl) (Nat.le_of_ble_eq_true rfl) ?_
  refine op_nil ?_
  refine k1 _ ?_
  refine VC_seq (fun K2 k2 => ?_)
  by_cases hs0 : (s.point.length : Int) ≤ m
  · refine VC_lit ?_
    refine goV (sd_fieldP fl54_1 rfl rfl) (Nat.le_of_ble_eq_true rfl) ?_
    refine goV (sd_loadB1 (v := .p none (.sl _ _ _)) ty32 rfl rfl rfl) (Nat.le_of_ble_eq_true rfl) ?_
    refine goV (sd_move (v := .p none (.int _ _)) rfl) (Nat.le_of_ble_eq_true rfl) ?_
    refine goV (sd_callF (v := .p none (.int _ _)) rfl (c_szRats (l := s.point) hf.2.1 (by omega) (by omega) (szStep_yes hs0)) (.inl rfl) rfl rfl rfl) (Nat.le_of_ble_eq_true rfl) ?_
    refine goV (sd_assign (v := .p none (.int _ _)) rfl) (Nat.le_of_ble_eq_true rfl) ?_
    refine op_nil ?_
    refine k2 _ ?_
    refine VC_seq (fun K3 k3 => ?_)
    refine VC_seq (fun K4 k4 => ?_)
    refine VC_lit ?_
    refine goV (sd_move (v := .p none (.int _ _)) rfl) (Nat.le_of_ble_eq_true rfl) ?_
    refine goV (sd_lss rfl rfl) (Nat.le_of_ble_eq_true rfl) ?_
    refine op_nil ?_
    refine k4 _ ?_
    refine VC_cond rfl (fun c0 => absurd c0 (by simp; omega)) (fun c0 => ?_)
    refine VC_skip ?_
    refine k3 _ ?_
    refine VC_seq (fun K5 k5 => ?_)
    by_cases hs1 : (s.prices.length : Int) ≤ m - s.point.length
    · refine VC_lit ?_
      refine goV (sd_fieldP fl54_2 rfl rfl) (Nat.le_of_ble_eq_true rfl) ?_
      refine goV (sd_loadB1 (v := .p none (.sl _ _ _)) ty32 rfl rfl rfl) (Nat.le_of_ble_eq_true rfl) ?_
      refine goV (sd_move (v := .p none (.int _ _)) rfl) (Nat.le_of_ble_eq_true rfl) ?_
      refine goV (sd_callF (v := .p none (.int _ _)) rfl (c_szRats (l := s.prices) hf.2.2 (by omega) (by omega) (szStep_yes hs1)) (.inl rfl) rfl rfl rfl) (Nat.le_of_ble_eq_true rfl) ?_
      refine goV (sd_assign (v := .p none (.int _ _)) rfl) (Nat.le_of_ble_eq_true rfl) ?_
      refine op_nil ?_
      refine k5 _ ?_
      refine VC_seq (fun K6 k6 => ?_)
      refine VC_seq (fun K7 k7 => ?_)
      refine VC_lit ?_
      refine goV (sd_move (v := .p none (.int _ _)) rfl) (Nat.le_of_ble_eq_true rfl) ?_
      refine goV (sd_lss rfl rfl) (Nat.le_of_ble_eq_true rfl) ?_
      refine op_nil ?_
      refine k7 _ ?_
      refine VC_cond rfl (fun c1 => absurd c1 (by simp; omega)) (fun c1 => ?_)
      refine VC_skip ?_
      refine k6 _ ?_
      refine VC_seq (fun K8 k8 => ?_)
      refine VC_lit ?_
      refine goV (sd_move (v := .p none (.int _ _)) rfl) (Nat.le_of_ble_eq_true rfl) ?_
      refine goV (sd_assign (v := .p none (.int _ _)) rfl) (Nat.le_of_ble_eq_true rfl) ?_
      refine op_nil ?_
      refine k8 _ ?_
      refine VC_ret ?_
      show Fin _ _ _ _ _ _
      refine fin0 (xs := [.p none (.int _ _)]) (.inr rfl) ⟨_, _, rfl, rfl, rfl⟩ ?_
      show AV.p none (.int _ _) = _
      first | (rw [szStep_no1 hs0]; done) | (rw [szStep_no2 hs1]; done) | (rw [szStep_two hs0 hs1]; done)
    · refine VC_lit ?_
      refine goV (sd_fieldP fl54_2 rfl rfl) (Nat.le_of_ble_eq_true rfl) ?_
      refine goV (sd_loadB1 (v := .p none (.sl _ _ _)) ty32 rfl rfl rfl) (Nat.le_of_ble_eq_true rfl) ?_
      refine goV (sd_move (v := .p none (.int _ _)) rfl) (Nat.le_of_ble_eq_true rfl) ?_
      refine goV (sd_callF (v := .p none (.int _ _)) rfl (c_szRats (l := s.prices) hf.2.2 (by omega) (by omega) (szStep_no hs1)) (.inl rfl) rfl rfl rfl) (Nat.le_of_ble_eq_true rfl) ?_
      refine goV (sd_assign (v := .p none (.int _ _)) rfl) (Nat.le_of_ble_eq_true rfl) ?_
      refine op_nil ?_
      refine k5 _ ?_
      refine VC_seq (fun K9 k9 => ?_)
      refine VC_seq (fun K10 k10 => ?_)
      refine VC_lit ?_
      refine goV (sd_move (v := .p none (.int _ _)) rfl) (Nat.le_of_ble_eq_true rfl) ?_
      refine goV (sd_lss rfl rfl) (Nat.le_of_ble_eq_true rfl) ?_
      refine op_nil ?_
      refine k10 _ ?_
      refine VC_cond rfl (fun c1 => ?_) (fun c1 => absurd c1 (by simp))
      refine VC_seq (fun K11 k11 => ?_)
      refine VC_lit ?_
      refine goV (sd_assign (v := .p none _) rfl) (Nat.le_of_ble_eq_true rfl) ?_
      refine op_nil ?_
      refine k11 _ ?_
      refine VC_ret ?_
      show Fin _ _ _ _ _ _
      refine fin0 (xs := [.p none (.int _ _)]) (.inr rfl) ⟨_, _, rfl, rfl, rfl⟩ ?_
      show AV.p none (.int _ _) = _
      first | (rw [szStep_no1 hs0]; done) | (rw [szStep_no2 hs1]; done) | (rw [szStep_two hs0 hs1]; done)
  · refine VC_lit ?_
    refine goV (sd_fieldP fl54_1 rfl rfl) (Nat.le_of_ble_eq_true rfl) ?_
    refine goV (sd_loadB1 (v := .p none (.sl _ _ _)) ty32 rfl rfl rfl) (Nat.le_of_ble_eq_true rfl) ?_
    refine goV (sd_move (v := .p none (.int _ _)) rfl) (Nat.le_of_ble_eq_true rfl) ?_
    refine goV (sd_callF (v := .p none (.int _ _)) rfl (c_szRats (l := s.point) hf.2.1 (by omega) (by omega) (szStep_no hs0)) (.inl rfl) rfl rfl rfl) (Nat.le_of_ble_eq_true rfl) ?_
    refine goV (sd_assign (v := .p none (.int _ _)) rfl) (Nat.le_of_ble_eq_true rfl) ?_
    refine op_nil ?_
    refine k2 _ ?_
    refine VC_seq (fun K12 k12 => ?_)
    refine VC_seq (fun K13 k13 => ?_)
    refine VC_lit ?_
    refine goV (sd_move (v := .p none (.int _ _)) rfl) (Nat.le_of_ble_eq_true rfl) ?_
    refine goV (sd_lss rfl rfl) (Nat.le_of_ble_eq_true rfl) ?_
    refine op_nil ?_
    refine k13 _ ?_
    refine VC_cond rfl (fun c0 => ?_) (fun c0 => absurd c0 (by simp))
    refine VC_seq (fun K14 k14 => ?_)
    refine VC_lit ?_
    refine goV (sd_assign (v := .p none _) rfl) (Nat.le_of_ble_eq_true rfl) ?_
    refine op_nil ?_
    refine k14 _ ?_
    refine VC_ret ?_
    show Fin _ _ _ _ _ _
    refine fin0 (xs := [.p none (.int _ _)]) (.inr rfl) ⟨_, _, rfl, rfl, rfl⟩ ?_
    show AV.p none (.int _ _) = _
    first | (rw [szStep_no1 hs0]; done) | (rw [szStep_no2 hs1]; done) | (rw [szStep_two hs0 hs1]; done)

theorem c_szSol {s : SolutionD} {m t : Int} (hf : FitsS s) (h0 : 0 ≤ m) (h1 : m ≤ 1048576) (ht : szStep s.count m = t) : Con Try.prog 38 [.agg (solD s), .one (.int .i64 m)] (.p none (.int .i64 t)) [] := by
  subst ht
  exact c_szSol0 s m hf h0 h1
end Go.Proofs.Ytcgjlddpbkponaa
