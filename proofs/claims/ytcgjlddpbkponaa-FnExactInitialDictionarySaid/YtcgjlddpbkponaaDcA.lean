/-
  Dictionaries: the laws' helpers as contracts.
-/
import Derived.Test.YtcgjlddpbkponaaDc0
namespace Go.Proofs.Ytcgjlddpbkponaa
open Go.ChangeShapes Go.WideShapes Go.ChangeAt Go.RowKit
set_option linter.unusedVariables false
set_option linter.unusedSimpArgs false
set_option maxRecDepth 100000 in
set_option maxHeartbeats 4000000 in
theorem c_toDic (d : DictionaryD) (hf : FitsD d) (hc : d.count ≤ 1048576) :
    Con Try.prog 45 [.agg (dicD d)] (.agg [.own 0, .own 1, .own 2, .own 3, .own 4, .p none (.int .i64 d.value.num), .p none (.int .i64 d.value.den)]) [(0, .arr 3 1 true (d.basic.map intD)), (1, .arr 3 1 true (d.others.map intD)), (2, .arr 38 1 true (d.table.map ratsD)), (3, .arr 35 2 true (d.consts.map ratD)), (4, .arr 35 2 true (d.costs.map ratD))] := by
  have hcn : d.count = d.basic.length + d.others.length + cntL List.length d.table + d.consts.length + d.costs.length := rfl
  refine con_of (N := 29) Try.func45 rfl rfl (by decide) (Nat.le_of_ble_eq_true rfl) ?_
  refine VC_seq (fun K1 k1 => ?_)
  refine VC_lit ?_
  refine goN (sd_box (cs := [_, _, _, _, _, .p none (.int _ _), .p none (.int _ _)]) (by first | exact trivial | exact ⟨_, rfl⟩) rfl rfl) (Nat.le_of_ble_eq_true rfl) ?_
  refine goN (sd_alloc (cs := [_, _, _, _, _, .p none (.int _ _), .p none (.int _ _)]) ty45 rfl rfl) (Nat.le_of_ble_eq_true rfl) ?_
  refine op_nil ?_
  refine k1 _ ?_
  refine VC_seq (fun K2 k2 => ?_)
  refine VC_lit ?_
  refine goN (sd_alloc (cs := [_, _, _, _, _, .p none (.int _ _), .p none (.int _ _)]) ty45 rfl rfl) (Nat.le_of_ble_eq_true rfl) ?_
  refine op_nil ?_
  refine k2 _ ?_
  refine VC_seq (fun K3 k3 => ?_)
  refine VC_lit ?_
  refine goV (sd_fieldP fl64_0 rfl rfl) (Nat.le_of_ble_eq_true rfl) ?_
  refine goV (sd_loadB1 (v := .p none (.sl _ _ _)) ty22 rfl rfl rfl) (Nat.le_of_ble_eq_true rfl) ?_
  refine goC (sd_callF (v := .own _) rfl (c_toIntS (l := d.basic) hf.1 (by omega)) (.inl rfl) rfl rfl rfl) (Nat.le_of_ble_eq_true rfl) ?_
  refine goV (sd_fieldP fl45_0 rfl rfl) (Nat.le_of_ble_eq_true rfl) ?_
  refine goW (sd_storeB (cs' := [_, _, _, _, _, .p none (.int _ _), .p none (.int _ _)]) ty22 rfl rfl (by first | exact trivial | exact ⟨_, rfl⟩) rfl (Nat.le_of_ble_eq_true rfl) rfl) ?_
  refine op_nil ?_
  refine k3 _ ?_
  refine VC_seq (fun K4 k4 => ?_)
  refine VC_lit ?_
  refine goV (sd_fieldP fl64_1 rfl rfl) (Nat.le_of_ble_eq_true rfl) ?_
  refine goV (sd_loadB1 (v := .p none (.sl _ _ _)) ty22 rfl rfl rfl) (Nat.le_of_ble_eq_true rfl) ?_
  refine goC (sd_callF (v := .own _) rfl (c_toIntS (l := d.others) hf.2.1 (by omega)) (.inl rfl) rfl rfl rfl) (Nat.le_of_ble_eq_true rfl) ?_
  refine goV (sd_fieldP fl45_1 rfl rfl) (Nat.le_of_ble_eq_true rfl) ?_
  refine goW (sd_storeB (cs' := [_, _, _, _, _, .p none (.int _ _), .p none (.int _ _)]) ty22 rfl rfl (by first | exact trivial | exact ⟨_, rfl⟩) rfl (Nat.le_of_ble_eq_true rfl) rfl) ?_
  refine op_nil ?_
  refine k4 _ ?_
  refine VC_seq (fun K5 k5 => ?_)
  refine VC_lit ?_
  refine goV (sd_fieldP fl64_2 rfl rfl) (Nat.le_of_ble_eq_true rfl) ?_
  refine goV (sd_loadB1 (v := .p none (.sl _ _ _)) ty62 rfl rfl rfl) (Nat.le_of_ble_eq_true rfl) ?_
  refine goC (sd_callF (v := .own _) rfl (c_toRationalSS (l := d.table) hf.2.2.1 (by omega)) (.inl rfl) rfl rfl rfl) (Nat.le_of_ble_eq_true rfl) ?_
  refine goV (sd_fieldP fl45_2 rfl rfl) (Nat.le_of_ble_eq_true rfl) ?_
  refine goW (sd_storeB (cs' := [_, _, _, _, _, .p none (.int _ _), .p none (.int _ _)]) ty43 rfl rfl (by first | exact trivial | exact ⟨_, rfl⟩) rfl (Nat.le_of_ble_eq_true rfl) rfl) ?_
  refine op_nil ?_
  refine k5 _ ?_
  refine VC_seq (fun K6 k6 => ?_)
  refine VC_lit ?_
  refine goV (sd_fieldP fl64_3 rfl rfl) (Nat.le_of_ble_eq_true rfl) ?_
  refine goV (sd_loadB1 (v := .p none (.sl _ _ _)) ty32 rfl rfl rfl) (Nat.le_of_ble_eq_true rfl) ?_
  refine goC (sd_callF (v := .own _) rfl (c_toRats (l := d.consts) hf.2.2.2.1 (by omega)) (.inl rfl) rfl rfl rfl) (Nat.le_of_ble_eq_true rfl) ?_
  refine goV (sd_fieldP fl45_3 rfl rfl) (Nat.le_of_ble_eq_true rfl) ?_
  refine goW (sd_storeB (cs' := [_, _, _, _, _, .p none (.int _ _), .p none (.int _ _)]) ty38 rfl rfl (by first | exact trivial | exact ⟨_, rfl⟩) rfl (Nat.le_of_ble_eq_true rfl) rfl) ?_
  refine op_nil ?_
  refine k6 _ ?_
  refine VC_seq (fun K7 k7 => ?_)
  refine VC_lit ?_
  refine goV (sd_fieldP fl64_4 rfl rfl) (Nat.le_of_ble_eq_true rfl) ?_
  refine goV (sd_loadB1 (v := .p none (.sl _ _ _)) ty32 rfl rfl rfl) (Nat.le_of_ble_eq_true rfl) ?_
  refine goC (sd_callF (v := .own _) rfl (c_toRats (l := d.costs) hf.2.2.2.2.1 (by omega)) (.inl rfl) rfl rfl rfl) (Nat.le_of_ble_eq_true rfl) ?_
  refine goV (sd_fieldP fl45_4 rfl rfl) (Nat.le_of_ble_eq_true rfl) ?_
  refine goW (sd_storeB (cs' := [_, _, _, _, _, .p none (.int _ _), .p none (.int _ _)]) ty38 rfl rfl (by first | exact trivial | exact ⟨_, rfl⟩) rfl (Nat.le_of_ble_eq_true rfl) rfl) ?_
  refine op_nil ?_
  refine k7 _ ?_
  refine VC_seq (fun K8 k8 => ?_)
  refine VC_lit ?_
  refine goV (sd_fieldP fl64_5 rfl rfl) (Nat.le_of_ble_eq_true rfl) ?_
  refine goV (sd_loadB (vs := [.p none (.int _ _), .p none (.int _ _)]) ty52 rfl rfl (Nat.le_of_ble_eq_true rfl) rfl) (Nat.le_of_ble_eq_true rfl) ?_
  refine goV (sd_callF (v := .agg [.p none (.int _ _), .p none (.int _ _)]) rfl (c_toRational _ _) (.inl rfl) rfl rfl rfl) (Nat.le_of_ble_eq_true rfl) ?_
  refine goV (sd_fieldP fl45_5 rfl rfl) (Nat.le_of_ble_eq_true rfl) ?_
  refine goW (sd_storeB (cs' := [_, _, _, _, _, .p none (.int _ _), .p none (.int _ _)]) ty35 rfl rfl (by first | exact trivial | exact ⟨_, rfl⟩) rfl (Nat.le_of_ble_eq_true rfl) rfl) ?_
  refine op_nil ?_
  refine k8 _ ?_
  refine VC_seq (fun K9 k9 => ?_)
  refine VC_lit ?_
  refine goV (sd_loadB (vs := [_, _, _, _, _, .p none (.int _ _), .p none (.int _ _)]) ty45 rfl rfl (Nat.le_of_ble_eq_true rfl) rfl) (Nat.le_of_ble_eq_true rfl) ?_
  refine goW (sd_storeB (cs' := [_, _, _, _, _, .p none (.int _ _), .p none (.int _ _)]) ty45 rfl rfl (by first | exact trivial | exact ⟨_, rfl⟩) rfl (Nat.le_of_ble_eq_true rfl) rfl) ?_
  refine op_nil ?_
  refine k9 _ ?_
  refine VC_ret ?_
  show Fin _ _ _ _ _ _
  exact fin1 (xs := [.agg [.own _, .own _, .own _, .own _, .own _, .p none (.int _ _), .p none (.int _ _)]]) (fun h => if h = 0 then 600 else if h = 1 then 1000 else if h = 2 then 1400 else if h = 3 then 1800 else 2200) (.inr rfl) ⟨_, _, rfl, ⟨_, _, _, _, _, _, _, rfl, rfl, ty45, .inl ⟨rfl, rfl, rfl⟩⟩, rfl⟩ rfl ⟨⟨rfl, rfl⟩, ⟨rfl, rfl⟩, ⟨rfl, rfl⟩, ⟨rfl, rfl⟩, ⟨rfl, rfl⟩, trivial⟩ rfl

set_option maxRecDepth 100000 in
set_option maxHeartbeats 4000000 in
theorem c_eqDic (d : DictionaryD) (hf : FitsD d) :
    Con Try.prog 30 [.agg (dicD d), .agg (dicD d)] (.p none (.bool true)) [] := by
  refine con_of (N := 41) Try.func30 rfl rfl (by decide) (Nat.le_of_ble_eq_true rfl) ?_
  refine VC_seq (fun K1 k1 => ?_)
  refine VC_lit ?_
  refine goN (sd_box (cs := [_, _, _, _, _, .p none (.int _ _), .p none (.int _ _)]) (by first | exact trivial | exact ⟨_, rfl⟩) rfl rfl) (Nat.le_of_ble_eq_true rfl) ?_
  refine goN (sd_box (cs := [_, _, _, _, _, .p none (.int _ _), .p none (.int _ _)]) (by first | exact trivial | exact ⟨_, rfl⟩) rfl rfl) (Nat.le_of_ble_eq_true rfl) ?_
  refine goV (sd_assign (v := .p none _) rfl) (Nat.le_of_ble_eq_true rfl) ?_
  refine op_nil ?_
  refine k1 _ ?_
  refine VC_seq (fun K2 k2 => ?_)
  refine VC_seq (fun K3 k3 => ?_)
  refine VC_lit ?_
  refine goV (sd_fieldP fl45_0 rfl rfl) (Nat.le_of_ble_eq_true rfl) ?_
  refine goV (sd_loadB1 (v := .p none (.sl _ _ _)) ty22 rfl rfl rfl) (Nat.le_of_ble_eq_true rfl) ?_
  refine goV (sd_fieldP fl45_0 rfl rfl) (Nat.le_of_ble_eq_true rfl) ?_
  refine goV (sd_loadB1 (v := .p none (.sl _ _ _)) ty22 rfl rfl rfl) (Nat.le_of_ble_eq_true rfl) ?_
  refine goV (sd_callF (v := .p none (.bool _)) rfl (c_eqIntS (l := d.basic) hf.1) (.inl rfl) rfl rfl rfl) (Nat.le_of_ble_eq_true rfl) ?_
  refine goV (sd_not rfl) (Nat.le_of_ble_eq_true rfl) ?_
  refine op_nil ?_
  refine k3 _ ?_
  refine VC_cond rfl (fun c0 => absurd c0 (by first | decide | simp)) (fun c0 => ?_)
  refine VC_skip ?_
  refine k2 _ ?_
  refine VC_seq (fun K4 k4 => ?_)
  refine VC_seq (fun K5 k5 => ?_)
  refine VC_lit ?_
  refine goV (sd_fieldP fl45_1 rfl rfl) (Nat.le_of_ble_eq_true rfl) ?_
  refine goV (sd_loadB1 (v := .p none (.sl _ _ _)) ty22 rfl rfl rfl) (Nat.le_of_ble_eq_true rfl) ?_
  refine goV (sd_fieldP fl45_1 rfl rfl) (Nat.le_of_ble_eq_true rfl) ?_
  refine goV (sd_loadB1 (v := .p none (.sl _ _ _)) ty22 rfl rfl rfl) (Nat.le_of_ble_eq_true rfl) ?_
  refine goV (sd_callF (v := .p none (.bool _)) rfl (c_eqIntS (l := d.others) hf.2.1) (.inl rfl) rfl rfl rfl) (Nat.le_of_ble_eq_true rfl) ?_
  refine goV (sd_not rfl) (Nat.le_of_ble_eq_true rfl) ?_
  refine op_nil ?_
  refine k5 _ ?_
  refine VC_cond rfl (fun c1 => absurd c1 (by first | decide | simp)) (fun c1 => ?_)
  refine VC_skip ?_
  refine k4 _ ?_
  refine VC_seq (fun K6 k6 => ?_)
  refine VC_seq (fun K7 k7 => ?_)
  refine VC_lit ?_
  refine goV (sd_fieldP fl45_2 rfl rfl) (Nat.le_of_ble_eq_true rfl) ?_
  refine goV (sd_loadB1 (v := .p none (.sl _ _ _)) ty43 rfl rfl rfl) (Nat.le_of_ble_eq_true rfl) ?_
  refine goV (sd_fieldP fl45_2 rfl rfl) (Nat.le_of_ble_eq_true rfl) ?_
  refine goV (sd_loadB1 (v := .p none (.sl _ _ _)) ty43 rfl rfl rfl) (Nat.le_of_ble_eq_true rfl) ?_
  refine goV (sd_callF (v := .p none (.bool _)) rfl (c_eqRationalSS (l := d.table) hf.2.2.1) (.inl rfl) rfl rfl rfl) (Nat.le_of_ble_eq_true rfl) ?_
  refine goV (sd_not rfl) (Nat.le_of_ble_eq_true rfl) ?_
  refine op_nil ?_
  refine k7 _ ?_
  refine VC_cond rfl (fun c2 => absurd c2 (by first | decide | simp)) (fun c2 => ?_)
  refine VC_skip ?_
  refine k6 _ ?_
  refine VC_seq (fun K8 k8 => ?_)
  refine VC_seq (fun K9 k9 => ?_)
  refine VC_lit ?_
  refine goV (sd_fieldP fl45_3 rfl rfl) (Nat.le_of_ble_eq_true rfl) ?_
  refine goV (sd_loadB1 (v := .p none (.sl _ _ _)) ty38 rfl rfl rfl) (Nat.le_of_ble_eq_true rfl) ?_
  refine goV (sd_fieldP fl45_3 rfl rfl) (Nat.le_of_ble_eq_true rfl) ?_
  refine goV (sd_loadB1 (v := .p none (.sl _ _ _)) ty38 rfl rfl rfl) (Nat.le_of_ble_eq_true rfl) ?_
  refine goV (sd_callF (v := .p none (.bool _)) rfl (c_eqRats (l := d.consts) hf.2.2.2.1) (.inl rfl) rfl rfl rfl) (Nat.le_of_ble_eq_true rfl) ?_
  refine goV (sd_not rfl) (Nat.le_of_ble_eq_true rfl) ?_
  refine op_nil ?_
  refine k9 _ ?_
  refine VC_cond rfl (fun c3 => absurd c3 (by first | decide | simp)) (fun c3 => ?_)
  refine VC_skip ?_
  refine k8 _ ?_
  refine VC_seq (fun K10 k10 => ?_)
  refine VC_seq (fun K11 k11 => ?_)
  refine VC_lit ?_
  refine goV (sd_fieldP fl45_4 rfl rfl) (Nat.le_of_ble_eq_true rfl) ?_
  refine goV (sd_loadB1 (v := .p none (.sl _ _ _)) ty38 rfl rfl rfl) (Nat.le_of_ble_eq_true rfl) ?_
  refine goV (sd_fieldP fl45_4 rfl rfl) (Nat.le_of_ble_eq_true rfl) ?_
  refine goV (sd_loadB1 (v := .p none (.sl _ _ _)) ty38 rfl rfl rfl) (Nat.le_of_ble_eq_true rfl) ?_
  refine goV (sd_callF (v := .p none (.bool _)) rfl (c_eqRats (l := d.costs) hf.2.2.2.2.1) (.inl rfl) rfl rfl rfl) (Nat.le_of_ble_eq_true rfl) ?_
  refine goV (sd_not rfl) (Nat.le_of_ble_eq_true rfl) ?_
  refine op_nil ?_
  refine k11 _ ?_
  refine VC_cond rfl (fun c4 => absurd c4 (by first | decide | simp)) (fun c4 => ?_)
  refine VC_skip ?_
  refine k10 _ ?_
  refine VC_seq (fun K12 k12 => ?_)
  refine VC_seq (fun K13 k13 => ?_)
  refine VC_lit ?_
  refine goV (sd_fieldP fl45_5 rfl rfl) (Nat.le_of_ble_eq_true rfl) ?_
  refine goV (sd_loadB (vs := [.p none (.int _ _), .p none (.int _ _)]) ty35 rfl rfl (Nat.le_of_ble_eq_true rfl) rfl) (Nat.le_of_ble_eq_true rfl) ?_
  refine goV (sd_fieldP fl45_5 rfl rfl) (Nat.le_of_ble_eq_true rfl) ?_
  refine goV (sd_loadB (vs := [.p none (.int _ _), .p none (.int _ _)]) ty35 rfl rfl (Nat.le_of_ble_eq_true rfl) rfl) (Nat.le_of_ble_eq_true rfl) ?_
  refine goV (sd_callF (v := .p none (.bool _)) rfl (c_eqRational _ _) (.inl rfl) rfl rfl rfl) (Nat.le_of_ble_eq_true rfl) ?_
  refine goV (sd_not rfl) (Nat.le_of_ble_eq_true rfl) ?_
  refine op_nil ?_
  refine k13 _ ?_
  refine VC_cond rfl (fun c5 => absurd c5 (by first | decide | simp)) (fun c5 => ?_)
  refine VC_skip ?_
  refine k12 _ ?_
  refine VC_seq (fun K14 k14 => ?_)
  refine VC_lit ?_
  refine goV (sd_assign (v := .p none _) rfl) (Nat.le_of_ble_eq_true rfl) ?_
  refine op_nil ?_
  refine k14 _ ?_
  refine VC_ret ?_
  show Fin _ _ _ _ _ _
  refine fin0 (xs := [.p none (.bool _)]) (.inr rfl) ⟨_, _, rfl, rfl, rfl⟩ ?_
  show AV.p none (.bool _) = _
  rfl

set_option maxRecDepth 100000 in
set_option maxHeartbeats 4000000 in
theorem c_szDic0 (d : DictionaryD) (m : Int) (hf : FitsD d) (h0 : 0 ≤ m) (h1 : m ≤ 1048576) :
    Con Try.prog 43 [.agg (dicD d), .one (.int .i64 m)] (.p none (.int .i64 (szStep d.count m))) [] := by
  have hcn : d.count = d.basic.length + d.others.length + cntL List.length d.table + d.consts.length + d.costs.length := rfl
  refine con_of (N := 36) Try.func43 rfl rfl (by decide) (Nat.le_of_ble_eq_true rfl) ?_
  refine VC_seq (fun K1 k1 => ?_)
  refine VC_lit ?_
  refine goN (sd_box (cs := [_, _, _, _, _, .p none (.int _ _), .p none (.int _ _)]) (by first | exact trivial | exact ⟨_, rfl⟩) rfl rfl) (Nat.le_of_ble_eq_true rfl) ?_
  refine goV (sd_assign (v := .p none _) rfl) (Nat.le_of_ble_eq_true rfl) ?_
  refine op_nil ?_
  refine k1 _ ?_
  refine VC_seq (fun K2 k2 => ?_)
  by_cases hs0 : ((d.basic.length : Nat) : Int) ≤ m
  · refine VC_lit ?_
    refine goV (sd_fieldP fl64_0 rfl rfl) (Nat.le_of_ble_eq_true rfl) ?_
    refine goV (sd_loadB1 (v := .p none (.sl _ _ _)) ty22 rfl rfl rfl) (Nat.le_of_ble_eq_true rfl) ?_
    refine goV (sd_move (v := .p none (.int _ _)) rfl) (Nat.le_of_ble_eq_true rfl) ?_
    refine goV (sd_callF (v := .p none (.int _ _)) rfl (c_szIntS (l := d.basic) hf.1 (by omega) (by omega) (szStep_yes hs0)) (.inl rfl) rfl rfl rfl) (Nat.le_of_ble_eq_true rfl) ?_
    refine goV (sd_assign (v := .p none (.int _ _)) rfl) (Nat.le_of_ble_eq_true rfl) ?_
    refine op_nil ?_
    refine k2 _ ?_
    refine VC_seq (fun K3 k3 => ?_)
    refine VC_seq (fun K4 k4 => ?_)
    refine VC_lit ?_
    refine goV (sd_move (v := .p none (.int _ _)) rfl) (Nat.le_of_ble_eq_true rfl) ?_
    refine goV (sd_lss rfl rfl) (Nat.le_of_ble_eq_true rfl) ?_
    refine op_nil ?_
    refine k4 _ ?_
    refine VC_cond rfl (fun c0 => absurd c0 (by simp; omega)) (fun c0 => ?_)
    refine VC_skip ?_
    refine k3 _ ?_
    refine VC_seq (fun K5 k5 => ?_)
    by_cases hs1 : ((d.others.length : Nat) : Int) ≤ m - (d.basic.length : Nat)
    · refine VC_lit ?_
      refine goV (sd_fieldP fl64_1 rfl rfl) (Nat.le_of_ble_eq_true rfl) ?_
      refine goV (sd_loadB1 (v := .p none (.sl _ _ _)) ty22 rfl rfl rfl) (Nat.le_of_ble_eq_true rfl) ?_
      refine goV (sd_move (v := .p none (.int _ _)) rfl) (Nat.le_of_ble_eq_true rfl) ?_
      refine goV (sd_callF (v := .p none (.int _ _)) rfl (c_szIntS (l := d.others) hf.2.1 (by omega) (by omega) (szStep_yes hs1)) (.inl rfl) rfl rfl rfl) (Nat.le_of_ble_eq_true rfl) ?_
      refine goV (sd_assign (v := .p none (.int _ _)) rfl) (Nat.le_of_ble_eq_true rfl) ?_
      refine op_nil ?_
      refine k5 _ ?_
      refine VC_seq (fun K6 k6 => ?_)
      refine VC_seq (fun K7 k7 => ?_)
      refine VC_lit ?_
      refine goV (sd_move (v := .p none (.int _ _)) rfl) (Nat.le_of_ble_eq_true rfl) ?_
      refine goV (sd_lss rfl rfl) (Nat.le_of_ble_eq_true rfl) ?_
      refine op_nil ?_
      refine k7 _ ?_
      refine VC_cond rfl (fun c1 => absurd c1 (by simp; omega)) (fun c1 => ?_)
      refine VC_skip ?_
      refine k6 _ ?_
      refine VC_seq (fun K8 k8 => ?_)
      by_cases hs2 : ((cntL List.length d.table : Nat) : Int) ≤ m - (d.basic.length : Nat) - (d.others.length : Nat)
      · refine VC_lit ?_
        refine goV (sd_fieldP fl64_2 rfl rfl) (Nat.le_of_ble_eq_true rfl) ?_
        refine goV (sd_loadB1 (v := .p none (.sl _ _ _)) ty62 rfl rfl rfl) (Nat.le_of_ble_eq_true rfl) ?_
        refine goV (sd_move (v := .p none (.int _ _)) rfl) (Nat.le_of_ble_eq_true rfl) ?_
        refine goV (sd_callF (v := .p none (.int _ _)) rfl (c_szRationalSS (l := d.table) hf.2.2.1 (by omega) (by omega) (szStep_yes hs2)) (.inl rfl) rfl rfl rfl) (Nat.le_of_ble_eq_true rfl) ?_
        refine goV (sd_assign (v := .p none (.int _ _)) rfl) (Nat.le_of_ble_eq_true rfl) ?_
        refine op_nil ?_
        refine k8 _ ?_
        refine VC_seq (fun K9 k9 => ?_)
        refine VC_seq (fun K10 k10 => ?_)
        refine VC_lit ?_
        refine goV (sd_move (v := .p none (.int _ _)) rfl) (Nat.le_of_ble_eq_true rfl) ?_
        refine goV (sd_lss rfl rfl) (Nat.le_of_ble_eq_true rfl) ?_
        refine op_nil ?_
        refine k10 _ ?_
        refine VC_cond rfl (fun c2 => absurd c2 (by simp; omega)) (fun c2 => ?_)
        refine VC_skip ?_
        refine k9 _ ?_
        refine VC_seq (fun K11 k11 => ?_)
        by_cases hs3 : ((d.consts.length : Nat) : Int) ≤ m - (d.basic.length : Nat) - (d.others.length : Nat) - (cntL List.length d.table : Nat)
        · refine VC_lit ?_
          refine goV (sd_fieldP fl64_3 rfl rfl) (Nat.le_of_ble_eq_true rfl) ?_
          refine goV (sd_loadB1 (v := .p none (.sl _ _ _)) ty32 rfl rfl rfl) (Nat.le_of_ble_eq_true rfl) ?_
          refine goV (sd_move (v := .p none (.int _ _)) rfl) (Nat.le_of_ble_eq_true rfl) ?_
          refine goV (sd_callF (v := .p none (.int _ _)) rfl (c_szRats (l := d.consts) hf.2.2.2.1 (by omega) (by omega) (szStep_yes hs3)) (.inl rfl) rfl rfl rfl) (Nat.le_of_ble_eq_true rfl) ?_
          refine goV (sd_assign (v := .p none (.int _ _)) rfl) (Nat.le_of_ble_eq_true rfl) ?_
          refine op_nil ?_
          refine k11 _ ?_
          refine VC_seq (fun K12 k12 => ?_)
          refine VC_seq (fun K13 k13 => ?_)
          refine VC_lit ?_
          refine goV (sd_move (v := .p none (.int _ _)) rfl) (Nat.le_of_ble_eq_true rfl) ?_
          refine goV (sd_lss rfl rfl) (Nat.le_of_ble_eq_true rfl) ?_
          refine op_nil ?_
          refine k13 _ ?_
          refine VC_cond rfl (fun c3 => absurd c3 (by simp; omega)) (fun c3 => ?_)
          refine VC_skip ?_
          refine k12 _ ?_
          refine VC_seq (fun K14 k14 => ?_)
          by_cases hs4 : ((d.costs.length : Nat) : Int) ≤ m - (d.basic.length : Nat) - (d.others.length : Nat) - (cntL List.length d.table : Nat) - (d.consts.length : Nat)
          · refine VC_lit ?_
            refine goV (sd_fieldP fl64_4 rfl rfl) (Nat.le_of_ble_eq_true rfl) ?_
            refine goV (sd_loadB1 (v := .p none (.sl _ _ _)) ty32 rfl rfl rfl) (Nat.le_of_ble_eq_true rfl) ?_
            refine goV (sd_move (v := .p none (.int _ _)) rfl) (Nat.le_of_ble_eq_true rfl) ?_
            refine goV (sd_callF (v := .p none (.int _ _)) rfl (c_szRats (l := d.costs) hf.2.2.2.2.1 (by omega) (by omega) (szStep_yes hs4)) (.inl rfl) rfl rfl rfl) (Nat.le_of_ble_eq_true rfl) ?_
            refine goV (sd_assign (v := .p none (.int _ _)) rfl) (Nat.le_of_ble_eq_true rfl) ?_
            refine op_nil ?_
            refine k14 _ ?_
            refine VC_seq (fun K15 k15 => ?_)
            refine VC_seq (fun K16 k16 => ?_)
            refine VC_lit ?_
            refine goV (sd_move (v := .p none (.int _ _)) rfl) (Nat.le_of_ble_eq_true rfl) ?_
            refine goV (sd_lss rfl rfl) (Nat.le_of_ble_eq_true rfl) ?_
            refine op_nil ?_
            refine k16 _ ?_
            refine VC_cond rfl (fun c4 => absurd c4 (by simp; omega)) (fun c4 => ?_)
            refine VC_skip ?_
            refine k15 _ ?_
            refine VC_seq (fun K17 k17 => ?_)
            refine VC_lit ?_
            refine goV (sd_move (v := .p none (.int _ _)) rfl) (Nat.le_of_ble_eq_true rfl) ?_
            refine goV (sd_assign (v := .p none (.int _ _)) rfl) (Nat.le_of_ble_eq_true rfl) ?_
            refine op_nil ?_
            refine k17 _ ?_
            refine VC_ret ?_
            show Fin _ _ _ _ _ _
            refine fin0 (xs := [.p none (.int _ _)]) (.inr rfl) ⟨_, _, rfl, rfl, rfl⟩ ?_
            show AV.p none (.int _ _) = _
            first | (rw [szStep_no (by omega)]; done) | (rw [szStep_yes (by omega)]; congr 2; omega)
          · refine VC_lit ?_
            refine goV (sd_fieldP fl64_4 rfl rfl) (Nat.le_of_ble_eq_true rfl) ?_
            refine goV (sd_loadB1 (v := .p none (.sl _ _ _)) ty32 rfl rfl rfl) (Nat.le_of_ble_eq_true rfl) ?_
            refine goV (sd_move (v := .p none (.int _ _)) rfl) (Nat.le_of_ble_eq_true rfl) ?_
            refine goV (sd_callF (v := .p none (.int _ _)) rfl (c_szRats (l := d.costs) hf.2.2.2.2.1 (by omega) (by omega) (szStep_no hs4)) (.inl rfl) rfl rfl rfl) (Nat.le_of_ble_eq_true rfl) ?_
            refine goV (sd_assign (v := .p none (.int _ _)) rfl) (Nat.le_of_ble_eq_true rfl) ?_
            refine op_nil ?_
            refine k14 _ ?_
            refine VC_seq (fun K18 k18 => ?_)
            refine VC_seq (fun K19 k19 => ?_)
            refine VC_lit ?_
            refine goV (sd_move (v := .p none (.int _ _)) rfl) (Nat.le_of_ble_eq_true rfl) ?_
            refine goV (sd_lss rfl rfl) (Nat.le_of_ble_eq_true rfl) ?_
            refine op_nil ?_
            refine k19 _ ?_
            refine VC_cond rfl (fun c4 => ?_) (fun c4 => absurd c4 (by simp))
            refine VC_seq (fun K20 k20 => ?_)
            refine VC_lit ?_
            refine goV (sd_assign (v := .p none _) rfl) (Nat.le_of_ble_eq_true rfl) ?_
            refine op_nil ?_
            refine k20 _ ?_
            refine VC_ret ?_
            show Fin _ _ _ _ _ _
            refine fin0 (xs := [.p none (.int _ _)]) (.inr rfl) ⟨_, _, rfl, rfl, rfl⟩ ?_
            show AV.p none (.int _ _) = _
            first | (rw [szStep_no (by omega)]; done) | (rw [szStep_yes (by omega)]; congr 2; omega)
        · refine VC_lit ?_
          refine goV (sd_fieldP fl64_3 rfl rfl) (Nat.le_of_ble_eq_true rfl) ?_
          refine goV (sd_loadB1 (v := .p none (.sl _ _ _)) ty32 rfl rfl rfl) (Nat.le_of_ble_eq_true rfl) ?_
          refine goV (sd_move (v := .p none (.int _ _)) rfl) (Nat.le_of_ble_eq_true rfl) ?_
          refine goV (sd_callF (v := .p none (.int _ _)) rfl (c_szRats (l := d.consts) hf.2.2.2.1 (by omega) (by omega) (szStep_no hs3)) (.inl rfl) rfl rfl rfl) (Nat.le_of_ble_eq_true rfl) ?_
          refine goV (sd_assign (v := .p none (.int _ _)) rfl) (Nat.le_of_ble_eq_true rfl) ?_
          refine op_nil ?_
          refine k11 _ ?_
          refine VC_seq (fun K21 k21 => ?_)
          refine VC_seq (fun K22 k22 => ?_)
          refine VC_lit ?_
          refine goV (sd_move (v := .p none (.int _ _)) rfl) (Nat.le_of_ble_eq_true rfl) ?_
          refine goV (sd_lss rfl rfl) (Nat.le_of_ble_eq_true rfl) ?_
          refine op_nil ?_
          refine k22 _ ?_
          refine VC_cond rfl (fun c3 => ?_) (fun c3 => absurd c3 (by simp))
          refine VC_seq (fun K23 k23 => ?_)
          refine VC_lit ?_
          refine goV (sd_assign (v := .p none _) rfl) (Nat.le_of_ble_eq_true rfl) ?_
          refine op_nil ?_
          refine k23 _ ?_
          refine VC_ret ?_
          show Fin _ _ _ _ _ _
          refine fin0 (xs := [.p none (.int _ _)]) (.inr rfl) ⟨_, _, rfl, rfl, rfl⟩ ?_
          show AV.p none (.int _ _) = _
          first | (rw [szStep_no (by omega)]; done) | (rw [szStep_yes (by omega)]; congr 2; omega)
      · refine VC_lit ?_
        refine goV (sd_fieldP fl64_2 rfl rfl) (Nat.le_of_ble_eq_true rfl) ?_
        refine goV (sd_loadB1 (v := .p none (.sl _ _ _)) ty62 rfl rfl rfl) (Nat.le_of_ble_eq_true rfl) ?_
        refine goV (sd_move (v := .p none (.int _ _)) rfl) (Nat.le_of_ble_eq_true rfl) ?_
        refine goV (sd_callF (v := .p none (.int _ _)) rfl (c_szRationalSS (l := d.table) hf.2.2.1 (by omega) (by omega) (szStep_no hs2)) (.inl rfl) rfl rfl rfl) (Nat.le_of_ble_eq_true rfl) ?_
        refine goV (sd_assign (v := .p none (.int _ _)) rfl) (Nat.le_of_ble_eq_true rfl) ?_
        refine op_nil ?_
        refine k8 _ ?_
        refine VC_seq (fun K24 k24 => ?_)
        refine VC_seq (fun K25 k25 => ?_)
        refine VC_lit ?_
        refine goV (sd_move (v := .p none (.int _ _)) rfl) (Nat.le_of_ble_eq_true rfl) ?_
        refine goV (sd_lss rfl rfl) (Nat.le_of_ble_eq_true rfl) ?_
        refine op_nil ?_
        refine k25 _ ?_
        refine VC_cond rfl (fun c2 => ?_) (fun c2 => absurd c2 (by simp))
        refine VC_seq (fun K26 k26 => ?_)
        refine VC_lit ?_
        refine goV (sd_assign (v := .p none _) rfl) (Nat.le_of_ble_eq_true rfl) ?_
        refine op_nil ?_
        refine k26 _ ?_
        refine VC_ret ?_
        show Fin _ _ _ _ _ _
        refine fin0 (xs := [.p none (.int _ _)]) (.inr rfl) ⟨_, _, rfl, rfl, rfl⟩ ?_
        show AV.p none (.int _ _) = _
        first | (rw [szStep_no (by omega)]; done) | (rw [szStep_yes (by omega)]; congr 2; omega)
    · refine VC_lit ?_
      refine goV (sd_fieldP fl64_1 rfl rfl) (Nat.le_of_ble_eq_true rfl) ?_
      refine goV (sd_loadB1 (v := .p none (.sl _ _ _)) ty22 rfl rfl rfl) (Nat.le_of_ble_eq_true rfl) ?_
      refine goV (sd_move (v := .p none (.int _ _)) rfl) (Nat.le_of_ble_eq_true rfl) ?_
      refine goV (sd_callF (v := .p none (.int _ _)) rfl (c_szIntS (l := d.others) hf.2.1 (by omega) (by omega) (szStep_no hs1)) (.inl rfl) rfl rfl rfl) (Nat.le_of_ble_eq_true rfl) ?_
      refine goV (sd_assign (v := .p none (.int _ _)) rfl) (Nat.le_of_ble_eq_true rfl) ?_
      refine op_nil ?_
      refine k5 _ ?_
      refine VC_seq (fun K27 k27 => ?_)
      refine VC_seq (fun K28 k28 => ?_)
      refine VC_lit ?_
      refine goV (sd_move (v := .p none (.int _ _)) rfl) (Nat.le_of_ble_eq_true rfl) ?_
      refine goV (sd_lss rfl rfl) (Nat.le_of_ble_eq_true rfl) ?_
      refine op_nil ?_
      refine k28 _ ?_
      refine VC_cond rfl (fun c1 => ?_) (fun c1 => absurd c1 (by simp))
      refine VC_seq (fun K29 k29 => ?_)
      refine VC_lit ?_
      refine goV (sd_assign (v := .p none _) rfl) (Nat.le_of_ble_eq_true rfl) ?_
      refine op_nil ?_
      refine k29 _ ?_
      refine VC_ret ?_
      show Fin _ _ _ _ _ _
      refine fin0 (xs := [.p none (.int _ _)]) (.inr rfl) ⟨_, _, rfl, rfl, rfl⟩ ?_
      show AV.p none (.int _ _) = _
      first | (rw [szStep_no (by omega)]; done) | (rw [szStep_yes (by omega)]; congr 2; omega)
  · refine VC_lit ?_
    refine goV (sd_fieldP fl64_0 rfl rfl) (Nat.le_of_ble_eq_true rfl) ?_
    refine goV (sd_loadB1 (v := .p none (.sl _ _ _)) ty22 rfl rfl rfl) (Nat.le_of_ble_eq_true rfl) ?_
    refine goV (sd_move (v := .p none (.int _ _)) rfl) (Nat.le_of_ble_eq_true rfl) ?_
    refine goV (sd_callF (v := .p none (.int _ _)) rfl (c_szIntS (l := d.basic) hf.1 (by omega) (by omega) (szStep_no hs0)) (.inl rfl) rfl rfl rfl) (Nat.le_of_ble_eq_true rfl) ?_
    refine goV (sd_assign (v := .p none (.int _ _)) rfl) (Nat.le_of_ble_eq_true rfl) ?_
    refine op_nil ?_
    refine k2 _ ?_
    refine VC_seq (fun K30 k30 => ?_)
    refine VC_seq (fun K31 k31 => ?_)
    refine VC_lit ?_
    refine goV (sd_move (v := .p none (.int _ _)) rfl) (Nat.le_of_ble_eq_true rfl) ?_
    refine goV (sd_lss rfl rfl) (Nat.le_of_ble_eq_true rfl) ?_
    refine op_nil ?_
    refine k31 _ ?_
    refine VC_cond rfl (fun c0 => ?_) (fun c0 => absurd c0 (by simp))
    refine VC_seq (fun K32 k32 => ?_)
    refine VC_lit ?_
    refine goV (sd_assign (v := .p none _) rfl) (Nat.le_of_ble_eq_true rfl) ?_
    refine op_nil ?_
    refine k32 _ ?_
    refine VC_ret ?_
    show Fin _ _ _ _ _ _
    refine fin0 (xs := [.p none (.int _ _)]) (.inr rfl) ⟨_, _, rfl, rfl, rfl⟩ ?_
    show AV.p none (.int _ _) = _
    first | (rw [szStep_no (by omega)]; done) | (rw [szStep_yes (by omega)]; congr 2; omega)

theorem c_szDic {d : DictionaryD} {m t : Int} (hf : FitsD d) (h0 : 0 ≤ m) (h1 : m ≤ 1048576) (ht : szStep d.count m = t) : Con Try.prog 43 [.agg (dicD d), .one (.int .i64 m)] (.p none (.int .i64 t)) [] := by
  subst ht
  exact c_szDic0 d m hf h0 h1
end Go.Proofs.Ytcgjlddpbkponaa
