/-
  The law on valid dictionaries.
-/
import Derived.Test.YtcgjlddpbkponaaDcE
namespace Go.Proofs.Ytcgjlddpbkponaa
open Go.ChangeShapes Go.WideShapes Go.ChangeAt Go.RowKit
set_option linter.unusedVariables false
set_option linter.unusedSimpArgs false
set_option maxRecDepth 100000 in
set_option maxHeartbeats 4000000 in
theorem lawIsValidDictionary (d : DictionaryD) (hf : FitsD d) :
    Con Try.prog 10 [.agg (dicD d)] (.p none (.bool true)) [] := by
  refine con_of (N := 27) Try.func10 rfl rfl (by decide) (Nat.le_of_ble_eq_true rfl) ?_
  refine VC_seq (fun K1 k1 => ?_)
  refine VC_lit ?_
  refine goN (sd_box (cs := [_, _, _, _, _, .p none (.int _ _), .p none (.int _ _)]) (by first | exact trivial | exact ⟨_, rfl⟩) rfl rfl) (Nat.le_of_ble_eq_true rfl) ?_
  refine goV (sd_assign (v := .p none _) rfl) (Nat.le_of_ble_eq_true rfl) ?_
  refine op_nil ?_
  refine k1 _ ?_
  refine VC_seq (fun K2 k2 => ?_)
  refine VC_lit ?_
  refine goV (sd_assign (v := .p none _) rfl) (Nat.le_of_ble_eq_true rfl) ?_
  refine op_nil ?_
  refine k2 _ ?_
  refine VC_seq (fun K3 k3 => ?_)
  by_cases hs0 : (d.count : Int) ≤ 1048576
  · refine VC_lit ?_
    refine goV (sd_loadB (vs := [_, _, _, _, _, .p none (.int _ _), .p none (.int _ _)]) ty64 rfl rfl (Nat.le_of_ble_eq_true rfl) rfl) (Nat.le_of_ble_eq_true rfl) ?_
    refine goV (sd_move (v := .p none (.int _ _)) rfl) (Nat.le_of_ble_eq_true rfl) ?_
    refine goV (sd_callF (v := .p none (.int _ _)) rfl (c_szDic hf (by omega) (by omega) (szStep_yes hs0)) (.inl rfl) rfl rfl rfl) (Nat.le_of_ble_eq_true rfl) ?_
    refine goV (sd_assign (v := .p none (.int _ _)) rfl) (Nat.le_of_ble_eq_true rfl) ?_
    refine op_nil ?_
    refine k3 _ ?_
    refine VC_seq (fun K4 k4 => ?_)
    refine VC_seq (fun K5 k5 => ?_)
    refine VC_lit ?_
    refine goV (sd_move (v := .p none (.int _ _)) rfl) (Nat.le_of_ble_eq_true rfl) ?_
    refine goV (sd_lss rfl rfl) (Nat.le_of_ble_eq_true rfl) ?_
    refine op_nil ?_
    refine k5 _ ?_
    refine VC_cond rfl (fun c0 => absurd c0 (by simp; omega)) (fun c0 => ?_)
    refine VC_skip ?_
    refine k4 _ ?_
    refine VC_seq (fun K6 k6 => ?_)
    refine VC_lit ?_
    refine goV (sd_loadB (vs := [_, _, _, _, _, .p none (.int _ _), .p none (.int _ _)]) ty64 rfl rfl (Nat.le_of_ble_eq_true rfl) rfl) (Nat.le_of_ble_eq_true rfl) ?_
    refine goC (sd_callF (v := .agg [_, _, _, _, _, .p none (.int _ _), .p none (.int _ _)]) rfl (c_toDic d hf (by omega)) (.inl rfl) rfl rfl rfl) (Nat.le_of_ble_eq_true rfl) ?_
    refine goV (sd_callF (v := .p none (.bool _)) rfl (c_okDic_spec (small_dic (d := d) (by omega)) rfl) (.inl rfl) rfl rfl rfl) (Nat.le_of_ble_eq_true rfl) ?_
    refine goV (sd_assign (v := .p none (.bool _)) rfl) (Nat.le_of_ble_eq_true rfl) ?_
    refine op_nil ?_
    refine k6 _ ?_
    refine VC_seq (fun K7 k7 => ?_)
    refine VC_lit ?_
    refine goV (sd_loadB (vs := [_, _, _, _, _, .p none (.int _ _), .p none (.int _ _)]) ty64 rfl rfl (Nat.le_of_ble_eq_true rfl) rfl) (Nat.le_of_ble_eq_true rfl) ?_
    refine goC (sd_callF (v := .agg [_, _, _, _, _, .p none (.int _ _), .p none (.int _ _)]) rfl (c_toDic d hf (by omega)) (.inl rfl) rfl rfl rfl) (Nat.le_of_ble_eq_true rfl) ?_
    refine goN (sd_alloc (cs := [_, _, _, _, _, .p none (.int _ _), .p none (.int _ _)]) ty45 rfl rfl) (Nat.le_of_ble_eq_true rfl) ?_
    refine goW (sd_storeB (cs' := [_, _, _, _, _, .p none (.int _ _), .p none (.int _ _)]) ty45 rfl rfl (by first | exact trivial | exact ⟨_, rfl⟩) rfl (Nat.le_of_ble_eq_true rfl) rfl) ?_
    refine op_nil ?_
    refine k7 _ ?_
    refine VC_seq (fun K8 k8 => ?_)
    refine VC_lit ?_
    refine goV (sd_loadB (vs := [_, _, _, _, _, .p none (.int _ _), .p none (.int _ _)]) ty45 rfl rfl (Nat.le_of_ble_eq_true rfl) rfl) (Nat.le_of_ble_eq_true rfl) ?_
    refine goV (sd_callF (v := .p none (.bool _)) rfl (c_okDic_impl (small_dic (d := d) (by omega)) rfl) (.inl rfl) rfl rfl rfl) (Nat.le_of_ble_eq_true rfl) ?_
    refine goV (sd_assign (v := .p none (.bool _)) rfl) (Nat.le_of_ble_eq_true rfl) ?_
    refine op_nil ?_
    refine k8 _ ?_
    refine VC_seq (fun K9 k9 => ?_)
    refine VC_seq (fun K10 k10 => ?_)
    refine VC_lit ?_
    refine goV (sd_move (v := .p none (.bool _)) rfl) (Nat.le_of_ble_eq_true rfl) ?_
    refine goV (sd_move (v := .p none (.bool _)) rfl) (Nat.le_of_ble_eq_true rfl) ?_
    refine goV (sd_neq_bool Try.underlying4 rfl rfl) (Nat.le_of_ble_eq_true rfl) ?_
    refine op_nil ?_
    refine k10 _ ?_
    refine VC_cond rfl (fun c1 => absurd c1 (by simp)) (fun c1 => ?_)
    refine VC_skip ?_
    refine k9 _ ?_
    refine VC_seq (fun K11 k11 => ?_)
    refine VC_seq (fun K12 k12 => ?_)
    refine VC_drawn mixed ?_
    refine dgo (sd_loadB (vs := [_, _, _, _, _, .p none (.int _ _), .p none (.int _ _)]) ty45 rfl rfl (Nat.le_of_ble_eq_true rfl) rfl) (by kernel_rfl) (dstOk (Nat.le_of_ble_eq_true rfl)) (by kernel_rfl) ?_
    refine dgo (sd_loadB (vs := [_, _, _, _, _, .p none (.int _ _), .p none (.int _ _)]) ty64 rfl rfl (Nat.le_of_ble_eq_true rfl) rfl) (by kernel_rfl) (dstOk (Nat.le_of_ble_eq_true rfl)) (by kernel_rfl) ?_
    refine dgo (sd_callF (v := .agg [_, _, _, _, _, .p none (.int _ _), .p none (.int _ _)]) rfl (c_toDic d hf (by omega)) (.inl rfl) rfl rfl rfl) (by kernel_rfl) (dstOk (Nat.le_of_ble_eq_true rfl)) (by kernel_rfl) ?_
    refine dgo (sd_callF (v := .p none (.bool _)) rfl (c_eqDic d hf) (.inl rfl) rfl rfl rfl) (by kernel_rfl) (dstOk (Nat.le_of_ble_eq_true rfl)) (by kernel_rfl) ?_
    refine dgo (sd_not rfl) (by kernel_rfl) (dstOk (Nat.le_of_ble_eq_true rfl)) (by kernel_rfl) ?_
    refine dnil ⟨by kernel_rfl, ?_⟩
    refine k12 _ ?_
    refine VC_cond rfl (fun c2 => absurd c2 (by first | decide | simp)) (fun c2 => ?_)
    refine VC_skip ?_
    refine k11 _ ?_
    refine VC_seq (fun K13 k13 => ?_)
    refine VC_lit ?_
    refine goV (sd_assign (v := .p none _) rfl) (Nat.le_of_ble_eq_true rfl) ?_
    refine op_nil ?_
    refine k13 _ ?_
    refine VC_ret ?_
    show Fin _ _ _ _ _ _
    refine fin0 (xs := [.p none (.bool _)]) (.inr rfl) ⟨_, _, rfl, rfl, rfl⟩ ?_
    show AV.p none (.bool _) = _
    rfl
  · refine VC_lit ?_
    refine goV (sd_loadB (vs := [_, _, _, _, _, .p none (.int _ _), .p none (.int _ _)]) ty64 rfl rfl (Nat.le_of_ble_eq_true rfl) rfl) (Nat.le_of_ble_eq_true rfl) ?_
    refine goV (sd_move (v := .p none (.int _ _)) rfl) (Nat.le_of_ble_eq_true rfl) ?_
    refine goV (sd_callF (v := .p none (.int _ _)) rfl (c_szDic hf (by omega) (by omega) (szStep_no hs0)) (.inl rfl) rfl rfl rfl) (Nat.le_of_ble_eq_true rfl) ?_
    refine goV (sd_assign (v := .p none (.int _ _)) rfl) (Nat.le_of_ble_eq_true rfl) ?_
    refine op_nil ?_
    refine k3 _ ?_
    refine VC_seq (fun K14 k14 => ?_)
    refine VC_seq (fun K15 k15 => ?_)
    refine VC_lit ?_
    refine goV (sd_move (v := .p none (.int _ _)) rfl) (Nat.le_of_ble_eq_true rfl) ?_
    refine goV (sd_lss rfl rfl) (Nat.le_of_ble_eq_true rfl) ?_
    refine op_nil ?_
    refine k15 _ ?_
    refine VC_cond rfl (fun c0 => ?_) (fun c0 => absurd c0 (by simp))
    refine VC_seq (fun K16 k16 => ?_)
    refine VC_lit ?_
    refine goV (sd_assign (v := .p none _) rfl) (Nat.le_of_ble_eq_true rfl) ?_
    refine op_nil ?_
    refine k16 _ ?_
    refine VC_ret ?_
    show Fin _ _ _ _ _ _
    refine fin0 (xs := [.p none (.bool _)]) (.inr rfl) ⟨_, _, rfl, rfl, rfl⟩ ?_
    show AV.p none (.bool _) = _
    rfl
end Go.Proofs.Ytcgjlddpbkponaa
