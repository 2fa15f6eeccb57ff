/-
  The law on pivots, drawn.
-/
import Derived.Test.YtepphdhnkaiamaaYh
namespace Go.Proofs.Ytepphdhnkaiamaa
open Go.ChangeShapes Go.WideShapes Go.ChangeAt Go.RowKit
set_option linter.unusedVariables false
set_option linter.unusedSimpArgs false
set_option maxRecDepth 100000
set_option maxHeartbeats 4000000
theorem lawFnPivot (a0 : List Int) (h0 : FByteS a0) : Con Try.prog 5 [.one (.sl 5 1 (a0.map byD))] (vB true) [] := by
 refine con_y tbOk mixedW Try.func5 (by kernel_rfl) (.call (vB (decide ((1048576 : Int) < (a0.length : Int)))) [] <| .br (.fin []) (callP (k_d_piv a0) <| callP (k_piv_impl (pvD a0) (pvi a0) (pvj a0)) <| callP (k_piv_spec (pvD a0) (pvi a0) (pvj a0)) <| .no <| .call (vB (okDic (pvD a0))) [] <| .call (vB (okDic (pvD a0))) [] <| .lit <| .lit <| .no <| .call (vI (entC (pvD a0))) [] <| .call (vI (entC (pvD a0))) [] <| .lit <| .lit <| .no <| .call (vI (levP (pvD a0) (pvj a0))) [] <| .call (vI (levP (pvD a0) (pvj a0))) [] <| .lit <| .lit <| .no <| .br (.len ((((pivP (pvD a0) (pvi a0) (pvj a0)).1).basic).length) <| .fin []) (callP (k_piv_impl ((pivP (pvD a0) (pvi a0) (pvj a0)).1) (pvi a0) (pvj a0)) <| .call (vB (okDic ((pivP (pvD a0) (pvi a0) (pvj a0)).1))) [] <| .no <| .len ((((pivP (pvD a0) (pvi a0) (pvj a0)).1).basic).length) <| .elem _ intD (((pivP (pvD a0) (pvi a0) (pvj a0)).1).basic) (fun e81 => .len (((pvD a0).others).length) <| .elem _ intD ((pvD a0).others) (fun e86 => .lit <| .lit <| .no <| .len ((((pivP (pvD a0) (pvi a0) (pvj a0)).1).others).length) <| .elem _ intD (((pivP (pvD a0) (pvi a0) (pvj a0)).1).others) (fun e94 => .len (((pvD a0).basic).length) <| .elem _ intD ((pvD a0).basic) (fun e99 => .lit <| .lit <| .no <| .br (.fin []) (.call (vB (decide ((((pivP ((pivP (pvD a0) (pvi a0) (pvj a0)).1) (pvi a0) (pvj a0)).1).basic) = ((pvD a0).basic)))) [] <| .lit <| .yes <| .call (vB (decide ((((pivP ((pivP (pvD a0) (pvi a0) (pvj a0)).1) (pvi a0) (pvj a0)).1).others) = ((pvD a0).others)))) [] <| .lit <| .lit <| .lit <| .yes <| .fin [])))))))) (p := (a0.map byD).length ≤ 9223372036854775807 → K_big_law a0 ∧ (((decide ((1048576 : Int) < (a0.length : Int))) = true → (true) = true ∧ True) ∧ ((decide ((1048576 : Int) < (a0.length : Int))) = false → K_d_piv a0 ∧ (K_piv_impl (pvD a0) (pvi a0) (pvj a0) ∧ (K_piv_spec (pvD a0) (pvi a0) (pvj a0) ∧ ((!(((pivP (pvD a0) (pvi a0) (pvj a0)).2) == ((pivP (pvD a0) (pvi a0) (pvj a0)).2))) = false ∧ (K_dic_impl (pvD a0) ∧ (K_dic_spec (pvD a0) ∧ ((!((okDic (pvD a0)) == (okDic (pvD a0)))) = false ∧ (K_entW_impl (pvD a0) ∧ (K_enc_spec (pvD a0) ∧ ((!(decide ((entC (pvD a0)) = (entC (pvD a0))))) = false ∧ (K_levW_impl (pvD a0) (pvj a0) ∧ (K_lev_spec (pvD a0) (pvj a0) ∧ ((!(decide ((levP (pvD a0) (pvj a0)) = (levP (pvD a0) (pvj a0))))) = false ∧ (((!((pivP (pvD a0) (pvi a0) (pvj a0)).2)) = true → Lm intD (((pivP (pvD a0) (pvi a0) (pvj a0)).1).basic) ∧ (decide ((((((pivP (pvD a0) (pvi a0) (pvj a0)).1).basic).length : Nat) : Int) = (0 : Int))) = true ∧ True) ∧ ((!((pivP (pvD a0) (pvi a0) (pvj a0)).2)) = false → K_piv_impl ((pivP (pvD a0) (pvi a0) (pvj a0)).1) (pvi a0) (pvj a0) ∧ (K_dic_spec ((pivP (pvD a0) (pvi a0) (pvj a0)).1) ∧ ((!(okDic ((pivP (pvD a0) (pvi a0) (pvj a0)).1))) = false ∧ (0 ≤ (pvi a0) ∧ Lm intD (((pivP (pvD a0) (pvi a0) (pvj a0)).1).basic) ∧ (pvi a0) < (((((pivP (pvD a0) (pvi a0) (pvj a0)).1).basic).length : Nat) : Int) ∧ Em intD (((pivP (pvD a0) (pvi a0) (pvj a0)).1).basic) ((pvi a0).toNat) fun e81 => 0 ≤ (pvj a0) ∧ Lm intD ((pvD a0).others) ∧ (pvj a0) < ((((pvD a0).others).length : Nat) : Int) ∧ Em intD ((pvD a0).others) ((pvj a0).toNat) fun e86 => (!(decide (e81 = e86))) = false ∧ (0 ≤ (pvj a0) ∧ Lm intD (((pivP (pvD a0) (pvi a0) (pvj a0)).1).others) ∧ (pvj a0) < (((((pivP (pvD a0) (pvi a0) (pvj a0)).1).others).length : Nat) : Int) ∧ Em intD (((pivP (pvD a0) (pvi a0) (pvj a0)).1).others) ((pvj a0).toNat) fun e94 => 0 ≤ (pvi a0) ∧ Lm intD ((pvD a0).basic) ∧ (pvi a0) < ((((pvD a0).basic).length : Nat) : Int) ∧ Em intD ((pvD a0).basic) ((pvi a0).toNat) fun e99 => (!(decide (e94 = e99))) = false ∧ (((!((pivP ((pivP (pvD a0) (pvi a0) (pvj a0)).1) (pvi a0) (pvj a0)).2)) = true → (true) = true ∧ True) ∧ ((!((pivP ((pivP (pvD a0) (pvi a0) (pvj a0)).1) (pvi a0) (pvj a0)).2)) = false → K_same_law (((pivP ((pivP (pvD a0) (pvi a0) (pvj a0)).1) (pvi a0) (pvj a0)).1).basic) ((pvD a0).basic) ∧ (decide ((((pivP ((pivP (pvD a0) (pvi a0) (pvj a0)).1) (pvi a0) (pvj a0)).1).basic) = ((pvD a0).basic))) = true ∧ K_same_law (((pivP ((pivP (pvD a0) (pvi a0) (pvj a0)).1) (pvi a0) (pvj a0)).1).others) ((pvD a0).others) ∧ (decide ((((pivP ((pivP (pvD a0) (pvi a0) (pvj a0)).1) (pvi a0) (pvj a0)).1).others) = ((pvD a0).others))) = true ∧ ((((((pivP ((pivP (pvD a0) (pvi a0) (pvj a0)).1) (pvi a0) (pvj a0)).1).value).num) == (((pvD a0).value).num)) && ((((((pivP ((pivP (pvD a0) (pvi a0) (pvj a0)).1) (pvi a0) (pvj a0)).1).value).den) == (((pvD a0).value).den)) && true)) = true ∧ True))))))))))))))))))))))) (by kernel_rfl) ?_
 intro n0
 simp only [List.length_map] at n0
 refine ⟨big_law a0, fun c0 => ?_, fun c0 => ?_⟩
 ·replace c0 := yq c0
  refine ⟨?_, trivial⟩
  ·first | rfl | (rw [hb0]; rfl) | (rw [hB.2.2]; simp; done) | (simp [*]; done)
 ·replace c0 := nq c0
  have hl : a0.length ≤ 1048576 := by omega
  have hz : (pvD a0).basic.length ≤ 65 ∧ (pvD a0).others.length ≤ 15 := dict_len a0 (curN a0)
  refine ⟨d_piv a0 (by assumption), piv_impl (pvD a0) (pvi a0) (pvj a0) (by omega) (by omega), piv_spec (pvD a0) (pvi a0) (pvj a0) (by omega) (by omega), by first | (simp; done) | (simp; omega) | (simp [*]; done), dic_impl (pvD a0) (by omega) (by omega), dic_spec (pvD a0) (by omega) (by omega), by first | (simp; done) | (simp; omega) | (simp [*]; done), entW_impl (pvD a0) (by omega) (by omega), enc_spec (pvD a0) (by omega) (by omega), by first | (simp; done) | (simp; omega) | (simp [*]; done), levW_impl (pvD a0) (pvj a0) (by omega) (by omega), lev_spec (pvD a0) (pvj a0) (by omega) (by omega), by first | (simp; done) | (simp; omega) | (simp [*]; done), fun c2 => ?_, fun c2 => ?_⟩
  ·replace c2 := nt c2
   have hb0 : (pivP (pvD a0) (pvi a0) (pvj a0)).1.basic = [] := pivP_zero (by simpa using c2)
   refine ⟨List.length_map _, ?_, trivial⟩
   ·first | rfl | (rw [hb0]; rfl) | (rw [hB.2.2]; simp; done) | (simp [*]; done)
  ·replace c2 := nf c2
   have hX : (pivP (pvD a0) (pvi a0) (pvj a0)).2 = true := by simpa using c2
   have hxo := pivP_ok hX
   have hxl := pivP_lens hX
   obtain ⟨_, x2, x3, _, _⟩ := pivP_get hX
   obtain ⟨sw1, sw2⟩ := pivP_swap hX
   refine ⟨piv_impl ((pivP (pvD a0) (pvi a0) (pvj a0)).1) (pvi a0) (pvj a0) (by omega) (by omega), dic_spec ((pivP (pvD a0) (pvi a0) (pvj a0)).1) (by omega) (by omega), by simp [hxo], by omega, List.length_map _, by omega, rfl, by omega, fun e81 h81 => ?_⟩
   refine ⟨by omega, List.length_map _, by omega, rfl, by omega, fun e86 h86 => ?_⟩
   have hs1 : e81 = e86 := by rw [h81, h86] at sw1; injection sw1
   refine ⟨by simp [hs1], by omega, List.length_map _, by omega, rfl, by omega, fun e94 h94 => ?_⟩
   refine ⟨by omega, List.length_map _, by omega, rfl, by omega, fun e99 h99 => ?_⟩
   have hs2 : e94 = e99 := by rw [h94, h99] at sw2; injection sw2
   refine ⟨by first | (simp; done) | (simp; omega) | (simp [*]; done), fun g104 => ?_, fun g104 => ?_⟩
   ·replace g104 := nt g104
    refine ⟨?_, trivial⟩
    ·first | rfl | (rw [hb0]; rfl) | (rw [hB.2.2]; simp; done) | (simp [*]; done)
   ·replace g104 := nf g104
    have hB := pivP_back hX (by first | exact g104 | simpa using g104)
    refine ⟨same_law (((pivP ((pivP (pvD a0) (pvi a0) (pvj a0)).1) (pvi a0) (pvj a0)).1).basic) ((pvD a0).basic), decide_eq_true hB.1, same_law (((pivP ((pivP (pvD a0) (pvi a0) (pvj a0)).1) (pvi a0) (pvj a0)).1).others) ((pvD a0).others), decide_eq_true hB.2.1, ?_, trivial⟩
    ·first | rfl | (rw [hb0]; rfl) | (rw [hB.2.2]; simp; done) | (simp [*]; done)
end Go.Proofs.Ytepphdhnkaiamaa
