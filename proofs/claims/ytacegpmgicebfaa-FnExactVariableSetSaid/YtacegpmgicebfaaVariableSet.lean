/-
  For every []int the program's VariableSet returns what the reference's returns: the law FnExactVariableSet returns true and its argument reads as before. No condition.
-/
import Derived.Test.YtacegpmgicebfaaVarSet
import Derived.Test.YtacegpmgicebfaaOpen
namespace Go.Proofs.Ytacegpmgicebfaa.fnExactVariableSet
open Go.ChangeShapes Go.WideShapes Go.ChangeAt Go.RowKit
open Go.ChangeMaps (open_string shut_string)
set_option linter.unusedVariables false


set_option maxHeartbeats 400000 in
theorem walk (w : World) (v : Value) (l : List Int) (h : IntsR w v l) :
    Calls Try.prog 4 #[v] w fun e w' => e = .returned (.bool true) ∧ Below w.heap.size w w' := by
  have hform := h.form
  obtain ⟨A, c, hv, hc1, hc2⟩ := hform
  unfold maxLen at hc2
  by_cases hl : 1048576 < l.length
  · subst hv
    go_enter Try.func4, Try.ntmps4
    go_wp2_with fail
    go_ret
    exact ⟨rfl, Below.refl _ _⟩
  · subst hv
    go_enter Try.func4, Try.ntmps4
    go_wp2_with fail
    refine (toIntS_any _ l w h (by omega)).mono ?_
    rintro e w1 ⟨v1, rfl, o1, b1⟩
    have H1 := Lib.hid (IntsR.of_own o1 h.fits)
    clear o1
    go_wp2_with fail
    refine (variableSet_spec _ l _ H1.out).mono ?_
    rintro e w2 ⟨rfl, rfl⟩
    go_wp2_with fail
    refine (toIntS_any _ l w1 (h.below b1 (Nat.le_refl _)) (by omega)).mono ?_
    rintro e w2 ⟨v2, rfl, o2, b2⟩
    have H2 := Lib.hid (IntsR.of_own o2 h.fits)
    clear o2
    go_wp2_with fail
    refine (variableSet_impl _ l _ H2.out).mono ?_
    rintro e w3 ⟨rfl, rfl⟩
    go_wp2_with fail
    have HB : Hid (Below w.heap.size w w2) := b1.trans (b2.mono b1.size)
    have b12 := HB.out
    refine (toIntS_any _ l w2 (h.below b12 (Nat.le_refl _)) (by omega)).mono ?_
    rintro e w3 ⟨v3, rfl, o3, b3⟩
    have H3 := Lib.hid (IntsR.of_own o3 h.fits)
    clear o3
    go_wp2_with fail
    refine (eqIntS_any _ _ l l w3 (H2.out.below b3 (Nat.le_refl _)) H3.out).mono ?_
    rintro e w4 ⟨rfl, n, rfl⟩
    rw [eqL_self]
    go_wp2_with fail
    go_ret
    exact ⟨rfl, below_drewN (b12.trans (b3.mono b12.size)) n⟩

theorem own : ownKnob Try.prog.godebug = none := by kernel_rfl
theorem laidOut : laidOutB Try.prog = true := by kernel_rfl

set_option maxRecDepth 100000 in
theorem lifted (os : Os) (started : os.Started) (H : Type) (enc : TypeId × Value → H) :
    ReturnsInHanded {} Try.checked os 4 .any (Rows.fnExactVariableSetSpec.pre6 enc Try.prog Try.f4 Rows.fnExactVariableSetRow.domain false) (Rows.fnExactVariableSetSpec.post enc Try.prog Try.f4 false true false false) := by
  refine returnsInHanded_of_change (C := Try.checked) own started (by kernel_rfl) Try.func4
    (ChangeSpec.witness6 (enc := enc) (C := Try.checked) false ⟨#[], #[.slice none 0 0], []⟩ 8 (by kernel_rfl) (by kernel_rfl) (by kernel_rfl) (by kernel_rfl)) ?_
  intro W base args ds gs before hval0 hW hcnd _
  have hval : ∀ (j : Nat) t v, Try.f4.params[j]? = some t → args[j]? = some v → Value.okWide Try.prog W .any base t v := hval0
  have hW' := hW
  obtain ⟨p, q, hA0, hV, rfl, hfz, hnd⟩ := hW
  have hA : DataW.TrodAll enc Try.prog W 0 (fun _ => true) true Try.f4.params.toList args.toList ds p := hA0
  rw [Try.params4] at hA hval
  obtain ⟨v0, vs0, d0, ds0, p0, q0, hargs, rfl, rfl, h0, r0⟩ := trodAll_cons hA
  obtain ⟨rfl, rfl, rfl⟩ := trodAll_nil r0
  obtain rfl : args = #[v0] := by cases args; simp_all
  obtain ⟨rfl, rfl⟩ := trodVars_none hV
  obtain ⟨s0, len0, cap0, rfl⟩ := okWide_slice Try.underlying24 (hval 0 24 v0 rfl rfl)
  have k0 := h0
  have lt0 : ∀ x ∈ p0, x.block < W.heap.size := by obtain ⟨m, hm⟩ := k0; exact DataW.trod_lt m _ _ _ hm
  obtain ⟨x0, w0⟩ := (by obtain ⟨m, hm⟩ := h0; exact open_ints hm : ∃ x, SliceR 1 IntR W [.slice s0 len0 cap0] x)
  clear hA0 hval0
  refine (walk W _ _ w0).mono fun e W' ⟨he, bel⟩ => ?_
  subst he
  exact ⟨_, rfl, _, _, _, [], _, [], hW', trodAll_mk1 (shut_bool Try.underlying4 _), (trodAll_cons_mk (Below.trod laidOut (by kernel_rfl) (of_decide_eq_true (by kernel_rfl)) k0 bel lt0) trodAll_mk0), rfl, bel.frame _, fun h => by cases h⟩

theorem over : Rows.fnExactVariableSetRow.holds Try.pinned (OpenSpec.ofChange Rows.fnExactVariableSetSpec) :=
  OpenClaim.holds_of_wide 4 Try.f4 rfl rfl rfl rfl rfl rfl rfl ⟨rfl, rfl, rfl, rfl, rfl⟩ rfl rfl rfl rfl rfl (by kernel_rfl) Try.func4 (by kernel_rfl)
    (of_decide_eq_true (by kernel_rfl)) (by unfold Func.isWrapper; first | (rw [if_pos (by decide +kernel)]; kernel_rfl) | (rw [if_neg (by decide +kernel)]; exact ⟨rfl, rfl⟩))
    (fun os started H enc _ => lifted os started H enc)

theorem proved : Rows.FnExactVariableSetSaid := over
end Go.Proofs.Ytacegpmgicebfaa.fnExactVariableSet
