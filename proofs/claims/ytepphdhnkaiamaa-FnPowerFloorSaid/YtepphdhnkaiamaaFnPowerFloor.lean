/-
  For every input the law FnPowerFloor returns true: PowerFloor gives the greatest size that is not above the power of two, for small numerators; its arguments read as before. No condition.
-/
import Derived.Test.YtepphdhnkaiamaaFnPowerFloorW
import Derived.Test.YtepphdhnkaiamaaFr
namespace Go.Proofs.Ytepphdhnkaiamaa.fnPowerFloor
open Go.ChangeShapes Go.WideShapes Go.ChangeAt Go.RowKit
open Go.ChangeMaps (open_string shut_string)
set_option linter.unusedVariables false

set_option maxRecDepth 100000 in
theorem lifted (os : Os) (started : os.Started) (H : Type) (enc : TypeId × Value → H) :
    ReturnsInHanded {} Try.checked os 4 .any (Rows.fnPowerFloorSpec.pre6 enc Try.prog Try.f4 Rows.fnPowerFloorRow.domain false) (Rows.fnPowerFloorSpec.post enc Try.prog Try.f4 false true false false) := by
  refine returnsInHanded_of_change (C := Try.checked) fr_own started (by kernel_rfl) Try.func4
    (ChangeSpec.witness6 (enc := enc) (C := Try.checked) false ⟨#[], #[.slice none 0 0], []⟩ 8 (by kernel_rfl) (by kernel_rfl) (by kernel_rfl) (by kernel_rfl)) ?_
  intro W base args ds gs before hval0 hW hcnd _
  have hval : ∀ (j : Nat) t v, Try.f4.params[j]? = some t → args[j]? = some v → Value.okWide Try.prog W .any base t v := hval0
  have hW' := hW
  obtain ⟨p, q, hA0, hV, rfl, hfz, hnd⟩ := hW
  have hA : DataW.TrodAll enc Try.prog W 0 (fun _ => true) true Try.f4.params.toList args.toList ds p := hA0
  rw [Try.params4] at hA hval
  obtain ⟨v0, vs0, d0, ds0, p0, q0, hargs, rfl, rfl, h0, r0⟩ := trodAll_cons hA
  obtain ⟨rfl, rfl, rfl⟩ := trodAll_nil r0
  obtain rfl : args = #[v0] := by cases args; simp_all
  obtain ⟨rfl, rfl⟩ := trodVars_none hV
  obtain ⟨s0, len0, cap0, rfl⟩ := okWide_slice Try.underlying22 (hval 0 22 v0 rfl rfl)
  have k0 := h0
  have lt0 : ∀ x ∈ p0, x.block < W.heap.size := by obtain ⟨m, hm⟩ := k0; exact DataW.trod_lt m _ _ _ hm
  obtain ⟨x0, w0⟩ := (by obtain ⟨m, hm⟩ := h0; exact openByteS hm : ∃ x, RByteS W [.slice s0 len0 cap0] x)
  clear hA0 hval0
  refine (walk W _ _ w0).mono fun e W' ⟨he, bel⟩ => ?_
  subst he
  exact ⟨_, rfl, _, _, _, [], _, [], hW', trodAll_mk1 (shut_bool Try.underlying4 _), (trodAll_cons_mk (Below.trod fr_laid (by kernel_rfl) (of_decide_eq_true (by kernel_rfl)) k0 bel lt0) trodAll_mk0), rfl, bel.frame _, fun h => by cases h⟩

theorem c_inPlace : (Rows.fnPowerFloorRow.inPlace == Try.prog.inPlace 4) = true := by kernel_rfl
theorem c_unfollowed : (Rows.fnPowerFloorRow.unfollowed == Try.prog.unfollowed 4) = true := by kernel_rfl
theorem c_recurses : (Rows.fnPowerFloorRow.recurses == Try.prog.recurses 4) = true := by kernel_rfl
theorem c_named : (Rows.fnPowerFloorRow.named == Try.prog.varsNamed 4) = true := by kernel_rfl
theorem c_tie : namedTie Try.prog Rows.fnPowerFloorRow.named Rows.fnPowerFloorSpec.vars = true := by kernel_rfl
theorem c_wrap : Try.f4.isWrapper Try.prog Rows.fnPowerFloorRow.wrapper Rows.fnPowerFloorRow.mainSum := by unfold Func.isWrapper; first | (rw [if_pos (by decide +kernel)]; kernel_rfl) | (rw [if_neg (by decide +kernel)]; exact ⟨rfl, rfl⟩)
theorem c_inst : Try.f4.isInstance Try.prog Rows.fnPowerFloorRow.origin Rows.fnPowerFloorRow.targs := of_decide_eq_true (by kernel_rfl)
theorem c_func : Try.prog.funcNamed Rows.fnPowerFloorRow.func = some 4 := by kernel_rfl
theorem c_keys : (Rows.fnPowerFloorRow.plainKeys == Try.prog.plainKeys) = true := fr_keys
theorem c_lifts : (Rows.fnPowerFloorRow.lifted == Try.prog.liftsFinal) = true := fr_lifts
theorem c_make : (Try.prog.make == some Rows.fnPowerFloorRow.make) = true := fr_make
theorem closed : joinedFacts Try.prog 4 Try.f4 Rows.fnPowerFloorSpec Rows.fnPowerFloorRow = true := by
  unfold joinedFacts
  rw [fr_laid, fr_maps, fr_stops, fr_sk, fr_heard, fr_enter, c_inPlace, c_unfollowed, c_recurses, c_named, c_tie, c_keys, c_lifts, c_make]
  kernel_rfl
theorem over : Rows.fnPowerFloorRow.holds Try.pinned (OpenSpec.ofChange Rows.fnPowerFloorSpec) :=
  OpenClaim.holds_of_wide 4 Try.f4 rfl rfl rfl rfl rfl rfl rfl ⟨rfl, rfl, rfl, rfl, rfl⟩ rfl rfl rfl rfl rfl c_func Try.func4 closed c_inst c_wrap (fun os started H enc _ => lifted os started H enc)

theorem proved : Rows.FnPowerFloorSaid := over
end Go.Proofs.Ytepphdhnkaiamaa.fnPowerFloor
