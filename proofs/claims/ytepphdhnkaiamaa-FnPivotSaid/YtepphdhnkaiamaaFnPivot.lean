/-
  For every input the law FnPivot returns true: a pivot step keeps a drawn dictionary valid, exchanges one basic with one free variable, and a second one at the same place undoes it; its arguments read as before. No condition.
-/
import Derived.Test.YtepphdhnkaiamaaFnPivotW
import Derived.Test.YtepphdhnkaiamaaFr
namespace Go.Proofs.Ytepphdhnkaiamaa.fnPivot
open Go.ChangeShapes Go.WideShapes Go.ChangeAt Go.RowKit
open Go.ChangeMaps (open_string shut_string)
set_option linter.unusedVariables false

set_option maxRecDepth 100000 in
theorem lifted (os : Os) (started : os.Started) (H : Type) (enc : TypeId × Value → H) :
    ReturnsInHanded {} Try.checked os 5 .any (Rows.fnPivotSpec.pre6 enc Try.prog Try.f5 Rows.fnPivotRow.domain false) (Rows.fnPivotSpec.post enc Try.prog Try.f5 false true false false) := by
  refine returnsInHanded_of_change (C := Try.checked) fr_own started (by kernel_rfl) Try.func5
    (ChangeSpec.witness6 (enc := enc) (C := Try.checked) false ⟨#[], #[.slice none 0 0], []⟩ 8 (by kernel_rfl) (by kernel_rfl) (by kernel_rfl) (by kernel_rfl)) ?_
  intro W base args ds gs before hval0 hW hcnd _
  have hval : ∀ (j : Nat) t v, Try.f5.params[j]? = some t → args[j]? = some v → Value.okWide Try.prog W .any base t v := hval0
  have hW' := hW
  obtain ⟨p, q, hA0, hV, rfl, hfz, hnd⟩ := hW
  have hA : DataW.TrodAll enc Try.prog W 0 (fun _ => true) true Try.f5.params.toList args.toList ds p := hA0
  rw [Try.params5] at hA hval
  obtain ⟨v0, vs0, d0, ds0, p0, q0, hargs, rfl, rfl, h0, r0⟩ := trodAll_cons hA
  obtain ⟨rfl, rfl, rfl⟩ := trodAll_nil r0
  obtain rfl : args = #[v0] := by cases args; simp_all
  obtain ⟨rfl, rfl⟩ := trodVars_none hV
  obtain ⟨s0, len0, cap0, rfl⟩ := okWide_slice Try.underlying22 (hval 0 22 v0 rfl rfl)
  have k0 := h0
  have lt0 : ∀ x ∈ p0, x.block < W.heap.size := by obtain ⟨m, hm⟩ := k0; exact DataW.trod_lt m _ _ _ hm
  obtain ⟨x0, w0⟩ := (by obtain ⟨m, hm⟩ := h0; exact openByteS hm : ∃ x, RByteS W [.slice s0 len0 cap0] x)
  clear hA0 hval0
  refine (walk W _ _ w0).mono fun e W' ⟨he, bel⟩ => ?_
  subst he
  exact ⟨_, rfl, _, _, _, [], _, [], hW', trodAll_mk1 (shut_bool Try.underlying4 _), (trodAll_cons_mk (Below.trod fr_laid (by kernel_rfl) (of_decide_eq_true (by kernel_rfl)) k0 bel lt0) trodAll_mk0), rfl, bel.frame _, fun h => by cases h⟩

theorem c_inPlace : (Rows.fnPivotRow.inPlace == Try.prog.inPlace 5) = true := by kernel_rfl
theorem c_unfollowed : (Rows.fnPivotRow.unfollowed == Try.prog.unfollowed 5) = true := by kernel_rfl
theorem c_recurses : (Rows.fnPivotRow.recurses == Try.prog.recurses 5) = true := by kernel_rfl
theorem c_named : (Rows.fnPivotRow.named == Try.prog.varsNamed 5) = true := by kernel_rfl
theorem c_tie : namedTie Try.prog Rows.fnPivotRow.named Rows.fnPivotSpec.vars = true := by kernel_rfl
theorem c_wrap : Try.f5.isWrapper Try.prog Rows.fnPivotRow.wrapper Rows.fnPivotRow.mainSum := by unfold Func.isWrapper; first | (rw [if_pos (by decide +kernel)]; kernel_rfl) | (rw [if_neg (by decide +kernel)]; exact ⟨rfl, rfl⟩)
theorem c_inst : Try.f5.isInstance Try.prog Rows.fnPivotRow.origin Rows.fnPivotRow.targs := of_decide_eq_true (by kernel_rfl)
theorem c_func : Try.prog.funcNamed Rows.fnPivotRow.func = some 5 := by kernel_rfl
theorem c_keys : (Rows.fnPivotRow.plainKeys == Try.prog.plainKeys) = true := fr_keys
theorem c_lifts : (Rows.fnPivotRow.lifted == Try.prog.liftsFinal) = true := fr_lifts
theorem c_make : (Try.prog.make == some Rows.fnPivotRow.make) = true := fr_make
theorem closed : joinedFacts Try.prog 5 Try.f5 Rows.fnPivotSpec Rows.fnPivotRow = true := by
  unfold joinedFacts
  rw [fr_laid, fr_maps, fr_stops, fr_sk, fr_heard, fr_enter, c_inPlace, c_unfollowed, c_recurses, c_named, c_tie, c_keys, c_lifts, c_make]
  kernel_rfl
theorem over : Rows.fnPivotRow.holds Try.pinned (OpenSpec.ofChange Rows.fnPivotSpec) :=
  OpenClaim.holds_of_wide 5 Try.f5 rfl rfl rfl rfl rfl rfl rfl ⟨rfl, rfl, rfl, rfl, rfl⟩ rfl rfl rfl rfl rfl c_func Try.func5 closed c_inst c_wrap (fun os started H enc _ => lifted os started H enc)

theorem proved : Rows.FnPivotSaid := over
end Go.Proofs.Ytepphdhnkaiamaa.fnPivot
