/-
  For every input the law FnEntropyRows returns true: cardinality obeys the elemental rows, and a drawn entropy program is these rows together with the constraints; its arguments read as before. No condition.
-/
import Derived.Test.YtafmaholhcgakaaFnEntropyRowsW
import Derived.Test.Ytafmaholhcgakaaer8
namespace Go.Proofs.Ytafmaholhcgakaa.fnEntropyRows
open Go.ChangeShapes Go.WideShapes Go.ChangeAt Go.RowKit
open Go.ChangeMaps (open_string shut_string)
set_option linter.unusedVariables false

set_option maxRecDepth 100000 in
theorem lifted (os : Os) (started : os.Started) (H : Type) (enc : TypeId × Value → H) :
    ReturnsInHanded {} Try.checked os 3 .any (Rows.fnEntropyRowsSpec.pre6 enc Try.prog Try.f3 Rows.fnEntropyRowsRow.domain false) (Rows.fnEntropyRowsSpec.post enc Try.prog Try.f3 false true false false) := by
  refine returnsInHanded_of_change (C := Try.checked) fr_own started (by kernel_rfl) Try.func3
    (ChangeSpec.witness6 (enc := enc) (C := Try.checked) false ⟨#[], #[.slice none 0 0], []⟩ 8 (by kernel_rfl) (by kernel_rfl) (by kernel_rfl) (by kernel_rfl)) ?_
  intro W base args ds gs before hval0 hW hcnd _
  have hval : ∀ (j : Nat) t v, Try.f3.params[j]? = some t → args[j]? = some v → Value.okWide Try.prog W .any base t v := hval0
  have hW' := hW
  obtain ⟨p, q, hA0, hV, rfl, hfz, hnd⟩ := hW
  have hA : DataW.TrodAll enc Try.prog W 0 (fun _ => true) true Try.f3.params.toList args.toList ds p := hA0
  rw [Try.params3] at hA hval
  obtain ⟨v0, vs0, d0, ds0, p0, q0, hargs, rfl, rfl, h0, r0⟩ := trodAll_cons hA
  obtain ⟨rfl, rfl, rfl⟩ := trodAll_nil r0
  obtain rfl : args = #[v0] := by cases args; simp_all
  obtain ⟨rfl, rfl⟩ := trodVars_none hV
  obtain ⟨s0, len0, cap0, rfl⟩ := okWide_slice Try.underlying22 (hval 0 22 v0 rfl rfl)
  have k0 := h0
  have lt0 : ∀ x ∈ p0, x.block < W.heap.size := by obtain ⟨m, hm⟩ := k0; exact DataW.trod_lt m _ _ _ hm
  obtain ⟨x0, w0⟩ := (by obtain ⟨m, hm⟩ := h0; exact openByteS hm : ∃ x, RByteS W [.slice s0 len0 cap0] x)
  clear hA0 hval0
  refine (walk W _ _ w0).mono fun e W' ⟨he, bel⟩ => ?_
  subst he
  exact ⟨_, rfl, _, _, _, [], _, [], hW', trodAll_mk1 (shut_bool Try.underlying4 _), (trodAll_cons_mk (Below.trod fr_laid (by kernel_rfl) (of_decide_eq_true (by kernel_rfl)) k0 bel lt0) trodAll_mk0), rfl, bel.frame _, fun h => by cases h⟩

theorem c_inPlace : (Rows.fnEntropyRowsRow.inPlace == Try.prog.inPlace 3) = true := by kernel_rfl
theorem c_unfollowed : (Rows.fnEntropyRowsRow.unfollowed == Try.prog.unfollowed 3) = true := by kernel_rfl
theorem c_recurses : (Rows.fnEntropyRowsRow.recurses == Try.prog.recurses 3) = true := by kernel_rfl
theorem c_named : (Rows.fnEntropyRowsRow.named == Try.prog.varsNamed 3) = true := by kernel_rfl
theorem c_tie : namedTie Try.prog Rows.fnEntropyRowsRow.named Rows.fnEntropyRowsSpec.vars = true := by kernel_rfl
theorem c_wrap : Try.f3.isWrapper Try.prog Rows.fnEntropyRowsRow.wrapper Rows.fnEntropyRowsRow.mainSum := by unfold Func.isWrapper; first | (rw [if_pos (by decide +kernel)]; kernel_rfl) | (rw [if_neg (by decide +kernel)]; exact ⟨rfl, rfl⟩)
theorem c_inst : Try.f3.isInstance Try.prog Rows.fnEntropyRowsRow.origin Rows.fnEntropyRowsRow.targs := of_decide_eq_true (by kernel_rfl)
theorem c_func : Try.prog.funcNamed Rows.fnEntropyRowsRow.func = some 3 := by kernel_rfl
theorem c_keys : (Rows.fnEntropyRowsRow.plainKeys == Try.prog.plainKeys) = true := fr_keys
theorem c_lifts : (Rows.fnEntropyRowsRow.lifted == Try.prog.liftsFinal) = true := fr_lifts
theorem c_make : (Try.prog.make == some Rows.fnEntropyRowsRow.make) = true := fr_make
theorem closed : joinedFacts Try.prog 3 Try.f3 Rows.fnEntropyRowsSpec Rows.fnEntropyRowsRow = true := by
  unfold joinedFacts
  rw [fr_laid, fr_maps, fr_stops, fr_sk, fr_heard, fr_enter, c_inPlace, c_unfollowed, c_recurses, c_named, c_tie, c_keys, c_lifts, c_make]
  kernel_rfl
theorem over : Rows.fnEntropyRowsRow.holds Try.pinned (OpenSpec.ofChange Rows.fnEntropyRowsSpec) :=
  OpenClaim.holds_of_wide 3 Try.f3 rfl rfl rfl rfl rfl rfl rfl ⟨rfl, rfl, rfl, rfl, rfl⟩ rfl rfl rfl rfl rfl c_func Try.func3 closed c_inst c_wrap (fun os started H enc _ => lifted os started H enc)

theorem proved : Rows.FnEntropyRowsSaid := over
end Go.Proofs.Ytafmaholhcgakaa.fnEntropyRows
