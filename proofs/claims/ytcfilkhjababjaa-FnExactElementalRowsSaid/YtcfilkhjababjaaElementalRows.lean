/-
  For all arguments the program's ElementalRows returns what the reference's returns: the law FnExactElementalRows returns true and its arguments read as before. No condition.
-/
import Derived.Test.YtcfilkhjababjaaElementalRowsW
import Derived.Test.YtcfilkhjababjaaFr
namespace Go.Proofs.Ytcfilkhjababjaa.fnExactElementalRows
open Go.ChangeShapes Go.WideShapes Go.ChangeAt Go.RowKit
open Go.ChangeMaps (open_string shut_string)
set_option linter.unusedVariables false

set_option maxRecDepth 100000 in
theorem lifted (os : Os) (started : os.Started) (H : Type) (enc : TypeId × Value → H) :
    ReturnsInHanded {} Try.checked os 4 .any (Rows.fnExactElementalRowsSpec.pre6 enc Try.prog Try.f4 Rows.fnExactElementalRowsRow.domain false) (Rows.fnExactElementalRowsSpec.post enc Try.prog Try.f4 false true false false) := by
  refine returnsInHanded_of_change (C := Try.checked) fr_own started (by kernel_rfl) Try.func4
    (ChangeSpec.witness6 (enc := enc) (C := Try.checked) false ⟨#[], #[.int .i64 0], []⟩ 8 (by kernel_rfl) (by kernel_rfl) (by kernel_rfl) (by kernel_rfl)) ?_
  intro W base args ds gs before hval0 hW hcnd _
  have hval : ∀ (j : Nat) t v, Try.f4.params[j]? = some t → args[j]? = some v → Value.okWide Try.prog W .any base t v := hval0
  have hW' := hW
  obtain ⟨p, q, hA0, hV, rfl, hfz, hnd⟩ := hW
  have hA : DataW.TrodAll enc Try.prog W 0 (fun _ => true) true Try.f4.params.toList args.toList ds p := hA0
  rw [Try.params4] at hA hval
  obtain ⟨v0, vs0, d0, ds0, p0, q0, hargs, rfl, rfl, h0, r0⟩ := trodAll_cons hA
  obtain ⟨rfl, rfl, rfl⟩ := trodAll_nil r0
  obtain rfl : args = #[v0] := by cases args; simp_all
  obtain ⟨rfl, rfl⟩ := trodVars_none hV
  obtain ⟨a0, rfl, rfl, rfl, w0⟩ := open_int Try.underlying3 (hval 0 3 v0 rfl rfl) h0
  clear hA0 hval0
  refine (walk W a0 (fits_of_wf w0)).mono fun e W' ⟨he, bel⟩ => ?_
  subst he
  exact ⟨_, rfl, _, _, _, [], _, [], hW', trodAll_mk1 (shut_bool Try.underlying4 _), (trodAll_cons_mk (shut_int Try.underlying3 w0) trodAll_mk0), rfl, bel.frame _, fun h => by cases h⟩

theorem c_inPlace : (Rows.fnExactElementalRowsRow.inPlace == Try.prog.inPlace 4) = true := by kernel_rfl
theorem c_unfollowed : (Rows.fnExactElementalRowsRow.unfollowed == Try.prog.unfollowed 4) = true := by kernel_rfl
theorem c_recurses : (Rows.fnExactElementalRowsRow.recurses == Try.prog.recurses 4) = true := by kernel_rfl
theorem c_named : (Rows.fnExactElementalRowsRow.named == Try.prog.varsNamed 4) = true := by kernel_rfl
theorem c_tie : namedTie Try.prog Rows.fnExactElementalRowsRow.named Rows.fnExactElementalRowsSpec.vars = true := by kernel_rfl
theorem c_wrap : Try.f4.isWrapper Try.prog Rows.fnExactElementalRowsRow.wrapper Rows.fnExactElementalRowsRow.mainSum := by unfold Func.isWrapper; first | (rw [if_pos (by decide +kernel)]; kernel_rfl) | (rw [if_neg (by decide +kernel)]; exact ⟨rfl, rfl⟩)
theorem c_inst : Try.f4.isInstance Try.prog Rows.fnExactElementalRowsRow.origin Rows.fnExactElementalRowsRow.targs := of_decide_eq_true (by kernel_rfl)
theorem c_func : Try.prog.funcNamed Rows.fnExactElementalRowsRow.func = some 4 := by kernel_rfl
theorem c_keys : (Rows.fnExactElementalRowsRow.plainKeys == Try.prog.plainKeys) = true := fr_keys
theorem c_lifts : (Rows.fnExactElementalRowsRow.lifted == Try.prog.liftsFinal) = true := fr_lifts
theorem c_make : (Try.prog.make == some Rows.fnExactElementalRowsRow.make) = true := fr_make
theorem closed : joinedFacts Try.prog 4 Try.f4 Rows.fnExactElementalRowsSpec Rows.fnExactElementalRowsRow = true := by
  unfold joinedFacts
  rw [fr_laid, fr_maps, fr_stops, fr_sk, fr_heard, fr_enter, c_inPlace, c_unfollowed, c_recurses, c_named, c_tie, c_keys, c_lifts, c_make]
  kernel_rfl
theorem over : Rows.fnExactElementalRowsRow.holds Try.pinned (OpenSpec.ofChange Rows.fnExactElementalRowsSpec) :=
  OpenClaim.holds_of_wide 4 Try.f4 rfl rfl rfl rfl rfl rfl rfl ⟨rfl, rfl, rfl, rfl, rfl⟩ rfl rfl rfl rfl rfl c_func Try.func4 closed c_inst c_wrap (fun os started H enc _ => lifted os started H enc)

theorem proved : Rows.FnExactElementalRowsSaid := over
end Go.Proofs.Ytcfilkhjababjaa.fnExactElementalRows
