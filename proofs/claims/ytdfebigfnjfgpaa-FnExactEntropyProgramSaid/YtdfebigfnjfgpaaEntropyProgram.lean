/-
  For all arguments the program's EntropyProgram returns what the reference's returns: the law FnExactEntropyProgram returns true and its arguments read as before. No condition.
-/
import Derived.Test.YtdfebigfnjfgpaaEntropyProgramW
import Derived.Test.YtdfebigfnjfgpaaQE7
namespace Go.Proofs.Ytdfebigfnjfgpaa.fnExactEntropyProgram
open Go.ChangeShapes Go.WideShapes Go.ChangeAt Go.RowKit
open Go.ChangeMaps (open_string shut_string)
set_option linter.unusedVariables false

set_option maxRecDepth 100000 in
theorem lifted (os : Os) (started : os.Started) (H : Type) (enc : TypeId × Value → H) :
    ReturnsInHanded {} Try.checked os 3 .any (Rows.fnExactEntropyProgramSpec.pre6 enc Try.prog Try.f3 Rows.fnExactEntropyProgramRow.domain false) (Rows.fnExactEntropyProgramSpec.post enc Try.prog Try.f3 false true false false) := by
  refine returnsInHanded_of_change (C := Try.checked) fr_own started (by kernel_rfl) Try.func3
    (ChangeSpec.witness6 (enc := enc) (C := Try.checked) false ⟨#[], #[.slice none 0 0, .int .i64 0], []⟩ 8 (by kernel_rfl) (by kernel_rfl) (by kernel_rfl) (by kernel_rfl)) ?_
  intro W base args ds gs before hval0 hW hcnd _
  have hval : ∀ (j : Nat) t v, Try.f3.params[j]? = some t → args[j]? = some v → Value.okWide Try.prog W .any base t v := hval0
  have hW' := hW
  obtain ⟨p, q, hA0, hV, rfl, hfz, hnd⟩ := hW
  have hA : DataW.TrodAll enc Try.prog W 0 (fun _ => true) true Try.f3.params.toList args.toList ds p := hA0
  rw [Try.params3] at hA hval
  obtain ⟨v0, vs0, d0, ds0, p0, q0, hargs, rfl, rfl, h0, r0⟩ := trodAll_cons hA
  obtain ⟨v1, vs1, d1, ds1, p1, q1, rfl, rfl, rfl, h1, r1⟩ := trodAll_cons r0
  obtain ⟨rfl, rfl, rfl⟩ := trodAll_nil r1
  obtain rfl : args = #[v0, v1] := by cases args; simp_all
  obtain ⟨rfl, rfl⟩ := trodVars_none hV
  obtain ⟨s0, len0, cap0, rfl⟩ := okWide_slice Try.underlying22 (hval 0 22 v0 rfl rfl)
  have k0 := h0
  have lt0 : ∀ x ∈ p0, x.block < W.heap.size := by obtain ⟨m, hm⟩ := k0; exact DataW.trod_lt m _ _ _ hm
  obtain ⟨x0, w0⟩ := (by obtain ⟨m, hm⟩ := h0; exact openSizeConstraintS hm : ∃ x, RSizeConstraintS W [.slice s0 len0 cap0] x)
  obtain ⟨a1, rfl, rfl, rfl, w1⟩ := open_int Try.underlying3 (hval 1 3 v1 rfl rfl) h1
  clear hA0 hval0
  refine (walk W _ _ w0 a1 (fits_of_wf w1)).mono fun e W' ⟨he, bel⟩ => ?_
  subst he
  exact ⟨_, rfl, _, _, _, [], _, [], hW', trodAll_mk1 (shut_bool Try.underlying4 _), (trodAll_cons_mk (Below.trod fr_laid (by kernel_rfl) (of_decide_eq_true (by kernel_rfl)) k0 bel lt0) (trodAll_cons_mk (shut_int Try.underlying3 w1) trodAll_mk0)), rfl, bel.frame _, fun h => by cases h⟩

theorem c_inPlace : (Rows.fnExactEntropyProgramRow.inPlace == Try.prog.inPlace 3) = true := by kernel_rfl
theorem c_unfollowed : (Rows.fnExactEntropyProgramRow.unfollowed == Try.prog.unfollowed 3) = true := by kernel_rfl
theorem c_recurses : (Rows.fnExactEntropyProgramRow.recurses == Try.prog.recurses 3) = true := by kernel_rfl
theorem c_named : (Rows.fnExactEntropyProgramRow.named == Try.prog.varsNamed 3) = true := by kernel_rfl
theorem c_tie : namedTie Try.prog Rows.fnExactEntropyProgramRow.named Rows.fnExactEntropyProgramSpec.vars = true := by kernel_rfl
theorem c_wrap : Try.f3.isWrapper Try.prog Rows.fnExactEntropyProgramRow.wrapper Rows.fnExactEntropyProgramRow.mainSum := by unfold Func.isWrapper; first | (rw [if_pos (by decide +kernel)]; kernel_rfl) | (rw [if_neg (by decide +kernel)]; exact ⟨rfl, rfl⟩)
theorem c_inst : Try.f3.isInstance Try.prog Rows.fnExactEntropyProgramRow.origin Rows.fnExactEntropyProgramRow.targs := of_decide_eq_true (by kernel_rfl)
theorem c_func : Try.prog.funcNamed Rows.fnExactEntropyProgramRow.func = some 3 := by kernel_rfl
theorem c_keys : (Rows.fnExactEntropyProgramRow.plainKeys == Try.prog.plainKeys) = true := fr_keys
theorem c_lifts : (Rows.fnExactEntropyProgramRow.lifted == Try.prog.liftsFinal) = true := fr_lifts
theorem c_make : (Try.prog.make == some Rows.fnExactEntropyProgramRow.make) = true := fr_make
theorem closed : joinedFacts Try.prog 3 Try.f3 Rows.fnExactEntropyProgramSpec Rows.fnExactEntropyProgramRow = true := by
  unfold joinedFacts
  rw [fr_laid, fr_maps, fr_stops, fr_sk, fr_heard, fr_enter, c_inPlace, c_unfollowed, c_recurses, c_named, c_tie, c_keys, c_lifts, c_make]
  kernel_rfl
theorem over : Rows.fnExactEntropyProgramRow.holds Try.pinned (OpenSpec.ofChange Rows.fnExactEntropyProgramSpec) :=
  OpenClaim.holds_of_wide 3 Try.f3 rfl rfl rfl rfl rfl rfl rfl ⟨rfl, rfl, rfl, rfl, rfl⟩ rfl rfl rfl rfl rfl c_func Try.func3 closed c_inst c_wrap (fun os started H enc _ => lifted os started H enc)

theorem proved : Rows.FnExactEntropyProgramSaid := over
end Go.Proofs.Ytdfebigfnjfgpaa.fnExactEntropyProgram
