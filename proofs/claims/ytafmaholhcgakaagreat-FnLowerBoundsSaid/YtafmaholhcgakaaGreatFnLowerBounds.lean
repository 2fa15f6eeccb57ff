/-
  For every input the law FnLowerBounds returns true: the true size of a drawn subquery is never below its guaranteed bound, and each step of an order that proves the bound is safe; its arguments read as before. No condition.
-/
import Derived.Test.YtafmaholhcgakaaGreatFnLowerBoundsW
import Derived.Test.YtafmaholhcgakaaGreatlb10
namespace Go.Proofs.YtafmaholhcgakaaGreat.fnLowerBounds
open Go.ChangeShapes Go.WideShapes Go.ChangeAt Go.RowKit
open Go.ChangeMaps (open_string shut_string)
set_option linter.unusedVariables false

set_option maxRecDepth 100000 in
theorem lifted (os : Os) (started : os.Started) (H : Type) (enc : TypeId × Value → H) :
    ReturnsInHanded {} Tryz.checked os 4 .any (Rows.fnLowerBoundsSpec.pre6 enc Tryz.prog Tryz.f4 Rows.fnLowerBoundsRow.domain false) (Rows.fnLowerBoundsSpec.post enc Tryz.prog Tryz.f4 false true false false) := by
  refine returnsInHanded_of_change (C := Tryz.checked) fr_own started (by kernel_rfl) Tryz.func4
    (ChangeSpec.witness6 (enc := enc) (C := Tryz.checked) false ⟨#[], #[.slice none 0 0], []⟩ 8 (by kernel_rfl) (by kernel_rfl) (by kernel_rfl) (by kernel_rfl)) ?_
  intro W base args ds gs before hval0 hW hcnd _
  have hval : ∀ (j : Nat) t v, Tryz.f4.params[j]? = some t → args[j]? = some v → Value.okWide Tryz.prog W .any base t v := hval0
  have hW' := hW
  obtain ⟨p, q, hA0, hV, rfl, hfz, hnd⟩ := hW
  have hA : DataW.TrodAll enc Tryz.prog W 0 (fun _ => true) true Tryz.f4.params.toList args.toList ds p := hA0
  rw [Tryz.params4] at hA hval
  obtain ⟨v0, vs0, d0, ds0, p0, q0, hargs, rfl, rfl, h0, r0⟩ := trodAll_cons hA
  obtain ⟨rfl, rfl, rfl⟩ := trodAll_nil r0
  obtain rfl : args = #[v0] := by cases args; simp_all
  obtain ⟨rfl, rfl⟩ := trodVars_none hV
  obtain ⟨s0, len0, cap0, rfl⟩ := okWide_slice Tryz.underlying22 (hval 0 22 v0 rfl rfl)
  have k0 := h0
  have lt0 : ∀ x ∈ p0, x.block < W.heap.size := by obtain ⟨m, hm⟩ := k0; exact DataW.trod_lt m _ _ _ hm
  obtain ⟨x0, w0⟩ := (by obtain ⟨m, hm⟩ := h0; exact openByteS hm : ∃ x, RByteS W [.slice s0 len0 cap0] x)
  clear hA0 hval0
  refine (walk W _ _ w0).mono fun e W' ⟨he, bel⟩ => ?_
  subst he
  exact ⟨_, rfl, _, _, _, [], _, [], hW', trodAll_mk1 (shut_bool Tryz.underlying4 _), (trodAll_cons_mk (Below.trod fr_laid (by kernel_rfl) (of_decide_eq_true (by kernel_rfl)) k0 bel lt0) trodAll_mk0), rfl, bel.frame _, fun h => by cases h⟩

theorem c_inPlace : (Rows.fnLowerBoundsRow.inPlace == Tryz.prog.inPlace 4) = true := by kernel_rfl
theorem c_unfollowed : (Rows.fnLowerBoundsRow.unfollowed == Tryz.prog.unfollowed 4) = true := by kernel_rfl
theorem c_recurses : (Rows.fnLowerBoundsRow.recurses == Tryz.prog.recurses 4) = true := by kernel_rfl
theorem c_named : (Rows.fnLowerBoundsRow.named == Tryz.prog.varsNamed 4) = true := by kernel_rfl
theorem c_tie : namedTie Tryz.prog Rows.fnLowerBoundsRow.named Rows.fnLowerBoundsSpec.vars = true := by kernel_rfl
theorem c_wrap : Tryz.f4.isWrapper Tryz.prog Rows.fnLowerBoundsRow.wrapper Rows.fnLowerBoundsRow.mainSum := by unfold Func.isWrapper; first | (rw [if_pos (by decide +kernel)]; kernel_rfl) | (rw [if_neg (by decide +kernel)]; exact ⟨rfl, rfl⟩)
theorem c_inst : Tryz.f4.isInstance Tryz.prog Rows.fnLowerBoundsRow.origin Rows.fnLowerBoundsRow.targs := of_decide_eq_true (by kernel_rfl)
theorem c_func : Tryz.prog.funcNamed Rows.fnLowerBoundsRow.func = some 4 := by kernel_rfl
theorem c_keys : (Rows.fnLowerBoundsRow.plainKeys == Tryz.prog.plainKeys) = true := fr_keys
theorem c_lifts : (Rows.fnLowerBoundsRow.lifted == Tryz.prog.liftsFinal) = true := fr_lifts
theorem c_make : (Tryz.prog.make == some Rows.fnLowerBoundsRow.make) = true := fr_make
theorem closed : joinedFacts Tryz.prog 4 Tryz.f4 Rows.fnLowerBoundsSpec Rows.fnLowerBoundsRow = true := by
  unfold joinedFacts
  rw [fr_laid, fr_maps, fr_stops, fr_sk, fr_heard, fr_enter, c_inPlace, c_unfollowed, c_recurses, c_named, c_tie, c_keys, c_lifts, c_make]
  kernel_rfl
theorem over : Rows.fnLowerBoundsRow.holds Tryz.pinned (OpenSpec.ofChange Rows.fnLowerBoundsSpec) :=
  OpenClaim.holds_of_wide 4 Tryz.f4 rfl rfl rfl rfl rfl rfl rfl ⟨rfl, rfl, rfl, rfl, rfl⟩ rfl rfl rfl rfl rfl c_func Tryz.func4 closed c_inst c_wrap (fun os started H enc _ => lifted os started H enc)

theorem proved : Rows.FnLowerBoundsSaid := over
end Go.Proofs.YtafmaholhcgakaaGreat.fnLowerBounds
