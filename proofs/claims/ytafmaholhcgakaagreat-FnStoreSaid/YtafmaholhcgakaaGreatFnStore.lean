/-
  For every input the law FnStore returns true: an accepted update keeps a drawn store valid and counts its version on, a refused one changes nothing; its arguments read as before. No condition.
-/
import Derived.Test.YtafmaholhcgakaaGreatFnStoreW
import Derived.Test.YtafmaholhcgakaaGreatfs18
namespace Go.Proofs.YtafmaholhcgakaaGreat.fnStore
open Go.ChangeShapes Go.WideShapes Go.ChangeAt Go.RowKit
open Go.ChangeMaps (open_string shut_string)
set_option linter.unusedVariables false

set_option maxRecDepth 100000 in
theorem lifted (os : Os) (started : os.Started) (H : Type) (enc : TypeId × Value → H) :
    ReturnsInHanded {} Tryz.checked os 3 .any (Rows.fnStoreSpec.pre6 enc Tryz.prog Tryz.f3 Rows.fnStoreRow.domain false) (Rows.fnStoreSpec.post enc Tryz.prog Tryz.f3 false true false false) := by
  refine returnsInHanded_of_change (C := Tryz.checked) fr_own started (by kernel_rfl) Tryz.func3
    (ChangeSpec.witness6 (enc := enc) (C := Tryz.checked) false ⟨#[], #[.slice none 0 0], []⟩ 8 (by kernel_rfl) (by kernel_rfl) (by kernel_rfl) (by kernel_rfl)) ?_
  intro W base args ds gs before hval0 hW hcnd _
  have hval : ∀ (j : Nat) t v, Tryz.f3.params[j]? = some t → args[j]? = some v → Value.okWide Tryz.prog W .any base t v := hval0
  have hW' := hW
  obtain ⟨p, q, hA0, hV, rfl, hfz, hnd⟩ := hW
  have hA : DataW.TrodAll enc Tryz.prog W 0 (fun _ => true) true Tryz.f3.params.toList args.toList ds p := hA0
  rw [Tryz.params3] at hA hval
  obtain ⟨v0, vs0, d0, ds0, p0, q0, hargs, rfl, rfl, h0, r0⟩ := trodAll_cons hA
  obtain ⟨rfl, rfl, rfl⟩ := trodAll_nil r0
  obtain rfl : args = #[v0] := by cases args; simp_all
  obtain ⟨rfl, rfl⟩ := trodVars_none hV
  obtain ⟨s0, len0, cap0, rfl⟩ := okWide_slice Tryz.underlying22 (hval 0 22 v0 rfl rfl)
  have k0 := h0
  have lt0 : ∀ x ∈ p0, x.block < W.heap.size := by obtain ⟨m, hm⟩ := k0; exact DataW.trod_lt m _ _ _ hm
  obtain ⟨x0, w0⟩ := (by obtain ⟨m, hm⟩ := h0; exact openByteS hm : ∃ x, RByteS W [.slice s0 len0 cap0] x)
  clear hA0 hval0
  refine (walk W _ _ w0).mono fun e W' ⟨he, bel⟩ => ?_
  subst he
  exact ⟨_, rfl, _, _, _, [], _, [], hW', trodAll_mk1 (shut_bool Tryz.underlying4 _), (trodAll_cons_mk (Below.trod fr_laid (by kernel_rfl) (of_decide_eq_true (by kernel_rfl)) k0 bel lt0) trodAll_mk0), rfl, bel.frame _, fun h => by cases h⟩

theorem c_inPlace : (Rows.fnStoreRow.inPlace == Tryz.prog.inPlace 3) = true := by kernel_rfl
theorem c_unfollowed : (Rows.fnStoreRow.unfollowed == Tryz.prog.unfollowed 3) = true := by kernel_rfl
theorem c_recurses : (Rows.fnStoreRow.recurses == Tryz.prog.recurses 3) = true := by kernel_rfl
theorem c_named : (Rows.fnStoreRow.named == Tryz.prog.varsNamed 3) = true := by kernel_rfl
theorem c_tie : namedTie Tryz.prog Rows.fnStoreRow.named Rows.fnStoreSpec.vars = true := by kernel_rfl
theorem c_wrap : Tryz.f3.isWrapper Tryz.prog Rows.fnStoreRow.wrapper Rows.fnStoreRow.mainSum := by unfold Func.isWrapper; first | (rw [if_pos (by decide +kernel)]; kernel_rfl) | (rw [if_neg (by decide +kernel)]; exact ⟨rfl, rfl⟩)
theorem c_inst : Tryz.f3.isInstance Tryz.prog Rows.fnStoreRow.origin Rows.fnStoreRow.targs := of_decide_eq_true (by kernel_rfl)
theorem c_func : Tryz.prog.funcNamed Rows.fnStoreRow.func = some 3 := by kernel_rfl
theorem c_keys : (Rows.fnStoreRow.plainKeys == Tryz.prog.plainKeys) = true := fr_keys
theorem c_lifts : (Rows.fnStoreRow.lifted == Tryz.prog.liftsFinal) = true := fr_lifts
theorem c_make : (Tryz.prog.make == some Rows.fnStoreRow.make) = true := fr_make
theorem closed : joinedFacts Tryz.prog 3 Tryz.f3 Rows.fnStoreSpec Rows.fnStoreRow = true := by
  unfold joinedFacts
  rw [fr_laid, fr_maps, fr_stops, fr_sk, fr_heard, fr_enter, c_inPlace, c_unfollowed, c_recurses, c_named, c_tie, c_keys, c_lifts, c_make]
  kernel_rfl
theorem over : Rows.fnStoreRow.holds Tryz.pinned (OpenSpec.ofChange Rows.fnStoreSpec) :=
  OpenClaim.holds_of_wide 3 Tryz.f3 rfl rfl rfl rfl rfl rfl rfl ⟨rfl, rfl, rfl, rfl, rfl⟩ rfl rfl rfl rfl rfl c_func Tryz.func3 closed c_inst c_wrap (fun os started H enc _ => lifted os started H enc)

theorem proved : Rows.FnStoreSaid := over
end Go.Proofs.YtafmaholhcgakaaGreat.fnStore
