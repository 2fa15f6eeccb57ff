/-
  For all arguments the program's EntropyBound returns what the reference's returns: the law FnExactEntropyBound returns true and its arguments read as before. No condition.
-/
import Derived.Test.YtlidmoeecphbmaaGreatEntropyBoundW
import Derived.Test.YtlidmoeecphbmaaGreateb25
namespace Go.Proofs.YtlidmoeecphbmaaGreat.fnExactEntropyBound
open Go.ChangeShapes Go.WideShapes Go.ChangeAt Go.RowKit
open Go.ChangeMaps (open_string shut_string)
set_option linter.unusedVariables false

set_option maxRecDepth 100000 in
theorem lifted (os : Os) (started : os.Started) (H : Type) (enc : TypeId × Value → H) :
    ReturnsInHanded {} Tryz.checked os 3 .any (Rows.fnExactEntropyBoundSpec.pre6 enc Tryz.prog Tryz.f3 Rows.fnExactEntropyBoundRow.domain false) (Rows.fnExactEntropyBoundSpec.post enc Tryz.prog Tryz.f3 false true false false) := by
  refine returnsInHanded_of_change (C := Tryz.checked) fr_own started (by kernel_rfl) Tryz.func3
    (ChangeSpec.witness6 (enc := enc) (C := Tryz.checked) false ⟨#[], #[.agg #[.slice none 0 0, .int .i64 0, .slice none 0 0, .slice none 0 0, .slice none 0 0], .agg #[.int .i64 0, .slice none 0 0], .int .i64 0], []⟩ 8 (by kernel_rfl) (by kernel_rfl) (by kernel_rfl) (by kernel_rfl)) ?_
  intro W base args ds gs before hval0 hW hcnd _
  have hval : ∀ (j : Nat) t v, Tryz.f3.params[j]? = some t → args[j]? = some v → Value.okWide Tryz.prog W .any base t v := hval0
  have hW' := hW
  obtain ⟨p, q, hA0, hV, rfl, hfz, hnd⟩ := hW
  have hA : DataW.TrodAll enc Tryz.prog W 0 (fun _ => true) true Tryz.f3.params.toList args.toList ds p := hA0
  rw [Tryz.params3] at hA hval
  obtain ⟨v0, vs0, d0, ds0, p0, q0, hargs, rfl, rfl, h0, r0⟩ := trodAll_cons hA
  obtain ⟨v1, vs1, d1, ds1, p1, q1, rfl, rfl, rfl, h1, r1⟩ := trodAll_cons r0
  obtain ⟨v2, vs2, d2, ds2, p2, q2, rfl, rfl, rfl, h2, r2⟩ := trodAll_cons r1
  obtain ⟨rfl, rfl, rfl⟩ := trodAll_nil r2
  obtain rfl : args = #[v0, v1, v2] := by cases args; simp_all
  obtain ⟨rfl, rfl⟩ := trodVars_none hV
  obtain ⟨cs0, rfl, hsz0⟩ := okWide_struct Tryz.underlying31 (hval 0 31 v0 rfl rfl)
  have k0 := h0
  have lt0 : ∀ x ∈ p0, x.block < W.heap.size := by obtain ⟨m, hm⟩ := k0; exact DataW.trod_lt m _ _ _ hm
  obtain ⟨x0, w0⟩ := (by obtain ⟨m, hm⟩ := h0; exact openStore hm : ∃ x, RStore W cs0.toList x)
  obtain ⟨cs1, rfl, hsz1⟩ := okWide_struct Tryz.underlying34 (hval 1 34 v1 rfl rfl)
  have k1 := h1
  have lt1 : ∀ x ∈ p1, x.block < W.heap.size := by obtain ⟨m, hm⟩ := k1; exact DataW.trod_lt m _ _ _ hm
  obtain ⟨x1, w1⟩ := (by obtain ⟨m, hm⟩ := h1; exact openQuery hm : ∃ x, RQuery W cs1.toList x)
  obtain ⟨a2, rfl, rfl, rfl, w2⟩ := open_int Tryz.underlying3 (hval 2 3 v2 rfl rfl) h2
  clear hA0 hval0
  refine (walk W _ _ w0 _ _ w1 a2 (fits_of_wf w2)).mono fun e W' ⟨he, bel⟩ => ?_
  subst he
  exact ⟨_, rfl, _, _, _, [], _, [], hW', trodAll_mk1 (shut_bool Tryz.underlying4 _), (trodAll_cons_mk (Below.trod fr_laid (by kernel_rfl) (of_decide_eq_true (by kernel_rfl)) k0 bel lt0) (trodAll_cons_mk (Below.trod fr_laid (by kernel_rfl) (of_decide_eq_true (by kernel_rfl)) k1 bel lt1) (trodAll_cons_mk (shut_int Tryz.underlying3 w2) trodAll_mk0))), rfl, bel.frame _, fun h => by cases h⟩

theorem c_inPlace : (Rows.fnExactEntropyBoundRow.inPlace == Tryz.prog.inPlace 3) = true := by kernel_rfl
theorem c_unfollowed : (Rows.fnExactEntropyBoundRow.unfollowed == Tryz.prog.unfollowed 3) = true := by kernel_rfl
theorem c_recurses : (Rows.fnExactEntropyBoundRow.recurses == Tryz.prog.recurses 3) = true := by kernel_rfl
theorem c_named : (Rows.fnExactEntropyBoundRow.named == Tryz.prog.varsNamed 3) = true := by kernel_rfl
theorem c_tie : namedTie Tryz.prog Rows.fnExactEntropyBoundRow.named Rows.fnExactEntropyBoundSpec.vars = true := by kernel_rfl
theorem c_wrap : Tryz.f3.isWrapper Tryz.prog Rows.fnExactEntropyBoundRow.wrapper Rows.fnExactEntropyBoundRow.mainSum := by unfold Func.isWrapper; first | (rw [if_pos (by decide +kernel)]; kernel_rfl) | (rw [if_neg (by decide +kernel)]; exact ⟨rfl, rfl⟩)
theorem c_inst : Tryz.f3.isInstance Tryz.prog Rows.fnExactEntropyBoundRow.origin Rows.fnExactEntropyBoundRow.targs := of_decide_eq_true (by kernel_rfl)
theorem c_func : Tryz.prog.funcNamed Rows.fnExactEntropyBoundRow.func = some 3 := by kernel_rfl
theorem c_keys : (Rows.fnExactEntropyBoundRow.plainKeys == Tryz.prog.plainKeys) = true := fr_keys
theorem c_lifts : (Rows.fnExactEntropyBoundRow.lifted == Tryz.prog.liftsFinal) = true := fr_lifts
theorem c_make : (Tryz.prog.make == some Rows.fnExactEntropyBoundRow.make) = true := fr_make
theorem closed : joinedFacts Tryz.prog 3 Tryz.f3 Rows.fnExactEntropyBoundSpec Rows.fnExactEntropyBoundRow = true := by
  unfold joinedFacts
  rw [fr_laid, fr_maps, fr_stops, fr_sk, fr_heard, fr_enter, c_inPlace, c_unfollowed, c_recurses, c_named, c_tie, c_keys, c_lifts, c_make]
  kernel_rfl
theorem over : Rows.fnExactEntropyBoundRow.holds Tryz.pinned (OpenSpec.ofChange Rows.fnExactEntropyBoundSpec) :=
  OpenClaim.holds_of_wide 3 Tryz.f3 rfl rfl rfl rfl rfl rfl rfl ⟨rfl, rfl, rfl, rfl, rfl⟩ rfl rfl rfl rfl rfl c_func Tryz.func3 closed c_inst c_wrap (fun os started H enc _ => lifted os started H enc)

theorem proved : Rows.FnExactEntropyBoundSaid := over
end Go.Proofs.YtlidmoeecphbmaaGreat.fnExactEntropyBound
