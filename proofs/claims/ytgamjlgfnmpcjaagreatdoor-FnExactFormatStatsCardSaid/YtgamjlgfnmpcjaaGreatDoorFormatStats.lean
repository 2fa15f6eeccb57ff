/-
  For all arguments the program's FormatStats returns what the reference's returns: the law FnExactFormatStats returns true and its arguments read as before. No condition.
-/
import Derived.Test.YtgamjlgfnmpcjaaGreatDoorFormatStatsW
import Derived.Test.YtgamjlgfnmpcjaaGreatDoorst5
import Derived.Test.YtgamjlgfnmpcjaaGreatDoorst7
import Derived.Test.YtgamjlgfnmpcjaaGreatDoorCards
import Derived.Test.YtgamjlgfnmpcjaaGreatDoorTie
import Derived.SevenTiedAt
import Derived.ProofKit
import Derived.LaidMore
import Derived.OpenShut
import Derived.Stop.Joined
namespace Go.Proofs.YtgamjlgfnmpcjaaGreatDoor.fnExactFormatStats
open Go.ChangeShapes Go.WideShapes Go.ChangeAt Go.RowKit
open Go.ChangeMaps (open_string shut_string)
set_option linter.unusedVariables false

/-- The door's own heap meets the condition on the listed variables. -/
theorem door_met (os : Os) (args : Array Value) : laidMetH Tryz.prog Rows.fnExactFormatStatsRow.laid ((World.doorLaid Tryz.prog 400 os).forCall (fun _ _ => 0) ⟨#[], args, []⟩).memory :=
  laidMetH_of_parts3 (fuel := 8) (laidMet_of_run' 8 (by kernel_rfl) (by kernel_rfl)) (by kernel_rfl) (by kernel_rfl)
set_option maxRecDepth 100000 in
theorem lifted (os : Os) (started : os.Started) (H : Type) (enc : TypeId × Value → H) :
    ReturnsInHanded {} Tryz.checked os 3 .any (fun w args => (Rows.fnExactFormatStatsSpec.pre enc Tryz.prog Tryz.f3 [] false w args ∧ laidMetH Tryz.prog Rows.fnExactFormatStatsRow.laid w) ∧ sizedMet enc Tryz.prog Tryz.f3 (OpenSpec.ofChange Rows.fnExactFormatStatsSpec) false w args) (Rows.fnExactFormatStatsSpec.post enc Tryz.prog Tryz.f3 false true false false) := by
  refine returnsInHanded_of_change_and (C := Tryz.checked) (X := fun w _ => laidMetH Tryz.prog Rows.fnExactFormatStatsRow.laid w) (fun _ _ _ hh h => h.of_heap hh) fr_own started (by kernel_rfl) Tryz.func3
    (ChangeSpec.witness_shaped (enc := enc) (C := Tryz.checked) (os := os) (X := fun w _ => laidMetH Tryz.prog Rows.fnExactFormatStatsRow.laid w) false (World.doorLaid Tryz.prog 400 os) #[.agg #[.string ByteArray.empty, .int .i64 0, .int .i64 0, .slice none 0 0]] 8 rfl (World.shaped_of_RefB (by kernel_rfl) (by kernel_rfl)) (by kernel_rfl) (by kernel_rfl) (by kernel_rfl) (door_met os _)) ?_
  intro W base args ds gs before hval0 hW hcnd _ hL _
  have hval : ∀ (j : Nat) t v, Tryz.f3.params[j]? = some t → args[j]? = some v → Value.okWide Tryz.prog W .any base t v := hval0
  have hW' := hW
  obtain ⟨p, q, hA0, hV, rfl, hfz, hnd⟩ := hW
  have hA : DataW.TrodAll enc Tryz.prog W 0 (fun _ => true) true Tryz.f3.params.toList args.toList ds p := hA0
  rw [Tryz.params3] at hA hval
  obtain ⟨v0, vs0, d0, ds0, p0, q0, hargs, rfl, rfl, h0, r0⟩ := trodAll_cons hA
  obtain ⟨rfl, rfl, rfl⟩ := trodAll_nil r0
  obtain rfl : args = #[v0] := by cases args; simp_all
  obtain ⟨rfl, rfl⟩ := trodVars_none hV
  obtain ⟨cs0, rfl, hsz0⟩ := okWide_struct Tryz.underlying24 (hval 0 24 v0 rfl rfl)
  have k0 := h0
  have lt0 : ∀ x ∈ p0, x.block < W.heap.size := by obtain ⟨m, hm⟩ := k0; exact DataW.trod_lt m _ _ _ hm
  obtain ⟨x0, w0⟩ := (by obtain ⟨m, hm⟩ := h0; exact openTableStats hm : ∃ x, RTableStats W cs0.toList x)
  clear hA0 hval0
  refine (walk W _ _ w0).mono fun e W' ⟨he, bel⟩ => ?_
  subst he
  exact ⟨_, rfl, _, _, _, [], _, [], hW', trodAll_mk1 (shut_bool Tryz.underlying4 _), (trodAll_cons_mk (Below.trod fr_laid (by kernel_rfl) (of_decide_eq_true (by kernel_rfl)) k0 bel lt0) trodAll_mk0), rfl, bel.frame _, fun h => by cases h⟩

theorem c_inPlace : (Rows.fnExactFormatStatsRow.inPlace == Tryz.prog.inPlace 3) = true := by kernel_rfl
theorem c_unfollowed : (Rows.fnExactFormatStatsRow.unfollowed == Tryz.prog.unfollowed 3) = true := by kernel_rfl
theorem c_recurses : (Rows.fnExactFormatStatsRow.recurses == Tryz.prog.recurses 3) = true := by kernel_rfl
theorem c_named : (Rows.fnExactFormatStatsRow.named == Tryz.prog.varsNamed 3) = true := by kernel_rfl
theorem c_tie : namedTie Tryz.prog Rows.fnExactFormatStatsRow.named Rows.fnExactFormatStatsSpec.vars = true := by kernel_rfl
theorem c_wrap : Tryz.f3.isWrapper Tryz.prog Rows.fnExactFormatStatsRow.wrapper Rows.fnExactFormatStatsRow.mainSum := by unfold Func.isWrapper; first | (rw [if_pos (by decide +kernel)]; kernel_rfl) | (rw [if_neg (by decide +kernel)]; exact ⟨rfl, rfl⟩)
theorem c_inst : Tryz.f3.isInstance Tryz.prog Rows.fnExactFormatStatsRow.origin Rows.fnExactFormatStatsRow.targs := of_decide_eq_true (by kernel_rfl)
theorem c_func : Tryz.prog.funcNamed Rows.fnExactFormatStatsRow.func = some 3 := by kernel_rfl
theorem c_keys : (Rows.fnExactFormatStatsRow.plainKeys == Tryz.prog.plainKeys) = true := fr_keys
theorem c_lifts : (Rows.fnExactFormatStatsRow.lifted == Tryz.prog.liftsFinal) = true := fr_lifts
theorem c_make : (Tryz.prog.make == some Rows.fnExactFormatStatsRow.make) = true := fr_make
theorem closed : joinedFacts Tryz.prog 3 Tryz.f3 Rows.fnExactFormatStatsSpec Rows.fnExactFormatStatsRow = true := by
  unfold joinedFacts
  rw [fr_laid, fr_maps, fr_stops, fr_sk, fr_heard, fr_enter, c_inPlace, c_unfollowed, c_recurses, c_named, c_tie, c_keys, c_lifts, c_make]
  kernel_rfl
theorem over : Rows.fnExactFormatStatsRow.holds Tryz.pinned (OpenSpec.ofChange Rows.fnExactFormatStatsSpec) :=
  OpenClaim.holds_of_wide 3 Tryz.f3 rfl rfl rfl rfl rfl rfl rfl ⟨rfl, rfl, rfl, rfl, rfl⟩ rfl rfl rfl rfl rfl c_func Tryz.func3 closed c_inst c_wrap (fun os started H enc _ => lifted os started H enc)

theorem proved : Rows.FnExactFormatStatsCardSaid :=
  Claim7.holds_tied_plain_at .later [] [.data, .data, .data] true Rows.fnExactFormatStatsCard.stood.harness false
    over (fun _ h => by cases h) (by kernel_rfl) (fun _ h => by cases h) fnExactFormatStats_row_tie rfl ⟨rfl, rfl⟩ (by kernel_rfl) rfl
    (fun f fn hf hfn => by
      obtain rfl : f = 3 := Option.some.inj (c_func.symm.trans hf) |>.symm
      obtain rfl : fn = Tryz.f3 := (Option.some.inj (Tryz.func3.symm.trans hfn)).symm
      exact ⟨by kernel_rfl, fun j t ht => by
        rw [Tryz.params3] at ht
        have hm : t ∈ [24] := by simpa using Array.mem_of_getElem? ht
        have hall : ([24].all fun u => !Tryz.prog.wantsStandIn u) = true := by kernel_rfl
        exact (show Tryz.prog.wantsStandIn t = false by simpa using List.all_eq_true.1 hall t hm)⟩)
    (by kernel_rfl)
end Go.Proofs.YtgamjlgfnmpcjaaGreatDoor.fnExactFormatStats
