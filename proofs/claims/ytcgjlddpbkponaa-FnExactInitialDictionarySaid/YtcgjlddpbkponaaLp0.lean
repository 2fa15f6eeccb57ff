/-
  Linear programs as plain data; contracts that are given by calls.
-/
import Derived.Test.YtcgjlddpbkponaaEng2
import Derived.Test.YtcgjlddpbkponaaQs
import Derived.Test.YtcgjlddpbkponaaProgV
import Derived.Test.YtcgjlddpbkponaaRats
namespace Go.Proofs.Ytcgjlddpbkponaa
open Go.ChangeShapes Go.WideShapes Go.ChangeAt Go.RowKit
set_option linter.unusedVariables false
set_option linter.unusedSimpArgs false

abbrev ratD (x : RationalD) : List Dat := [.int .i64 x.num, .int .i64 x.den]
def rats (l : List RationalD) : Dat := .sl 35 2 (l.map ratD)
abbrev rowD (l : List Int) : List Dat := [ints l]
def rowsD (l : List (List Int)) : Dat := .sl 22 1 (l.map rowD)
abbrev progD (p : ProgramD) : List Dat := [ints p.objective, rowsD p.rows, ints p.limits]
abbrev qA (n d : Int) : Ar := .agg [.int .i64 n, .int .i64 d]
abbrev qT (q : Int × Int × Bool) : AV := .tup [.agg [.p none (.int .i64 q.1), .p none (.int .i64 q.2.1)], .p none (.bool q.2.2)]
theorem rd_rats {w : World} {v : Value} {l : List RationalD} (h : SliceR 2 RationalR w [v] l) : RdV (Lv w) w (rats l) v :=
  rd_slice (enc := ratD) (fun cs x h => by rw [h.1]; exact rdL_cons rdV_int (rdL_cons rdV_int rdL_nil)) h
theorem rd_rows {w : World} {v : Value} {l : List (List Int)} (h : SliceR 1 (SliceR 1 IntR) w [v] l) : RdV (Lv w) w (rowsD l) v :=
  rd_slice (enc := rowD) (fun cs x h => by
    obtain ⟨a, c, e, _⟩ := slice_form' h
    subst e
    exact rdL_cons (rd_ints h) rdL_nil) h
theorem rd_prog {w : World} {c0 c1 c2 : Value} {p : ProgramD} (h : ProgramR w [c0, c1, c2] p) : RdL (Lv w) w (progD p) [c0, c1, c2] :=
  rdL_cons (rd_ints h.parts.1) (rdL_cons (rd_rows h.parts.2.1) (rdL_cons (rd_ints h.parts.2.2) rdL_nil))
def FitsP (p : ProgramD) : Prop := (∀ x ∈ p.objective, Fits x) ∧ (∀ r ∈ p.rows, ∀ x ∈ r, Fits x) ∧ ∀ x ∈ p.limits, Fits x
theorem fits_prog {w : World} {cs : List Value} {p : ProgramD} (h : ProgramR w cs p) : FitsP p := by
  obtain ⟨c0, c1, c2, rfl, h0, h1, h2⟩ := h
  exact ⟨IntsR.fits h0, h1.all_ (p := fun r => ∀ x ∈ r, Fits x) (fun w cs x hx => by
    obtain ⟨a, c, e, _⟩ := slice_form' hx
    subst e
    exact IntsR.fits hx), IntsR.fits h2⟩
theorem prog_rd {A : Nat → Prop} {w : World} {cs : List Value} {p : ProgramD} (hf : FitsP p) (h : RdL A w (progD p) cs) : ProgramR w cs p := by
  obtain ⟨v0, vs0, rfl, h0, h⟩ := h
  obtain ⟨v1, vs1, rfl, h1, h⟩ := h
  obtain ⟨v2, vs2, rfl, h2, h⟩ := h
  rw [show vs2 = [] from h]
  refine ⟨v0, v1, v2, rfl, ints_rd hf.1 h0, slice_rd (enc := rowD) (fun x hx cs hr => ?_) (fun _ => rfl) h1, ints_rd hf.2.2 h2⟩
  obtain ⟨v, vs, rfl, q1, q2⟩ := hr
  rw [show vs = [] from q2]
  exact ints_rd (hf.2.1 x hx) q1
theorem arsRd_q {a b : Int} {A : Nat → Prop} {w : World} {xs : List Ar} {us : List Value} (h : ArsRd A w (qA a b :: xs) us) : ∃ vs, us = qv a b :: vs ∧ ArsRd A w xs vs := by
  obtain ⟨v, vs, rfl, ⟨cs, rfl, hl⟩, h2⟩ := h
  have := matchL_scal (K := A) (φ := fun _ => none) (w := w) (xs := [.int .i64 a, .int .i64 b]) (us := [.int .i64 a, .int .i64 b]) rfl (by have := (rdL_match (K := A) (φ := fun _ => none) (w := w) (o := none) (fun x v => by unfold MatchV; exact Iff.rfl) hl).1; exact this)
  have e : cs = #[.int .i64 a, .int .i64 b] := by apply Array.ext'; simpa using this
  rw [e]; exact ⟨vs, rfl, h2⟩
theorem arsRd_q1 {a b : Int} {A : Nat → Prop} {w : World} {us : List Value} (h : ArsRd A w [qA a b] us) : us = #[qv a b].toList := by
  obtain ⟨vs, rfl, h1⟩ := arsRd_q h
  rw [show vs = [] from h1]
theorem arsRd_q2 {a b c d : Int} {A : Nat → Prop} {w : World} {us : List Value} (h : ArsRd A w [qA a b, qA c d] us) : us = #[qv a b, qv c d].toList := by
  obtain ⟨vs, rfl, h1⟩ := arsRd_q h
  obtain ⟨vs, rfl, h2⟩ := arsRd_q h1
  rw [show vs = [] from h2]
theorem q_match (K : Nat → Prop) (φ : Phi) (w : World) (q : Int × Int × Bool) : MatchV K φ w (qT q) (.tuple #[.agg #[.int .i64 q.1, .int .i64 q.2.1], .bool q.2.2]) := by
  unfold MatchV
  refine ⟨_, rfl, ?_⟩
  unfold MatchL
  refine ⟨_, _, rfl, ?_, ?_⟩
  · unfold MatchV
    refine ⟨_, rfl, by simp [Value.oneCell'], ?_⟩
    unfold MatchL
    refine ⟨_, _, rfl, by unfold MatchV RdV; rfl, ?_⟩
    unfold MatchL
    refine ⟨_, _, rfl, by unfold MatchV RdV; rfl, ?_⟩
    unfold MatchL; rfl
  · unfold MatchL
    refine ⟨_, _, rfl, by unfold MatchV RdV; rfl, ?_⟩
    unfold MatchL; rfl
theorem c_valid_impl {a b : Int} {t : Bool} (h : validQ a b = t) : Con Try.prog 91 [qA a b] (.p none (.bool t)) [] := by
  subst h
  exact con_calls (vs := #[qv a b]) (v := .bool (validQ a b)) (by kernel_rfl) (fun A w us h => arsRd_q1 h) (fun K φ w => by unfold MatchV RdV; rfl) (fun w => isValidQ_impl a b w)
theorem c_add_impl {a b c d : Int} {q : Int × Int × Bool} (h : addQ a b c d = q) : Con Try.prog 101 [qA a b, qA c d] (qT q) [] := by
  subst h
  exact con_calls (vs := #[qv a b, qv c d]) (by kernel_rfl) (fun A w us h => arsRd_q2 h) (fun K φ w => q_match K φ w _) (fun w => add_impl a b c d w)
theorem c_mul_impl {a b c d : Int} {q : Int × Int × Bool} (h : mulQ a b c d = q) : Con Try.prog 100 [qA a b, qA c d] (qT q) [] := by
  subst h
  exact con_calls (vs := #[qv a b, qv c d]) (by kernel_rfl) (fun A w us h => arsRd_q2 h) (fun K φ w => q_match K φ w _) (fun w => mul_impl a b c d w)
theorem c_div_impl {a b c d : Int} {q : Int × Int × Bool} (h : divQ a b c d = q) : Con Try.prog 108 [qA a b, qA c d] (qT q) [] := by
  subst h
  exact con_calls (vs := #[qv a b, qv c d]) (by kernel_rfl) (fun A w us h => arsRd_q2 h) (fun K φ w => q_match K φ w _) (fun w => div_impl a b c d w)
theorem c_prog_impl {p : ProgramD} {t : Bool} (hf : FitsP p) (h : okProg p = t) : Con Try.prog 18 [.agg (progD p)] (.p none (.bool t)) [] := by
  subst h
  refine ⟨by kernel_rfl, fun A w us hA hus => ?_⟩
  obtain ⟨v, vs, e, ⟨cs, rfl, hl⟩, h2⟩ := hus
  rw [show vs = [] from h2] at e
  have hp := prog_rd hf hl
  have hp' := hp
  obtain ⟨c0, c1, c2, ec, _⟩ := hp'
  have eu : us = #[.agg #[c0, c1, c2]] := by
    apply Array.ext'
    rw [e]
    have : cs = #[c0, c1, c2] := by apply Array.ext'; simpa using ec
    rw [this]
  rw [eu]
  rw [ec] at hp
  refine (isValidProgram_impl c0 c1 c2 p w hp).mono fun e w' ⟨he, hb⟩ => ?_
  exact ⟨_, fun _ => False, fun _ => none, he, hb, by simp, by simp, by simp [findH], by simp, by simp, by simp, by simp, by unfold MatchV RdV; rfl⟩
theorem c_valid_spec {a b : Int} {t : Bool} (h : validQ a b = t) : Con Try.prog 86 [qA a b] (.p none (.bool t)) [] := by
  subst h
  exact con_calls (vs := #[qv a b]) (v := .bool (validQ a b)) (by kernel_rfl) (fun A w us h => arsRd_q1 h) (fun K φ w => by unfold MatchV RdV; rfl) (fun w => isValidQ_spec a b w)
theorem c_add_spec {a b c d : Int} {q : Int × Int × Bool} (h : addQ a b c d = q) : Con Try.prog 99 [qA a b, qA c d] (qT q) [] := by
  subst h
  exact con_calls (vs := #[qv a b, qv c d]) (by kernel_rfl) (fun A w us h => arsRd_q2 h) (fun K φ w => q_match K φ w _) (fun w => add_spec a b c d w)
theorem c_mul_spec {a b c d : Int} {q : Int × Int × Bool} (h : mulQ a b c d = q) : Con Try.prog 98 [qA a b, qA c d] (qT q) [] := by
  subst h
  exact con_calls (vs := #[qv a b, qv c d]) (by kernel_rfl) (fun A w us h => arsRd_q2 h) (fun K φ w => q_match K φ w _) (fun w => mul_spec a b c d w)
theorem c_div_spec {a b c d : Int} {q : Int × Int × Bool} (h : divQ a b c d = q) : Con Try.prog 93 [qA a b, qA c d] (qT q) [] := by
  subst h
  exact con_calls (vs := #[qv a b, qv c d]) (by kernel_rfl) (fun A w us h => arsRd_q2 h) (fun K φ w => q_match K φ w _) (fun w => div_spec a b c d w)
theorem c_sub_spec {a b c d : Int} {q : Int × Int × Bool} (h : subQ a b c d = q) : Con Try.prog 113 [qA a b, qA c d] (qT q) [] := by
  subst h
  exact con_calls (vs := #[qv a b, qv c d]) (by kernel_rfl) (fun A w us h => arsRd_q2 h) (fun K φ w => q_match K φ w _) (fun w => sub_spec a b c d w)
theorem c_prog_spec {p : ProgramD} {t : Bool} (hf : FitsP p) (h : okProg p = t) : Con Try.prog 16 [.agg (progD p)] (.p none (.bool t)) [] := by
  subst h
  refine ⟨by kernel_rfl, fun A w us hA hus => ?_⟩
  obtain ⟨v, vs, e, ⟨cs, rfl, hl⟩, h2⟩ := hus
  rw [show vs = [] from h2] at e
  have hp := prog_rd hf hl
  have hp' := hp
  obtain ⟨c0, c1, c2, ec, _⟩ := hp'
  have eu : us = #[.agg #[c0, c1, c2]] := by
    apply Array.ext'
    rw [e]
    have : cs = #[c0, c1, c2] := by apply Array.ext'; simpa using ec
    rw [this]
  rw [eu]
  rw [ec] at hp
  refine (isValidProgram_spec c0 c1 c2 p w hp).mono fun e w' ⟨he, hb⟩ => ?_
  exact ⟨_, fun _ => False, fun _ => none, he, hb, by simp, by simp, by simp [findH], by simp, by simp, by simp, by simp, by unfold MatchV RdV; rfl⟩
end Go.Proofs.Ytcgjlddpbkponaa
