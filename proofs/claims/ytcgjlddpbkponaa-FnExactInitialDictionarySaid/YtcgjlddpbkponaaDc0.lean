/-
  Dictionaries: data, the laws' helpers on slices as contracts.
-/
import Derived.Test.YtcgjlddpbkponaaDicD
import Derived.Test.YtcgjlddpbkponaaLpG
import Derived.Test.YtcgjlddpbkponaaLpI
namespace Go.Proofs.Ytcgjlddpbkponaa
open Go.ChangeShapes Go.WideShapes Go.ChangeAt Go.RowKit
set_option linter.unusedVariables false
set_option linter.unusedSimpArgs false
abbrev ratsD (l : List RationalD) : List Dat := [rats l]
def ratss (l : List (List RationalD)) : Dat := .sl 38 1 (l.map ratsD)
abbrev dicD (d : DictionaryD) : List Dat := [ints d.basic, ints d.others, ratss d.table, rats d.consts, rats d.costs, .int .i64 d.value.num, .int .i64 d.value.den]
def FitsQ (l : List RationalD) : Prop := ∀ x ∈ l, Fits x.num ∧ Fits x.den
def FitsD (d : DictionaryD) : Prop := (∀ x ∈ d.basic, Fits x) ∧ (∀ x ∈ d.others, Fits x) ∧ (∀ r ∈ d.table, FitsQ r) ∧ FitsQ d.consts ∧ FitsQ d.costs ∧ (Fits d.value.num ∧ Fits d.value.den)
theorem rd_ratss {w : World} {v : Value} {l : List (List RationalD)} (h : SliceR 1 (SliceR 2 RationalR) w [v] l) : RdV (Lv w) w (ratss l) v :=
  rd_slice (enc := ratsD) (fun cs x h => by
    obtain ⟨a, c, e, _⟩ := slice_form' h
    subst e
    exact rdL_cons (rd_rats h) rdL_nil) h
theorem ratss_rd {A : Nat → Prop} {w : World} {v : Value} {l : List (List RationalD)} (hf : ∀ r ∈ l, FitsQ r) (h : RdV A w (ratss l) v) : SliceR 1 (SliceR 2 RationalR) w [v] l :=
  slice_rd (enc := ratsD) (fun x hx cs hr => by
    obtain ⟨v, vs, rfl, q1, q2⟩ := hr
    rw [show vs = [] from q2]
    exact rats_rd (hf x hx) q1) (fun _ => rfl) h
theorem ow_ratss {w : World} {F : List Nat} {v : Value} {l : List (List RationalD)} (h : SliceO 38 1 (SliceO 35 2 RationalO) w F [v] l) : OwV w (ratss l) v F :=
  ow_slice (enc := ratsD) (fun F cs x h => by
    have h' := h
    obtain ⟨v, Fs, css, rfl, _⟩ := h'
    have := owCs_cons (ow_rats h) owCs_nil
    rwa [List.append_nil] at this) (fun _ => rfl) h
theorem rd_dic {w : World} {cs : List Value} {d : DictionaryD} (h : DictionaryR w cs d) : RdL (Lv w) w (dicD d) cs := by
  obtain ⟨c0, c1, c2, c3, c4, c5, c6, rfl, h0, h1, h2, h3, h4, h5⟩ := h
  have e := h5.1
  simp only [List.cons.injEq, and_true] at e
  obtain ⟨rfl, rfl⟩ := e
  exact rdL_cons (rd_ints h0) (rdL_cons (rd_ints h1) (rdL_cons (rd_ratss h2) (rdL_cons (rd_rats h3) (rdL_cons (rd_rats h4) (rdL_cons rdV_int (rdL_cons rdV_int rdL_nil))))))
theorem fits_dic {w : World} {cs : List Value} {d : DictionaryD} (h : DictionaryR w cs d) : FitsD d := by
  obtain ⟨c0, c1, c2, c3, c4, c5, c6, rfl, h0, h1, h2, h3, h4, h5⟩ := h
  exact ⟨IntsR.fits h0, IntsR.fits h1, h2.all_ (p := FitsQ) (fun w cs x hx => by
    obtain ⟨a, c, e, _⟩ := slice_form' hx
    subst e
    exact fits_rats hx), fits_rats h3, fits_rats h4, h5.2⟩

theorem c_toIntS {l : List Int} (hf : ∀ x ∈ l, Fits x) (hc : l.length ≤ 1048576) : Con Try.prog 60 [.one (ints l)] (.own 0) [(0, .arr 3 1 true (l.map intD))] :=
  con_newS (by kernel_rfl) fun A w us hA hus => by
    obtain ⟨v, vs, e, hl, h2⟩ := hus
    rw [show vs = [] from h2] at e
    have hr := ints_rd hf hl
    have eu : us = #[v] := by apply Array.ext'; rw [e]
    rw [eu]
    refine (toIntS_new v l w hr hc).mono fun e w' ⟨F, a, c, he, ho, hn, hg, hb⟩ => ?_
    exact ⟨_, F, he, ow_ints ho, hn, hg, hb⟩
theorem c_eqIntS {l : List Int} (hf : ∀ x ∈ l, Fits x) : Con Try.prog 63 [.one (ints l), .one (ints l)] (.p none (.bool true)) [] := by
  refine ⟨by kernel_rfl, fun A w us hA hus => ?_⟩
  obtain ⟨v, vs, e, hl, v', vs', rfl, hl', h2⟩ := hus
  rw [show vs' = [] from h2] at e
  have eu : us = #[v, v'] := by apply Array.ext'; rw [e]
  rw [eu]
  refine (eqIntS_self v v' l w (ints_rd hf hl) (ints_rd hf hl')).mono fun e w' ⟨he, hb⟩ => ?_
  exact ⟨_, fun _ => False, fun _ => none, he, hb, by simp, by simp, by simp [findH], by simp, by simp, by simp, by simp, by unfold MatchV RdV; rfl⟩
theorem c_szIntS {l : List Int} {m t : Int} (hf : ∀ x ∈ l, Fits x) (h0 : 0 ≤ m) (h1 : m ≤ 1048576) (ht : szStep (l.length) m = t) : Con Try.prog 57 [.one (ints l), .one (.int .i64 m)] (.p none (.int .i64 t)) [] := by
  subst ht
  refine ⟨by kernel_rfl, fun A w us hA hus => ?_⟩
  obtain ⟨v, vs, e, hl, v', vs', rfl, hm, h2⟩ := hus
  simp only [ArRd] at hm
  unfold RdV at hm
  rw [show vs' = [] from h2, hm] at e
  have eu : us = #[v, .int .i64 m] := by apply Array.ext'; rw [e]
  rw [eu]
  refine (szIntS_cnt v l m w (ints_rd hf hl) h0 h1).mono fun e w' ⟨he, hb⟩ => ?_
  exact ⟨_, fun _ => False, fun _ => none, he, hb, by simp, by simp, by simp [findH], by simp, by simp, by simp, by simp, by unfold MatchV RdV; rfl⟩

theorem c_toRationalSS {l : List (List RationalD)} (hf : ∀ r ∈ l, FitsQ r) (hc : cntL List.length l ≤ 1048576) : Con Try.prog 87 [.one (ratss l)] (.own 0) [(0, .arr 38 1 true (l.map ratsD))] :=
  con_newS (by kernel_rfl) fun A w us hA hus => by
    obtain ⟨v, vs, e, hl, h2⟩ := hus
    rw [show vs = [] from h2] at e
    have hr := ratss_rd hf hl
    have eu : us = #[v] := by apply Array.ext'; rw [e]
    rw [eu]
    refine (toRationalSS_new v l w hr hc).mono fun e w' ⟨F, a, c, he, ho, hn, hg, hb⟩ => ?_
    exact ⟨_, F, he, ow_ratss ho, hn, hg, hb⟩
theorem c_eqRationalSS {l : List (List RationalD)} (hf : ∀ r ∈ l, FitsQ r) : Con Try.prog 71 [.one (ratss l), .one (ratss l)] (.p none (.bool true)) [] := by
  refine ⟨by kernel_rfl, fun A w us hA hus => ?_⟩
  obtain ⟨v, vs, e, hl, v', vs', rfl, hl', h2⟩ := hus
  rw [show vs' = [] from h2] at e
  have eu : us = #[v, v'] := by apply Array.ext'; rw [e]
  rw [eu]
  refine (eqRationalSS_self v v' l w (ratss_rd hf hl) (ratss_rd hf hl')).mono fun e w' ⟨he, hb⟩ => ?_
  exact ⟨_, fun _ => False, fun _ => none, he, hb, by simp, by simp, by simp [findH], by simp, by simp, by simp, by simp, by unfold MatchV RdV; rfl⟩
theorem c_szRationalSS {l : List (List RationalD)} {m t : Int} (hf : ∀ r ∈ l, FitsQ r) (h0 : 0 ≤ m) (h1 : m ≤ 1048576) (ht : szStep (cntL List.length l) m = t) : Con Try.prog 83 [.one (ratss l), .one (.int .i64 m)] (.p none (.int .i64 t)) [] := by
  subst ht
  refine ⟨by kernel_rfl, fun A w us hA hus => ?_⟩
  obtain ⟨v, vs, e, hl, v', vs', rfl, hm, h2⟩ := hus
  simp only [ArRd] at hm
  unfold RdV at hm
  rw [show vs' = [] from h2, hm] at e
  have eu : us = #[v, .int .i64 m] := by apply Array.ext'; rw [e]
  rw [eu]
  refine (szRationalSS_any v l m w (ratss_rd hf hl) h0 h1).mono fun e w' ⟨he, hb⟩ => ?_
  exact ⟨_, fun _ => False, fun _ => none, he, hb, by simp, by simp, by simp [findH], by simp, by simp, by simp, by simp, by unfold MatchV RdV; rfl⟩
end Go.Proofs.Ytcgjlddpbkponaa
