/-
  Calls that are handed memory and change it in place, or hand it back.
-/
import Derived.Test.YtcgjlddpbkponaaWs
namespace Go.Proofs.Ytcgjlddpbkponaa
open Go.ChangeShapes Go.WideShapes Go.ChangeAt Go.RowKit
set_option linter.unusedVariables false
set_option linter.unusedSimpArgs false

mutual
/-- Handles into whose elements something looks. -/
def views : AV → List Nat
  | .p (some h) _ => [h]
  | .rp (some h) _ => [h]
  | .agg cs => viewsL cs
  | .tup cs => viewsL cs
  | .fn _ cs => viewsL cs
  | _ => []
def viewsL : List AV → List Nat
  | [] => []
  | x :: xs => views x ++ viewsL xs
end
def viewsR : Rs → List Nat
  | .box _ cs => viewsL cs
  | .arr _ _ _ _ => []
mutual
theorem MatchV.monoV {K K' : Nat → Prop} {φ φ' : Phi} {w w' : World} (hs : SameOn K w w') (hK : ∀ b, K b → K' b) :
    ∀ (x : AV) (v : Value), (∀ h pl, h ∈ ments x → φ' h = some pl → φ h = some pl ∧ (h ∈ views x → SameOn (· ∈ pl.sub) w w')) → MatchV K φ w x v → MatchV K' φ' w' x v
  | .p none x, v, _, hx => by unfold MatchV at *; exact RdV.mono hs hK x v hx
  | .p (some h) x, v, hm, hx => by
    unfold MatchV at *
    intro pl hp
    obtain ⟨h1, h2⟩ := hm h pl (by simp [ments]) hp
    exact RdV.mono (fun b hb => by rcases hb with hb | hb; exact hs b hb; exact h2 (by simp [views]) b hb) (fun b hb => by rcases hb with hb | hb; exact .inl (hK b hb); exact .inr hb) x v (hx pl h1)
  | .own h, v, hm, hx => by
    unfold MatchV at *
    intro pl hp
    exact hx pl (hm h pl (by simp [ments]) hp).1
  | .ptr h off, v, hm, hx => by
    unfold MatchV at *
    obtain ⟨g, e, q⟩ := hx
    exact ⟨g, e, fun pl hp => q pl (hm h pl (by simp [ments]) hp).1⟩
  | .ep h k i off, v, hm, hx => by
    unfold MatchV at *
    intro pl hp
    exact hx pl (hm h pl (by simp [ments]) hp).1
  | .rp none x, v, _, hx => by
    unfold MatchV at *
    obtain ⟨a, e, hr⟩ := hx
    exact ⟨a, e, RdCs.mono hs hK x a 0 hr⟩
  | .rp (some h) x, v, hm, hx => by
    unfold MatchV at *
    intro pl hp
    obtain ⟨h1, h2⟩ := hm h pl (by simp [ments]) hp
    obtain ⟨a, e, hr⟩ := hx pl h1
    exact ⟨a, e, RdCs.mono (fun b hb => by rcases hb with hb | hb; exact hs b hb; exact h2 (by simp [views]) b hb) (fun b hb => by rcases hb with hb | hb; exact .inl (hK b hb); exact .inr hb) x a 0 hr⟩
  | .agg cs, v, hm, hx => by
    unfold MatchV at *
    obtain ⟨vs, e, h1, hl⟩ := hx
    exact ⟨vs, e, h1, MatchL.monoV hs hK cs _ (fun h pl hh e => (hm h pl (by simpa [ments] using hh) e).imp id fun q hv => q (by simpa [views] using hv)) hl⟩
  | .tup cs, v, hm, hx => by
    unfold MatchV at *
    obtain ⟨vs, e, hl⟩ := hx
    exact ⟨vs, e, MatchL.monoV hs hK cs _ (fun h pl hh e => (hm h pl (by simpa [ments] using hh) e).imp id fun q hv => q (by simpa [views] using hv)) hl⟩
  | .fn f cs, v, hm, hx => by
    unfold MatchV at *
    obtain ⟨vs, e, hl⟩ := hx
    exact ⟨vs, e, MatchL.monoV hs hK cs _ (fun h pl hh e => (hm h pl (by simpa [ments] using hh) e).imp id fun q hv => q (by simpa [views] using hv)) hl⟩
  | .nil, v, _, hx => by unfold MatchV at *; exact hx
  | .bsl h n, v, hm, hx => by
    unfold MatchV at *
    intro pl hp
    exact hx pl (hm h pl (by simp [ments]) hp).1
  | .no, _, _, _ => by unfold MatchV; trivial
theorem MatchL.monoV {K K' : Nat → Prop} {φ φ' : Phi} {w w' : World} (hs : SameOn K w w') (hK : ∀ b, K b → K' b) :
    ∀ (xs : List AV) (vs : List Value), (∀ h pl, h ∈ mentsL xs → φ' h = some pl → φ h = some pl ∧ (h ∈ viewsL xs → SameOn (· ∈ pl.sub) w w')) → MatchL K φ w xs vs → MatchL K' φ' w' xs vs
  | [], _, _, hx => by unfold MatchL at *; exact hx
  | x :: xs, vs, hm, hx => by
    unfold MatchL at *
    obtain ⟨v, vs', e, h1, h2⟩ := hx
    exact ⟨v, vs', e, MatchV.monoV hs hK x v (fun h pl hh e => (hm h pl (by simp [mentsL, hh]) e).imp id fun q hv => q (by simp [viewsL, hv])) h1, MatchL.monoV hs hK xs vs' (fun h pl hh e => (hm h pl (by simp [mentsL, hh]) e).imp id fun q hv => q (by simp [viewsL, hv])) h2⟩
end

theorem Holds.monoV {K K' : Nat → Prop} {φ φ' : Phi} {w w' : World} {pl : Pl} (hs : SameOn K w w') (hK : ∀ b, K b → K' b) (hk : KeptOn pl.F w w') :
    ∀ (r : Rs), (∀ h pl, h ∈ mentsR r → φ' h = some pl → φ h = some pl ∧ (h ∈ viewsR r → SameOn (· ∈ pl.sub) w w')) → Holds K φ w pl r → Holds K' φ' w' pl r
  | .box t cs, hm, ⟨g, vs, e, hb, h1, hl⟩ => by
    subst e
    exact ⟨g, vs, rfl, (hk g (by simp [Pl.F])).trans hb, h1, MatchL.monoV hs hK cs _ hm hl⟩
  | .arr e k true xs, _, ⟨css, Fs, h1, h2, h3, h4⟩ =>
    ⟨css, Fs, owns_keptOn h1 (hk.mono fun g hg => by unfold Pl.F; rw [h2]; exact List.mem_append_left _ hg), h2, h3, OwRs.kept k xs css Fs (hk.mono fun g hg => by unfold Pl.F; rw [h3]; exact List.mem_append_right _ hg) h4⟩
  | .arr e k false xs, _, ⟨css, h1, h2, h3, h4⟩ =>
    ⟨css, owns_keptOn h1 (hk.mono fun g hg => by unfold Pl.F; rw [h2]; exact List.mem_append_left _ hg), h2, h3, h4.mono hs hK⟩

section
variable {K : Nat → Prop} {φ : Phi} {A : Nat → Prop} {w0 : Org} {N : Nat} {S : St} {a : Act} {w : World}
theorem G.stepV (hG : G K φ A w0 N S a w) {C : Nat → Prop} [DecidablePred C] {φr : Phi} {ρ : Nat → Option Rs} {K' : Nat → Prop} {w' : World}
    (hU : Chg (Foot φ C) w w')
    (hR : ∀ h pl, φr h = some pl → pl.F.Nodup ∧ ∀ g ∈ pl.F, g < w'.heap.size ∧ (w.heap.size ≤ g ∨ Foot φ C g))
    (hD : ∀ h h' pl pl', h ≠ h' → φr h = some pl → φr h' = some pl' → ∀ g ∈ pl.F, g ∉ pl'.F)
    (hρ : ∀ h r, ρ h = some r → ∃ pl, φr h = some pl ∧ Holds K' (stepPhi C φr φ) w' pl r)
    (hρn : ∀ h, ρ h = .none → φr h = .none)
    (hK : ∀ b, K b → K' b)
    (hK' : ∀ b, K' b → K b ∨ (b < w'.heap.size ∧ (w.heap.size ≤ b ∨ Foot φ C b) ∧ ∀ h pl, φr h = some pl → b ∉ pl.F))
    (hM : ∀ t h pl, h ∈ ments (S.slots t) → φr h = some pl → φ h = some pl ∧ (h ∈ views (S.slots t) → SameOn (· ∈ pl.sub) w w'))
    (hMr : ∀ h' r h pl, ¬ C h' → S.res h' = some r → h ∈ mentsR r → φr h = some pl → φ h = some pl ∧ (h ∈ viewsR r → SameOn (· ∈ pl.sub) w w'))
    (hP : ∀ h pl, φr h = some pl → φ h = some pl ∨ 100 ≤ h) :
    G K' (stepPhi C φr φ) A w0 N { S with res := stepRes C ρ S.res } a w' := by
  have hF : ∀ b, Foot φ C b → w0.mine b ∧ b < w.heap.size := fun b ⟨h, pl, _, hp, hb⟩ => hG.ge h pl hp b hb
  have hsz : w0.w.heap.size ≤ w.heap.size := hG.bel.size
  have hsame : SameOn K w w' := fun b hb => hU.block b (hG.kin b hb).1 (fun ⟨h, pl, _, hp, hm⟩ => hG.kout b hb h pl hp hm)
  have hkeep : ∀ h pl, ¬ C h → φ h = some pl → KeptOn pl.F w w' := fun h pl hc hp g hg =>
    hU.block g (hG.ge h pl hp g hg).2 (fun ⟨h', pl', hc', hp', hm⟩ => by
      by_cases e : h = h'
      · subst e; exact hc hc'
      · exact hG.disj h h' pl pl' e hp hp' g hg hm)
  have hsub : ∀ h pl, ¬ C h → φ h = some pl → SameOn (· ∈ pl.sub) w w' := fun h pl hc hp g hg => hkeep h pl hc hp g (List.mem_append_right _ hg)
  have hslot : ∀ x v, (∀ h pl, h ∈ ments x → φr h = some pl → φ h = some pl ∧ (h ∈ views x → SameOn (· ∈ pl.sub) w w')) → MatchV K φ w x v → MatchV K' (stepPhi C φr φ) w' x v := fun x v hm hx =>
    MatchV.monoV hsame hK x v (fun h pl hh e => by
      rcases stepPhi_some e with e | ⟨_, hc, e⟩
      · exact hm h pl hh e
      · exact ⟨e, fun _ => hsub h pl hc e⟩) hx
  refine ⟨?_, ?_, ?_, ?_, ?_, ?_, ?_, fun b hb => hK b (hG.aK b hb), fun t => hslot _ _ (hM t) (hG.slots t), Chg.more hG.bel hU (fun b hb => (hF b hb).1), hG.nd, hG.size, fun h pl pl0 e e0 => ?_⟩
  · intro h r hr
    simp only [stepRes] at hr
    split at hr
    · rename_i r' hr'
      injection hr with hr
      subst hr
      obtain ⟨pl, hp, hh⟩ := hρ h _ hr'
      exact ⟨pl, by simp [stepPhi, hp], hh⟩
    · rename_i hn
      split at hr
      · cases hr
      · rename_i hc
        obtain ⟨pl, hp, hh⟩ := hG.dom h r hr
        refine ⟨pl, by simp [stepPhi, hρn h hn, hc, hp], Holds.monoV hsame hK (hkeep h pl hc hp) r (fun h2 pl2 hm e => ?_) hh⟩
        rcases stepPhi_some e with e | ⟨_, hc2, e⟩
        · exact hMr h r h2 pl2 hc hr hm e
        · exact ⟨e, fun _ => hsub h2 pl2 hc2 e⟩
  · intro h hr
    simp only [stepRes] at hr
    split at hr
    · cases hr
    · rename_i hn
      simp only [stepPhi, hρn h hn]
      split at hr
      · rename_i hc; simp [hc]
      · rename_i hc; simp [hc, hG.non h hr]
  · intro h h' pl pl' hne e e' g hg hg'
    rcases stepPhi_some e with e | ⟨_, hc, e⟩ <;> rcases stepPhi_some e' with e' | ⟨_, hc', e'⟩
    · exact hD h h' pl pl' hne e e' g hg hg'
    · rcases ((hR h pl e).2 g hg).2 with h1 | ⟨h2, pl2, hc2, e2, hm⟩
      · have := (hG.ge h' pl' e' g hg').2; omega
      · exact hG.disj h2 h' pl2 pl' (fun e => by subst e; exact hc' hc2) e2 e' g hm hg'
    · rcases ((hR h' pl' e').2 g hg').2 with h1 | ⟨h2, pl2, hc2, e2, hm⟩
      · have := (hG.ge h pl e g hg).2; omega
      · exact hG.disj h2 h pl2 pl (fun e => by subst e; exact hc hc2) e2 e g hm hg
    · exact hG.disj h h' pl pl' hne e e' g hg hg'
  · intro h pl e
    rcases stepPhi_some e with e | ⟨_, _, e⟩
    · exact (hR h pl e).1
    · exact hG.nodup h pl e
  · intro h pl e g hg
    rcases stepPhi_some e with e | ⟨_, _, e⟩
    · obtain ⟨h1, h2⟩ := (hR h pl e).2 g hg
      refine ⟨?_, h1⟩
      rcases h2 with h2 | h2
      · exact .inl (by omega)
      · exact (hF g h2).1
    · have := hG.ge h pl e g hg
      exact ⟨this.1, Nat.lt_of_lt_of_le this.2 hU.size⟩
  · intro b hb
    rcases hK' b hb with hb | ⟨h1, h2, _⟩
    · have := hG.kin b hb
      exact ⟨Nat.lt_of_lt_of_le this.1 hU.size, this.2⟩
    · refine ⟨h1, .inr ?_⟩
      rcases h2 with h2 | h2
      · exact .inl (by omega)
      · exact (hF b h2).1
  · intro b hb h pl e hm
    rcases hK' b hb with hb | ⟨_, h2, h3⟩
    · rcases stepPhi_some e with e | ⟨_, _, e⟩
      · rcases ((hR h pl e).2 b hm).2 with h1 | ⟨h2, pl2, hc2, e2, hm2⟩
        · have := (hG.kin b hb).1; omega
        · exact hG.kout b hb h2 pl2 e2 hm2
      · exact hG.kout b hb h pl e hm
    · rcases stepPhi_some e with e | ⟨_, hc, e⟩
      · exact h3 h pl e hm
      · rcases h2 with h2 | ⟨h4, pl4, hc4, e4, hm4⟩
        · have := (hG.ge h pl e b hm).2; omega
        · exact hG.disj h4 h pl4 pl (fun e => by subst e; exact hc hc4) e4 e b hm4 hm
  · rcases stepPhi_some e with e | ⟨_, _, e⟩
    · rcases hP h pl e with q | q
      · exact hG.pin h pl pl0 q e0
      · have := w0.dom h pl0 e0; omega
    · exact hG.pin h pl pl0 e e0
end

def renF (ren : List (Nat × Nat)) (h : Nat) : Nat := match look ren h with | some g => g | none => h
theorem look_inj {ren : List (Nat × Nat)} (hn : nodupB (ren.map (·.2)) = true) {h h' g : Nat} (e : look ren h = some g) (e' : look ren h' = some g) : h = h' := by
  have mem : ∀ {l : List (Nat × Nat)} {h g : Nat}, look l h = some g → g ∈ l.map (·.2) := by
    intro l
    induction l with
    | nil => intro h g e; simp [look] at e
    | cons q l ih =>
      obtain ⟨k, v⟩ := q
      intro h g e
      unfold look at e
      split at e
      · injection e with e; simp [e]
      · simp only [List.map_cons, List.mem_cons]; exact .inr (ih e)
  induction ren with
  | nil => simp [look] at e
  | cons q l ih =>
    obtain ⟨k, v⟩ := q
    simp only [List.map_cons, nodupB, Bool.and_eq_true, Bool.not_eq_true', List.contains_eq_mem, decide_eq_false_iff_not] at hn
    unfold look at e e'
    split at e <;> split at e'
    · rename_i _ a _ b; rw [Nat.eq_of_beq_eq_true a, Nat.eq_of_beq_eq_true b]
    · injection e with e; subst e; exact absurd (mem e') hn.1
    · injection e' with e'; subst e'; exact absurd (mem e) hn.1
    · exact ih hn.2 e e'
def nilPl : Pl := ⟨.slice none 0 0, [], []⟩
mutual
def RetB (gm : Nat → Option Nat) : AV → AV → Prop → Prop
  | .no, _, K => K
  | .nil, x, K => (match x with | .nil => K | _ => False)
  | .own h, x, K => (match x with
    | .nil => (match gm h with | none => K | some _ => False)
    | .own g => (match gm h with | some g' => EqN g g' K | none => False)
    | _ => False)
  | .ptr h o, x, K => (match x with
    | .ptr g o' => (match gm h with | some g' => EqN g g' (EqN o' o K) | none => False)
    | _ => False)
  | .p none y, x, K => (match x with
    | .p none z => EqD z y ∧ K
    | .nil => (match y with | .sl _ _ xs => [] = xs ∧ K | _ => False)
    | _ => False)
  | .agg ys, x, K => (match x with | .agg xs => RetBL gm ys xs K | _ => False)
  | .tup ys, x, K => (match x with | .tup xs => RetBL gm ys xs K | _ => False)
  | _, _, _ => False
def RetBL (gm : Nat → Option Nat) : List AV → List AV → Prop → Prop
  | [], xs, K => (match xs with | [] => K | _ => False)
  | y :: ys, xs, K => (match xs with | x :: xs => RetB gm y x (RetBL gm ys xs K) | [] => False)
end
mutual
theorem RetB_ok {gm : Nat → Option Nat} {K : Nat → Prop} {φ φ' : Phi} {w : World} (h1 : ∀ h g pl, gm h = some g → φ' h = some pl → φ g = some pl) (h2 : ∀ h pl, gm h = none → φ' h = some pl → pl = nilPl) : ∀ (y x : AV) (Q : Prop) (v : Value), RetB gm y x Q → MatchV K φ w x v → MatchV K φ' w y v ∧ Q
  | .no, x, Q, v, h, hm => by unfold RetB at h; exact ⟨by unfold MatchV; trivial, h⟩
  | .nil, x, Q, v, h, hm => by
    unfold RetB at h
    split at h
    · unfold MatchV at *; exact ⟨hm, h⟩
    · cases h
  | .own k, x, Q, v, h, hm => by
    unfold RetB at h
    split at h
    · split at h
      · rename_i hl
        refine ⟨?_, h⟩
        unfold MatchV at *
        intro pl hp
        rw [h2 _ pl hl hp, hm]; rfl
      · cases h
    · split at h
      · rename_i g' hl
        obtain ⟨e, hQ⟩ := h.eq
        subst e
        refine ⟨?_, hQ⟩
        unfold MatchV at *
        intro pl hp
        exact hm pl (h1 _ _ pl hl hp)
      · cases h
    · cases h
  | .ptr k o, x, Q, v, h, hm => by
    unfold RetB at h
    split at h
    · split at h
      · rename_i g' hl
        obtain ⟨e, hQ1⟩ := h.eq
        obtain ⟨e2, hQ⟩ := hQ1.eq
        subst e; subst e2
        refine ⟨?_, hQ⟩
        unfold MatchV at *
        obtain ⟨g2, e3, q⟩ := hm
        exact ⟨g2, e3, fun pl hp => q pl (h1 _ _ pl hl hp)⟩
      · cases h
    · cases h
  | .p none y, x, Q, v, h, hm => by
    unfold RetB at h
    split at h
    · refine ⟨?_, h.2⟩
      unfold MatchV at *
      rw [← h.1.eq]; exact hm
    · split at h
      · refine ⟨?_, h.2⟩
        unfold MatchV at *
        rw [hm, ← h.1]; exact rdV_nil
      · cases h
    · cases h
  | .p (some _) y, x, Q, v, h, hm => by unfold RetB at h; cases h
  | .agg ys, x, Q, v, h, hm => by
    unfold RetB at h
    split at h
    · unfold MatchV at hm
      obtain ⟨vs, rfl, q1, q2⟩ := hm
      obtain ⟨q3, q4⟩ := RetBL_ok h1 h2 ys _ Q _ h q2
      refine ⟨?_, q4⟩
      unfold MatchV
      exact ⟨vs, rfl, q1, q3⟩
    · cases h
  | .tup ys, x, Q, v, h, hm => by
    unfold RetB at h
    split at h
    · unfold MatchV at hm
      obtain ⟨vs, rfl, q2⟩ := hm
      obtain ⟨q3, q4⟩ := RetBL_ok h1 h2 ys _ Q _ h q2
      refine ⟨?_, q4⟩
      unfold MatchV
      exact ⟨vs, rfl, q3⟩
    · cases h
  | .ep _ _ _ _, x, Q, v, h, hm => by unfold RetB at h; cases h
  | .rp _ _, x, Q, v, h, hm => by unfold RetB at h; cases h
  | .fn _ _, x, Q, v, h, hm => by unfold RetB at h; cases h
  | .bsl _ _, x, Q, v, h, hm => by unfold RetB at h; cases h
theorem RetBL_ok {gm : Nat → Option Nat} {K : Nat → Prop} {φ φ' : Phi} {w : World} (h1 : ∀ h g pl, gm h = some g → φ' h = some pl → φ g = some pl) (h2 : ∀ h pl, gm h = none → φ' h = some pl → pl = nilPl) : ∀ (ys xs : List AV) (Q : Prop) (vs : List Value), RetBL gm ys xs Q → MatchL K φ w xs vs → MatchL K φ' w ys vs ∧ Q
  | [], xs, Q, vs, h, hm => by
    unfold RetBL at h
    split at h
    · unfold MatchL at *
      exact ⟨hm, h⟩
    · cases h
  | y :: ys, xs, Q, vs, h, hm => by
    unfold RetBL at h
    split at h
    · unfold MatchL at hm
      obtain ⟨v, vs', rfl, q1, q2⟩ := hm
      obtain ⟨q3, q4⟩ := RetB_ok h1 h2 y _ _ v h q1
      obtain ⟨q5, q6⟩ := RetBL_ok h1 h2 ys _ Q vs' q4 q2
      refine ⟨?_, q6⟩
      unfold MatchL
      exact ⟨v, vs', rfl, q3, q5⟩
    · cases h
end
mutual
theorem RetB_snd {gm : Nat → Option Nat} : ∀ (y x : AV) (Q : Prop), RetB gm y x Q → Q
  | .no, x, Q, h => by unfold RetB at h; exact h
  | .nil, x, Q, h => by
    unfold RetB at h
    split at h
    · exact h
    · cases h
  | .own k, x, Q, h => by
    unfold RetB at h
    split at h
    · split at h
      · exact h
      · cases h
    · split at h
      · exact h.eq.2
      · cases h
    · cases h
  | .ptr k o, x, Q, h => by
    unfold RetB at h
    split at h
    · split at h
      · exact h.eq.2.eq.2
      · cases h
    · cases h
  | .p none y, x, Q, h => by
    unfold RetB at h
    split at h
    · exact h.2
    · split at h
      · exact h.2
      · cases h
    · cases h
  | .p (some _) y, x, Q, h => by unfold RetB at h; cases h
  | .agg ys, x, Q, h => by
    unfold RetB at h
    split at h
    · exact RetBL_snd ys _ Q h
    · cases h
  | .tup ys, x, Q, h => by
    unfold RetB at h
    split at h
    · exact RetBL_snd ys _ Q h
    · cases h
  | .ep _ _ _ _, x, Q, h => by unfold RetB at h; cases h
  | .rp _ _, x, Q, h => by unfold RetB at h; cases h
  | .fn _ _, x, Q, h => by unfold RetB at h; cases h
  | .bsl _ _, x, Q, h => by unfold RetB at h; cases h
theorem RetBL_snd {gm : Nat → Option Nat} : ∀ (ys xs : List AV) (Q : Prop), RetBL gm ys xs Q → Q
  | [], xs, Q, h => by
    unfold RetBL at h
    split at h
    · exact h
    · cases h
  | y :: ys, xs, Q, h => by
    unfold RetBL at h
    split at h
    · exact RetBL_snd ys _ Q (RetB_snd y _ _ h)
    · cases h
end
abbrev AllF (φ : Phi) : Nat → Prop := Foot φ (fun _ => True)
/-- Memory that is handed to a call: where it lies. -/
structure In2 (A : Nat → Prop) (φ : Phi) (w : World) (ri : List (Nat × Rs)) : Prop where
  lt : ∀ b, A b → b < w.heap.size
  dom : ∀ h r, findH ri h = some r → ∃ pl, φ h = some pl ∧ Holds A φ w pl r
  non : ∀ h, findH ri h = none → φ h = none
  disj : ∀ h h' pl pl', h ≠ h' → φ h = some pl → φ h' = some pl' → ∀ g ∈ pl.F, g ∉ pl'.F
  nodup : ∀ h pl, φ h = some pl → pl.F.Nodup
  ge : ∀ h pl, φ h = some pl → ∀ g ∈ pl.F, g < w.heap.size
  out : ∀ b, A b → ∀ h pl, φ h = some pl → b ∉ pl.F
/-- Memory that a call hands back; a handle that was handed in lies where it lay. -/
structure Out2 (A : Nat → Prop) (φ0 : Phi) (w : World) (ro : List (Nat × Rs)) (K : Nat → Prop) (φ : Phi) (w' : World) : Prop where
  chg : Chg (AllF φ0) w w'
  kk : ∀ b, A b → K b
  kin : ∀ b, K b → b < w'.heap.size ∧ (A b ∨ w.heap.size ≤ b ∨ AllF φ0 b)
  kout : ∀ b, K b → ∀ h pl, φ h = some pl → b ∉ pl.F
  dom : ∀ h r, findH ro h = some r → ∃ pl, φ h = some pl ∧ Holds K φ w' pl r
  non : ∀ h, findH ro h = none → φ h = none
  disj : ∀ h h' pl pl', h ≠ h' → φ h = some pl → φ h' = some pl' → ∀ g ∈ pl.F, g ∉ pl'.F
  nodup : ∀ h pl, φ h = some pl → pl.F.Nodup
  ge : ∀ h pl, φ h = some pl → ∀ g ∈ pl.F, (w.heap.size ≤ g ∨ AllF φ0 g) ∧ g < w'.heap.size
  pin : ∀ h pl pl0, φ h = some pl → φ0 h = some pl0 → pl = pl0
/-- The contract of a function that is handed memory (ri) and hands memory back (ro). -/
def Con2 (P : Program) (f : FuncId) (args : List AV) (ri : List (Nat × Rs)) (rv : AV) (ro : List (Nat × Rs)) : Prop :=
  callable P f = true ∧ (∀ q ∈ ri, q.1 < 100) ∧ ∀ (A : Nat → Prop) (φ : Phi) (w : World) (vs : Array Value), In2 A φ w ri → MatchL A φ w args vs.toList →
    Calls P f vs w (fun e w' => ∃ v K φ', e = .returned v ∧ Out2 A φ w ro K φ' w' ∧ MatchV K φ' w' rv v)

/- The caller's side. -/

def Borrow (K : Nat → Prop) (φ : Phi) (w : World) (C : Nat → Prop) : Nat → Prop := fun b => b < w.heap.size ∧ ¬ Foot φ C b
section
variable {K : Nat → Prop} {φ : Phi} {A : Nat → Prop} {w0 : Org} {N : Nat} {S : St} {a : Act} {w : World} {P : Program}
theorem borrow_K (hG : G K φ A w0 N S a w) (C : Nat → Prop) : ∀ b, K b → Borrow K φ w C b := fun b hb => ⟨(hG.kin b hb).1, fun ⟨h, pl, _, hp, hm⟩ => hG.kout b hb h pl hp hm⟩
theorem borrow_F (hG : G K φ A w0 N S a w) {C : Nat → Prop} {h : Nat} {pl : Pl} (hp : φ h = some pl) (hc : ¬ C h) : ∀ b ∈ pl.F, Borrow K φ w C b := fun b hb => ⟨(hG.ge h pl hp b hb).2, fun ⟨h', pl', hc', hp', hm⟩ => by
  by_cases e : h = h'
  · subst e; exact hc hc'
  · exact hG.disj h h' pl pl' e hp hp' b hb hm⟩
theorem G.rdOwnB (hG : G K φ A w0 N S a w) {C : Nat → Prop} {h : Nat} {e k : Nat} {d : Bool} {xs : List (List Dat)} {v : Value} (hr : S.res h = some (.arr e k d xs)) (hc : ¬ C h) (hm : MatchV K φ w (.own h) v) : RdV (Borrow K φ w C) w (.sl e k xs) v := by
  obtain ⟨pl, css, hp, ho, hcl, hck, htop, hrow⟩ := hG.owned hr
  unfold MatchV at hm
  rw [hm pl hp]
  obtain ⟨b, c, e1, h1, h2, h3, h4⟩ := rows_cells ho hck hcl
  unfold RdV
  refine ⟨b, c, e1, h1, h2, ?_⟩
  by_cases hn : 0 < xs.length
  · obtain ⟨g, rfl, hg⟩ := h3 hn
    have hlt : Borrow K φ w C g := borrow_F hG hp hc g (List.mem_append_left _ (by rw [htop, hg]; simp))
    refine rdRs_of hlt hcl (fun i x c hx hc' => ⟨(hrow i x c hx hc').1, RdL.mono (fun _ _ => rfl) (fun b hb => ?_) x c (hrow i x c hx hc').2.1⟩) fun i c hc' j u hu => ?_
    · rcases hb with hb | hb
      · exact borrow_K hG C b hb
      · exact borrow_F hG hp hc b (List.mem_append_right _ hb)
    · obtain ⟨g', e2, _, hcell⟩ := h4 i c hc'
      simp only [Option.some.injEq, Addr.mk.injEq, and_true] at e2
      subst e2
      rw [Nat.zero_add]; exact hcell j u hu
  · have : xs = [] := List.eq_nil_of_length_eq_zero (by omega)
    subst this
    unfold RdRs; trivial
end
/-- A handle outside the targets of a renaming. -/
def offB (ren : List (Nat × Nat)) (g : Nat) : Bool := ren.all fun q => !Nat.beq q.2 g
mutual
/-- An actual argument (x) for a formal one (y). -/
def ArgB (rs : Rl) (ren : List (Nat × Nat)) : AV → AV → Prop → Prop
  | .no, _, Q => Q
  | .nil, x, Q => (match x with | .nil => Q | _ => False)
  | .own h, x, Q => (match x with | .own g => (match look ren h with | some g' => EqN g g' Q | none => False) | _ => False)
  | .ptr h o, x, Q => (match x with | .ptr g o' => (match look ren h with | some g' => EqN g g' (EqN o' o Q) | none => False) | _ => False)
  | .p none y, x, Q => (match x with
    | .p none z => EqD z y ∧ Q
    | .p (some g) z => (match liveB rs (some g) && offB ren g with | true => EqD z y ∧ Q | false => False)
    | .own g => (match findO rs g with
      | some (.arr e k _ xs) => (match offB ren g with | true => EqD (.sl e k xs) y ∧ Q | false => False)
      | _ => False)
    | .nil => (match y with | .sl _ _ xs => [] = xs ∧ Q | _ => False)
    | _ => False)
  | .agg ys, x, Q => (match x with | .agg xs => ArgBL rs ren ys xs Q | _ => False)
  | _, _, _ => False
def ArgBL (rs : Rl) (ren : List (Nat × Nat)) : List AV → List AV → Prop → Prop
  | [], xs, Q => (match xs with | [] => Q | _ => False)
  | y :: ys, xs, Q => (match xs with | x :: xs => ArgB rs ren y x (ArgBL rs ren ys xs Q) | [] => False)
end
section
variable {K : Nat → Prop} {φ : Phi} {A : Nat → Prop} {w0 : Org} {N : Nat} {sl : Sl} {rs : Rl} {a : Act} {w : World} {P : Program} {ren : List (Nat × Nat)}
theorem off_ok {g : Nat} (h : offB ren g = true) : ¬ g ∈ ren.map (·.2) := fun hm => by
  obtain ⟨q, hq, e⟩ := List.mem_map.1 hm
  have := List.all_eq_true.1 h q hq
  rw [e, Nat.beq_refl] at this
  cases this
mutual
theorem ArgB_ok (hG : G K φ A w0 N (mk sl rs) a w) {φi : Phi} (hi : ∀ h pl, φi h = some pl → ∃ g, look ren h = some g ∧ φ g = some pl) : ∀ (y x : AV) (Q : Prop) (v : Value), ArgB rs ren y x Q → MatchV K φ w x v → MatchV (Borrow K φ w (· ∈ ren.map (·.2))) φi w y v ∧ Q
  | .no, x, Q, v, h, hm => by unfold ArgB at h; exact ⟨by unfold MatchV; trivial, h⟩
  | .nil, x, Q, v, h, hm => by
    unfold ArgB at h
    split at h
    · unfold MatchV at *; exact ⟨hm, h⟩
    · cases h
  | .own k, x, Q, v, h, hm => by
    unfold ArgB at h
    split at h
    · split at h
      · rename_i g' hl
        obtain ⟨e, hQ⟩ := h.eq
        subst e
        refine ⟨?_, hQ⟩
        unfold MatchV at *
        intro pl hp
        obtain ⟨g2, e1, e2⟩ := hi _ pl hp
        rw [hl] at e1; injection e1 with e1; subst e1
        exact hm pl e2
      · cases h
    · cases h
  | .ptr k o, x, Q, v, h, hm => by
    unfold ArgB at h
    split at h
    · split at h
      · rename_i g' hl
        obtain ⟨e, hQ1⟩ := h.eq
        obtain ⟨e2, hQ⟩ := hQ1.eq
        subst e; subst e2
        refine ⟨?_, hQ⟩
        unfold MatchV at *
        obtain ⟨g3, e3, q⟩ := hm
        refine ⟨g3, e3, fun pl hp => ?_⟩
        obtain ⟨g2, e1, e2⟩ := hi _ pl hp
        rw [hl] at e1; injection e1 with e1; subst e1
        exact q pl e2
      · cases h
    · cases h
  | .p none y, x, Q, v, h, hm => by
    unfold ArgB at h
    split at h
    · refine ⟨?_, h.2⟩
      unfold MatchV at *
      rw [← h.1.eq]; exact RdV.mono (fun _ _ => rfl) (borrow_K hG _) _ _ hm
    · rename_i g z
      split at h
      · rename_i hb
        rw [Bool.and_eq_true] at hb
        refine ⟨?_, h.2⟩
        obtain ⟨r, hr⟩ := live_some hb.1
        obtain ⟨pl, hp, _⟩ := hG.dom g r hr
        unfold MatchV at *
        rw [← h.1.eq]
        exact RdV.mono (fun _ _ => rfl) (fun b hb' => by
          rcases hb' with hb' | hb'
          · exact borrow_K hG _ b hb'
          · exact borrow_F hG hp (off_ok hb.2) b (List.mem_append_right _ hb')) _ _ (hm pl hp)
      · cases h
    · rename_i g
      split at h
      · rename_i e k d xs hr
        split at h
        · rename_i hb
          refine ⟨?_, h.2⟩
          rw [← h.1.eq]
          have := hG.rdOwnB (C := (· ∈ ren.map (·.2))) hr (off_ok hb) hm
          unfold MatchV
          exact this
        · cases h
      · cases h
    · split at h
      · refine ⟨?_, h.2⟩
        unfold MatchV at *
        rw [hm, ← h.1]; exact rdV_nil
      · cases h
    · cases h
  | .p (some _) y, x, Q, v, h, hm => by unfold ArgB at h; cases h
  | .agg ys, x, Q, v, h, hm => by
    unfold ArgB at h
    split at h
    · unfold MatchV at hm
      obtain ⟨vs, rfl, q1, q2⟩ := hm
      obtain ⟨q3, q4⟩ := ArgBL_ok hG hi ys _ Q _ h q2
      refine ⟨?_, q4⟩
      unfold MatchV
      exact ⟨vs, rfl, q1, q3⟩
    · cases h
  | .tup ys, x, Q, v, h, hm => by unfold ArgB at h; cases h
  | .ep _ _ _ _, x, Q, v, h, hm => by unfold ArgB at h; cases h
  | .rp _ _, x, Q, v, h, hm => by unfold ArgB at h; cases h
  | .fn _ _, x, Q, v, h, hm => by unfold ArgB at h; cases h
  | .bsl _ _, x, Q, v, h, hm => by unfold ArgB at h; cases h
theorem ArgBL_ok (hG : G K φ A w0 N (mk sl rs) a w) {φi : Phi} (hi : ∀ h pl, φi h = some pl → ∃ g, look ren h = some g ∧ φ g = some pl) : ∀ (ys xs : List AV) (Q : Prop) (vs : List Value), ArgBL rs ren ys xs Q → MatchL K φ w xs vs → MatchL (Borrow K φ w (· ∈ ren.map (·.2))) φi w ys vs ∧ Q
  | [], xs, Q, vs, h, hm => by
    unfold ArgBL at h
    split at h
    · unfold MatchL at *
      exact ⟨hm, h⟩
    · cases h
  | y :: ys, xs, Q, vs, h, hm => by
    unfold ArgBL at h
    split at h
    · unfold MatchL at hm
      obtain ⟨v, vs', rfl, q1, q2⟩ := hm
      obtain ⟨q3, q4⟩ := ArgB_ok hG hi y _ _ v h q1
      obtain ⟨q5, q6⟩ := ArgBL_ok hG hi ys _ Q vs' q4 q2
      refine ⟨?_, q6⟩
      unfold MatchL
      exact ⟨v, vs', rfl, q3, q5⟩
    · cases h
end
end

def outN (ren : List (Nat × Nat)) (hb h : Nat) : Nat := match look ren h with | some g => g | none => hb + h
mutual
/-- Nothing in it hangs on memory that is only read. -/
def closedB : AV → Bool
  | .p none x => x.val?.isSome
  | .own _ => true
  | .ptr _ _ => true
  | .nil => true
  | .no => true
  | .agg cs => closedBL cs
  | .tup cs => closedBL cs
  | _ => false
def closedBL : List AV → Bool
  | [] => true
  | x :: xs => closedB x && closedBL xs
end
def closedRB : Rs → Bool
  | .box _ cs => closedBL cs
  | .arr _ _ d _ => d
mutual
theorem closedB_match {K K' : Nat → Prop} {φ : Phi} {w : World} : ∀ (x : AV) (v : Value), closedB x = true → MatchV K φ w x v → MatchV K' φ w x v
  | .p none x, v, hc, h => by
    unfold closedB at hc
    unfold MatchV at *
    cases hx : x.val? with
    | none => simp [hx] at hc
    | some u => exact (RdV.scalar hx).2 ((RdV.scalar hx).1 h)
  | .p (some k) x, v, hc, h => by simp [closedB] at hc
  | .own k, v, _, h => by unfold MatchV at *; exact h
  | .ptr k o, v, _, h => by unfold MatchV at *; exact h
  | .ep k _ _ _, v, hc, _ => by simp [closedB] at hc
  | .rp _ x, v, hc, h => by simp [closedB] at hc
  | .fn _ _, v, hc, h => by simp [closedB] at hc
  | .bsl _ _, v, hc, h => by simp [closedB] at hc
  | .nil, v, _, h => by unfold MatchV at *; exact h
  | .no, v, _, _ => by unfold MatchV; trivial
  | .agg cs, v, hc, h => by
    unfold closedB at hc
    unfold MatchV at *
    obtain ⟨vs, e, h1, h2⟩ := h
    exact ⟨vs, e, h1, closedBL_match cs _ hc h2⟩
  | .tup cs, v, hc, h => by
    unfold closedB at hc
    unfold MatchV at *
    obtain ⟨vs, e, h2⟩ := h
    exact ⟨vs, e, closedBL_match cs _ hc h2⟩
theorem closedBL_match {K K' : Nat → Prop} {φ : Phi} {w : World} : ∀ (xs : List AV) (vs : List Value), closedBL xs = true → MatchL K φ w xs vs → MatchL K' φ w xs vs
  | [], vs, _, h => by unfold MatchL at *; exact h
  | x :: xs, vs, hc, h => by
    unfold closedBL at hc
    simp only [Bool.and_eq_true] at hc
    unfold MatchL at *
    obtain ⟨v, vs', e, h1, h2⟩ := h
    exact ⟨v, vs', e, closedB_match x v hc.1 h1, closedBL_match xs vs' hc.2 h2⟩
end
def invN (on : Nat → Nat) : List (Nat × Rs) → Nat → Option Nat
  | [], _ => none
  | (h, _) :: l, g => if on h = g then some h else invN on l g
theorem inv_some {on : Nat → Nat} : ∀ {ro : List (Nat × Rs)} {g h : Nat}, invN on ro g = some h → on h = g ∧ ∃ r, findH ro h = some r
  | [], _, _, e => by simp [invN] at e
  | (k, r) :: l, g, h, e => by
    simp only [invN] at e
    split at e
    · injection e with e; subst e; rename_i q; exact ⟨q, r, by simp [findH]⟩
    · obtain ⟨h1, r', h2⟩ := inv_some e
      refine ⟨h1, ?_⟩
      simp only [findH]
      split
      · exact ⟨r, rfl⟩
      · exact ⟨r', h2⟩
theorem inv_of {on : Nat → Nat} {h : Nat} : ∀ {ro : List (Nat × Rs)} {r : Rs}, (∀ h' r', findH ro h' = some r' → on h' = on h → h' = h) → findH ro h = some r → invN on ro (on h) = some h := by
  intro ro r hi hr
  cases hv : invN on ro (on h) with
  | some h' =>
    obtain ⟨e, r', hr'⟩ := inv_some hv
    rw [hi h' r' hr' e]
  | none =>
    exfalso
    have : ∀ (l : List (Nat × Rs)), invN on l (on h) = none → findH l h = none := by
      intro l
      induction l with
      | nil => intro _; rfl
      | cons q l ih =>
        obtain ⟨k, r0⟩ := q
        intro e
        simp only [invN] at e
        split at e
        · cases e
        · rename_i hne
          simp only [findH]
          rw [if_neg (fun e' => hne (by rw [e']))]
          exact ih e
    rw [this ro hv] at hr; cases hr
theorem findH_on {on : Nat → Nat} {m : Rs → Rs} : ∀ {ro : List (Nat × Rs)} {g : Nat} {r : Rs}, findH (ro.map fun q => (on q.1, m q.2)) g = some r → ∃ h r0, invN on ro g = some h ∧ findH ro h = some r0 ∧ r = m r0
  | [], g, r, e => by simp [findH] at e
  | (k, r1) :: l, g, r, e => by
    simp only [List.map_cons, findH] at e
    split at e
    · rename_i q
      injection e with e
      exact ⟨k, r1, by simp [invN, q], by simp [findH], e.symm⟩
    · rename_i q
      obtain ⟨h, r0, h1, h2, h3⟩ := findH_on e
      refine ⟨h, r0, by simp only [invN]; rw [if_neg (fun e => q e.symm)]; exact h1, ?_, h3⟩
      simp only [findH]
      rw [if_neg (fun e => by subst e; exact q (inv_some h1).1.symm)]; exact h2
theorem findH_on_none {on : Nat → Nat} {m : Rs → Rs} : ∀ {ro : List (Nat × Rs)} {g : Nat}, findH (ro.map fun q => (on q.1, m q.2)) g = none → invN on ro g = none
  | [], g, e => rfl
  | (k, r1) :: l, g, e => by
    simp only [List.map_cons, findH] at e
    split at e
    · cases e
    · rename_i q
      simp only [invN]
      rw [if_neg (fun e => q e.symm)]; exact findH_on_none e
theorem look_mem {ren : List (Nat × Nat)} {h g : Nat} (e : look ren h = some g) : g ∈ ren.map (·.2) := by
  induction ren with
  | nil => simp [look] at e
  | cons q l ih =>
    obtain ⟨k, v⟩ := q
    unfold look at e
    split at e
    · injection e with e; simp [e]
    · simp only [List.map_cons, List.mem_cons]; exact .inr (ih e)
section
variable {P : Program} {sl : Sl} {rs : Rl}
theorem sound_callx {o : Oper} {f : FuncId} {avs fs : List AV} {ri ro : List (Nat × Rs)} {ren : List (Nat × Nat)} {rv : AV} {hb : Nat}
    (hrun : ∀ K φ A w0 N a w, G K φ A w0 N (mk sl rs) a w → ∃ vs : Array Value, (execOp a.eval o).run P w = .ok (.enter f vs) w ∧ MatchL K φ w avs vs.toList)
    (hC : Con2 P f fs ri rv ro) (ha : ArgBL rs ren fs avs True)
    (hres : ∀ h r, findH ri h = some r → ∃ g, look ren h = some g ∧ findO rs g = some (mapR (renF ren) r)) (hkey : ∀ h g, look ren h = some g → ∃ r, findH ri h = some r) (hinj : nodupB (ren.map (·.2)) = true)
    (hcl : closedB rv = true) (hclr : ∀ q ∈ ro, closedRB q.2 = true) (hfr : ∀ q ∈ ro, look ren q.1 = none → Fresh (mk sl rs) (hb + q.1))
    (hmt : ∀ h ∈ ments rv, ∃ r, findH ro h = some r) (hmr : ∀ q ∈ ro, ∀ h ∈ mentsR q.2, ∃ r, findH ro h = some r)
    (hon : ∀ h h' r r', findH ro h = some r → findH ro h' = some r' → outN ren hb h = outN ren hb h' → h = h')
    (hvw : ∀ q ∈ ro, ∀ g, look ren q.1 = some g → (∀ t, g ∉ views (findS sl t)) ∧ ∀ h' r, findO rs h' = some r → g ∉ viewsR r) :
    Sound0 P o (mk sl rs) ⟨mapA (outN ren hb) rv, ren.map (·.2), ro.map fun q => (outN ren hb q.1, mapR (outN ren hb) q.2)⟩ := by
  intro K φ A w0 N a w Q hd hG
  obtain ⟨vs, hrn, hmv⟩ := hrun K φ A w0 N a w hG
  unfold Oper.wp
  rw [hrn, Oper.upon_enter]
  let φi : Phi := fun h => match look ren h with | some g => φ g | none => none
  have hi : ∀ h pl, φi h = some pl → ∃ g, look ren h = some g ∧ φ g = some pl := fun h pl e => by
    simp only [φi] at e
    split at e
    · rename_i g hg; exact ⟨g, hg, e⟩
    · cases e
  have hren : ∀ h g, look ren h = some g → renF ren h = g := fun h g e => by unfold renF; rw [e]
  have hKB := borrow_K hG (· ∈ ren.map (·.2))
  have hI : In2 (Borrow K φ w (· ∈ ren.map (·.2))) φi w ri := by
    refine ⟨fun b hb => hb.1, fun h r hr => ?_, fun h hr => ?_, fun h h' pl pl' hne e e' => ?_, fun h pl e => ?_, fun h pl e g hg => ?_, fun b hb' h pl e hm => ?_⟩
    · obtain ⟨g, hg, hf⟩ := hres h r hr
      obtain ⟨pl, hp, hh⟩ := hG.dom g _ hf
      refine ⟨pl, by simp only [φi, hg]; exact hp, ?_⟩
      cases r with
      | box t cs =>
        obtain ⟨g', vs', e1, e2, e3, e4⟩ := hh
        refine ⟨g', vs', e1, e2, e3, ?_⟩
        have := MatchL.unmap (φ' := φi) cs _ (fun k pl' _ e => by obtain ⟨g2, q1, q2⟩ := hi k pl' e; rw [hren k g2 q1]; exact q2) e4
        exact MatchL.mono (fun _ _ => rfl) hKB cs _ (fun _ _ _ e => ⟨e, fun _ _ => rfl⟩) this
      | arr e k d xs =>
        have := Holds.mono (K' := Borrow K φ w (· ∈ ren.map (·.2))) (φ' := φi) (w' := w) (pl := pl) (fun _ _ => rfl) hKB (fun _ _ => rfl) (.arr e k d xs) (fun _ _ hm _ => by simp [mentsR] at hm) hh
        exact this
    · simp only [φi]
      cases hl : look ren h with
      | none => rfl
      | some g =>
        obtain ⟨r, hr'⟩ := hkey h g hl
        rw [hr] at hr'; cases hr'
    · obtain ⟨g, q1, q2⟩ := hi h pl e
      obtain ⟨g', q1', q2'⟩ := hi h' pl' e'
      exact hG.disj g g' pl pl' (fun x => by subst x; exact hne (look_inj hinj q1 q1')) q2 q2'
    · obtain ⟨g, _, q2⟩ := hi h pl e; exact hG.nodup g pl q2
    · obtain ⟨g', _, q2⟩ := hi h pl e; exact (hG.ge g' pl q2 g hg).2
    · obtain ⟨g, q1, q2⟩ := hi h pl e
      exact hb'.2 ⟨g, pl, look_mem q1, q2, hm⟩
  have hargs := (ArgBL_ok hG hi fs avs True vs.toList ha hmv).1
  refine (hC.2.2 _ φi w vs hI hargs).mono ?_
  rintro e w' ⟨v, Kr, φ', rfl, hO, hmr'⟩
  have hfoot : ∀ b, AllF φi b → Foot φ (· ∈ ren.map (·.2)) b := fun b ⟨h, pl, _, e, hb⟩ => by
    obtain ⟨g, q1, q2⟩ := hi h pl e
    exact ⟨g, pl, look_mem q1, q2, hb⟩
  let on := outN ren hb
  have hou : ∀ h g, look ren h = some g → on h = g := fun h g e => by simp only [on, outN, e]
  have hou' : ∀ h, look ren h = none → on h = hb + h := fun h e => by simp only [on, outN, e]
  let φr : Phi := fun g => match invN on ro g with | some h => φ' h | none => none
  have r1 : ∀ g pl, φr g = some pl → ∃ h r, on h = g ∧ findH ro h = some r ∧ φ' h = some pl := fun g pl e => by
    simp only [φr] at e
    split at e
    · rename_i h hh
      obtain ⟨q1, r, q2⟩ := inv_some hh
      exact ⟨h, r, q1, q2, e⟩
    · cases e
  have r2 : ∀ h r, findH ro h = some r → φr (on h) = φ' h := fun h r hr => by
    simp only [φr]
    rw [inv_of (on := on) (fun h' r' hr' e => hon h' h r' r hr' hr e) hr]
  -- an out handle that was handed in lies where it lay; a new one is fresh
  have r3 : ∀ g pl, φr g = some pl → (φ g = some pl ∧ (∀ t, g ∉ views (findS sl t)) ∧ ∀ h' r, findO rs h' = some r → g ∉ viewsR r) ∨ Fresh (mk sl rs) g := fun g pl e => by
    obtain ⟨h, r, e1, e2, e3⟩ := r1 g pl e
    cases hl : look ren h with
    | some g' =>
      rw [hou h g' hl] at e1
      subst e1
      obtain ⟨r0, hr0⟩ := hkey h _ hl
      obtain ⟨pl0, hp0, _⟩ := hI.dom h r0 hr0
      have := hO.pin h pl pl0 e3 hp0
      subst this
      have hp : φ g' = some pl := by simp only [φi, hl] at hp0; exact hp0
      have := hvw _ (mem_of_findH e2) g' hl
      exact .inl ⟨hp, this⟩
    | none =>
      rw [hou' h hl] at e1
      rw [← e1]
      exact .inr (hfr _ (mem_of_findH e2) hl)
  have hst := hG.stepV (C := (· ∈ ren.map (·.2))) (φr := φr) (ρ := findH (ro.map fun q => (on q.1, mapR on q.2))) (K' := K) (w' := w')
    (hO.chg.mono hfoot)
    (fun g pl e => by
      obtain ⟨h, r, _, _, e3⟩ := r1 g pl e
      refine ⟨hO.nodup h pl e3, fun b hb => ⟨(hO.ge h pl e3 b hb).2, (hO.ge h pl e3 b hb).1.imp id (hfoot b)⟩⟩)
    (fun g g' pl pl' hne e e' => by
      obtain ⟨h, r, q1, _, e3⟩ := r1 g pl e
      obtain ⟨h', r', q1', _, e3'⟩ := r1 g' pl' e'
      exact hO.disj h h' pl pl' (fun x => by subst x; exact hne (q1.symm.trans q1')) e3 e3')
    (fun g r hr => by
      obtain ⟨h, r0, q1, q2, q3⟩ := findH_on hr
      subst q3
      obtain ⟨pl, hp, hh⟩ := hO.dom h r0 q2
      have hin := (inv_some q1).1
      refine ⟨pl, by rw [← hin, r2 h r0 q2]; exact hp, ?_⟩
      cases r0 with
      | box t cs =>
        obtain ⟨g', vs', e1, e2, e3, e4⟩ := hh
        refine ⟨g', vs', e1, e2, e3, ?_⟩
        refine MatchL.map cs _ (fun k pl' hk e => ?_) (closedBL_match cs _ (hclr _ (mem_of_findH q2)) e4)
        obtain ⟨rk, hrk⟩ := hmr _ (mem_of_findH q2) k hk
        obtain ⟨plk, hpk, _⟩ := hO.dom k rk hrk
        have : stepPhi (· ∈ ren.map (·.2)) φr φ (on k) = some plk := by simp only [stepPhi, r2 k rk hrk, hpk]
        rw [this] at e
        injection e with e
        subst e; exact hpk
      | arr e k d xs =>
        have hd' := hclr _ (mem_of_findH q2)
        simp only [closedRB] at hd'
        subst hd'
        exact hh)
    (fun g hr => by simp only [φr]; rw [findH_on_none hr])
    (fun _ h => h) (fun _ h => .inl h)
    (fun t g pl hm' e => by
      rcases r3 g pl e with ⟨q1, q2, _⟩ | q
      · exact ⟨q1, fun hv => absurd hv (q2 t)⟩
      · exact absurd hm' (q.1 t))
    (fun h' r g pl _ hr hm' e => by
      rcases r3 g pl e with ⟨q1, _, q2⟩ | q
      · exact ⟨q1, fun hv => absurd hv (q2 h' r hr)⟩
      · exact absurd hm' (q.2.1 h' r hr))
    (fun g pl e => by
      rcases r3 g pl e with ⟨q1, _⟩ | q
      · exact .inl q1
      · exact .inr q.2.2.2)
  refine ⟨K, stepPhi (· ∈ ren.map (·.2)) φr φ, v, rfl, hst.put hd (MatchV.map rv v (fun k pl hk e => ?_) (closedB_match rv v hcl hmr'))⟩
  obtain ⟨rk, hrk⟩ := hmt k hk
  obtain ⟨plk, hpk, _⟩ := hO.dom k rk hrk
  have : stepPhi (· ∈ ren.map (·.2)) φr φ (on k) = some plk := by simp only [stepPhi, r2 k rk hrk, hpk]
  rw [this] at e
  injection e with e
  subst e; exact hpk
end

def riW (rs : Rl) (ren : List (Nat × Nat)) : List (Nat × Rs) → Prop → Prop
  | [], K => K
  | (h, r) :: l, K => (match look ren h with
    | some g => (match findO rs g with | some r' => EqR r' (mapR (renF ren) r) (riW rs ren l K) | none => False)
    | none => False)
theorem riW_ok {rs : Rl} {ren : List (Nat × Nat)} {K : Prop} : ∀ {l : List (Nat × Rs)}, riW rs ren l K → (∀ h r, findH l h = some r → ∃ g, look ren h = some g ∧ findO rs g = some (mapR (renF ren) r)) ∧ K
  | [], h => ⟨by simp [findH], h⟩
  | (k, r0) :: l, hw => by
    unfold riW at hw
    split at hw
    · rename_i g hg
      split at hw
      · rename_i r' hr'
        obtain ⟨e1, hw1⟩ := hw.eq
        obtain ⟨q1, q2⟩ := riW_ok hw1
        refine ⟨fun h r e => ?_, q2⟩
        simp only [findH] at e
        split at e
        · rename_i ek
          subst ek
          injection e with e
          subst e
          exact ⟨g, hg, by rw [hr', e1]⟩
        · exact q1 h r e
      · cases hw
    · cases hw
def viewB (sl : Sl) (rs : Rl) (g : Nat) : Bool := sl.all (fun p => !(views (findS sl p.1)).contains g) && rs.all (fun p => match findO rs p.1 with | some r => !(viewsR r).contains g | none => true)
def callxB (sl : Sl) (rs : Rl) (hb : Nat) (ri : List (Nat × Rs)) (ren : List (Nat × Nat)) (rv : AV) (ro : List (Nat × Rs)) : Bool :=
  ren.all (fun q => (findH ri q.1).isSome) && nodupB (ren.map (·.2)) && closedB rv && (ro.all fun q => closedRB q.2) && (ro.all fun q => match look ren q.1 with | some g => viewB sl rs g | none => freshV sl rs (hb + q.1)) &&
  ((ments rv).all fun h => (findH ro h).isSome) && (ro.all fun q => (mentsR q.2).all fun h => (findH ro h).isSome) && (ro.all fun q => ro.all fun q' => Nat.beq q.1 q'.1 || !Nat.beq (outN ren hb q.1) (outN ren hb q'.1))
def callxW (P : Program) (sl : Sl) (rs : Rl) (d : Nat) (f : FuncId) (avs : List AV) (t : T) (K : AV → List Nat → List (Nat × Rs) → T → Prop) : Prop := match t with
  | .callx fs ri ren rv ro t => (match callxB sl rs (100 * d) ri ren rv ro with
    | true => Con2 P f fs ri rv ro ∧ ArgBL rs ren fs avs (riW rs ren ri (K (mapA (outN ren (100 * d)) rv) (ren.map (·.2)) (ro.map fun q => (outN ren (100 * d) q.1, mapR (outN ren (100 * d)) q.2)) t))
    | false => False)
  | _ => False
mutual
theorem ArgB_snd {rs : Rl} {ren : List (Nat × Nat)} {Q' : Prop} : ∀ (y x : AV) (Q : Prop), ArgB rs ren y x Q → Q ∧ (Q' → ArgB rs ren y x Q')
  | .no, x, Q, h => by unfold ArgB at *; exact ⟨h, id⟩
  | .nil, x, Q, h => by
    unfold ArgB at *
    split at h
    · exact ⟨h, id⟩
    · cases h
  | .own k, x, Q, h => by
    unfold ArgB at *
    split at h
    · split at h
      · refine ⟨h.eq.2, fun q => ?_⟩
        have := h.eq.1
        subst this
        simp only [EqN, Nat.beq_refl]; exact q
      · cases h
    · cases h
  | .ptr k o, x, Q, h => by
    unfold ArgB at *
    split at h
    · split at h
      · refine ⟨h.eq.2.eq.2, fun q => ?_⟩
        have e1 := h.eq.1
        have e2 := h.eq.2.eq.1
        subst e1; subst e2
        simp only [EqN, Nat.beq_refl]; exact q
      · cases h
    · cases h
  | .p none y, x, Q, h => by
    unfold ArgB at *
    split at h
    · exact ⟨h.2, fun q => ⟨h.1, q⟩⟩
    · split at h
      · exact ⟨h.2, fun q => ⟨h.1, q⟩⟩
      · cases h
    · split at h
      · split at h
        · exact ⟨h.2, fun q => ⟨h.1, q⟩⟩
        · cases h
      · cases h
    · split at h
      · exact ⟨h.2, fun q => ⟨h.1, q⟩⟩
      · cases h
    · cases h
  | .p (some _) y, x, Q, h => by unfold ArgB at h; cases h
  | .agg ys, x, Q, h => by
    unfold ArgB at *
    split at h
    · exact ArgBL_snd ys _ Q h
    · cases h
  | .tup ys, x, Q, h => by unfold ArgB at h; cases h
  | .ep _ _ _ _, x, Q, h => by unfold ArgB at h; cases h
  | .rp _ _, x, Q, h => by unfold ArgB at h; cases h
  | .fn _ _, x, Q, h => by unfold ArgB at h; cases h
  | .bsl _ _, x, Q, h => by unfold ArgB at h; cases h
theorem ArgBL_snd {rs : Rl} {ren : List (Nat × Nat)} {Q' : Prop} : ∀ (ys xs : List AV) (Q : Prop), ArgBL rs ren ys xs Q → Q ∧ (Q' → ArgBL rs ren ys xs Q')
  | [], xs, Q, h => by
    unfold ArgBL at *
    split at h
    · exact ⟨h, id⟩
    · cases h
  | y :: ys, xs, Q, h => by
    unfold ArgBL at *
    split at h
    · obtain ⟨q1, q2⟩ := ArgB_snd (Q' := ArgBL rs ren ys _ Q') y _ _ h
      obtain ⟨q3, q4⟩ := ArgBL_snd (Q' := Q') ys _ Q q1
      exact ⟨q3, fun q => q2 (q4 q)⟩
    · cases h
end
theorem look_in {ren : List (Nat × Nat)} {h g : Nat} (e : look ren h = some g) : (h, g) ∈ ren := by
  induction ren with
  | nil => simp [look] at e
  | cons q l ih =>
    obtain ⟨k, v⟩ := q
    unfold look at e
    split at e
    · rename_i hb; injection e with e; have := Nat.eq_of_beq_eq_true hb; subst this; subst e; simp
    · exact List.mem_cons_of_mem _ (ih e)
theorem viewB_ok {sl : Sl} {rs : Rl} {g : Nat} (h : viewB sl rs g = true) : (∀ t, g ∉ views (findS sl t)) ∧ ∀ h' r, findO rs h' = some r → g ∉ viewsR r := by
  unfold viewB at h
  simp only [Bool.and_eq_true, List.all_eq_true] at h
  refine ⟨fun t ht => ?_, fun h' r hr hm => ?_⟩
  · have hk : ∀ (l : Sl), findS l t ≠ .no → t ∈ l.map (·.1) := by
      intro l
      induction l with
      | nil => intro h; simp [findS] at h
      | cons q l ih =>
        obtain ⟨k, v⟩ := q
        intro h
        simp only [findS] at h
        by_cases e : t = k
        · simp [e]
        · rw [if_neg e] at h; simp [ih h]
    have hne : findS sl t ≠ .no := fun e => by rw [e] at ht; simp [views] at ht
    obtain ⟨q, hq, rfl⟩ := List.mem_map.1 (hk sl hne)
    have := h.1 q hq
    simp only [Bool.not_eq_true', List.contains_eq_mem, decide_eq_false_iff_not] at this
    exact this ht
  · have hk : ∀ (l : Rl), findO l h' = some r → h' ∈ l.map (·.1) := by
      intro l
      induction l with
      | nil => intro h; simp [findO] at h
      | cons q l ih =>
        obtain ⟨k, v⟩ := q
        intro h
        simp only [findO] at h
        by_cases e : h' = k
        · simp [e]
        · rw [if_neg e] at h; simp [ih h]
    obtain ⟨q, hq, rfl⟩ := List.mem_map.1 (hk rs hr)
    have := h.2 q hq
    rw [hr] at this
    simp only [Bool.not_eq_true', List.contains_eq_mem, decide_eq_false_iff_not] at this
    exact this hm
theorem callxW_ok {P : Program} {sl : Sl} {rs : Rl} {d : Nat} {f : FuncId} {avs : List AV} {o : Oper} {t : T} {K : AV → List Nat → List (Nat × Rs) → T → Prop} (hrun : callable P f = true → ∀ K φ A w0 N a w, G K φ A w0 N (mk sl rs) a w → ∃ vs : Array Value, (execOp a.eval o).run P w = .ok (.enter f vs) w ∧ MatchL K φ w avs vs.toList) (h : callxW P sl rs d f avs t K) : ∃ v del new t', Sound0 P o (mk sl rs) ⟨v, del, new⟩ ∧ K v del new t' := by
  unfold callxW at h
  split at h
  · split at h
    · rename_i hb
      unfold callxB at hb
      simp only [Bool.and_eq_true, List.all_eq_true] at hb
      obtain ⟨⟨⟨⟨⟨⟨⟨b1, b2⟩, b3⟩, b4⟩, b5⟩, b6⟩, b7⟩, b8⟩ := hb
      obtain ⟨hC, h⟩ := h
      obtain ⟨h1, h2⟩ := ArgBL_snd (Q' := True) _ _ _ h
      obtain ⟨h3, h4⟩ := riW_ok h1
      refine ⟨_, _, _, _, sound_callx (hrun hC.1) hC (h2 trivial) h3 (fun h g e => Option.isSome_iff_exists.1 (b1 _ (look_in e))) b2 b3 b4 (fun q hq hn => ?_) (fun k hk => Option.isSome_iff_exists.1 (b6 k hk)) (fun q hq k hk => Option.isSome_iff_exists.1 (b7 q hq k hk)) (fun k k' r r' e e' ex => ?_) (fun q hq g hg => ?_), h4⟩
      · have := b5 q hq
        rw [hn] at this
        exact freshV_ok this
      · have := b8 _ (mem_of_findH e) _ (mem_of_findH e')
        simp only [Bool.or_eq_true, Bool.not_eq_true'] at this
        rcases this with q | q
        · exact Nat.eq_of_beq_eq_true q
        · rw [ex, Nat.beq_refl] at q; cases q
      · have := b5 q hq
        rw [hg] at this
        exact viewB_ok this
    · cases h
  · cases h
end Go.Proofs.Ytcgjlddpbkponaa
