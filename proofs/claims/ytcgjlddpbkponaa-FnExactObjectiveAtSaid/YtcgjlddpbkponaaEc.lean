/-
  A state speaks of a frame and a world (G); the one law by which it goes on while memory is made, written or handed over.
-/
import Derived.Test.YtcgjlddpbkponaaEb
namespace Go.Proofs.Ytcgjlddpbkponaa
open Go.ChangeShapes Go.WideShapes Go.ChangeAt Go.RowKit
set_option linter.unusedVariables false
set_option linter.unusedSimpArgs false

def RdRows (K : Nat → Prop) (w : World) (k : Nat) : List (List Dat) → List (List Value) → Prop
  | [], css => css = []
  | x :: xs, css => ∃ c css', css = c :: css' ∧ x.length = k ∧ RdL K w x c ∧ RdRows K w k xs css'
theorem RdRows.mono {K K' : Nat → Prop} {w w' : World} {k : Nat} (hs : SameOn K w w') (hK : ∀ b, K b → K' b) : ∀ {xs : List (List Dat)} {css : List (List Value)}, RdRows K w k xs css → RdRows K' w' k xs css
  | [], _, h => h
  | x :: xs, _, ⟨c, css', e, h1, h2, h3⟩ => ⟨c, css', e, h1, RdL.mono hs hK x c h2, RdRows.mono hs hK h3⟩
theorem RdRows.len {K : Nat → Prop} {w : World} {k : Nat} : ∀ {xs : List (List Dat)} {css : List (List Value)}, RdRows K w k xs css → css.length = xs.length ∧ ∀ c ∈ css, c.length = k
  | [], _, h => by rw [show _ = [] from h]; simp
  | x :: xs, _, ⟨c, css', e, h1, h2, h3⟩ => by
    subst e
    have := RdRows.len h3
    refine ⟨by simp [this.1], fun d hd => ?_⟩
    rcases List.mem_cons.1 hd with rfl | hd
    · rw [h2.len, h1]
    · exact this.2 d hd
theorem RdRows.at_ {K : Nat → Prop} {w : World} {k : Nat} : ∀ {xs : List (List Dat)} {css : List (List Value)} {i : Nat} {x : List Dat} {c : List Value}, RdRows K w k xs css → xs[i]? = some x → css[i]? = some c → x.length = k ∧ RdL K w x c
  | [], _, _, _, _, _, h, _ => by simp at h
  | y :: xs, _, 0, x, c, ⟨c', css', e, h1, h2, h3⟩, hx, hc => by
    subst e; simp at hx hc; subst hx; subst hc; exact ⟨h1, h2⟩
  | y :: xs, _, i + 1, x, c, ⟨c', css', e, h1, h2, h3⟩, hx, hc => by
    subst e; simp at hx hc; exact RdRows.at_ h3 hx hc

def Pl.F (pl : Pl) : List Nat := pl.top ++ pl.sub
def Holds (K : Nat → Prop) (φ : Phi) (w : World) (pl : Pl) : Rs → Prop
  | .box t cs => ∃ g vs, pl = ⟨.pointer (some ⟨g, 0, none⟩), [g], []⟩ ∧ Blk w g t vs ∧ (∀ u ∈ vs.toList, u.oneCell' = true) ∧ MatchL K φ w cs vs.toList
  | .arr e k true xs => ∃ css Fs, w.ownsRow 0 e k pl.val xs.length css.flatten ∧ pl.top = pl.val.ownBlock.toList ∧ pl.sub = Fs.flatten ∧ OwRs w k xs css Fs
  | .arr e k false xs => ∃ css, w.ownsRow 0 e k pl.val xs.length css.flatten ∧ pl.top = pl.val.ownBlock.toList ∧ pl.sub = [] ∧ RdRows K w k xs css
theorem Holds.mono {K K' : Nat → Prop} {φ φ' : Phi} {w w' : World} {pl : Pl} (hs : SameOn K w w') (hK : ∀ b, K b → K' b) (hk : KeptOn pl.F w w') :
    ∀ (r : Rs), (∀ h pl, h ∈ mentsR r → φ' h = some pl → φ h = some pl ∧ SameOn (· ∈ pl.sub) w w') → Holds K φ w pl r → Holds K' φ' w' pl r
  | .box t cs, hm, ⟨g, vs, e, hb, h1, hl⟩ => by
    subst e
    exact ⟨g, vs, rfl, (hk g (by simp [Pl.F])).trans hb, h1, MatchL.mono hs hK cs _ hm hl⟩
  | .arr e k true xs, _, ⟨css, Fs, h1, h2, h3, h4⟩ =>
    ⟨css, Fs, owns_keptOn h1 (hk.mono fun g hg => by unfold Pl.F; rw [h2]; exact List.mem_append_left _ hg), h2, h3, OwRs.kept k xs css Fs (hk.mono fun g hg => by unfold Pl.F; rw [h3]; exact List.mem_append_right _ hg) h4⟩
  | .arr e k false xs, _, ⟨css, h1, h2, h3, h4⟩ =>
    ⟨css, owns_keptOn h1 (hk.mono fun g hg => by unfold Pl.F; rw [h2]; exact List.mem_append_left _ hg), h2, h3, h4.mono hs hK⟩

structure St where
  slots : Nat → AV
  res : Nat → Option Rs
def upd {α : Type} (f : Nat → α) (d : Nat) (v : α) : Nat → α := fun t => if t = d then v else f t
def St.put (S : St) : Option Nat → AV → St
  | some d, v => { S with slots := upd S.slots d v }
  | none, _ => S

/-- Outside U nothing of the old memory has changed. -/
structure Chg (U : Nat → Prop) (w w' : World) : Prop where
  os : w'.os = w.os
  tape : w'.tape = w.tape
  output : w'.output = w.output
  size : w.heap.size ≤ w'.heap.size
  block : ∀ k, k < w.heap.size → ¬ U k → w'.heap[k]? = w.heap[k]?
theorem Chg.of_below {w w' : World} (h : Below w.heap.size w w') (U : Nat → Prop) : Chg U w w' := ⟨h.os, h.tape, h.output, h.size, fun k hk _ => h.block k hk⟩
theorem Chg.below {B : Nat} {U : Nat → Prop} {w0 w w' : World} (hb : Below B w0 w) (h : Chg U w w') (hU : ∀ b, U b → B ≤ b) (hB : B ≤ w.heap.size) : Below B w0 w' :=
  ⟨h.os.trans hb.os, h.tape.trans hb.tape, h.output.trans hb.output, Nat.le_trans hb.size h.size, fun k hk => (h.block k (by omega) (fun hu => by have := hU k hu; omega)).trans (hb.block k hk)⟩

structure G (K : Nat → Prop) (φ : Phi) (A : Nat → Prop) (w0 : World) (N : Nat) (S : St) (a : Act) (w : World) : Prop where
  dom : ∀ h r, S.res h = some r → ∃ pl, φ h = some pl ∧ Holds K φ w pl r
  non : ∀ h, S.res h = none → φ h = none
  disj : ∀ h h' pl pl', h ≠ h' → φ h = some pl → φ h' = some pl' → ∀ g ∈ pl.F, g ∉ pl'.F
  nodup : ∀ h pl, φ h = some pl → pl.F.Nodup
  ge : ∀ h pl, φ h = some pl → ∀ g ∈ pl.F, w0.heap.size ≤ g ∧ g < w.heap.size
  kin : ∀ b, K b → b < w.heap.size ∧ (A b ∨ w0.heap.size ≤ b)
  kout : ∀ b, K b → ∀ h pl, φ h = some pl → b ∉ pl.F
  aK : ∀ b, A b → K b
  slots : ∀ t, MatchV K φ w (S.slots t) (a.tmps.getD t undef)
  bel : Below w0.heap.size w0 w
  nd : a.defers = []
  size : a.tmps.size = N

/-- The next map of places: those of φr, else the old ones but for C. -/
def stepPhi (C : Nat → Prop) [DecidablePred C] (φr φ : Phi) : Phi := fun h => match φr h with | some pl => some pl | .none => if C h then .none else φ h
def stepRes (C : Nat → Prop) [DecidablePred C] (ρ res : Nat → Option Rs) : Nat → Option Rs := fun h => match ρ h with | some r => some r | .none => if C h then .none else res h
theorem stepPhi_some {C : Nat → Prop} [DecidablePred C] {φr φ : Phi} {h : Nat} {pl : Pl} (e : stepPhi C φr φ h = some pl) : φr h = some pl ∨ (φr h = .none ∧ ¬ C h ∧ φ h = some pl) := by
  unfold stepPhi at e
  split at e
  · rename_i p hp
    injection e with e
    subst e; exact .inl hp
  · rename_i hp
    split at e
    · cases e
    · exact .inr ⟨hp, by assumption, e⟩

section
variable {K : Nat → Prop} {φ : Phi} {A : Nat → Prop} {w0 : World} {N : Nat} {S : St} {a : Act} {w : World}
/-- Blocks of the handles of C. -/
def Foot (φ : Phi) (C : Nat → Prop) : Nat → Prop := fun b => ∃ h pl, C h ∧ φ h = some pl ∧ b ∈ pl.F
theorem G.step (hG : G K φ A w0 N S a w) {C : Nat → Prop} [DecidablePred C] {φr : Phi} {ρ : Nat → Option Rs} {K' : Nat → Prop} {w' : World}
    (hU : Chg (Foot φ C) w w')
    (hR : ∀ h pl, φr h = some pl → pl.F.Nodup ∧ ∀ g ∈ pl.F, g < w'.heap.size ∧ (w.heap.size ≤ g ∨ Foot φ C g))
    (hD : ∀ h h' pl pl', h ≠ h' → φr h = some pl → φr h' = some pl' → ∀ g ∈ pl.F, g ∉ pl'.F)
    (hρ : ∀ h r, ρ h = some r → ∃ pl, φr h = some pl ∧ Holds K' (stepPhi C φr φ) w' pl r)
    (hρn : ∀ h, ρ h = .none → φr h = .none)
    (hK : ∀ b, K b → K' b)
    (hK' : ∀ b, K' b → K b ∨ (b < w'.heap.size ∧ (w.heap.size ≤ b ∨ Foot φ C b) ∧ ∀ h pl, φr h = some pl → b ∉ pl.F))
    (hM : ∀ t h pl, h ∈ ments (S.slots t) → φr h = some pl → φ h = some pl ∧ SameOn (· ∈ pl.sub) w w')
    (hMr : ∀ h' r h pl, ¬ C h' → S.res h' = some r → h ∈ mentsR r → φr h = some pl → φ h = some pl ∧ SameOn (· ∈ pl.sub) w w') :
    G K' (stepPhi C φr φ) A w0 N { S with res := stepRes C ρ S.res } a w' := by
  have hF : ∀ b, Foot φ C b → w0.heap.size ≤ b ∧ b < w.heap.size := fun b ⟨h, pl, _, hp, hb⟩ => hG.ge h pl hp b hb
  have hsz : w0.heap.size ≤ w.heap.size := hG.bel.size
  have hsame : SameOn K w w' := fun b hb => hU.block b (hG.kin b hb).1 (fun ⟨h, pl, _, hp, hm⟩ => hG.kout b hb h pl hp hm)
  have hkeep : ∀ h pl, ¬ C h → φ h = some pl → KeptOn pl.F w w' := fun h pl hc hp g hg =>
    hU.block g (hG.ge h pl hp g hg).2 (fun ⟨h', pl', hc', hp', hm⟩ => by
      by_cases e : h = h'
      · subst e; exact hc hc'
      · exact hG.disj h h' pl pl' e hp hp' g hg hm)
  have hsub : ∀ h pl, ¬ C h → φ h = some pl → SameOn (· ∈ pl.sub) w w' := fun h pl hc hp g hg => hkeep h pl hc hp g (List.mem_append_right _ hg)
  have hslot : ∀ x v, (∀ h pl, h ∈ ments x → φr h = some pl → φ h = some pl ∧ SameOn (· ∈ pl.sub) w w') → MatchV K φ w x v → MatchV K' (stepPhi C φr φ) w' x v := fun x v hm hx =>
    MatchV.mono hsame hK x v (fun h pl hh e => by
      rcases stepPhi_some e with e | ⟨_, hc, e⟩
      · exact hm h pl hh e
      · exact ⟨e, hsub h pl hc e⟩) hx
  refine ⟨?_, ?_, ?_, ?_, ?_, ?_, ?_, fun b hb => hK b (hG.aK b hb), fun t => hslot _ _ (hM t) (hG.slots t), Chg.below hG.bel hU (fun b hb => (hF b hb).1) hsz, hG.nd, hG.size⟩
  · intro h r hr
    simp only [stepRes] at hr
    split at hr
    · rename_i r' hr'
      injection hr with hr
      subst hr
      obtain ⟨pl, hp, hh⟩ := hρ h _ hr'
      exact ⟨pl, by simp [stepPhi, hp], hh⟩
    · rename_i hn
      split at hr
      · cases hr
      · rename_i hc
        obtain ⟨pl, hp, hh⟩ := hG.dom h r hr
        refine ⟨pl, by simp [stepPhi, hρn h hn, hc, hp], Holds.mono hsame hK (hkeep h pl hc hp) r (fun h2 pl2 hm e => ?_) hh⟩
        rcases stepPhi_some e with e | ⟨_, hc2, e⟩
        · exact hMr h r h2 pl2 hc hr hm e
        · exact ⟨e, hsub h2 pl2 hc2 e⟩
  · intro h hr
    simp only [stepRes] at hr
    split at hr
    · cases hr
    · rename_i hn
      simp only [stepPhi, hρn h hn]
      split at hr
      · rename_i hc; simp [hc]
      · rename_i hc; simp [hc, hG.non h hr]
  · intro h h' pl pl' hne e e' g hg hg'
    rcases stepPhi_some e with e | ⟨_, hc, e⟩ <;> rcases stepPhi_some e' with e' | ⟨_, hc', e'⟩
    · exact hD h h' pl pl' hne e e' g hg hg'
    · rcases ((hR h pl e).2 g hg).2 with h1 | ⟨h2, pl2, hc2, e2, hm⟩
      · have := (hG.ge h' pl' e' g hg').2; omega
      · exact hG.disj h2 h' pl2 pl' (fun e => by subst e; exact hc' hc2) e2 e' g hm hg'
    · rcases ((hR h' pl' e').2 g hg').2 with h1 | ⟨h2, pl2, hc2, e2, hm⟩
      · have := (hG.ge h pl e g hg).2; omega
      · exact hG.disj h2 h pl2 pl (fun e => by subst e; exact hc hc2) e2 e g hm hg
    · exact hG.disj h h' pl pl' hne e e' g hg hg'
  · intro h pl e
    rcases stepPhi_some e with e | ⟨_, _, e⟩
    · exact (hR h pl e).1
    · exact hG.nodup h pl e
  · intro h pl e g hg
    rcases stepPhi_some e with e | ⟨_, _, e⟩
    · obtain ⟨h1, h2⟩ := (hR h pl e).2 g hg
      refine ⟨?_, h1⟩
      rcases h2 with h2 | h2
      · omega
      · exact (hF g h2).1
    · have := hG.ge h pl e g hg
      exact ⟨this.1, Nat.lt_of_lt_of_le this.2 hU.size⟩
  · intro b hb
    rcases hK' b hb with hb | ⟨h1, h2, _⟩
    · have := hG.kin b hb
      exact ⟨Nat.lt_of_lt_of_le this.1 hU.size, this.2⟩
    · refine ⟨h1, .inr ?_⟩
      rcases h2 with h2 | h2
      · omega
      · exact (hF b h2).1
  · intro b hb h pl e hm
    rcases hK' b hb with hb | ⟨_, h2, h3⟩
    · rcases stepPhi_some e with e | ⟨_, _, e⟩
      · rcases ((hR h pl e).2 b hm).2 with h1 | ⟨h2, pl2, hc2, e2, hm2⟩
        · have := (hG.kin b hb).1; omega
        · exact hG.kout b hb h2 pl2 e2 hm2
      · exact hG.kout b hb h pl e hm
    · rcases stepPhi_some e with e | ⟨_, hc, e⟩
      · exact h3 h pl e hm
      · rcases h2 with h2 | ⟨h4, pl4, hc4, e4, hm4⟩
        · have := (hG.ge h pl e b hm).2; omega
        · exact hG.disj h4 h pl4 pl (fun e => by subst e; exact hc hc4) e4 e b hm4 hm
/-- What a transition leaves: outside the handles 'del' old memory is as it was; places stay or are new. -/
structure Tr (K : Nat → Prop) (φ : Phi) (w : World) (C : Nat → Prop) (new : Nat → Option Rs) (K' : Nat → Prop) (φ' : Phi) (w' : World) : Prop where
  chg : Chg (Foot φ C) w w'
  kk : ∀ b, K b → K' b
  kk' : ∀ b, K' b → K b ∨ w.heap.size ≤ b ∨ Foot φ C b
  ph : ∀ h pl, φ' h = some pl → φ h = some pl ∨ (φ h = .none ∧ (∃ r, new h = some r) ∧ ∀ g ∈ pl.F, w.heap.size ≤ g ∨ Foot φ C g)
  sub : ∀ h pl, φ' h = some pl → φ h = some pl → SameOn (· ∈ pl.sub) w w'
theorem Tr.refl (K : Nat → Prop) (φ : Phi) (w : World) (C : Nat → Prop) (new : Nat → Option Rs) : Tr K φ w C new K φ w := ⟨⟨rfl, rfl, rfl, Nat.le_refl _, fun _ _ _ => rfl⟩, fun _ h => h, fun _ h => .inl h, fun _ _ h => .inl h, fun _ _ _ _ _ _ => rfl⟩
theorem G.put (hG : G K φ A w0 N S a w) {d : Option Nat} {x : AV} {v : Value} (hd : ∀ d', d = some d' → d' < N) (hx : MatchV K φ w x v) : G K φ A w0 N (S.put d x) (a.put d v) w := by
  cases d with
  | none => exact hG
  | some d =>
    have hd' := hd d rfl
    refine ⟨hG.dom, hG.non, hG.disj, hG.nodup, hG.ge, hG.kin, hG.kout, hG.aK, fun t => ?_, hG.bel, hG.nd, by simp [Act.put, hG.size]⟩
    simp only [St.put, upd, Act.put]
    by_cases e : t = d
    · subst e
      rw [if_pos rfl, Array.getD_eq_getD_getElem?, Array.getElem?_setIfInBounds_self_of_lt (by rw [hG.size]; exact hd')]
      exact hx
    · rw [if_neg e, Array.getD_eq_getD_getElem?, Array.getElem?_setIfInBounds_ne (fun h => e h.symm), ← Array.getD_eq_getD_getElem?]
      exact hG.slots t
end
end Go.Proofs.Ytcgjlddpbkponaa
