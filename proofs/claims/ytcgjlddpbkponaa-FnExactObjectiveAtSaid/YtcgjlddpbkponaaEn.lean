/-
  A step that is right at a part of a state is right at the whole; regions that draw their order.
-/
import Derived.Test.YtcgjlddpbkponaaEm
import Derived.Orders
namespace Go.Proofs.Ytcgjlddpbkponaa
open Go.ChangeShapes Go.WideShapes Go.ChangeAt Go.RowKit
set_option linter.unusedVariables false
set_option linter.unusedSimpArgs false

section
variable {P : Program} {N : Nat}
theorem Chg.mono {U U' : Nat → Prop} {w w' : World} (h : Chg U w w') (hU : ∀ b, U b → U' b) : Chg U' w w' := ⟨h.os, h.tape, h.output, h.size, fun k hk hn => h.block k hk (fun hu => hn (hU k hu))⟩
theorem Sound.lift {o : Oper} {V S : St} {e : Eff} (hs : Sound P o V e) (h1 : ∀ t, V.slots t = .no ∨ S.slots t = V.slots t) (hV : ∀ h r, V.res h = some r → S.res h = some r)
    (hm1 : ∀ t h, h ∈ ments (V.slots t) → S.res h = V.res h) (hm2 : ∀ h0 r h, V.res h0 = some r → h ∈ mentsR r → S.res h = V.res h) (hm3 : ∀ h, h ∈ ments e.v → findH e.new h = none → S.res h = V.res h)
    (hm4 : ∀ k r h, findH e.new k = some r → h ∈ mentsR r → findH e.new h = none → S.res h = V.res h) (hnew : ∀ h r, findH e.new h = some r → ((∃ r', V.res h = some r') ∧ h ∈ e.del) ∨ Fresh S h) : Sound P o S e := by
  intro K φ A w0 N a w Q hd hG
  have hφ1 : ∀ h pl, (match V.res h with | some _ => φ h | none => none) = some pl → (∃ r, V.res h = some r) ∧ φ h = some pl := fun h pl e => by
    split at e
    · rename_i r hr; exact ⟨⟨r, hr⟩, e⟩
    · cases e
  have hφ1' : ∀ h r, V.res h = some r → (match V.res h with | some _ => φ h | none => none) = φ h := fun h r hr => by rw [hr]
  generalize hφ : (fun h => match V.res h with | some _ => φ h | none => none : Phi) = φ1
  have p1 : ∀ h pl, φ1 h = some pl → (∃ r, V.res h = some r) ∧ φ h = some pl := fun h pl e => hφ1 h pl (by rw [← hφ] at e; exact e)
  have p2 : ∀ h r, V.res h = some r → φ1 h = φ h := fun h r hr => by rw [← hφ]; exact hφ1' h r hr
  have p3 : ∀ h, V.res h = none → φ1 h = none := fun h hr => by rw [← hφ]; simp [hr]
  clear hφ1 hφ1' hφ
  have G1 : G K φ1 A w0 N V a w := by
    refine ⟨fun h r hr => ?_, p3, fun h h' pl pl' hne e e' => hG.disj h h' pl pl' hne (p1 h pl e).2 (p1 h' pl' e').2, fun h pl e => hG.nodup h pl (p1 h pl e).2, fun h pl e => hG.ge h pl (p1 h pl e).2, hG.kin, fun b hb h pl e => hG.kout b hb h pl (p1 h pl e).2, hG.aK, fun t => ?_, hG.bel, hG.nd, hG.size⟩
    · obtain ⟨pl, hp, hh⟩ := hG.dom h r (hV h r hr)
      exact ⟨pl, by rw [p2 h r hr]; exact hp, Holds.mono (fun _ _ => rfl) (fun _ h => h) (fun _ _ => rfl) r (fun h' pl' _ e => ⟨(p1 h' pl' e).2, fun _ _ => rfl⟩) hh⟩
    · rcases h1 t with e | e
      · rw [e]; unfold MatchV; trivial
      · rw [← e]; exact MatchV.mono (fun _ _ => rfl) (fun _ h => h) _ _ (fun h' pl' _ e => ⟨(p1 h' pl' e).2, fun _ _ => rfl⟩) (hG.slots t)
  refine Oper.wp_mono (fun a' w' ⟨K', φ', v, ha, G', tr⟩ => ?_) (hs K φ1 A w0 N a w Q hd G1)
  have hfoot : ∀ b, Foot φ1 (· ∈ e.del) b → Foot φ (· ∈ e.del) b := fun b ⟨h, pl, hc, hp, hb⟩ => ⟨h, pl, hc, (p1 h pl hp).2, hb⟩
  have hres : ∀ h, (V.apply o.dst e).res h = stepRes (· ∈ e.del) (findH e.new) V.res h := fun h => by unfold St.apply St.put; cases o.dst <;> rfl
  have hnewdom : ∀ h r, findH e.new h = some r → ∃ pl, φ' h = some pl ∧ Holds K' φ' w' pl r := fun h r hr => G'.dom h r (by rw [hres]; simp [stepRes, hr])
  have hφr : ∀ h pl, (if (findH e.new h).isSome then φ' h else none) = some pl → (∃ r, findH e.new h = some r) ∧ φ' h = some pl := fun h pl e' => by
    split at e'
    · rename_i hx; exact ⟨Option.isSome_iff_exists.1 hx, e'⟩
    · cases e'
  -- a handle that is named by what the step hands out is known alike to both
  have hsame : ∀ h pl, (findH e.new h = none → S.res h = V.res h) → stepPhi (· ∈ e.del) (fun h => if (findH e.new h).isSome then φ' h else none) φ h = some pl → φ' h = some pl := fun h pl hh e' => by
    rcases stepPhi_some e' with e' | ⟨e0, hc, e'⟩
    · exact (hφr h pl e').2
    · cases hx : findH e.new h with
      | some r =>
        obtain ⟨pl', hp', _⟩ := hnewdom h r hx
        simp [hx, hp'] at e0
      | none =>
        have hs' := hh hx
        cases hv : V.res h with
        | none => rw [hv] at hs'; rw [hG.non h hs'] at e'; cases e'
        | some r =>
          obtain ⟨pl', hp', _⟩ := G'.dom h r (by rw [hres]; simp [stepRes, hx, hc, hv])
          rcases tr.ph h pl' hp' with q | ⟨q, _⟩
          · rw [p2 h r hv, e'] at q
            injection q with q
            subst q; exact hp'
          · rw [p2 h r hv, e'] at q; cases q
  have hold : ∀ h pl, ¬ Fresh S h → (if (findH e.new h).isSome then φ' h else none) = some pl → φ h = some pl ∧ SameOn (· ∈ pl.sub) w w' := fun h pl hnf e' => by
    obtain ⟨⟨r, hr⟩, e'⟩ := hφr h pl e'
    rcases hnew h r hr with ⟨⟨r', hr'⟩, _⟩ | hf
    · rcases tr.ph h pl e' with q | ⟨q, _⟩
      · exact ⟨(p1 h pl q).2, tr.sub h pl e' q⟩
      · obtain ⟨pl0, hp0, _⟩ := G1.dom h r' hr'
        rw [q] at hp0; cases hp0
    · exact absurd hf hnf
  have hstep := hG.step (C := (· ∈ e.del)) (φr := fun h => if (findH e.new h).isSome then φ' h else none) (ρ := findH e.new) (K' := K') (w' := w')
    (tr.chg.mono hfoot)
    (fun h pl e' => by
      obtain ⟨⟨r, hr⟩, e'⟩ := hφr h pl e'
      refine ⟨G'.nodup h pl e', fun g hg => ⟨(G'.ge h pl e' g hg).2, ?_⟩⟩
      rcases tr.ph h pl e' with q | ⟨_, _, q⟩
      · rcases hnew h r hr with ⟨_, hdl⟩ | hf
        · exact .inr ⟨h, pl, hdl, (p1 h pl q).2, hg⟩
        · have := (p1 h pl q).2
          rw [hG.non h hf.2.2] at this; cases this
      · rcases q g hg with q | q
        · exact .inl q
        · exact .inr (hfoot g q))
    (fun h h' pl pl' hne e1 e2 => G'.disj h h' pl pl' hne (hφr h pl e1).2 (hφr h' pl' e2).2)
    (fun h r hr => by
      obtain ⟨pl, hp, hh⟩ := hnewdom h r hr
      exact ⟨pl, by simp [hr, hp], Holds.mono (fun _ _ => rfl) (fun _ h => h) (fun _ _ => rfl) r (fun h' pl' hm' e' => ⟨hsame h' pl' (hm4 h r h' hr hm') e', fun _ _ => rfl⟩) hh⟩)
    (fun h hr => by simp [hr])
    tr.kk
    (fun b hb => by
      rcases tr.kk' b hb with q | q
      · exact .inl q
      · refine .inr ⟨(G'.kin b hb).1, ?_, fun h pl e' => G'.kout b hb h pl (hφr h pl e').2⟩
        rcases q with q | q
        · exact .inl q
        · exact .inr (hfoot b q))
    (fun t h pl hm' e' => hold h pl (fun hf => hf.1 t hm') e')
    (fun h' r h pl _ hr hm' e' => hold h pl (fun hf => hf.2.1 h' r hr hm') e')
  refine ⟨K', stepPhi (· ∈ e.del) (fun h => if (findH e.new h).isSome then φ' h else none) φ, v, ha, ?_, ⟨tr.chg.mono hfoot, tr.kk, fun b hb => ?_, fun h pl e' => ?_, fun h pl e' e2 => ?_⟩⟩
  · have hsl : ∀ d, o.dst = some d → MatchV K' (stepPhi (· ∈ e.del) (fun h => if (findH e.new h).isSome then φ' h else none) φ) w' e.v v := fun d hdst => by
      have hsl := G'.slots d
      have h2 : (V.apply o.dst e).slots d = e.v := by rw [hdst]; simp [St.apply, St.put, upd]
      rw [h2, ha, hdst] at hsl
      simp only [Act.put] at hsl
      rw [Array.getD_eq_getD_getElem?, Array.getElem?_setIfInBounds_self_of_lt (by rw [hG.size]; exact hd d hdst)] at hsl
      exact MatchV.mono (K := K') (φ := φ') (w := w') (fun _ _ => rfl) (fun _ h => h) e.v v (fun h' pl' hm' e' => ⟨hsame h' pl' (hm3 h' hm') e', fun _ _ => rfl⟩) hsl
    rw [ha]
    cases hdst : o.dst with
    | none => exact hstep
    | some d => exact hstep.put (d := some d) (fun d' e' => by injection e' with e'; subst e'; exact hd d hdst) (hsl d hdst)
  · rcases tr.kk' b hb with q | q | q
    · exact .inl q
    · exact .inr (.inl q)
    · exact .inr (.inr (hfoot b q))
  · rcases stepPhi_some e' with e' | ⟨_, _, e'⟩
    · obtain ⟨⟨r, hr⟩, e'⟩ := hφr h pl e'
      rcases tr.ph h pl e' with q | ⟨q1, q2, q3⟩
      · exact .inl (p1 h pl q).2
      · rcases hnew h r hr with ⟨⟨r', hr'⟩, _⟩ | hf
        · obtain ⟨pl0, hp0, _⟩ := G1.dom h r' hr'
          rw [q1] at hp0; cases hp0
        · exact .inr ⟨hG.non h hf.2.2, q2, fun g hg => by rcases q3 g hg with q | q; exact .inl q; exact .inr (hfoot g q)⟩
    · exact .inl e'
  · rcases stepPhi_some e' with e' | ⟨_, hc, e'⟩
    · obtain ⟨⟨r, hr⟩, e3⟩ := hφr h pl e'
      exact (hold h pl (fun hf => by rw [hG.non h hf.2.2] at e2; cases e2) e').2
    · intro g hg
      exact (tr.chg.mono hfoot).block g (hG.ge h pl e' g (List.mem_append_right _ hg)).2 (fun ⟨h3, pl3, hc3, q3, hm3'⟩ => by
        by_cases ex : h = h3
        · subst ex; exact hc hc3
        · exact hG.disj h h3 pl pl3 ex e' q3 g (List.mem_append_right _ hg) hm3')
end
end Go.Proofs.Ytcgjlddpbkponaa
