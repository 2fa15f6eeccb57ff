/-
  Steps that make memory or write memory of the call's own.
-/
import Derived.Test.YtcgjlddpbkponaaEe
import Derived.Great.BuildSlice
namespace Go.Proofs.Ytcgjlddpbkponaa
open Go.ChangeShapes Go.WideShapes Go.ChangeAt Go.RowKit
set_option linter.unusedVariables false
set_option linter.unusedSimpArgs false

/-- h is named nowhere. -/
def Fresh (S : St) (h : Nat) : Prop := (∀ t, h ∉ ments (S.slots t)) ∧ (∀ h' r, S.res h' = some r → h ∉ mentsR r) ∧ S.res h = none
def cellsA : AV → List AV
  | .agg cs => cs
  | x => [x]
/-- The value takes cells of memory. -/
def cell1 (S : St) : AV → Prop
  | .p o _ => liveO S o
  | .own h => liveO S (some h)
  | .ptr h _ => liveO S (some h)
  | .ep h _ _ _ => liveO S (some h)
  | .rp o _ => liveO S o
  | .bsl h _ => liveO S (some h)
  | .fn _ _ => True
  | .nil => True
  | .agg _ => True
  | _ => False

section
variable {K : Nat → Prop} {φ : Phi} {A : Nat → Prop} {w0 : World} {N : Nat} {S : St} {a : Act} {w : World} {P : Program}
theorem ments_ev (S : St) (x : Operand) {h : Nat} (hm : h ∈ ments (S.ev x)) : ∃ t, h ∈ ments (S.slots t) := by
  cases x with
  | tmp t => exact ⟨t, hm⟩
  | const v => simp only [St.ev] at hm; unfold avC at hm; split at hm <;> simp [ments] at hm
  | func f => simp [St.ev, ments, mentsL] at hm
  | global g => simp [St.ev, ments] at hm
theorem ments_cells {x : AV} {h : Nat} : h ∈ mentsL (cellsA x) ↔ h ∈ ments x := by
  cases x with
  | p o x => cases o <;> simp [cellsA, mentsL, ments]
  | rp o x => cases o <;> simp [cellsA, mentsL, ments]
  | _ => simp [cellsA, mentsL, ments]
theorem ments_avC (vs : List Value) : mentsL (vs.map avC) = [] := by
  induction vs with
  | nil => rfl
  | cons v vs ih =>
    simp only [List.map_cons, mentsL, ih, List.append_nil]
    unfold avC
    split <;> simp [ments]
theorem matchL_avC (vs : List Value) : MatchL K φ w (vs.map avC) vs := by
  induction vs with
  | nil => simp only [List.map_nil]; unfold MatchL; rfl
  | cons v vs ih => simp only [List.map_cons]; unfold MatchL; exact ⟨v, vs, rfl, avC_match K φ w v, ih⟩
theorem cell1_match (hG : G K φ A w0 N S a w) {x : AV} {v : Value} (hc : cell1 S x) (hm : MatchV K φ w x v) : MatchL K φ w (cellsA x) v.cells.toList ∧ ∀ u ∈ v.cells.toList, u.oneCell' = true := by
  have one : v.oneCell' = true → (∀ cs, x ≠ .agg cs) → MatchL K φ w (cellsA x) v.cells.toList ∧ ∀ u ∈ v.cells.toList, u.oneCell' = true := fun h1 hx => by
    have e : v.cells = #[v] := by cases v <;> simp [Value.cells, Value.oneCell'] at *
    have e2 : cellsA x = [x] := by cases x <;> simp [cellsA] at *
    rw [e, e2]
    refine ⟨by unfold MatchL; exact ⟨v, [], rfl, hm, by unfold MatchL; rfl⟩, by simp [h1]⟩
  have live : ∀ {h : Nat}, liveO S (some h) → ∃ pl, φ h = some pl ∧ ∃ r, S.res h = some r ∧ Holds K φ w pl r := fun ⟨r, hr⟩ => by
    obtain ⟨pl, hp, hh⟩ := hG.dom _ r hr
    exact ⟨pl, hp, r, hr, hh⟩
  cases x with
  | p o x =>
    obtain ⟨B, hB, _⟩ := hG.inO (o := o) hc
    exact one (rdV_one ((hB _ _).1 hm)) (by simp)
  | own h =>
    obtain ⟨pl, hp, r, hr, hh⟩ := live hc
    unfold MatchV at hm
    have e := hm pl hp
    refine one ?_ (by simp)
    rw [e]
    cases r with
    | box t cs => obtain ⟨g, vs, rfl, _⟩ := hh; rfl
    | arr e k d xs =>
      obtain ⟨pl', css, hp', ho, _⟩ := hG.owned hr
      rw [hp] at hp'
      injection hp' with e'
      subst e'
      obtain ⟨_, _, e, _⟩ := owns_shape ho
      rw [e]; rfl
  | ptr h off =>
    obtain ⟨pl, hp, _⟩ := live hc
    unfold MatchV at hm
    obtain ⟨g, _, e⟩ := hm pl hp
    exact one (by rw [e]; rfl) (by simp)
  | ep h k i off =>
    obtain ⟨pl, hp, _⟩ := live hc
    unfold MatchV at hm
    obtain ⟨g, _, e⟩ := hm pl hp
    exact one (by rw [e]; rfl) (by simp)
  | bsl h n =>
    obtain ⟨pl, hp, _⟩ := live hc
    unfold MatchV at hm
    obtain ⟨g, _, e⟩ := hm pl hp
    exact one (by rw [e]; rfl) (by simp)
  | rp o xs =>
    obtain ⟨B, _, hB⟩ := hG.inO (o := o) hc
    obtain ⟨b, e, _⟩ := (hB _ _).1 hm
    exact one (by rw [e]; rfl) (by simp)
  | fn f cs =>
    unfold MatchV at hm
    obtain ⟨vs, e, _⟩ := hm
    exact one (by rw [e]; rfl) (by simp)
  | nil =>
    unfold MatchV at hm
    exact one (by rw [hm]; rfl) (by simp)
  | agg cs =>
    unfold MatchV at hm
    obtain ⟨vs, rfl, h1, h2⟩ := hm
    exact ⟨by simpa [cellsA, Value.cells] using h2, by simpa [Value.cells] using h1⟩
  | tup cs => exact hc.elim
  | no => exact hc.elim

/-- One handle comes. -/
theorem G.newH (hG : G K φ A w0 N S a w) {h : Nat} {r : Rs} {pl : Pl} {w' : World} (hb : Below w.heap.size w w') (hf : Fresh S h) (hF : pl.F.Nodup) (hn : ∀ g ∈ pl.F, w.heap.size ≤ g ∧ g < w'.heap.size)
    (hh : Holds K (stepPhi (· ∈ ([] : List Nat)) (fun x => if x = h then some pl else none) φ) w' pl r) :
    G K (stepPhi (· ∈ ([] : List Nat)) (fun x => if x = h then some pl else none) φ) A w0 N { S with res := stepRes (· ∈ ([] : List Nat)) (findH [(h, r)]) S.res } a w' := by
  refine hG.step (Chg.of_below hb _) ?_ ?_ ?_ ?_ (fun b h => h) (fun b h => .inl h) ?_ ?_
  · intro x pl' e
    split at e
    · injection e with e; subst e; exact ⟨hF, fun g hg => ⟨(hn g hg).2, .inl (hn g hg).1⟩⟩
    · cases e
  · intro x x' pl1 pl2 hne e e'
    split at e
    · split at e'
      · subst_vars; exact absurd rfl hne
      · cases e'
    · cases e
  · intro x r' e
    simp only [findH] at e
    split at e
    · injection e with e
      subst_vars
      exact ⟨pl, by simp, hh⟩
    · cases e
  · intro x e
    simp only [findH] at e
    split at e
    · cases e
    · rename_i hx; simp [hx]
  · intro t x pl' hm e
    split at e
    · subst_vars; exact absurd hm (hf.1 t)
    · cases e
  · intro h' r' x pl' _ hr hm e
    split at e
    · subst_vars; exact absurd hm (hf.2.1 h' r' hr)
    · cases e
theorem tr_new (hG : G K φ A w0 N S a w) {h : Nat} {r : Rs} {pl : Pl} {w' : World} (hb : Below w.heap.size w w') (hf : Fresh S h) (hn : ∀ g ∈ pl.F, w.heap.size ≤ g ∧ g < w'.heap.size) :
    Tr K φ w (· ∈ ([] : List Nat)) (findH [(h, r)]) K (stepPhi (· ∈ ([] : List Nat)) (fun x => if x = h then some pl else none) φ) w' := by
  refine ⟨Chg.of_below hb _, fun _ h => h, fun _ h => .inl h, fun x pl' e => ?_, fun x pl' _ e g hg => hb.block g (hG.ge x pl' e g (List.mem_append_right _ hg)).2⟩
  rcases stepPhi_some e with e | ⟨_, _, e⟩
  · split at e
    · rename_i hx
      injection e with e
      subst e
      subst hx
      exact .inr ⟨hG.non _ hf.2.2, ⟨r, by simp [findH]⟩, fun g hg => .inl (hn g hg).1⟩
    · cases e
  · exact .inl e
theorem stepPhi_keep {h : Nat} {pl : Pl} {x : Nat} {pl' : Pl} (hx : x ≠ h) (e : stepPhi (· ∈ ([] : List Nat)) (fun y => if y = h then some pl else none) φ x = some pl') : φ x = some pl' := by
  rcases stepPhi_some e with e | ⟨_, _, e⟩
  · split at e
    · exact absurd (by assumption) hx
    · cases e
  · exact e
/-- A variable comes that takes these cells. -/
theorem sound_newbox {o : Oper} {h : Nat} {t : TypeId} {cs : List AV} (hf : Fresh S h) (hm : h ∉ mentsL cs)
    (hr : ∀ K φ A w0 N a w, G K φ A w0 N S a w → ∃ vs : Array Value, (execOp a.eval o).run P w = .ok (.value (.pointer (some ⟨w.heap.size, 0, none⟩))) (w.alloc (.cells vs t)) ∧ MatchL K φ w cs vs.toList ∧ ∀ u ∈ vs.toList, u.oneCell' = true) :
    Sound P o S ⟨.ptr h 0, [], [(h, .box t cs)]⟩ := by
  intro K φ A w0 N a w Q hd hG
  obtain ⟨vs, hrun, hl, h1⟩ := hr K φ A w0 N a w hG
  unfold Oper.wp
  rw [hrun, Oper.upon_value]
  have hb : Below w.heap.size w (w.alloc (.cells vs t)) := (Below.refl _ _).alloc (Nat.le_refl _) _
  have hn := hG.newH (h := h) (r := .box t cs) (pl := ⟨.pointer (some ⟨w.heap.size, 0, none⟩), [w.heap.size], []⟩) hb hf (by simp [Pl.F]) (by simp [Pl.F])
    ⟨_, vs, rfl, Blk.new w t vs, h1, MatchL.mono (SameOn.below hb (fun b hb => (hG.kin b hb).1)) (fun _ h => h) cs _ (fun x pl hx e => by
      have e' := stepPhi_keep (fun e => by subst e; exact hm hx) e
      exact ⟨e', SameOn.below hb (fun b hb' => (hG.ge x pl e' b (List.mem_append_right _ hb')).2)⟩) hl⟩
  refine ⟨_, _, _, rfl, hn.put hd ?_, tr_new hG hb hf (by simp [Pl.F])⟩
  unfold MatchV
  intro pl hp
  simp only [stepPhi, if_true, Option.some.injEq] at hp
  subst hp
  exact ⟨_, rfl, rfl⟩
theorem sound_box {o : Oper} {x : Operand} {h : Nat} {t : TypeId} (ho : o.op = .box t x) (hc : cell1 S (S.ev x)) (hf : Fresh S h) : Sound P o S ⟨.ptr h 0, [], [(h, .box t (cellsA (S.ev x)))]⟩ :=
  sound_newbox hf (fun hm => by obtain ⟨t, ht⟩ := ments_ev S x (ments_cells.1 hm); exact hf.1 t ht) fun K φ A w0 N a w hG => by
    obtain ⟨h1, h2⟩ := cell1_match hG hc (hG.ev x)
    exact ⟨(a.eval x).cells, by simp [execOp, ho, Instr.box, newVar, newRow], h1, h2⟩
theorem sound_alloc {o : Oper} {h : Nat} {t : TypeId} {ag : Bool} {n bt : Nat} {z : Value} (ho : o.op = .alloc t) (ht : tyOf P t = some (ag, n, bt, z)) (hf : Fresh S h) : Sound P o S ⟨.ptr h 0, [], [(h, .box t (z.cells.toList.map avC))]⟩ :=
  sound_newbox hf (by rw [ments_avC]; simp) fun K φ A w0 N a w hG =>
    ⟨z.cells, by simp [execOp, ho, Instr.alloc, (tyOf_spec ht w).2.2.1, newVar, newRow], matchL_avC _, (tyOf_zero ht).2⟩

/-- One handle is written anew, where it lies. -/
theorem G.writeH (hG : G K φ A w0 N S a w) {h : Nat} {r r0 : Rs} {pl : Pl} {w' : World} (hr : S.res h = some r0) (hp : φ h = some pl) (hc : Chg (· ∈ pl.top) w w') (hh : Holds K φ w' pl r) :
    G K φ A w0 N { S with res := stepRes (· ∈ [h]) (findH [(h, r)]) S.res } a w' := by
  have hφ : stepPhi (· ∈ [h]) (fun x => if x = h then some pl else none) φ = φ := by
    funext x
    simp only [stepPhi, List.mem_singleton]
    by_cases e : x = h
    · subst e; simp [hp]
    · simp [e]
  have hsub : ∀ x pl', φ x = some pl' → SameOn (· ∈ pl'.sub) w w' := fun x pl' e g hg => hc.block g (hG.ge x pl' e g (List.mem_append_right _ hg)).2 (fun hm => by
    by_cases ex : x = h
    · subst ex
      rw [hp] at e
      injection e with e
      subst e
      exact (List.nodup_append.1 (hG.nodup x pl hp)).2.2 g hm g hg rfl
    · exact hG.disj x h pl' pl ex e hp g (List.mem_append_right _ hg) (List.mem_append_left _ hm))
  have hs := hG.step (C := (· ∈ [h])) (φr := fun x => if x = h then some pl else none) (ρ := findH [(h, r)]) (K' := K) (w' := w')
    ⟨hc.os, hc.tape, hc.output, hc.size, fun k hk hn => hc.block k hk (fun hm => hn ⟨h, pl, by simp, hp, List.mem_append_left _ hm⟩)⟩
    (by
      intro x pl' e
      split at e
      · injection e with e; subst e
        exact ⟨hG.nodup h pl hp, fun g hg => ⟨Nat.lt_of_lt_of_le (hG.ge h pl hp g hg).2 hc.size, .inr ⟨h, pl, by simp, hp, hg⟩⟩⟩
      · cases e)
    (by
      intro x x' pl1 pl2 hne e e'
      split at e
      · split at e'
        · subst_vars; exact absurd rfl hne
        · cases e'
      · cases e)
    (by
      intro x r' e
      simp only [findH] at e
      split at e
      · injection e with e
        subst_vars
        exact ⟨pl, by simp, by rw [hφ]; exact hh⟩
      · cases e)
    (by
      intro x e
      simp only [findH] at e
      split at e
      · cases e
      · rename_i hx; simp [hx])
    (fun b h => h) (fun b h => .inl h)
    (by
      intro t x pl' hm e
      split at e
      · injection e with e; subst_vars; exact ⟨hp, hsub _ _ hp⟩
      · cases e)
    (by
      intro h' r' x pl' _ hr hm e
      split at e
      · injection e with e; subst_vars; exact ⟨hp, hsub _ _ hp⟩
      · cases e)
  rw [hφ] at hs
  exact hs
theorem tr_write (hG : G K φ A w0 N S a w) {h : Nat} {new : Nat → Option Rs} {pl : Pl} {w' : World} (hp : φ h = some pl) (hc : Chg (· ∈ pl.top) w w') : Tr K φ w (· ∈ [h]) new K φ w' :=
  ⟨⟨hc.os, hc.tape, hc.output, hc.size, fun k hk hn => hc.block k hk (fun hm => hn ⟨h, pl, by simp, hp, List.mem_append_left _ hm⟩)⟩, fun _ h => h, fun _ h => .inl h, fun _ _ h => .inl h, fun x pl' e _ g hg => hc.block g (hG.ge x pl' e g (List.mem_append_right _ hg)).2 (fun hm => by
    by_cases ex : x = h
    · subst ex
      rw [hp] at e
      injection e with e
      subst e
      exact (List.nodup_append.1 (hG.nodup x pl hp)).2.2 g hm g hg rfl
    · exact hG.disj x h pl' pl ex e hp g (List.mem_append_right _ hg) (List.mem_append_left _ hm))⟩
theorem chg_setRow {w : World} {g : Nat} {cs : Array Value} : Chg (· ∈ [g]) w (w.setRow g cs) :=
  ⟨rfl, rfl, rfl, by simp [World.setRow], fun k hk hn => by
    unfold World.setRow
    simp only [List.mem_singleton] at hn
    rw [Array.getElem?_modify]
    rw [if_neg (fun e => hn e.symm)]⟩
theorem sound_store_box {o : Oper} {x y : Operand} {t tb : TypeId} {ag : Bool} {n bt off : Nat} {z : Value} {h : Nat} {cs : List AV} (ho : o.op = .store t x y) (ht : tyOf P t = some (ag, n, bt, z)) (hx : S.ev x = .ptr h off) (hh : S.res h = some (.box tb cs))
    (hc : cell1 S (S.ev y)) (hn : (cellsA (S.ev y)).length = n) (hl : off + n ≤ cs.length) :
    Sound P o S ⟨.no, [h], [(h, .box tb (cs.take off ++ cellsA (S.ev y) ++ cs.drop (off + n)))]⟩ := by
  intro K φ A w0 N a w Q hd hG
  obtain ⟨g, vs, hp, hB, h1, hm⟩ := hG.boxed hh
  have h2 := hG.ev x
  rw [hx] at h2
  unfold MatchV at h2
  obtain ⟨g', hg', he⟩ := h2 _ hp
  simp only [List.cons.injEq, and_true] at hg'
  subst hg'
  obtain ⟨h3, h4⟩ := cell1_match hG hc (hG.ev y)
  have hlen := matchL_len hm
  have hlen3 := matchL_len h3
  simp only [Array.length_toList] at hlen hlen3
  have hrun := run_storeCells_at (P := P) g off tb (a.eval y).cells.toList 0 vs w hB (by simp; omega) h4
  have hsz := (tyOf_spec ht w).2.1
  unfold Oper.wp
  have : (execOp a.eval o).run P w = .ok .skip (w.setRow g (vs.toList.take (off + 0) ++ (a.eval y).cells.toList ++ vs.toList.drop (off + 0 + (a.eval y).cells.toList.length)).toArray) := by
    simp only [execOp, ho, he, Instr.storeAt, Instr.sureAddr, storeVar, Sem.run_bind, Sem.run_pure, Result.andThen_ok, hsz, hlen3, hn, ne_eq, not_true_eq_false, if_false, hrun]
  rw [this, Oper.upon_skip]
  have hBlk : Blk (w.setRow g (vs.toList.take (off + 0) ++ (a.eval y).cells.toList ++ vs.toList.drop (off + 0 + (a.eval y).cells.toList.length)).toArray) g tb _ := setRow_heap w g vs _ tb _ hB
  have hchg : Chg (· ∈ [g]) w _ := chg_setRow (w := w) (g := g) (cs := (vs.toList.take (off + 0) ++ (a.eval y).cells.toList ++ vs.toList.drop (off + 0 + (a.eval y).cells.toList.length)).toArray)
  have hsame : SameOn K w _ := fun b hb => hchg.block b (hG.kin b hb).1 (fun hm => hG.kout b hb h _ hp (by simp at hm; subst hm; simp [Pl.F]))
  have hmono : ∀ xs us, MatchL K φ w xs us → MatchL K φ (w.setRow g (vs.toList.take (off + 0) ++ (a.eval y).cells.toList ++ vs.toList.drop (off + 0 + (a.eval y).cells.toList.length)).toArray) xs us := fun xs us hx =>
    MatchL.mono hsame (fun _ h => h) xs us (fun h' pl' _ e => ⟨e, fun b hb => hchg.block b (hG.ge h' pl' e b (List.mem_append_right _ hb)).2 (fun hm => by
      simp at hm
      subst hm
      by_cases ex : h' = h
      · subst ex; rw [hp] at e; injection e with e; subst e; simp at hb
      · exact hG.disj h' h pl' _ ex e hp b (List.mem_append_right _ hb) (by simp [Pl.F]))⟩) hx
  have hw := hG.writeH (r := .box tb (cs.take off ++ cellsA (S.ev y) ++ cs.drop (off + n))) hh hp hchg
    ⟨g, _, rfl, hBlk, fun u hu => by
      simp only [List.mem_append, Nat.add_zero] at hu
      rcases hu with (hu | hu) | hu
      · exact h1 u (List.mem_of_mem_take hu)
      · exact h4 u hu
      · exact h1 u (List.mem_of_mem_drop hu), by
      have := hmono _ _ (matchL_append (matchL_append (matchL_take off hm) h3) (matchL_drop (off + n) hm))
      simpa [hlen3, hn] using this⟩
  exact ⟨_, _, _, rfl, hw.put hd (by unfold MatchV; trivial), tr_write hG hp hchg⟩
end
end Go.Proofs.Ytcgjlddpbkponaa
