/-
  Slices written out; append.
-/
import Derived.Test.YtcgjlddpbkponaaEh
namespace Go.Proofs.Ytcgjlddpbkponaa
open Go.ChangeShapes Go.WideShapes Go.ChangeAt Go.RowKit
set_option linter.unusedVariables false
set_option linter.unusedSimpArgs false

/-- Rows without memory behind them, and their values. -/
def Flats : List (List Dat) → List (List Value) → Prop
  | [], css => css = []
  | x :: xs, css => ∃ c css', css = c :: css' ∧ Flat x c ∧ Flats xs css'
theorem Flats.owRs {w : World} {k : Nat} : ∀ {xs : List (List Dat)} {css : List (List Value)}, Flats xs css → (∀ x ∈ xs, x.length = k) → OwRs w k xs css (List.replicate xs.length [])
  | [], css, h, _ => by rw [show css = [] from h]; simp only [List.length_nil, List.replicate_zero]; unfold OwRs; exact ⟨rfl, rfl⟩
  | x :: xs, _, ⟨c, css', e, h1, h2⟩, hk => by
    subst e
    simp only [List.length_cons, List.replicate_succ]
    unfold OwRs
    exact ⟨c, css', [], _, rfl, rfl, hk x (by simp), h1.owCs, h2.owRs (fun x hx => hk x (by simp [hx]))⟩
theorem Flats.rdRows {K : Nat → Prop} {w : World} {k : Nat} : ∀ {xs : List (List Dat)} {css : List (List Value)}, Flats xs css → (∀ x ∈ xs, x.length = k) → RdRows K w k xs css
  | [], css, h, _ => h
  | x :: xs, _, ⟨c, css', e, h1, h2⟩, hk => ⟨c, css', e, hk x (by simp), h1.rdL, h2.rdRows (fun x hx => hk x (by simp [hx]))⟩
theorem Flats.one : ∀ {xs : List (List Dat)} {css : List (List Value)}, Flats xs css → ∀ u ∈ css.flatten, u.oneCell' = true
  | [], css, h => by rw [show css = [] from h]; simp
  | x :: xs, _, ⟨c, css', e, h1, h2⟩ => by
    subst e
    intro u hu
    simp only [List.flatten_cons, List.mem_append] at hu
    rcases hu with hu | hu
    · exact h1.one u hu
    · exact h2.one u hu
theorem Flats.len : ∀ {xs : List (List Dat)} {css : List (List Value)}, Flats xs css → css.length = xs.length
  | [], css, h => by rw [show css = [] from h]; rfl
  | x :: xs, _, ⟨c, css', e, h1, h2⟩ => by subst e; simp [h2.len]
theorem Flats.flat : ∀ {xs : List (List Dat)} {css : List (List Value)}, Flats xs css → Flat xs.flatten css.flatten
  | [], css, h => by rw [show css = [] from h]; rfl
  | x :: xs, _, ⟨c, css', e, h1, h2⟩ => by
    subst e
    have := h2.flat
    unfold Flat at *
    simp only [List.flatten_cons, List.map_append, h1, this]
theorem RdRows.flats_eq {K : Nat → Prop} {w : World} {k : Nat} : ∀ {xs : List (List Dat)} {css css' : List (List Value)}, Flats xs css → RdRows K w k xs css' → css' = css
  | [], css, css', h, h' => by rw [show css = [] from h, show css' = [] from h']
  | x :: xs, _, _, ⟨c, css, e, h1, h2⟩, ⟨c', css', e', h3, h4, h5⟩ => by
    subst e
    subst e'
    have hm := (rdL_match (K := K) (φ := fun _ => none) (w := w) (o := none) (fun x v => by unfold MatchV; exact Iff.rfl) h4).1
    have e2 : x.map (pOf none) = x.map (AV.p none) := by
      apply List.map_congr_left
      intro y _
      unfold pOf
      split <;> rfl
    rw [e2] at hm
    rw [matchL_scal h1 hm, RdRows.flats_eq h2 h5]
theorem RdRows.append {K : Nat → Prop} {w : World} {k : Nat} : ∀ {xs ys : List (List Dat)} {css dss : List (List Value)}, RdRows K w k xs css → RdRows K w k ys dss → RdRows K w k (xs ++ ys) (css ++ dss)
  | [], _, css, _, h, h' => by rw [show css = [] from h]; exact h'
  | x :: xs, ys, _, dss, ⟨c, css', e, h1, h2, h3⟩, h' => by subst e; exact ⟨c, css' ++ dss, rfl, h1, h2, RdRows.append h3 h'⟩
theorem OwRs.append {w : World} {k : Nat} : ∀ {xs ys : List (List Dat)} {css dss : List (List Value)} {Fs Gs : List (List Nat)}, OwRs w k xs css Fs → OwRs w k ys dss Gs → OwRs w k (xs ++ ys) (css ++ dss) (Fs ++ Gs)
  | [], _, css, _, Fs, _, h, h' => by unfold OwRs at h; rw [h.1, h.2]; exact h'
  | x :: xs, ys, _, dss, _, Gs, h, h' => by
    unfold OwRs at h
    obtain ⟨c, css', F, Fs', rfl, rfl, h1, h2, h3⟩ := h
    simp only [List.cons_append]
    unfold OwRs
    exact ⟨c, _, F, _, rfl, rfl, h1, h2, OwRs.append h3 h'⟩

/-- Rows in memory: their values, one after the other. -/
theorem RdRs.vals {B : Nat → Prop} {w : World} {k : Nat} : ∀ {xs : List (List Dat)} {a : Option Addr} {o : Nat}, RdRs B w k xs a o → ∃ css, RdRows B w k xs css ∧ (xs ≠ [] → ∃ b off, a = some ⟨b, off, none⟩ ∧ ∀ j v, css.flatten[j]? = some v → w.cell? ⟨b, off + o + j, none⟩ = some v)
  | [], _, _, _ => ⟨[], rfl, by simp⟩
  | x :: xs, a, o, h => by
    unfold RdRs at h
    obtain ⟨h1, h2, h3⟩ := h
    obtain ⟨b, off, vs, rfl, _, hl, hc⟩ := h2.vals
    obtain ⟨css, hr, hrest⟩ := RdRs.vals h3
    refine ⟨vs :: css, ⟨vs, css, rfl, h1, hl, hr⟩, fun _ => ⟨b, off, rfl, fun j v hv => ?_⟩⟩
    rw [List.flatten_cons] at hv
    have hlen := hl.len
    by_cases hj : j < vs.length
    · rw [List.getElem?_append_left hj] at hv
      exact hc j v hv
    · rw [List.getElem?_append_right (by omega)] at hv
      by_cases hx : xs = []
      · subst hx
        rw [show css = [] from hr] at hv
        simp at hv
      · obtain ⟨b', off', e, hc'⟩ := hrest hx
        simp only [Option.some.injEq, Addr.mk.injEq, and_true] at e
        obtain ⟨rfl, rfl⟩ := e
        have := hc' _ v hv
        rw [show off + (o + k) + (j - vs.length) = off + o + j by omega] at this
        exact this
theorem flatten_len {css : List (List Value)} {k : Nat} (h : ∀ c ∈ css, c.length = k) : css.flatten.length = css.length * k := by
  induction css with
  | nil => simp
  | cons d css ih => rw [List.flatten_cons, List.length_append, h d (by simp), ih (fun d hd => h d (by simp [hd])), List.length_cons, Nat.add_mul]; omega

section
variable {K : Nat → Prop} {φ : Phi} {A : Nat → Prop} {w0 : World} {N : Nat} {S : St} {a : Act} {w : World} {P : Program}
theorem matchL_no {K : Nat → Prop} {φ : Phi} {w : World} : ∀ (vs : List Value), MatchL K φ w (List.replicate vs.length AV.no) vs
  | [] => by simp only [List.length_nil, List.replicate_zero]; unfold MatchL; rfl
  | v :: vs => by simp only [List.length_cons, List.replicate_succ]; unfold MatchL; exact ⟨v, vs, rfl, by unfold MatchV; trivial, matchL_no vs⟩
theorem build_cells (hG : G K φ A w0 N S a w) {t e : TypeId} {len k bt : Nat} {ag : Bool} {z : Value} {parts : Array (Nat × Operand)} {cs : List AV} (ht : P.underlying t = some (.slice e)) (hk : tyOf P e = some (ag, k, bt, z))
    (hs : len * k ≤ 16777216) (hp : 0 < len * k) (hc : ∀ q ∈ parts.toList, cell1 S (S.ev q.2)) (hf : fillA (fun i => some (i * k, k)) (List.replicate (len * k) AV.no) (parts.toList.map fun q => (q.1, S.ev q.2)) = some cs) :
    ∃ vs : Array Value, (Instr.buildSlice t len (parts.map fun (i, x) => (i, a.eval x))).run P w = .ok (.slice (some ⟨w.heap.size, 0, none⟩) len len) (w.alloc (.cells vs e)) ∧ MatchL K φ w cs vs.toList ∧ (∀ u ∈ vs.toList, u.oneCell' = true) ∧ vs.size = len * k := by
  obtain ⟨_, _, _, _, q5, q6, q7, q8⟩ := tyOf_spec hk w
  obtain ⟨z1, z2⟩ := tyOf_zero hk
  have hkp : 0 < k := Nat.pos_of_mul_pos_left hp
  have hsz : ((Array.range (len * k)).map (z.cells[· % z.cells.size]!)).size = len * k := by simp
  have h1 : ∀ u ∈ ((Array.range (len * k)).map (z.cells[· % z.cells.size]!)).toList, u.oneCell' = true := by
    intro u hu
    simp only [Array.toList_map, List.mem_map] at hu
    obtain ⟨j, _, rfl⟩ := hu
    have hlt : j % z.cells.size < z.cells.size := Nat.mod_lt _ (by omega)
    rw [getElem!_pos z.cells _ hlt]
    exact z2 _ (by simp)
  have hm : MatchL K φ w (List.replicate (len * k) AV.no) ((Array.range (len * k)).map (z.cells[· % z.cells.size]!)).toList := by
    have := matchL_no (K := K) (φ := φ) (w := w) ((Array.range (len * k)).map (z.cells[· % z.cells.size]!)).toList
    rwa [Array.length_toList, hsz] at this
  obtain ⟨vs, r1, r2, r3, r4⟩ := fill_match hG _ parts.toList _ cs _ hm h1 hc hf
  refine ⟨vs, ?_, r2, r3, by rw [r4, hsz]⟩
  refine run_buildSlice w t e len _ vs _ z ht q6 q8 (by rw [q7]; omega) (by rw [q7]; omega) ?_
  rw [q7, ← r1]
  simp
theorem sound_bsl {o : Oper} {t e : TypeId} {len k bt : Nat} {ag : Bool} {z : Value} {parts : Array (Nat × Operand)} {cs : List AV} {h : Nat} (ho : o.op = .buildSlice t len parts) (ht : P.underlying t = some (.slice e)) (hk : tyOf P e = some (ag, k, bt, z))
    (hs : len * k ≤ 16777216) (hp : 0 < len * k) (hc : ∀ q ∈ parts.toList, cell1 S (S.ev q.2)) (hf : fillA (fun i => some (i * k, k)) (List.replicate (len * k) AV.no) (parts.toList.map fun q => (q.1, S.ev q.2)) = some cs) (hfr : Fresh S h) (hm : h ∉ mentsL cs) :
    Sound P o S ⟨.bsl h len, [], [(h, .box e cs)]⟩ := by
  intro K φ A w0 N a w Q hd hG
  obtain ⟨vs, hrun, hl, h1, _⟩ := build_cells hG ht hk hs hp hc hf
  have hb : Below w.heap.size w (w.alloc (.cells vs e)) := (Below.refl _ _).alloc (Nat.le_refl _) _
  unfold Oper.wp
  have : (execOp a.eval o).run P w = .ok (.value (.slice (some ⟨w.heap.size, 0, none⟩) len len)) (w.alloc (.cells vs e)) := by
    simp only [execOp, ho, Sem.run_bind, hrun]; rfl
  rw [this, Oper.upon_value]
  have hn := hG.newH (h := h) (r := .box e cs) (pl := ⟨.pointer (some ⟨w.heap.size, 0, none⟩), [w.heap.size], []⟩) hb hfr (by simp [Pl.F]) (by simp [Pl.F])
    ⟨_, vs, rfl, Blk.new w e vs, h1, MatchL.mono (SameOn.below hb (fun b hb => (hG.kin b hb).1)) (fun _ h => h) cs _ (fun x pl hx e => by
      have e' := stepPhi_keep (fun e => by subst e; exact hm hx) e
      exact ⟨e', SameOn.below hb (fun b hb' => (hG.ge x pl e' b (List.mem_append_right _ hb')).2)⟩) hl⟩
  refine ⟨_, _, _, rfl, hn.put hd ?_, tr_new hG hb hfr (by simp [Pl.F])⟩
  unfold MatchV
  intro pl hp
  simp only [stepPhi, if_true, Option.some.injEq] at hp
  subst hp
  exact ⟨_, rfl, rfl⟩
theorem sound_sliceA {o : Oper} {t e : TypeId} {len k bt : Nat} {ag : Bool} {z : Value} {parts : Array (Nat × Operand)} {rows : List (List Dat)} {css : List (List Value)} {h : Nat} (ho : o.op = .buildSlice t len parts) (ht : P.underlying t = some (.slice e)) (hk : tyOf P e = some (ag, k, bt, z))
    (hs : len * k ≤ 16777216) (hp : 0 < len * k) (hc : ∀ q ∈ parts.toList, cell1 S (S.ev q.2)) (hf : fillA (fun i => some (i * k, k)) (List.replicate (len * k) AV.no) (parts.toList.map fun q => (q.1, S.ev q.2)) = some (rows.flatten.map (AV.p none))) (hfr : Fresh S h)
    (hfl : Flats rows css) (hrk : ∀ x ∈ rows, x.length = k) (hrl : rows.length = len) :
    Sound P o S ⟨.own h, [], [(h, .arr e k true rows)]⟩ :=
  sound_newarr hfr fun K φ A w0 N a w hG => by
    obtain ⟨vs, hrun, hl, h1, hsz⟩ := build_cells hG ht hk hs hp hc hf
    have hv := matchL_scal hfl.flat hl
    have hlen : len ≤ maxLen := by
      have : len ≤ len * k := Nat.le_mul_of_pos_right len (Nat.pos_of_mul_pos_left hp)
      unfold maxLen; omega
    refine ⟨w.alloc (.cells vs e), css, len, by simp only [execOp, ho, Sem.run_bind, hrun, hrl]; rfl, ?_, hfl.owRs hrk, (Below.refl _ _).alloc (Nat.le_refl _) _, by simp⟩
    rw [hrl, ← hv]
    exact World.ownsRow_lit w vs len (Nat.zero_le _) hlen hsz

/-- Handles go, one comes. -/
theorem G.consume (hG : G K φ A w0 N S a w) {del : List Nat} {h : Nat} {r : Rs} {pl : Pl} {K' : Nat → Prop} {w' : World} (hU : Chg (Foot φ (· ∈ del)) w w') (hf : Fresh S h) (hn : pl.F.Nodup) (hF : ∀ g ∈ pl.F, g < w'.heap.size ∧ (w.heap.size ≤ g ∨ Foot φ (· ∈ del) g))
    (hK : ∀ b, K b → K' b) (hK' : ∀ b, K' b → K b ∨ (b < w'.heap.size ∧ (w.heap.size ≤ b ∨ Foot φ (· ∈ del) b) ∧ b ∉ pl.F))
    (hh : Holds K' (stepPhi (· ∈ del) (fun x => if x = h then some pl else none) φ) w' pl r) :
    G K' (stepPhi (· ∈ del) (fun x => if x = h then some pl else none) φ) A w0 N { S with res := stepRes (· ∈ del) (findH [(h, r)]) S.res } a w' := by
  refine hG.step hU ?_ ?_ ?_ ?_ hK (fun b hb => ?_) ?_ ?_
  · intro x pl' e
    split at e
    · injection e with e; subst e; exact ⟨hn, hF⟩
    · cases e
  · intro x x' pl1 pl2 hne e e'
    split at e
    · split at e'
      · subst_vars; exact absurd rfl hne
      · cases e'
    · cases e
  · intro x r' e
    simp only [findH] at e
    split at e
    · injection e with e
      subst_vars
      exact ⟨pl, by simp, hh⟩
    · cases e
  · intro x e
    simp only [findH] at e
    split at e
    · cases e
    · rename_i hx; simp [hx]
  · rcases hK' b hb with hb | ⟨h1, h2, h3⟩
    · exact .inl hb
    · refine .inr ⟨h1, h2, fun x pl' e => ?_⟩
      split at e
      · injection e with e; subst e; exact h3
      · cases e
  · intro t x pl' hm e
    split at e
    · subst_vars; exact absurd hm (hf.1 t)
    · cases e
  · intro h' r' x pl' _ hr hm e
    split at e
    · subst_vars; exact absurd hm (hf.2.1 h' r' hr)
    · cases e
theorem tr_consume (hG : G K φ A w0 N S a w) {del : List Nat} {h : Nat} {r : Rs} {pl : Pl} {w' : World} (hU : Chg (Foot φ (· ∈ del)) w w') (hf : Fresh S h) (hF : ∀ g ∈ pl.F, g < w'.heap.size ∧ (w.heap.size ≤ g ∨ Foot φ (· ∈ del) g)) :
    Tr K φ w (· ∈ del) (findH [(h, r)]) K (stepPhi (· ∈ del) (fun x => if x = h then some pl else none) φ) w' := by
  refine ⟨hU, fun _ h => h, fun _ h => .inl h, fun x pl' e => ?_, fun x pl' e' e g hg => hU.block g (hG.ge x pl' e g (List.mem_append_right _ hg)).2 (fun ⟨h3, pl3, hc3, e3, hm3⟩ => ?_)⟩
  rotate_left
  · by_cases ex : x = h3
    · subst ex
      rcases stepPhi_some e' with e' | ⟨_, hn, _⟩
      · split at e'
        · rename_i hx
          subst hx
          rw [hG.non _ hf.2.2] at e; cases e
        · cases e'
      · exact hn hc3
    · exact hG.disj x h3 pl' pl3 ex e e3 g (List.mem_append_right _ hg) hm3
  rcases stepPhi_some e with e | ⟨_, _, e⟩
  · split at e
    · rename_i hx
      injection e with e
      subst e
      subst hx
      exact .inr ⟨hG.non _ hf.2.2, ⟨r, by simp [findH]⟩, fun g hg => (hF g hg).2⟩
    · cases e
  · exact .inl e
/-- What append may be called upon: a slice of the call's own, or nil. -/
def TgtIs (S : St) : AV → List Nat → Nat → Nat → Bool → List (List Dat) → Prop
  | .own h, del, e, k, d, xs => S.res h = some (.arr e k d xs) ∧ del = [h]
  | .nil, del, _, _, _, xs => del = [] ∧ xs = []
  | _, _, _, _, _, _ => False
theorem tgt_match (hG : G K φ A w0 N S a w) {x : AV} {del : List Nat} {e k : Nat} {d : Bool} {xs : List (List Dat)} {v : Value} (ht : TgtIs S x del e k d xs) (hm : MatchV K φ w x v) :
    ∃ css : List (List Value), w.ownsRow 0 e k v xs.length css.flatten ∧ css.length = xs.length ∧ (∀ c ∈ css, c.length = k) ∧ (∀ g ∈ v.ownBlock.toList, Foot φ (· ∈ del) g) ∧
      (d = true → ∃ Fs, OwRs w k xs css Fs ∧ (v.ownBlock.toList ++ Fs.flatten).Nodup ∧ ∀ g ∈ Fs.flatten, Foot φ (· ∈ del) g) ∧ (d = false ∨ xs = [] → RdRows K w k xs css) := by
  unfold TgtIs at ht
  split at ht
  · rename_i h
    obtain ⟨hr, rfl⟩ := ht
    unfold MatchV at hm
    obtain ⟨pl, hp, hh⟩ := hG.dom h _ hr
    have e1 := hm pl hp
    subst e1
    have hnd := hG.nodup h pl hp
    cases d with
    | true =>
      obtain ⟨css, Fs, h1, h2, h3, h4⟩ := hh
      refine ⟨css, h1, h4.len.1, h4.len.2, fun g hg => ⟨h, pl, by simp, hp, List.mem_append_left _ (by rw [h2]; exact hg)⟩, fun _ => ⟨Fs, h4, by rw [← h2, ← h3]; exact hnd, fun g hg => ⟨h, pl, by simp, hp, List.mem_append_right _ (by rw [h3]; exact hg)⟩⟩, fun hx => ?_⟩
      rcases hx with hx | hx
      · cases hx
      · subst hx; unfold OwRs at h4; rw [h4.1]; exact rfl
    | false =>
      obtain ⟨css, h1, h2, h3, h4⟩ := hh
      exact ⟨css, h1, h4.len.1, h4.len.2, fun g hg => ⟨h, pl, by simp, hp, List.mem_append_left _ (by rw [h2]; exact hg)⟩, by simp, fun _ => h4⟩
  · obtain ⟨rfl, rfl⟩ := ht
    unfold MatchV at hm
    subst hm
    exact ⟨[], ⟨by simp, .inl ⟨rfl, rfl⟩⟩, rfl, by simp, by simp [Value.ownBlock], fun _ => ⟨[], by unfold OwRs; exact ⟨rfl, rfl⟩, by simp [Value.ownBlock], by simp⟩, fun _ => rfl⟩
  · exact ht.elim
theorem chg_grown {w w' : World} {v : Value} {U : Nat → Prop} (h : w.grownBy w' v.ownBlock) (hU : ∀ g ∈ v.ownBlock.toList, U g) : Chg U w w' :=
  ⟨h.os, h.tape, h.output, h.size, fun k hk hn => h.block k hk (fun e => hn (hU k (by rw [← e]; simp)))⟩
end
end Go.Proofs.Ytcgjlddpbkponaa
