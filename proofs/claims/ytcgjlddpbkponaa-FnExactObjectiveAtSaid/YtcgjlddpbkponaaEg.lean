/-
  Stores into slices of the call's own; structs built; slices made.
-/
import Derived.Test.YtcgjlddpbkponaaEf
namespace Go.Proofs.Ytcgjlddpbkponaa
open Go.ChangeShapes Go.WideShapes Go.ChangeAt Go.RowKit
set_option linter.unusedVariables false
set_option linter.unusedSimpArgs false

theorem setL_append_left (cs : List Value) : ∀ (zs ys : List Value) (o : Nat), o + cs.length ≤ zs.length → setL (zs ++ ys) o cs = setL zs o cs ++ ys := by
  induction cs with
  | nil => intro zs ys o _; rfl
  | cons c cs ih =>
    intro zs ys o h
    simp only [List.length_cons] at h
    rw [setL, setL, List.set_append_left _ _ (by omega), ih _ _ _ (by simp; omega)]
theorem setL_append_right (cs : List Value) : ∀ (zs ys : List Value) (o : Nat), setL (zs ++ ys) (zs.length + o) cs = zs ++ setL ys o cs := by
  induction cs with
  | nil => intro zs ys o; rfl
  | cons c cs ih =>
    intro zs ys o
    rw [setL, setL, List.set_append_right _ _ (by omega), show zs.length + o - zs.length = o by omega, Nat.add_assoc, ih]
theorem setL_rows {k : Nat} (vs : List Value) : ∀ (css : List (List Value)) (i off : Nat) (c : List Value), (∀ d ∈ css, d.length = k) → css[i]? = some c → off + vs.length ≤ k → setL css.flatten (i * k + off) vs = (css.set i (setL c off vs)).flatten
  | [], _, _, _, _, h, _ => by simp at h
  | d :: css, 0, off, c, hk, h, hl => by
    simp at h
    subst h
    rw [Nat.zero_mul, Nat.zero_add, List.flatten_cons, setL_append_left _ _ _ _ (by rw [hk d (by simp)]; exact hl)]
    rfl
  | d :: css, i + 1, off, c, hk, h, hl => by
    simp at h
    have := setL_rows vs css i off c (fun d hd => hk d (by simp [hd])) h hl
    rw [List.flatten_cons, show (i + 1) * k + off = d.length + (i * k + off) by rw [hk d (by simp), Nat.add_mul]; omega, setL_append_right, this]
    rfl
theorem setL_eq {c vs : List Value} {off : Nat} (h : off + vs.length ≤ c.length) : setL c off vs = c.take off ++ vs ++ c.drop (off + vs.length) := by
  rw [← List.take_append_drop (off + vs.length) (setL c off vs), setL_take vs c off h, setL_drop vs c off _ (Nat.le_refl _)]
/-- A row without memory behind it. -/
def Flat (x : List Dat) (vs : List Value) : Prop := x.map Dat.val? = vs.map some
theorem Flat.owCs {w : World} : ∀ {x : List Dat} {vs : List Value}, Flat x vs → OwCs w x vs []
  | [], vs, h => by
    cases vs with
    | nil => unfold OwCs; exact ⟨rfl, rfl⟩
    | cons v vs => simp [Flat] at h
  | y :: x, [], h => by simp [Flat] at h
  | y :: x, v :: vs, h => by
    simp only [Flat, List.map_cons, List.cons.injEq] at h
    unfold OwCs
    refine ⟨v, vs, [], [], rfl, rfl, ?_, Flat.owCs h.2⟩
    cases y <;> simp [Dat.val?] at h <;> unfold OwV <;> simp [h.1]
theorem Flat.owCs_eq {w : World} : ∀ {x : List Dat} {vs c : List Value} {F : List Nat}, Flat x vs → OwCs w x c F → c = vs ∧ F = []
  | [], vs, c, F, h, ho => by
    unfold OwCs at ho
    cases vs with
    | nil => exact ho
    | cons v vs => simp [Flat] at h
  | y :: x, [], c, F, h, ho => by simp [Flat] at h
  | y :: x, v :: vs, c, F, h, ho => by
    simp only [Flat, List.map_cons, List.cons.injEq] at h
    unfold OwCs at ho
    obtain ⟨u, cs', F1, F2, rfl, rfl, h1, h2⟩ := ho
    obtain ⟨rfl, rfl⟩ := Flat.owCs_eq h.2 h2
    cases y <;> simp [Dat.val?] at h <;> unfold OwV at h1 <;> simp [h.1, h1]
theorem Flat.rdL {B : Nat → Prop} {w : World} {x : List Dat} {vs : List Value} (h : Flat x vs) : RdL B w x vs := OwCs.rd x vs [] (by simp) h.owCs
theorem Flat.len {x : List Dat} {vs : List Value} (h : Flat x vs) : vs.length = x.length := by
  have := congrArg List.length h
  simpa using this.symm
theorem Flat.one {x : List Dat} {vs : List Value} (h : Flat x vs) : ∀ u ∈ vs, u.oneCell' = true := by
  have h1 : RdL (fun _ => True) default x vs := h.rdL
  have := rdL_match (K := fun _ => True) (φ := fun _ => none) (w := default) (o := none) (B := fun _ => True) (fun x v => by unfold MatchV; exact Iff.rfl) h1
  exact this.2
theorem Flat.set {x : List Dat} {vs : List Value} {y : List Dat} {us : List Value} {off : Nat} (h : Flat x vs) (h' : Flat y us) : Flat (x.take off ++ y ++ x.drop (off + y.length)) (vs.take off ++ us ++ vs.drop (off + us.length)) := by
  have e := h'.len
  unfold Flat at *
  rw [List.map_append, List.map_append, List.map_append, List.map_append, List.map_take, List.map_drop, h, h', e, ← List.map_take, ← List.map_drop]
theorem OwRs.set_ {w : World} {k : Nat} : ∀ {xs : List (List Dat)} {css : List (List Value)} {Fs : List (List Nat)} {i : Nat} {row row' : List Dat} {vs vs' : List Value}, OwRs w k xs css Fs → xs[i]? = some row → Flat row vs → Flat row' vs' → row'.length = k →
    css[i]? = some vs ∧ OwRs w k (xs.set i row') (css.set i vs') Fs
  | [], _, _, _, _, _, _, _, _, h, _, _, _ => by simp at h
  | x :: xs, css, Fs, 0, row, row', vs, vs', ho, h, hf, hf', hk => by
    unfold OwRs at ho
    obtain ⟨c, css', F, Fs', rfl, rfl, h1, h2, h3⟩ := ho
    simp at h
    subst h
    obtain ⟨rfl, rfl⟩ := hf.owCs_eq h2
    refine ⟨rfl, ?_⟩
    simp only [List.set_cons_zero]
    unfold OwRs
    exact ⟨vs', css', [], Fs', rfl, rfl, hk, hf'.owCs, h3⟩
  | x :: xs, css, Fs, i + 1, row, row', vs, vs', ho, h, hf, hf', hk => by
    unfold OwRs at ho
    obtain ⟨c, css', F, Fs', rfl, rfl, h1, h2, h3⟩ := ho
    simp at h
    obtain ⟨h4, h5⟩ := OwRs.set_ h3 h hf hf' hk
    refine ⟨by simpa using h4, ?_⟩
    simp only [List.set_cons_succ]
    unfold OwRs
    exact ⟨c, css'.set i vs', F, Fs', rfl, rfl, h1, h2, h5⟩
theorem RdRows.set_ {K : Nat → Prop} {w : World} {k : Nat} : ∀ {xs : List (List Dat)} {css : List (List Value)} {i : Nat} {row' : List Dat} {vs' : List Value}, RdRows K w k xs css → RdL K w row' vs' → row'.length = k → RdRows K w k (xs.set i row') (css.set i vs')
  | [], css, i, row', vs', h, _, _ => by rw [show css = [] from h]; exact rfl
  | x :: xs, _, 0, row', vs', ⟨c, css', e, h1, h2, h3⟩, hr, hk => by subst e; exact ⟨vs', css', rfl, hk, hr, h3⟩
  | x :: xs, _, i + 1, row', vs', ⟨c, css', e, h1, h2, h3⟩, hr, hk => by subst e; exact ⟨c, css'.set i vs', rfl, h1, h2, RdRows.set_ h3 hr hk⟩

section
variable {K : Nat → Prop} {φ : Phi} {A : Nat → Prop} {w0 : World} {N : Nat} {S : St} {a : Act} {w : World} {P : Program}
theorem run_storeCells_own {e k n g c o0 : Nat} : ∀ (vs : List Value) (i : Nat) (w : World) (zs : List Value), w.ownsRow 0 e k (.slice (some ⟨g, 0, none⟩) n c) n zs → o0 + i + vs.length ≤ n * k → (∀ v ∈ vs, v.oneCell' = true) →
    (storeCells ⟨g, o0, none⟩ vs i).run P w = .ok () (setCells w g (o0 + i) vs)
  | [], i, w, zs, _, _, _ => rfl
  | v :: vs, i, w, zs, ho, hl, h1 => by
    simp only [List.length_cons] at hl
    have hcell : w.cell? ⟨g, o0 + i, none⟩ = some (zs[o0 + i]'(by have := ho.1; omega)) := (ho.cellAt (o0 + i) (by omega)).trans (List.getElem?_eq_getElem _)
    have hst : (store ((⟨g, o0, none⟩ : Addr).add i) v).run P w = .ok () (w.setCell ⟨g, o0 + i, none⟩ v) := by
      rw [add_none, run_store P w _ v _ (h1 v (by simp)), hcell]
      simp [ho.frozenAt]
    have ih := run_storeCells_own (o0 := o0) vs (i + 1) (w.setCell ⟨g, o0 + i, none⟩ v) _ (ho.stored (o0 + i) v).1 (by omega) (fun u hu => h1 u (by simp [hu]))
    simp only [storeCells, Sem.run_bind, hst, Result.andThen_ok, ih, setCells]
    rw [Nat.add_assoc]
theorem chg_setCells {w : World} {g o : Nat} (cs : List Value) : Chg (· ∈ [g]) w (setCells w g o cs) :=
  ⟨(setCells_only cs (Only.refl [g] w) (by simp)).os, (setCells_only cs (Only.refl [g] w) (by simp)).tape, (setCells_only cs (Only.refl [g] w) (by simp)).output, (setCells_only cs (Only.refl [g] w) (by simp)).size, (setCells_only cs (Only.refl [g] w) (by simp)).block⟩
theorem sound_store_ep {o : Oper} {x y : Operand} {t : TypeId} {ag : Bool} {n bt off : Nat} {z : Value} {h : Nat} {e k i : Nat} {d : Bool} {xs : List (List Dat)} {row ys : List Dat} {vs us : List Value} (ho : o.op = .store t x y) (ht : tyOf P t = some (ag, n, bt, z)) (hx : S.ev x = .ep h k i off)
    (hh : S.res h = some (.arr e k d xs)) (hr : xs[i]? = some row) (hrow : Flat row vs) (hy : cellsA (S.ev y) = ys.map (AV.p none)) (hys : Flat ys us) (hn : ys.length = n) (hl : off + n ≤ row.length) :
    Sound P o S ⟨.no, [h], [(h, .arr e k d (xs.set i (row.take off ++ ys ++ row.drop (off + n))))]⟩ := by
  intro K φ A w0 N a w Q hd hG
  have hev := hG.ev y
  have hval : (a.eval y).cells.toList = us := by
    have hc : cell1 S (S.ev y) := by
      cases hS : S.ev y with
      | agg cs => trivial
      | p o q =>
        rw [hS] at hy
        cases ys with
        | nil => simp [cellsA] at hy
        | cons y1 ys => simp [cellsA] at hy; rw [hy.1.1]; trivial
      | _ => rw [hS] at hy; cases ys <;> simp [cellsA] at hy
    obtain ⟨h3, _⟩ := cell1_match hG hc hev
    rw [hy] at h3
    exact matchL_scal hys h3
  have hsz := (tyOf_spec ht w).2.1
  have hus := hys.len
  have hvs := hrow.len
  obtain ⟨pl, css, hp, hown, hcl, hck, htop, hrows⟩ := hG.owned hh
  have hi : i < xs.length := (List.getElem?_eq_some_iff.1 hr).1
  obtain ⟨b, c, hv, _, _, hb⟩ := owns_shape hown
  obtain ⟨g, rfl, _, _⟩ := hb (by omega)
  have h2 := hG.ev x
  rw [hx] at h2
  unfold MatchV at h2
  obtain ⟨g', hg', he⟩ := h2 pl hp
  have htop' : pl.top = [g] := by rw [htop, hv]; rfl
  rw [htop'] at hg'
  simp only [List.cons.injEq, and_true] at hg'
  subst hg'
  have hk : row.length = k := (hrows i row _ hr (List.getElem?_eq_getElem (by omega))).1
  have hlt : i * k + off + us.length ≤ xs.length * k := by
    have : (i + 1) * k ≤ xs.length * k := Nat.mul_le_mul_right k (by omega)
    rw [Nat.add_mul] at this; omega
  have hown' := hown
  rw [hv] at hown'
  have hrun := run_storeCells_own (P := P) (o0 := i * k + off) us 0 w _ hown' (by omega) hys.one
  unfold Oper.wp
  have : (execOp a.eval o).run P w = .ok .skip (setCells w g (i * k + off + 0) us) := by
    have hsize : (a.eval y).cells.size = n := by rw [← Array.length_toList, hval]; omega
    simp only [execOp, ho, he, Instr.storeAt, Instr.sureAddr, storeVar, Sem.run_bind, Sem.run_pure, Result.andThen_ok, hsz, hsize, ne_eq, not_true_eq_false, if_false, hval, hrun]
  rw [this, Oper.upon_skip, Nat.add_zero]
  have hchg : Chg (· ∈ pl.top) w (setCells w g (i * k + off) us) := by rw [htop']; exact chg_setCells us
  have hsame : SameOn K w (setCells w g (i * k + off) us) := fun b hb => hchg.block b (hG.kin b hb).1 (fun hm => hG.kout b hb h _ hp (List.mem_append_left _ hm))
  have hsub : KeptOn pl.sub w (setCells w g (i * k + off) us) := fun b hb => hchg.block b (hG.ge h pl hp b (List.mem_append_right _ hb)).2 (fun hm => (List.nodup_append.1 (hG.nodup h pl hp)).2.2 b hm b hb rfl)
  have hset := Flat.set (off := off) hrow hys
  have hlen2 : (row.take off ++ ys ++ row.drop (off + n)).length = k := by simp; omega
  have hH : Holds K φ (setCells w g (i * k + off) us) pl (.arr e k d (xs.set i (row.take off ++ ys ++ row.drop (off + n)))) := by
    obtain ⟨pl', hp', hh'⟩ := hG.dom h _ hh
    rw [hp] at hp'
    injection hp' with e'
    subst e'
    cases d with
    | true =>
      obtain ⟨css2, Fs, q1, q2, q3, q4⟩ := hh'
      obtain ⟨q5, q6⟩ := q4.set_ hr hrow hset (by rw [hn]; exact hlen2)
      rw [hn] at q6
      refine ⟨css2.set i _, Fs, ?_, q2, q3, OwRs.kept _ _ _ _ (by rw [← q3]; exact hsub) q6⟩
      have := setCells_owns us (o := i * k + off) (by rw [hv] at q1; exact q1)
      rw [setL_rows us css2 i off vs q4.len.2 q5 (by omega), setL_eq (by omega)] at this
      rw [hv]
      simpa using this
    | false =>
      obtain ⟨css2, q1, q2, q3, q4⟩ := hh'
      have q5 : css2[i]? = some vs := by
        have hi2 : i < css2.length := by rw [q4.len.1]; exact hi
        rw [List.getElem?_eq_getElem hi2]
        have := (q4.at_ hr (List.getElem?_eq_getElem hi2)).2
        have hm := (rdL_match (K := K) (φ := φ) (w := w) (o := none) (fun x v => by unfold MatchV; exact Iff.rfl) this).1
        have e2 : row.map (pOf none) = row.map (AV.p none) := by
          apply List.map_congr_left
          intro y _
          unfold pOf
          split <;> rfl
        rw [e2] at hm
        rw [matchL_scal hrow hm]
      refine ⟨css2.set i (vs.take off ++ us ++ vs.drop (off + us.length)), ?_, q2, q3, (q4.mono hsame (fun _ h => h)).set_ (by have := hset.rdL (B := K) (w := setCells w g (i * k + off) us); rw [hn] at this; exact this) hlen2⟩
      have := setCells_owns us (o := i * k + off) (by rw [hv] at q1; exact q1)
      rw [setL_rows us css2 i off vs q4.len.2 q5 (by omega), setL_eq (by omega)] at this
      rw [hv]
      simpa using this
  exact ⟨_, _, _, rfl, (hG.writeH hh hp hchg hH).put hd (by unfold MatchV; trivial), tr_write hG hp hchg⟩
end
end Go.Proofs.Ytcgjlddpbkponaa
