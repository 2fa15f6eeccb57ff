/-
  A whole function's demand by computation, and the contract that it gives.
-/
import Derived.Test.YtcgjlddpbkponaaWc
namespace Go.Proofs.Ytcgjlddpbkponaa
open Go.ChangeShapes Go.WideShapes Go.ChangeAt Go.RowKit
set_option linter.unusedVariables false
set_option linter.unusedSimpArgs false

def killS (W : List Nat) : Sl := W.map fun t => (t, AV.no)
def killR (V : List Nat) : Rl := V.map fun h => (h, none)
/-- The handles of a loop's head as the state names them: none for nil. -/
def gmF (ren : List (Nat × Nat)) (hd : List Nat) (h : Nat) : Option Nat := match look ren h with | some g => some g | none => (match hd.contains h with | true => none | false => some h)
def EqS (sl : Sl) (gm : Nat → Option Nat) : Sl → Prop → Prop
  | [], K => K
  | (t, x) :: l, K => RetB gm x (findS sl t) (EqS sl gm l K)
def EqRs (rs : Rl) (gm : Nat → Option Nat) : Rl → Prop → Prop
  | [], K => K
  | (h, some r) :: l, K => (match gm h with
    | some g => (match findO rs g with
      | some r' => (match r with
        | .box t cs => (match r' with | .box t' cs' => EqN t' t (RetBL gm cs cs' (EqRs rs gm l K)) | _ => False)
        | .arr e k d xs => EqR r' (.arr e k d xs) (EqRs rs gm l K))
      | none => False)
    | none => (match r with | .arr _ _ _ xs => [] = xs ∧ EqRs rs gm l K | _ => False))
  | (_, none) :: _, _ => False
def fixN (gm : Nat → Option Nat) (h : Nat) : Bool := match gm h with | some g => Nat.beq g h | none => false
def fixL (gm : Nat → Option Nat) (l : List Nat) : Bool := l.all (fixN gm)
def liveKeys (rs : Rl) : List Nat := (rs.map (·.1)).filter fun h => (findO rs h).isSome
def injK (gm : Nat → Option Nat) (l : List Nat) : Bool := l.all fun h => l.all fun h' => Nat.beq h h' || (match gm h with | none => true | some g => (match gm h' with | none => true | some g' => !Nat.beq g g'))
/-- What the head of a loop keeps is as it was. -/
def keepB (W V : List Nat) (gm : Nat → Option Nat) (pre : Sl) (prr : Rl) (b1 : Sl) (b2 : Rl) (hd : Rl) : Bool :=
  hd.all (fun q => Nat.ble 100 q.1 || fixN gm q.1) && pre.all (fun q => W.contains q.1) && prr.all (fun q => V.contains q.1) && b1.all (fun q => W.contains q.1 || fixL gm (ments (findS b1 q.1))) &&
  b2.all (fun q => V.contains q.1 || (match findO b2 q.1 with | some r => fixN gm q.1 && fixL gm (mentsR r) | none => true)) && injK gm (liveKeys (hd ++ b2))
theorem fixN_ok {gm : Nat → Option Nat} {h : Nat} (hx : fixN gm h = true) : gm h = some h := by
  unfold fixN at hx
  split at hx
  · rename_i g hg; rw [hg, Nat.eq_of_beq_eq_true hx]
  · cases hx
theorem fixL_ok {gm : Nat → Option Nat} {l : List Nat} {h : Nat} (hx : fixL gm l = true) (hm : h ∈ l) : gm h = some h := fixN_ok (List.all_eq_true.1 hx h hm)
theorem EqS_ok {sl : Sl} {gm : Nat → Option Nat} {K : Prop} : ∀ {l : Sl}, EqS sl gm l K → (∀ t x, (t, x) ∈ l → ∃ Q, RetB gm x (findS sl t) Q) ∧ K
  | [], h => ⟨by simp, h⟩
  | (t, x) :: l, h => by
    unfold EqS at h
    obtain ⟨h3, h4⟩ := EqS_ok (RetB_snd _ _ _ h)
    refine ⟨fun t' x' hm => ?_, h4⟩
    rcases List.mem_cons.1 hm with e | hm
    · injection e with e1 e2; subst e1; subst e2; exact ⟨_, h⟩
    · exact h3 t' x' hm
def RelR (rs : Rl) (gm : Nat → Option Nat) (h : Nat) (r : Rs) : Prop :=
  (∀ g, gm h = some g → ∃ r', findO rs g = some r' ∧ ((r = r' ∧ arrR r = true) ∨ ∃ t cs cs' Q, r = .box t cs ∧ r' = .box t cs' ∧ RetBL gm cs cs' Q)) ∧ (gm h = none → ∃ e k d, r = .arr e k d [])
theorem EqRs_ok {rs : Rl} {gm : Nat → Option Nat} {K : Prop} : ∀ {l : Rl}, EqRs rs gm l K → (∀ h r, (h, r) ∈ l → ∃ r', r = some r' ∧ RelR rs gm h r') ∧ K
  | [], h => ⟨by simp, h⟩
  | (h, some r) :: l, hh => by
    unfold EqRs at hh
    have key : RelR rs gm h r → EqRs rs gm l K → (∀ h' r0, (h', r0) ∈ (h, some r) :: l → ∃ r', r0 = some r' ∧ RelR rs gm h' r') ∧ K := fun h1 h2 => by
      obtain ⟨h3, h4⟩ := EqRs_ok h2
      refine ⟨fun t' x' hm => ?_, h4⟩
      rcases List.mem_cons.1 hm with e | hm
      · injection e with e1 e2; subst e1; subst e2; exact ⟨r, rfl, h1⟩
      · exact h3 t' x' hm
    split at hh
    · rename_i g hg
      split at hh
      · rename_i r' hr
        split at hh
        · rename_i t cs
          split at hh
          · rename_i t' cs'
            obtain ⟨e1, hq⟩ := hh.eq
            refine key ⟨fun g' hg' => ?_, fun hn => by rw [hg] at hn; cases hn⟩ (RetBL_snd _ _ _ hq)
            rw [hg] at hg'; injection hg' with hg'; subst hg'
            exact ⟨_, hr, .inr ⟨t, cs, cs', _, rfl, by rw [e1], hq⟩⟩
          · cases hh
        · obtain ⟨e1, hq⟩ := hh.eq
          refine key ⟨fun g' hg' => ?_, fun hn => by rw [hg] at hn; cases hn⟩ hq
          rw [hg] at hg'; injection hg' with hg'; subst hg'
          exact ⟨_, hr, .inl ⟨e1.symm, rfl⟩⟩
      · cases hh
    · rename_i hg
      split at hh
      · obtain ⟨e1, hq⟩ := hh
        exact key ⟨fun g' hg' => (by rw [hg] at hg'; cases hg'), fun _ => ⟨_, _, _, by rw [← e1]⟩⟩ hq
      · cases hh
  | (h, none) :: l, hh => by unfold EqRs at hh; cases hh
theorem findS_app {o b : Sl} {t : Nat} : (∃ x, (t, x) ∈ o ∧ findS (o ++ b) t = x) ∨ (t ∉ o.map (·.1) ∧ findS (o ++ b) t = findS b t) := by
  induction o with
  | nil => exact .inr ⟨by simp, rfl⟩
  | cons q o ih =>
    obtain ⟨k, v⟩ := q
    simp only [List.cons_append, findS]
    by_cases e : t = k
    · subst e; exact .inl ⟨v, by simp, by simp⟩
    · rw [if_neg e]
      rcases ih with ⟨x, h1, h2⟩ | ⟨h1, h2⟩
      · exact .inl ⟨x, by simp [h1], h2⟩
      · exact .inr ⟨by simp only [List.map_cons, List.mem_cons, not_or]; exact ⟨e, h1⟩, h2⟩
theorem findO_app {o b : Rl} {t : Nat} : (∃ x, (t, x) ∈ o ∧ findO (o ++ b) t = x) ∨ (t ∉ o.map (·.1) ∧ findO (o ++ b) t = findO b t) := by
  induction o with
  | nil => exact .inr ⟨by simp, rfl⟩
  | cons q o ih =>
    obtain ⟨k, v⟩ := q
    simp only [List.cons_append, findO]
    by_cases e : t = k
    · subst e; exact .inl ⟨v, by simp, by simp⟩
    · rw [if_neg e]
      rcases ih with ⟨x, h1, h2⟩ | ⟨h1, h2⟩
      · exact .inl ⟨x, by simp [h1], h2⟩
      · exact .inr ⟨by simp only [List.map_cons, List.mem_cons, not_or]; exact ⟨e, h1⟩, h2⟩
theorem findS_kill {W : List Nat} {b : Sl} {t : Nat} : findS (killS W ++ b) t = if t ∈ W then .no else findS b t := by
  induction W with
  | nil => simp [killS]
  | cons w W ih =>
    simp only [killS, List.map_cons, List.cons_append, findS] at ih ⊢
    rw [ih]
    by_cases e : t = w <;> simp [e]
theorem findO_kill {W : List Nat} {b : Rl} {t : Nat} : findO (killR W ++ b) t = if t ∈ W then none else findO b t := by
  induction W with
  | nil => simp [killR]
  | cons w W ih =>
    simp only [killR, List.map_cons, List.cons_append, findO] at ih ⊢
    rw [ih]
    by_cases e : t = w <;> simp [e]
theorem findS_mem {b : Sl} {t : Nat} (h : findS b t ≠ .no) : t ∈ b.map (·.1) := by
  induction b with
  | nil => simp [findS] at h
  | cons q b ih =>
    obtain ⟨k, v⟩ := q
    simp only [findS] at h
    by_cases e : t = k
    · simp [e]
    · rw [if_neg e] at h; simp [ih h]
theorem findO_mem {b : Rl} {t : Nat} {r : Rs} (h : findO b t = some r) : t ∈ b.map (·.1) := by
  induction b with
  | nil => simp [findO] at h
  | cons q b ih =>
    obtain ⟨k, v⟩ := q
    simp only [findO] at h
    by_cases e : t = k
    · simp [e]
    · rw [if_neg e] at h; simp [ih h]
/-- A state that only adds to what the head of a loop keeps says as much as the head. -/
theorem gam_keep {A : Nat → Prop} {w0 : Org} {N : Nat} {a : Act} {w : World} {W V : List Nat} {gm : Nat → Option Nat} {cur : Sl} {cur2 : Rl} {b1 : Sl} {b2 : Rl} {o : Sl} {r : Rl}
    (k0 : ∀ q ∈ r, Nat.ble 100 q.1 = true ∨ fixN gm q.1 = true) (k3 : ∀ q ∈ killS W ++ b1, q.1 ∈ W ∨ fixL gm (ments (findS (killS W ++ b1) q.1)) = true) (k4 : ∀ q ∈ killR V ++ b2, q.1 ∈ V ∨ ∀ r, findO (killR V ++ b2) q.1 = some r → fixN gm q.1 = true ∧ fixL gm (mentsR r) = true)
    (k5 : injK gm (liveKeys (r ++ (killR V ++ b2))) = true) (c1 : ∀ t, t ∉ W → findS cur t = findS (killS W ++ b1) t) (c2 : ∀ h, h ∉ V → findO cur2 h = findO (killR V ++ b2) h)
    (h1 : ∀ t x, (t, x) ∈ o → ∃ Q, RetB gm x (findS cur t) Q) (h2 : ∀ h x, (h, x) ∈ r → ∃ r', x = some r' ∧ RelR cur2 gm h r') (hG : Gam A w0 N (mk cur cur2) a w) : Gam A w0 N (mk (o ++ (killS W ++ b1)) (r ++ (killR V ++ b2))) a w := by
  obtain ⟨K, φ, hG⟩ := hG
  let S2 := r ++ (killR V ++ b2)
  let φ' : Phi := fun h => match findO S2 h with | none => none | some _ => (match gm h with | some g => φ g | none => some nilPl)
  have p1 : ∀ h g pl, gm h = some g → φ' h = some pl → φ g = some pl := fun h g pl e e' => by
    simp only [φ', e] at e'
    split at e'
    · cases e'
    · exact e'
  have p2 : ∀ h pl, gm h = none → φ' h = some pl → pl = nilPl := fun h pl e e' => by
    simp only [φ', e] at e'
    split at e'
    · cases e'
    · injection e' with e'; exact e'.symm
  have p0 : ∀ h pl, φ' h = some pl → ∃ x, findO S2 h = some x := fun h pl e => by
    simp only [φ'] at e
    split at e
    · cases e
    · rename_i x hx; exact ⟨x, hx⟩
  have p3 : ∀ h pl, φ' h = some pl → (∃ g, gm h = some g ∧ φ g = some pl) ∨ pl = nilPl := fun h pl e => by
    cases hl : gm h with
    | some g => exact .inl ⟨g, rfl, p1 h g pl hl e⟩
    | none => exact .inr (p2 h pl hl e)
  have live : ∀ {h x}, findO S2 h = some x → h ∈ liveKeys S2 := fun {h x} hx => by
    unfold liveKeys
    rw [List.mem_filter]
    exact ⟨findO_mem hx, by rw [hx]; rfl⟩
  refine ⟨K, φ', fun h x hx => ?_, fun h hx => ?_, fun h h' pl pl' hne e e' g hg => ?_, fun h pl e => ?_, fun h pl e => ?_, hG.kin, fun b hb h pl e => ?_, hG.aK, fun t => ?_, hG.bel, hG.nd, hG.size, fun h pl pl0 e e0 => ?_⟩
  · have hx' : findO S2 h = some x := hx
    rcases findO_app (o := r) (b := killR V ++ b2) (t := h) with ⟨y, q1, q2⟩ | ⟨_, q2⟩
    · obtain ⟨r', e1, q3, q4⟩ := h2 h y q1
      have ex : r' = x := by have := hx'; simp only [S2] at this; rw [q2, e1] at this; injection this
      subst ex
      cases hl : gm h with
      | some g =>
        obtain ⟨r2, hr2, q⟩ := q3 g hl
        obtain ⟨pl, hp, hh⟩ := hG.dom g r2 hr2
        refine ⟨pl, by simp only [φ', hx', hl]; exact hp, ?_⟩
        rcases q with ⟨rfl, ha⟩ | ⟨t, cs, cs', Q, rfl, rfl, hq⟩
        · exact Holds.arrPhi ha hh
        · obtain ⟨g', vs', f1, f2, f3, f4⟩ := hh
          exact ⟨g', vs', f1, f2, f3, (RetBL_ok (φ' := φ') p1 p2 _ _ _ _ hq f4).1⟩
      | none =>
        obtain ⟨e, k, d, rfl⟩ := q4 hl
        refine ⟨nilPl, by simp only [φ', hx', hl], ?_⟩
        cases d with
        | true => exact ⟨[], [], World.ownsRow_nil w 0 e k, rfl, rfl, by unfold OwRs; exact ⟨rfl, rfl⟩⟩
        | false => exact ⟨[], World.ownsRow_nil w 0 e k, rfl, rfl, rfl⟩
    · have hb : findO (killR V ++ b2) h = some x := by rw [← q2]; exact hx'
      obtain ⟨q, hq, rfl⟩ := List.mem_map.1 (findO_mem hb)
      have hv : q.1 ∉ V := fun hv => by rw [findO_kill, if_pos hv] at hb; cases hb
      obtain ⟨f1, f2⟩ := (k4 q hq).resolve_left hv x hb
      obtain ⟨pl, hp, hh⟩ := hG.dom q.1 x (by simp only [mk]; rw [c2 _ hv]; exact hb)
      refine ⟨pl, by simp only [φ', hx', fixN_ok f1]; exact hp, ?_⟩
      exact Holds.mono (fun _ _ => rfl) (fun _ h => h) (fun _ _ => rfl) x (fun h3 pl3 hm3 e3 => ⟨p1 h3 h3 pl3 (fixL_ok f2 hm3) e3, fun _ _ => rfl⟩) hh
  · have hx' : findO S2 h = none := hx
    simp only [φ', hx']
  · rcases p3 h pl e with ⟨q, l1, e1⟩ | e1
    · rcases p3 h' pl' e' with ⟨q', l1', e1'⟩ | e1'
      · refine hG.disj q q' pl pl' (fun x => ?_) e1 e1' g hg
        subst x
        obtain ⟨x, hx⟩ := p0 h pl e
        obtain ⟨x', hx'⟩ := p0 h' pl' e'
        have := List.all_eq_true.1 (List.all_eq_true.1 k5 h (live hx)) h' (live hx')
        simp only [Bool.or_eq_true, l1, l1', Nat.beq_refl, Bool.not_true] at this
        rcases this with q3 | q3
        · exact hne (Nat.eq_of_beq_eq_true q3)
        · cases q3
      · rw [e1']; simp [nilPl, Pl.F]
    · rw [e1] at hg; simp [nilPl, Pl.F] at hg
  · rcases p3 h pl e with ⟨g, _, e⟩ | e
    · exact hG.nodup g pl e
    · rw [e]; simp [nilPl, Pl.F]
  · rcases p3 h pl e with ⟨g, _, e⟩ | e
    · exact hG.ge g pl e
    · rw [e]; simp [nilPl, Pl.F]
  · rcases p3 h pl e with ⟨g, _, e⟩ | e
    · exact hG.kout b hb g pl e
    · rw [e]; simp [nilPl, Pl.F]
  · simp only [mk]
    have hs := hG.slots t
    simp only [mk] at hs
    rcases findS_app (o := o) (b := killS W ++ b1) (t := t) with ⟨x, q1, q2⟩ | ⟨_, q2⟩
    · rw [q2]
      obtain ⟨Q, hQ⟩ := h1 t x q1
      exact (RetB_ok (φ' := φ') p1 p2 _ _ _ _ hQ hs).1
    · rw [q2]
      by_cases hn : findS (killS W ++ b1) t = .no
      · rw [hn]; unfold MatchV; trivial
      · obtain ⟨q, hq, rfl⟩ := List.mem_map.1 (findS_mem hn)
        have hw : q.1 ∉ W := fun hw => hn (by rw [findS_kill, if_pos hw])
        have f := (k3 q hq).resolve_left hw
        rw [c1 _ hw] at hs
        exact MatchV.mono (fun _ _ => rfl) (fun _ h => h) _ _ (fun h3 pl3 hm3 e3 => ⟨p1 h3 h3 pl3 (fixL_ok f hm3) e3, fun _ _ => rfl⟩) hs
  · obtain ⟨x, hx⟩ := p0 h pl e
    have hlt := w0.dom h pl0 e0
    have hfx : gm h = some h := by
      rcases findO_app (o := r) (b := killR V ++ b2) (t := h) with ⟨y, q1, q2⟩ | ⟨_, q2⟩
      · rcases k0 _ q1 with q | q
        · have := Nat.le_of_ble_eq_true q; dsimp only at this; omega
        · exact fixN_ok q
      · have hb : findO (killR V ++ b2) h = some x := by rw [← q2]; exact hx
        obtain ⟨q, hq, rfl⟩ := List.mem_map.1 (findO_mem hb)
        have hv : q.1 ∉ V := fun hv => by rw [findO_kill, if_pos hv] at hb; cases hb
        exact fixN_ok ((k4 q hq).resolve_left hv x hb).1
    exact hG.pin h pl pl0 (p1 h h pl hfx e) e0
theorem keep_ok {W V : List Nat} {gm : Nat → Option Nat} {pre : Sl} {prr : Rl} {b1 : Sl} {b2 : Rl} {r : Rl} (hb : keepB W V gm pre prr b1 b2 r = true) : (∀ q ∈ r, Nat.ble 100 q.1 = true ∨ fixN gm q.1 = true) ∧ (∀ q ∈ pre, q.1 ∈ W) ∧ (∀ q ∈ prr, q.1 ∈ V) ∧ (∀ q ∈ b1, q.1 ∈ W ∨ fixL gm (ments (findS b1 q.1)) = true) ∧ (∀ q ∈ b2, q.1 ∈ V ∨ ∀ r, findO b2 q.1 = some r → fixN gm q.1 = true ∧ fixL gm (mentsR r) = true) ∧ injK gm (liveKeys (r ++ b2)) = true := by
  unfold keepB at hb
  simp only [Bool.and_eq_true, List.all_eq_true, Bool.or_eq_true, List.contains_eq_mem, decide_eq_true_eq] at hb
  obtain ⟨⟨⟨⟨⟨k0, k1⟩, k2⟩, k3⟩, k4⟩, k5⟩ := hb
  refine ⟨k0, k1, k2, k3, fun q hq => (k4 q hq).imp id fun h r hr => ?_, k5⟩
  rw [hr] at h
  simpa using h
/-- At the entry: a head's handle that is there is itself; else it stands for nil. -/
def idRen (rs : Rl) (hd : Rl) : List (Nat × Nat) := (hd.filter fun q => (findO rs q.1).isSome).map fun q => (q.1, q.1)
def cndW (sl : Sl) (c : Operand) (t : T) (K : Option Nat → Bool → T → Prop) : Prop := match c with
  | .tmp s => (match findS sl s with | .p none (.bool b) => brW b t (fun b t => K (some s) b t) | _ => False)
  | .const (.bool b) => brW b t (fun b t => K none b t)
  | _ => False
theorem cndW_ok {sl : Sl} {rs : Rl} {c : Operand} {t : T} {K : Option Nat → Bool → T → Prop} (h : cndW sl c t K) : ∃ s b t', (mk sl rs).ev c = .p none (.bool b) ∧ (∀ rs', mk (pushB sl s b) rs' = mk sl rs') ∧ K s b t' := by
  unfold cndW at h
  split at h
  · rename_i s
    split at h
    · rename_i b hb
      obtain ⟨t', h⟩ := brW_ok h
      exact ⟨some s, b, t', hb, fun rs' => mk_push hb, h⟩
    · cases h
  · rename_i b
    obtain ⟨t', h⟩ := brW_ok h
    exact ⟨none, b, t', rfl, fun _ => rfl, h⟩
  · cases h
/-- The look at the end of a drawn region's run. -/
def endV (all : Array Oper) (sl : Sl) (rs : Rl) (recs : List Rec) : Bool := looksB all recs && recs.all fun r => r.Nw.all fun k => freshV sl rs k
theorem VC_drawnV {P : Program} {N : Nat} {id : Nat} {l : List Oper} {sl : Sl} {rs : Rl} {Q : Exit → St → Prop} (hm : P.follows .mixedOrders = true) (h : DOps P N l.toArray 0 l sl rs [] (fun S recs => endV l.toArray sl rs recs = true ∧ Q .normal S)) : VC P N (.region id l.toArray true) (mk sl rs) Q := by
  intro A w0 a w hG
  obtain ⟨recs, S', h1, ⟨h2, h3⟩, h4⟩ := dops_runs l 0 sl rs [] h
  simp only [List.reverse_nil, List.nil_append] at h2
  unfold endV at h2
  rw [Bool.and_eq_true, List.all_eq_true] at h2
  have hmem : ∀ i, (∃ r ∈ recs, r.i = i) ↔ i < l.length := fun i => by
    have : (∃ r ∈ recs, r.i = i) ↔ i ∈ recs.map (·.i) := by simp
    rw [this, h4]
    simp [List.mem_range']
  have hsz : l.toArray.size = l.length := by simp
  refine wp_region_any hm (any_sound (Kn := fun S => S = S') (fun S a w hS hG => ⟨S, hG, by rw [hS]; exact h3⟩) _ recs _ (mk sl rs) a _ (by rw [hsz, ← List.length_map (f := fun r : Rec => r.i), h4]; simp) h1 h2.1 (fun i hi => ?_) (fun i hi => ?_) (fun r hr => ?_) (fun r hr k hk => freshV_ok (List.all_eq_true.1 (h2.2 r hr) k hk)) hG.drew)
  · rw [hmem]
    rw [hsz] at hi
    simp [hi]
  · rw [hsz] at hi
    simp [hi]
  · rw [hsz]; exact (hmem r.i).1 ⟨r, hr, rfl⟩
section
variable (P : Program) (tb : Tb) (N : Nat)
def wpC : Code → Sl → Rl → Sl → Rl → T → (Exit → Sl → Rl → T → Prop) → Prop
  | .skip, _, _, pre, prr, t, K => K .normal pre prr t
  | .ret, _, _, pre, prr, t, K => K .ret pre prr t
  | .exit id, _, _, pre, prr, t, K => K (.exit id) pre prr t
  | .region _ ops draw, bs, br, pre, prr, t, K => (match ops with
    | ⟨l⟩ => (match draw with
      | false => opsW P tb N l bs br l pre prr t (fun pre prr t => K .normal pre prr t)
      | true => dopsW P tb N l bs br 0 l pre prr [] t (fun pre' prr' acc t => (match endV l.toArray (pre ++ bs) (prr ++ br) acc.reverse with
        | true => K .normal pre' prr' t
        | false => False))))
  | .seq a b, bs, br, pre, prr, t, K => wpC a bs br pre prr t (fun e pre prr t => (match e with
    | .normal => wpC b bs br pre prr t K
    | e => K e pre prr t))
  | .cond c x y, bs, br, pre, prr, t, K => cndW (pre ++ bs) c t (fun s b t => (match b with
    | true => wpC x bs br (pushB pre s true) prr t K
    | false => wpC y bs br (pushB pre s false) prr t K))
  | .block id c, bs, br, pre, prr, t, K => wpC c bs br pre prr t (fun e pre prr t => (match e with
    | .exit id' => (match Nat.beq id' id with | true => K .normal pre prr t | false => K (.exit id') pre prr t)
    | e => K e pre prr t))
  | .loop c, bs, br, pre, prr, t, K => (match t with
    | .loop _ q W V osl ors inv m t =>
      (q.ex fun y => (match keepB W V (gmF (idRen (prr ++ br) (ors y)) ((ors y).map (·.1))) [] [] (killS W ++ (pre ++ bs)) (killR V ++ (prr ++ br)) (ors y) with | true => EqS (pre ++ bs) (gmF (idRen (prr ++ br) (ors y)) ((ors y).map (·.1))) (osl y) (EqRs (prr ++ br) (gmF (idRen (prr ++ br) (ors y)) ((ors y).map (·.1))) (ors y) (inv y)) | false => False)) ∧
      q.all fun x => inv x → wpC c (killS W ++ (pre ++ bs)) (killR V ++ (prr ++ br)) (osl x) (ors x) (t x) (fun e pre' prr' t' => (match e with
        | .normal => (match t' with
          | .back ren => q.ex fun y => (match keepB W V (gmF ren ((ors y).map (·.1))) pre' prr' (killS W ++ (pre ++ bs)) (killR V ++ (prr ++ br)) (ors y) with
            | true => EqS (pre' ++ (killS W ++ (pre ++ bs))) (gmF ren ((ors y).map (·.1))) (osl y) (EqRs (prr' ++ (killR V ++ (prr ++ br))) (gmF ren ((ors y).map (·.1))) (ors y) (inv y ∧ m y < m x))
            | false => False)
          | _ => False)
        | e => K e (pre' ++ (killS W ++ pre)) (prr' ++ (killR V ++ prr)) t'))
    | _ => False)
  | _, _, _, _, _, _, _ => False
end
section
variable {P : Program} {tb : Tb} {N : Nat}
theorem exists_min' (p : Nat → Prop) (h : ∃ n, p n) : ∃ n, p n ∧ ∀ m, p m → n ≤ m := exists_min p h
open Classical in
theorem VC_loopG {S : St} {Q : Exit → St → Prop} {c : Code} (I : Nat → St → Prop) (n : Nat) (h0 : I n S) (round : ∀ n S, I n S → VC P N c S (thenQ (fun S' => ∃ m S'', m < n ∧ (∀ A w0 a w, Gam A w0 N S' a w → Gam A w0 N S'' a w) ∧ I m S'') Q)) : VC P N (.loop c) S Q := fun A w0 a w hG => by
  let J : Act → World → Nat → Prop := fun a w n => ∃ S, I n S ∧ Gam A w0 N S a w
  refine wp_loop (fun a w => ∃ n, J a w n) (fun a w => if h : ∃ n, J a w n then Classical.choose (exists_min _ h) else 0) ⟨n, S, h0, hG⟩ fun a w hI => ?_
  have hmin := Classical.choose_spec (exists_min _ hI)
  obtain ⟨⟨S1, hI1, hG1⟩, _⟩ := hmin
  refine Code.wp_mono (fun e a' w' ⟨S', h1, h2⟩ => ?_) (round _ S1 hI1 A w0 a w hG1)
  cases e with
  | normal =>
    obtain ⟨m, S'', hm, hl, hI2⟩ := h2
    have hex : ∃ n, J a' w' n := ⟨m, S'', hI2, hl A w0 a' w' h1⟩
    refine ⟨hex, ?_⟩
    simp only [dif_pos hI, dif_pos hex]
    exact Nat.lt_of_le_of_lt ((Classical.choose_spec (exists_min _ hex)).2 m ⟨S'', hI2, hl A w0 a' w' h1⟩) hm
  | _ => exact ⟨S', h1, h2⟩
theorem wpC_ok (hT : TbOk P tb) (hm : P.follows .mixedOrders = true) : ∀ (c : Code) (bs : Sl) (br : Rl) (pre : Sl) (prr : Rl) (t : T) (K : Exit → Sl → Rl → T → Prop), wpC P tb N c bs br pre prr t K → VC P N c (mk (pre ++ bs) (prr ++ br)) (fun e S => ∃ pre' prr' t', S = mk (pre' ++ bs) (prr' ++ br) ∧ K e pre' prr' t')
  | .skip, bs, br, pre, prr, t, K, h => VC_skip ⟨pre, prr, t, rfl, h⟩
  | .ret, bs, br, pre, prr, t, K, h => VC_ret ⟨pre, prr, t, rfl, h⟩
  | .exit id, bs, br, pre, prr, t, K, h => VC_exit ⟨pre, prr, t, rfl, h⟩
  | .region id ops draw, bs, br, pre, prr, t, K, h => by
    obtain ⟨l⟩ := ops
    cases draw with
    | false =>
      simp only [wpC] at h
      exact VC_lit (opsW_ok hT l pre prr t h)
    | true =>
      simp only [wpC] at h
      refine VC_drawnV hm ?_
      have := dopsW_ok hT (all := l) l [] pre prr [] t rfl h
      refine dops_mono ?_ l 0 _ _ _ this
      rintro S recs ⟨pre', prr', acc', t', e1, e2, h⟩
      split at h
      · rename_i hk
        exact ⟨by rw [e2]; exact hk, pre', prr', t', e1, h⟩
      · cases h
  | .seq a b, bs, br, pre, prr, t, K, h => by
    simp only [wpC] at h
    refine VC_seq fun Kn hKn => VC_mono (wpC_ok hT hm a bs br pre prr t _ h) ?_
    rintro e S ⟨pre', prr', t', rfl, h⟩
    cases e with
    | normal => exact hKn _ (wpC_ok hT hm b bs br pre' prr' t' K h)
    | _ => exact ⟨pre', prr', t', rfl, h⟩
  | .cond c x y, bs, br, pre, prr, t, K, h => by
    simp only [wpC] at h
    obtain ⟨s, b, t', h1, h2, h⟩ := cndW_ok (rs := prr ++ br) h
    refine VC_cond h1 (fun e => ?_) (fun e => ?_)
    · subst e
      rw [← h2, pushB_app]
      exact wpC_ok hT hm x bs br _ prr t' K h
    · subst e
      rw [← h2, pushB_app]
      exact wpC_ok hT hm y bs br _ prr t' K h
  | .block id c, bs, br, pre, prr, t, K, h => by
    simp only [wpC] at h
    refine VC_block (VC_mono (wpC_ok hT hm c bs br pre prr t _ h) ?_)
    rintro e S ⟨pre', prr', t', rfl, h⟩
    cases e with
    | exit id' =>
      simp only [blockQ]
      dsimp only at h
      split at h
      · rename_i e; rw [if_pos (Nat.eq_of_beq_eq_true e)]; exact ⟨pre', prr', t', rfl, h⟩
      · rename_i e
        rw [if_neg (fun e' => by rw [e', Nat.beq_refl] at e; cases e)]; exact ⟨pre', prr', t', rfl, h⟩
    | _ => exact ⟨pre', prr', t', rfl, h⟩
  | .loop c, bs, br, pre, prr, t, K, h => by
    simp only [wpC] at h
    split at h
    · rename_i τ q W V osl ors inv m t
      obtain ⟨hi, hr⟩ := h
      obtain ⟨y, hi⟩ := q.h2 _ hi
      have hr := q.h1 _ hr
      split at hi
      · rename_i hk
        obtain ⟨i1, i2⟩ := EqS_ok hi
        obtain ⟨i3, i4⟩ := EqRs_ok i2
        obtain ⟨g0, _, _, g3, g4, g5⟩ := keep_ok hk
        refine fun A w0 a w hG => ?_
        refine (?_ : VC P N (.loop c) (mk (osl y ++ (killS W ++ (pre ++ bs))) (ors y ++ (killR V ++ (prr ++ br)))) _) A w0 a w (gam_keep g0 g3 g4 g5 (fun t ht => by rw [findS_kill, if_neg ht]) (fun h hh => by rw [findO_kill, if_neg hh]) i1 i3 hG)
        refine VC_loopG (fun n S => ∃ x, S = mk (osl x ++ (killS W ++ (pre ++ bs))) (ors x ++ (killR V ++ (prr ++ br))) ∧ n = m x ∧ inv x) (m y) ⟨y, rfl, rfl, i4⟩ ?_
        rintro n S ⟨x, rfl, rfl, hx⟩
        refine VC_mono (wpC_ok hT hm c _ _ _ _ _ _ (hr x hx)) ?_
        rintro e S ⟨pre', prr', t', rfl, h⟩
        cases e with
        | normal =>
          dsimp only at h
          split at h
          · rename_i ren
            obtain ⟨y, h⟩ := q.h2 _ h
            split at h
            · rename_i hk2
              obtain ⟨j1, j2⟩ := EqS_ok h
              obtain ⟨j3, j4, j5⟩ := EqRs_ok j2
              obtain ⟨g0, g1, g2, g3, g4, g5⟩ := keep_ok hk2
              refine ⟨m y, _, j5, fun A w0 a w hG => gam_keep g0 g3 g4 g5 (fun t ht => ?_) (fun h hh => ?_) j1 j3 hG, y, rfl, rfl, j4⟩
              · rcases findS_app (o := pre') (b := killS W ++ (pre ++ bs)) (t := t) with ⟨x, q1, _⟩ | ⟨_, q2⟩
                · exact absurd (g1 _ q1) ht
                · exact q2
              · rcases findO_app (o := prr') (b := killR V ++ (prr ++ br)) (t := h) with ⟨x, q1, _⟩ | ⟨_, q2⟩
                · exact absurd (g2 _ q1) hh
                · exact q2
            · cases h
          · cases h
        | _ => exact ⟨_, _, _, by simp only [List.append_assoc], h⟩
      · cases hi
    · cases h
  | .rangeFunc _ _ _ _, bs, br, pre, prr, t, K, h => by simp only [wpC] at h
  | .scope _, bs, br, pre, prr, t, K, h => by simp only [wpC] at h
  | .label _, bs, br, pre, prr, t, K, h => by simp only [wpC] at h
  | .goto _, bs, br, pre, prr, t, K, h => by simp only [wpC] at h
  | .refuse _, bs, br, pre, prr, t, K, h => by simp only [wpC] at h
end
end Go.Proofs.Ytcgjlddpbkponaa
