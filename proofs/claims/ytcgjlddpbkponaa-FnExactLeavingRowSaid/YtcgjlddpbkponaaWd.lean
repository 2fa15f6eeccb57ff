/-
  A whole function's demand by computation, and the contract that it gives.
-/
import Derived.Test.YtcgjlddpbkponaaWc
namespace Go.Proofs.Ytcgjlddpbkponaa
open Go.ChangeShapes Go.WideShapes Go.ChangeAt Go.RowKit
set_option linter.unusedVariables false
set_option linter.unusedSimpArgs false

def renF (ren : List (Nat × Nat)) (h : Nat) : Nat := match look ren h with | some g => g | none => h
def killS (W : List Nat) : Sl := W.map fun t => (t, AV.no)
def killR (V : List Nat) : Rl := V.map fun h => (h, none)
def EqS (sl : Sl) (ren : List (Nat × Nat)) : Sl → Prop → Prop
  | [], K => K
  | (t, x) :: l, K => EqA (findS sl t) (mapA (renF ren) x) (EqS sl ren l K)
def EqRs (rs : Rl) (ren : List (Nat × Nat)) : Rl → Prop → Prop
  | [], K => K
  | (h, some r) :: l, K => (match findO rs (renF ren h) with | some r' => EqR r' (mapR (renF ren) r) (EqRs rs ren l K) | none => False)
  | (_, none) :: _, _ => False
def keyIn (ren : List (Nat × Nat)) (h : Nat) : Bool := (look ren h).isSome
def fixL (ren : List (Nat × Nat)) (l : List Nat) : Bool := l.all fun h => !keyIn ren h
def liveKeys (rs : Rl) : List Nat := (rs.map (·.1)).filter fun h => (findO rs h).isSome
def injK (ren : List (Nat × Nat)) (l : List Nat) : Bool := l.all fun h => l.all fun h' => Nat.beq h h' || !Nat.beq (renF ren h) (renF ren h')
/-- What the head of a loop keeps is as it was. -/
def keepB (W V : List Nat) (ren : List (Nat × Nat)) (pre : Sl) (prr : Rl) (b1 : Sl) (b2 : Rl) (hd : Rl) : Bool :=
  pre.all (fun q => W.contains q.1) && prr.all (fun q => V.contains q.1) && b1.all (fun q => W.contains q.1 || fixL ren (ments (findS b1 q.1))) &&
  b2.all (fun q => V.contains q.1 || (match findO b2 q.1 with | some r => !keyIn ren q.1 && fixL ren (mentsR r) | none => true)) && injK ren (liveKeys (hd ++ b2))
mutual
theorem mapA_fix {ren : List (Nat × Nat)} : ∀ (x : AV), fixL ren (ments x) = true → mapA (renF ren) x = x
  | .p none _, _ => by unfold mapA; rfl
  | .p (some h) x, hx => by unfold mapA; rw [ren_fix (l := [h]) hx (by simp)]
  | .own h, hx => by unfold mapA; rw [ren_fix (l := [h]) hx (by simp)]
  | .ptr h _, hx => by unfold mapA; rw [ren_fix (l := [h]) hx (by simp)]
  | .ep h _ _ _, hx => by unfold mapA; rw [ren_fix (l := [h]) hx (by simp)]
  | .rp none _, _ => by unfold mapA; rfl
  | .rp (some h) x, hx => by unfold mapA; rw [ren_fix (l := [h]) hx (by simp)]
  | .agg cs, hx => by unfold mapA; rw [mapAL_fix cs hx]
  | .tup cs, hx => by unfold mapA; rw [mapAL_fix cs hx]
  | .fn _ cs, hx => by unfold mapA; rw [mapAL_fix cs hx]
  | .nil, _ => by unfold mapA; rfl
  | .bsl h _, hx => by unfold mapA; rw [ren_fix (l := [h]) hx (by simp)]
  | .no, _ => by unfold mapA; rfl
theorem mapAL_fix {ren : List (Nat × Nat)} : ∀ (xs : List AV), fixL ren (mentsL xs) = true → mapAL (renF ren) xs = xs
  | [], _ => by unfold mapAL; rfl
  | x :: xs, hx => by
    unfold mapAL
    simp only [fixL, mentsL, List.all_append, Bool.and_eq_true] at hx
    rw [mapA_fix x hx.1, mapAL_fix xs hx.2]
theorem ren_fix {ren : List (Nat × Nat)} {l : List Nat} {h : Nat} (hx : fixL ren l = true) (hm : h ∈ l) : renF ren h = h := by
  have := List.all_eq_true.1 hx h hm
  simp only [keyIn, Bool.not_eq_true', Option.isSome_eq_false_iff, Option.isNone_iff_eq_none] at this
  unfold renF; rw [this]
end
theorem mapR_fix {ren : List (Nat × Nat)} : ∀ (r : Rs), fixL ren (mentsR r) = true → mapR (renF ren) r = r
  | .box t cs, h => by simp only [mapR]; rw [mapAL_fix cs h]
  | .arr _ _ _ _, _ => rfl
theorem EqS_ok {sl : Sl} {ren : List (Nat × Nat)} {K : Prop} : ∀ {l : Sl}, EqS sl ren l K → (∀ t x, (t, x) ∈ l → findS sl t = mapA (renF ren) x) ∧ K
  | [], h => ⟨by simp, h⟩
  | (t, x) :: l, h => by
    unfold EqS at h
    obtain ⟨h1, h2⟩ := EqA.eq _ _ _ h
    obtain ⟨h3, h4⟩ := EqS_ok h2
    refine ⟨fun t' x' hm => ?_, h4⟩
    rcases List.mem_cons.1 hm with e | hm
    · injection e with e1 e2; subst e1; subst e2; exact h1
    · exact h3 t' x' hm
theorem EqRs_ok {rs : Rl} {ren : List (Nat × Nat)} {K : Prop} : ∀ {l : Rl}, EqRs rs ren l K → (∀ h r, (h, r) ∈ l → ∃ r', r = some r' ∧ findO rs (renF ren h) = some (mapR (renF ren) r')) ∧ K
  | [], h => ⟨by simp, h⟩
  | (h, some r) :: l, hh => by
    unfold EqRs at hh
    split at hh
    · rename_i r' hr
      obtain ⟨h1, h2⟩ := hh.eq
      obtain ⟨h3, h4⟩ := EqRs_ok h2
      refine ⟨fun t' x' hm => ?_, h4⟩
      rcases List.mem_cons.1 hm with e | hm
      · injection e with e1 e2; subst e1; subst e2; exact ⟨r, rfl, by rw [hr, h1]⟩
      · exact h3 t' x' hm
    · cases hh
  | (h, none) :: l, hh => by unfold EqRs at hh; cases hh
theorem findS_app {o b : Sl} {t : Nat} : (∃ x, (t, x) ∈ o ∧ findS (o ++ b) t = x) ∨ (t ∉ o.map (·.1) ∧ findS (o ++ b) t = findS b t) := by
  induction o with
  | nil => exact .inr ⟨by simp, rfl⟩
  | cons q o ih =>
    obtain ⟨k, v⟩ := q
    simp only [List.cons_append, findS]
    by_cases e : t = k
    · subst e; exact .inl ⟨v, by simp, by simp⟩
    · rw [if_neg e]
      rcases ih with ⟨x, h1, h2⟩ | ⟨h1, h2⟩
      · exact .inl ⟨x, by simp [h1], h2⟩
      · exact .inr ⟨by simp only [List.map_cons, List.mem_cons, not_or]; exact ⟨e, h1⟩, h2⟩
theorem findO_app {o b : Rl} {t : Nat} : (∃ x, (t, x) ∈ o ∧ findO (o ++ b) t = x) ∨ (t ∉ o.map (·.1) ∧ findO (o ++ b) t = findO b t) := by
  induction o with
  | nil => exact .inr ⟨by simp, rfl⟩
  | cons q o ih =>
    obtain ⟨k, v⟩ := q
    simp only [List.cons_append, findO]
    by_cases e : t = k
    · subst e; exact .inl ⟨v, by simp, by simp⟩
    · rw [if_neg e]
      rcases ih with ⟨x, h1, h2⟩ | ⟨h1, h2⟩
      · exact .inl ⟨x, by simp [h1], h2⟩
      · exact .inr ⟨by simp only [List.map_cons, List.mem_cons, not_or]; exact ⟨e, h1⟩, h2⟩
theorem findS_kill {W : List Nat} {b : Sl} {t : Nat} : findS (killS W ++ b) t = if t ∈ W then .no else findS b t := by
  induction W with
  | nil => simp [killS]
  | cons w W ih =>
    simp only [killS, List.map_cons, List.cons_append, findS] at ih ⊢
    rw [ih]
    by_cases e : t = w <;> simp [e]
theorem findO_kill {W : List Nat} {b : Rl} {t : Nat} : findO (killR W ++ b) t = if t ∈ W then none else findO b t := by
  induction W with
  | nil => simp [killR]
  | cons w W ih =>
    simp only [killR, List.map_cons, List.cons_append, findO] at ih ⊢
    rw [ih]
    by_cases e : t = w <;> simp [e]
theorem findS_mem {b : Sl} {t : Nat} (h : findS b t ≠ .no) : t ∈ b.map (·.1) := by
  induction b with
  | nil => simp [findS] at h
  | cons q b ih =>
    obtain ⟨k, v⟩ := q
    simp only [findS] at h
    by_cases e : t = k
    · simp [e]
    · rw [if_neg e] at h; simp [ih h]
theorem findO_mem {b : Rl} {t : Nat} {r : Rs} (h : findO b t = some r) : t ∈ b.map (·.1) := by
  induction b with
  | nil => simp [findO] at h
  | cons q b ih =>
    obtain ⟨k, v⟩ := q
    simp only [findO] at h
    by_cases e : t = k
    · simp [e]
    · rw [if_neg e] at h; simp [ih h]
/-- A state that only adds to the head of a loop says as much as the head. -/
theorem le_keep {W V : List Nat} {ren : List (Nat × Nat)} {pre : Sl} {prr : Rl} {b1 : Sl} {b2 : Rl} {o : Sl} {r : Rl} (hb : keepB W V ren pre prr (killS W ++ b1) (killR V ++ b2) r = true) (h1 : ∀ t x, (t, x) ∈ o → findS (pre ++ (killS W ++ b1)) t = mapA (renF ren) x)
    (h2 : ∀ h x, (h, x) ∈ r → ∃ r', x = some r' ∧ findO (prr ++ (killR V ++ b2)) (renF ren h) = some (mapR (renF ren) r')) : Le (renF ren) (mk (pre ++ (killS W ++ b1)) (prr ++ (killR V ++ b2))) (mk (o ++ (killS W ++ b1)) (r ++ (killR V ++ b2))) := by
  unfold keepB at hb
  simp only [Bool.and_eq_true, List.all_eq_true] at hb
  obtain ⟨⟨⟨⟨k1, k2⟩, k3⟩, k4⟩, k5⟩ := hb
  refine ⟨fun t => ?_, fun h x hx => ?_, fun h h' x x' hx hx' e => ?_⟩
  · simp only [mk]
    rcases findS_app (o := o) (b := killS W ++ b1) (t := t) with ⟨x, q1, q2⟩ | ⟨_, q2⟩
    · rw [q2]; exact .inr (h1 t x q1)
    · rw [q2]
      by_cases hn : findS (killS W ++ b1) t = .no
      · exact .inl hn
      · right
        have hm := findS_mem hn
        obtain ⟨q, hq, rfl⟩ := List.mem_map.1 hm
        have hw : q.1 ∉ W := fun hw => hn (by rw [findS_kill, if_pos hw])
        have := k3 q hq
        simp only [Bool.or_eq_true, List.contains_eq_mem, decide_eq_true_eq] at this
        rw [mapA_fix _ (this.resolve_left hw)]
        rcases findS_app (o := pre) (b := killS W ++ b1) (t := q.1) with ⟨x, q1, _⟩ | ⟨_, q2⟩
        · have := k1 _ q1
          simp only [List.contains_eq_mem, decide_eq_true_eq] at this
          exact absurd this hw
        · exact q2
  · simp only [mk] at hx ⊢
    rcases findO_app (o := r) (b := killR V ++ b2) (t := h) with ⟨y, q1, q2⟩ | ⟨_, q2⟩
    · obtain ⟨r', e1, e2⟩ := h2 h y q1
      rw [q2, e1] at hx
      injection hx with hx
      subst hx; exact e2
    · rw [q2] at hx
      have hm := findO_mem hx
      obtain ⟨q, hq, rfl⟩ := List.mem_map.1 hm
      have hw : q.1 ∉ V := fun hw => by rw [findO_kill, if_pos hw] at hx; cases hx
      have := k4 q hq
      simp only [Bool.or_eq_true, List.contains_eq_mem, decide_eq_true_eq, hx, Bool.and_eq_true] at this
      obtain ⟨t1, t2⟩ := this.resolve_left hw
      have e1 : renF ren q.1 = q.1 := ren_fix (l := [q.1]) (by simp [fixL, t1]) (by simp)
      rw [e1, mapR_fix _ t2]
      rcases findO_app (o := prr) (b := killR V ++ b2) (t := q.1) with ⟨x, q1, _⟩ | ⟨_, q3⟩
      · have := k2 _ q1
        simp only [List.contains_eq_mem, decide_eq_true_eq] at this
        exact absurd this hw
      · rw [q3]; exact hx
  · simp only [mk] at hx hx'
    have live : ∀ {h x}, findO (r ++ (killR V ++ b2)) h = some x → h ∈ liveKeys (r ++ (killR V ++ b2)) := fun {h x} hx => by
      unfold liveKeys
      rw [List.mem_filter]
      exact ⟨findO_mem hx, by rw [hx]; rfl⟩
    have := List.all_eq_true.1 (List.all_eq_true.1 k5 h (live hx)) h' (live hx')
    simp only [Bool.or_eq_true, Bool.not_eq_true'] at this
    rcases this with q | q
    · exact Nat.eq_of_beq_eq_true q
    · rw [e, Nat.beq_refl] at q; cases q
def cndW (sl : Sl) (c : Operand) (t : T) (K : Option Nat → Bool → T → Prop) : Prop := match c with
  | .tmp s => (match findS sl s with | .p none (.bool b) => brW b t (fun b t => K (some s) b t) | _ => False)
  | .const (.bool b) => brW b t (fun b t => K none b t)
  | _ => False
theorem cndW_ok {sl : Sl} {rs : Rl} {c : Operand} {t : T} {K : Option Nat → Bool → T → Prop} (h : cndW sl c t K) : ∃ s b t', (mk sl rs).ev c = .p none (.bool b) ∧ (∀ rs', mk (pushB sl s b) rs' = mk sl rs') ∧ K s b t' := by
  unfold cndW at h
  split at h
  · rename_i s
    split at h
    · rename_i b hb
      obtain ⟨t', h⟩ := brW_ok h
      exact ⟨some s, b, t', hb, fun rs' => mk_push hb, h⟩
    · cases h
  · rename_i b
    obtain ⟨t', h⟩ := brW_ok h
    exact ⟨none, b, t', rfl, fun _ => rfl, h⟩
  · cases h
/-- The look at the end of a drawn region's run. -/
def endV (all : Array Oper) (sl : Sl) (rs : Rl) (recs : List Rec) : Bool := looksB all recs && recs.all fun r => r.Nw.all fun k => freshV sl rs k
theorem VC_drawnV {P : Program} {N : Nat} {id : Nat} {l : List Oper} {sl : Sl} {rs : Rl} {Q : Exit → St → Prop} (hm : P.follows .mixedOrders = true) (h : DOps P N l.toArray 0 l sl rs [] (fun S recs => endV l.toArray sl rs recs = true ∧ Q .normal S)) : VC P N (.region id l.toArray true) (mk sl rs) Q := by
  intro A w0 a w hG
  obtain ⟨recs, S', h1, ⟨h2, h3⟩, h4⟩ := dops_runs l 0 sl rs [] h
  simp only [List.reverse_nil, List.nil_append] at h2
  unfold endV at h2
  rw [Bool.and_eq_true, List.all_eq_true] at h2
  have hmem : ∀ i, (∃ r ∈ recs, r.i = i) ↔ i < l.length := fun i => by
    have : (∃ r ∈ recs, r.i = i) ↔ i ∈ recs.map (·.i) := by simp
    rw [this, h4]
    simp [List.mem_range']
  have hsz : l.toArray.size = l.length := by simp
  refine wp_region_any hm (any_sound (Kn := fun S => S = S') (fun S a w hS hG => ⟨S, hG, by rw [hS]; exact h3⟩) _ recs _ (mk sl rs) a _ (by rw [hsz, ← List.length_map (f := fun r : Rec => r.i), h4]; simp) h1 h2.1 (fun i hi => ?_) (fun i hi => ?_) (fun r hr => ?_) (fun r hr k hk => freshV_ok (List.all_eq_true.1 (h2.2 r hr) k hk)) hG.drew)
  · rw [hmem]
    rw [hsz] at hi
    simp [hi]
  · rw [hsz] at hi
    simp [hi]
  · rw [hsz]; exact (hmem r.i).1 ⟨r, hr, rfl⟩
section
variable (P : Program) (tb : Tb) (N : Nat)
def wpC : Code → Sl → Rl → Sl → Rl → T → (Exit → Sl → Rl → T → Prop) → Prop
  | .skip, _, _, pre, prr, t, K => K .normal pre prr t
  | .ret, _, _, pre, prr, t, K => K .ret pre prr t
  | .exit id, _, _, pre, prr, t, K => K (.exit id) pre prr t
  | .region _ ops draw, bs, br, pre, prr, t, K => (match ops with
    | ⟨l⟩ => (match draw with
      | false => opsW P tb N l bs br l pre prr t (fun pre prr t => K .normal pre prr t)
      | true => dopsW P tb N l bs br 0 l pre prr [] t (fun pre' prr' acc t => (match endV l.toArray (pre ++ bs) (prr ++ br) acc.reverse with
        | true => K .normal pre' prr' t
        | false => False))))
  | .seq a b, bs, br, pre, prr, t, K => wpC a bs br pre prr t (fun e pre prr t => (match e with
    | .normal => wpC b bs br pre prr t K
    | e => K e pre prr t))
  | .cond c x y, bs, br, pre, prr, t, K => cndW (pre ++ bs) c t (fun s b t => (match b with
    | true => wpC x bs br (pushB pre s true) prr t K
    | false => wpC y bs br (pushB pre s false) prr t K))
  | .block id c, bs, br, pre, prr, t, K => wpC c bs br pre prr t (fun e pre prr t => (match e with
    | .exit id' => (match Nat.beq id' id with | true => K .normal pre prr t | false => K (.exit id') pre prr t)
    | e => K e pre prr t))
  | .loop c, bs, br, pre, prr, t, K => (match t with
    | .loop _ q W V osl ors inv m t =>
      (q.ex fun y => (match keepB W V [] [] [] (killS W ++ (pre ++ bs)) (killR V ++ (prr ++ br)) (ors y) with | true => EqS (pre ++ bs) [] (osl y) (EqRs (prr ++ br) [] (ors y) (inv y)) | false => False)) ∧
      q.all fun x => inv x → wpC c (killS W ++ (pre ++ bs)) (killR V ++ (prr ++ br)) (osl x) (ors x) (t x) (fun e pre' prr' t' => (match e with
        | .normal => (match t' with
          | .back ren => q.ex fun y => (match keepB W V ren pre' prr' (killS W ++ (pre ++ bs)) (killR V ++ (prr ++ br)) (ors y) with
            | true => EqS (pre' ++ (killS W ++ (pre ++ bs))) ren (osl y) (EqRs (prr' ++ (killR V ++ (prr ++ br))) ren (ors y) (inv y ∧ m y < m x))
            | false => False)
          | _ => False)
        | e => K e (pre' ++ (killS W ++ pre)) (prr' ++ (killR V ++ prr)) t'))
    | _ => False)
  | _, _, _, _, _, _, _ => False
end
section
variable {P : Program} {tb : Tb} {N : Nat}
theorem le_entry {W V : List Nat} {b1 : Sl} {b2 : Rl} {o : Sl} {r : Rl} (hb : keepB W V [] [] [] (killS W ++ b1) (killR V ++ b2) r = true) (h1 : ∀ t x, (t, x) ∈ o → findS b1 t = mapA (renF []) x)
    (h2 : ∀ h x, (h, x) ∈ r → ∃ r', x = some r' ∧ findO b2 (renF [] h) = some (mapR (renF []) r')) : Le (renF []) (mk b1 b2) (mk (o ++ (killS W ++ b1)) (r ++ (killR V ++ b2))) := by
  have r0 : ∀ h, renF [] h = h := fun h => rfl
  refine ⟨fun t => ?_, fun h x hx => ?_, fun h h' x x' _ _ e => by rw [r0, r0] at e; exact e⟩
  · simp only [mk]
    rcases findS_app (o := o) (b := killS W ++ b1) (t := t) with ⟨x, q1, q2⟩ | ⟨_, q2⟩
    · rw [q2]; exact .inr (h1 t x q1)
    · rw [q2, findS_kill]
      split
      · exact .inl rfl
      · right; rw [mapA_fix _ (by simp [fixL, keyIn, look])]
  · simp only [mk] at hx ⊢
    rcases findO_app (o := r) (b := killR V ++ b2) (t := h) with ⟨y, q1, q2⟩ | ⟨_, q2⟩
    · obtain ⟨r', e1, e2⟩ := h2 h y q1
      rw [q2, e1] at hx
      injection hx with hx
      subst hx; exact e2
    · rw [q2, findO_kill] at hx
      split at hx
      · cases hx
      · rw [r0, mapR_fix _ (by simp [fixL, keyIn, look])]; exact hx
theorem wpC_ok (hT : TbOk P tb) (hm : P.follows .mixedOrders = true) : ∀ (c : Code) (bs : Sl) (br : Rl) (pre : Sl) (prr : Rl) (t : T) (K : Exit → Sl → Rl → T → Prop), wpC P tb N c bs br pre prr t K → VC P N c (mk (pre ++ bs) (prr ++ br)) (fun e S => ∃ pre' prr' t', S = mk (pre' ++ bs) (prr' ++ br) ∧ K e pre' prr' t')
  | .skip, bs, br, pre, prr, t, K, h => VC_skip ⟨pre, prr, t, rfl, h⟩
  | .ret, bs, br, pre, prr, t, K, h => VC_ret ⟨pre, prr, t, rfl, h⟩
  | .exit id, bs, br, pre, prr, t, K, h => VC_exit ⟨pre, prr, t, rfl, h⟩
  | .region id ops draw, bs, br, pre, prr, t, K, h => by
    obtain ⟨l⟩ := ops
    cases draw with
    | false =>
      simp only [wpC] at h
      exact VC_lit (opsW_ok hT l pre prr t h)
    | true =>
      simp only [wpC] at h
      refine VC_drawnV hm ?_
      have := dopsW_ok hT (all := l) l [] pre prr [] t rfl h
      refine dops_mono ?_ l 0 _ _ _ this
      rintro S recs ⟨pre', prr', acc', t', e1, e2, h⟩
      split at h
      · rename_i hk
        exact ⟨by rw [e2]; exact hk, pre', prr', t', e1, h⟩
      · cases h
  | .seq a b, bs, br, pre, prr, t, K, h => by
    simp only [wpC] at h
    refine VC_seq fun Kn hKn => VC_mono (wpC_ok hT hm a bs br pre prr t _ h) ?_
    rintro e S ⟨pre', prr', t', rfl, h⟩
    cases e with
    | normal => exact hKn _ (wpC_ok hT hm b bs br pre' prr' t' K h)
    | _ => exact ⟨pre', prr', t', rfl, h⟩
  | .cond c x y, bs, br, pre, prr, t, K, h => by
    simp only [wpC] at h
    obtain ⟨s, b, t', h1, h2, h⟩ := cndW_ok (rs := prr ++ br) h
    refine VC_cond h1 (fun e => ?_) (fun e => ?_)
    · subst e
      rw [← h2, pushB_app]
      exact wpC_ok hT hm x bs br _ prr t' K h
    · subst e
      rw [← h2, pushB_app]
      exact wpC_ok hT hm y bs br _ prr t' K h
  | .block id c, bs, br, pre, prr, t, K, h => by
    simp only [wpC] at h
    refine VC_block (VC_mono (wpC_ok hT hm c bs br pre prr t _ h) ?_)
    rintro e S ⟨pre', prr', t', rfl, h⟩
    cases e with
    | exit id' =>
      simp only [blockQ]
      dsimp only at h
      split at h
      · rename_i e; rw [if_pos (Nat.eq_of_beq_eq_true e)]; exact ⟨pre', prr', t', rfl, h⟩
      · rename_i e
        rw [if_neg (fun e' => by rw [e', Nat.beq_refl] at e; cases e)]; exact ⟨pre', prr', t', rfl, h⟩
    | _ => exact ⟨pre', prr', t', rfl, h⟩
  | .loop c, bs, br, pre, prr, t, K, h => by
    simp only [wpC] at h
    split at h
    · rename_i τ q W V osl ors inv m t
      obtain ⟨hi, hr⟩ := h
      obtain ⟨y, hi⟩ := q.h2 _ hi
      have hr := q.h1 _ hr
      split at hi
      · rename_i hk
        obtain ⟨i1, i2⟩ := EqS_ok hi
        obtain ⟨i3, i4⟩ := EqRs_ok i2
        refine VC_le _ (le_entry hk i1 i3) ?_
        refine VC_loop (fun n S => ∃ x, S = mk (osl x ++ (killS W ++ (pre ++ bs))) (ors x ++ (killR V ++ (prr ++ br))) ∧ n = m x ∧ inv x) (m y) ⟨y, rfl, rfl, i4⟩ ?_
        rintro n S ⟨x, rfl, rfl, hx⟩
        refine VC_mono (wpC_ok hT hm c _ _ _ _ _ _ (hr x hx)) ?_
        rintro e S ⟨pre', prr', t', rfl, h⟩
        cases e with
        | normal =>
          dsimp only at h
          split at h
          · rename_i ren
            obtain ⟨y, h⟩ := q.h2 _ h
            split at h
            · rename_i hk2
              obtain ⟨j1, j2⟩ := EqS_ok h
              obtain ⟨j3, j4, j5⟩ := EqRs_ok j2
              exact ⟨m y, _, _, j5, le_keep hk2 j1 j3, y, rfl, rfl, j4⟩
            · cases h
          · cases h
        | _ => exact ⟨_, _, _, by simp only [List.append_assoc], h⟩
      · cases hi
    · cases h
  | .rangeFunc _ _ _ _, bs, br, pre, prr, t, K, h => by simp only [wpC] at h
  | .scope _, bs, br, pre, prr, t, K, h => by simp only [wpC] at h
  | .label _, bs, br, pre, prr, t, K, h => by simp only [wpC] at h
  | .goto _, bs, br, pre, prr, t, K, h => by simp only [wpC] at h
  | .refuse _, bs, br, pre, prr, t, K, h => by simp only [wpC] at h
end
end Go.Proofs.Ytcgjlddpbkponaa
