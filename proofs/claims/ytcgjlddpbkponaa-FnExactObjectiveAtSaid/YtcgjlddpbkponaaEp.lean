/-
  A run of a region that draws its order, written down operation by operation.
-/
import Derived.Test.YtcgjlddpbkponaaEo
namespace Go.Proofs.Ytcgjlddpbkponaa
open Go.ChangeShapes Go.WideShapes Go.ChangeAt Go.RowKit
set_option linter.unusedVariables false
set_option linter.unusedSimpArgs false

def viewL (sl : List (Nat × AV)) : List Operand → List (Nat × AV)
  | .tmp t :: l => (t, findS sl t) :: viewL sl l
  | _ :: l => viewL sl l
  | [] => []
def opL : Op → List Operand
  | .move x | .assign x | .box _ x | .load _ x | .nilCheck x | .unOp _ _ x | .convert _ _ x | .fieldAddr _ x _ | .field _ x _ | .extract x _ => [x]
  | .pick c a b => [c, a, b]
  | .build _ ps | .buildSlice _ _ ps => ps.toList.map (·.2)
  | .store _ a v | .binOp _ _ a v _ | .makeSlice _ a v | .indexAddr _ a v | .index _ a v => [a, v]
  | .call c => c.args.toList
  | .slice _ x l h m => x :: (l.toList ++ h.toList ++ m.toList)
  | _ => []
def viewS (o : Op) (sl : List (Nat × AV)) : List (Nat × AV) := viewL sl (opL o)
def mentsO (rs : List (Nat × Option Rs)) (l : List Nat) : List Nat := l.flatMap fun h => match findO rs h with | some r => mentsR r | none => []
def viewR (o : Op) (sl : List (Nat × AV)) (rs : List (Nat × Option Rs)) : List (Nat × Option Rs) :=
  let m0 := (viewS o sl).flatMap fun q => ments q.2
  let m1 := mentsO rs m0
  (m0 ++ m1 ++ mentsO rs m1).map fun h => (h, findO rs h)
theorem findS_viewL (sl : List (Nat × AV)) : ∀ (l : List Operand) (t : Nat), t ∈ (viewL sl l).map (·.1) → findS (viewL sl l) t = findS sl t
  | [], t, h => by simp [viewL] at h
  | .tmp u :: l, t, h => by
    simp only [viewL, List.map_cons, List.mem_cons, findS] at h ⊢
    by_cases e : t = u
    · simp [e]
    · rw [if_neg e]; exact findS_viewL sl l t (h.resolve_left e)
  | .const _ :: l, t, h => findS_viewL sl l t h
  | .func _ :: l, t, h => findS_viewL sl l t h
  | .global _ :: l, t, h => findS_viewL sl l t h
theorem findO_map (rs : List (Nat × Option Rs)) : ∀ (l : List Nat) (h : Nat), findO (l.map fun k => (k, findO rs k)) h = if h ∈ l then findO rs h else none
  | [], h => by simp [findO]
  | k :: l, h => by
    simp only [List.map_cons, findO, findO_map rs l h]
    by_cases e : h = k <;> simp [e]

section
variable {P : Program} {N : Nat} {all : Array Oper}
def recOf (i : Nat) (o : Oper) (sl : List (Nat × AV)) (rs : List (Nat × Option Rs)) (v : AV) (del : List Nat) (new : List (Nat × Rs)) : Rec := ⟨i, o, false, viewS o.op sl, viewR o.op sl rs, ⟨v, del, new⟩⟩
def tOk (r : Rec) (rs : List (Nat × Option Rs)) : Bool := r.T.all fun h => (r.vr.map (·.1)).contains h || (findO rs h).isNone
def putS (sl : List (Nat × AV)) : Option Nat → AV → List (Nat × AV)
  | some d, v => (d, v) :: sl
  | none, _ => sl
def DOps (P : Program) (N : Nat) (all : Array Oper) : Nat → List Oper → List (Nat × AV) → List (Nat × Option Rs) → List Rec → (St → List Rec → Prop) → Prop
  | i, [], sl, rs, acc, K => K (mk sl rs) acc.reverse
  | i, o :: rest, sl, rs, acc, K => all[i]? = some o ∧ (∀ d, o.dst = some d → d < N) ∧ match o.guard with
    | none => ∃ v del new, Sound P o (mk (viewS o.op sl) (viewR o.op sl rs)) ⟨v, del, new⟩ ∧ tOk (recOf i o sl rs v del new) rs = true ∧ DOps P N all (i + 1) rest (putS sl o.dst v) (newL new ++ (goneL del ++ rs)) (recOf i o sl rs v del new :: acc) K
    | some (j, want) => ∃ d b, (all[j]?).bind (·.dst) = some d ∧ d < N ∧ findS sl d = .p none (.bool b) ∧
      (b = want → ∃ v del new, Sound P o (mk (viewS o.op sl) (viewR o.op sl rs)) ⟨v, del, new⟩ ∧ tOk (recOf i o sl rs v del new) rs = true ∧ DOps P N all (i + 1) rest (putS sl o.dst v) (newL new ++ (goneL del ++ rs)) (recOf i o sl rs v del new :: acc) K) ∧
      (b ≠ want → DOps P N all (i + 1) rest (putS sl o.dst .no) rs (⟨i, o, true, [], [], ⟨.no, [], []⟩⟩ :: acc) K)
theorem mk_applyO (sl : List (Nat × AV)) (rs : List (Nat × Option Rs)) (d : Option Nat) (v : AV) (del : List Nat) (new : List (Nat × Rs)) : (mk sl rs).apply d ⟨v, del, new⟩ = mk (putS sl d v) (newL new ++ (goneL del ++ rs)) := by
  cases d with
  | none => exact mk_apply0 sl rs v del new
  | some d => exact mk_apply sl rs d v del new
theorem mk_putO (sl : List (Nat × AV)) (rs : List (Nat × Option Rs)) (d : Option Nat) (v : AV) : (mk sl rs).put d v = mk (putS sl d v) rs := by
  cases d with
  | none => rfl
  | some d => exact mk_put sl rs d v
theorem dops_runs {K : St → List Rec → Prop} : ∀ (l : List Oper) (i : Nat) (sl : List (Nat × AV)) (rs : List (Nat × Option Rs)) (acc : List Rec), DOps P N all i l sl rs acc K →
    ∃ recs S', Runs P N all recs (mk sl rs) (fun S => S = S') ∧ K S' (acc.reverse ++ recs) ∧ recs.map (·.i) = List.range' i l.length
  | [], i, sl, rs, acc, h => ⟨[], mk sl rs, rfl, by simpa [DOps] using h, by simp⟩
  | o :: rest, i, sl, rs, acc, h => by
    unfold DOps at h
    obtain ⟨hi, hd, h⟩ := h
    have exec : (match o.guard with | none => True | some (j, want) => ∃ d, (all[j]?).bind (·.dst) = some d ∧ d < N ∧ findS sl d = .p none (.bool want)) → (∃ v del new, Sound P o (mk (viewS o.op sl) (viewR o.op sl rs)) ⟨v, del, new⟩ ∧ tOk (recOf i o sl rs v del new) rs = true ∧ DOps P N all (i + 1) rest (putS sl o.dst v) (newL new ++ (goneL del ++ rs)) (recOf i o sl rs v del new :: acc) K) →
        ∃ recs S', Runs P N all recs (mk sl rs) (fun S => S = S') ∧ K S' (acc.reverse ++ recs) ∧ recs.map (·.i) = List.range' i (o :: rest).length := by
      rintro hg ⟨v, del, new, hs, ht, hrest⟩
      obtain ⟨recs, S', h1, h2, h3⟩ := dops_runs rest (i + 1) _ _ _ hrest
      refine ⟨recOf i o sl rs v del new :: recs, S', ⟨⟨hi, hd, ?_, fun _ => ⟨hs, fun t ht => ?_, fun k hk => ?_⟩⟩, ?_⟩, by simpa using h2, by simp [h3, recOf, List.range'_succ]⟩
      · cases hgd : o.guard with
        | none => simp [recOf, hgd]
        | some q =>
          obtain ⟨j, want⟩ := q
          rw [hgd] at hg
          obtain ⟨d, q1, q2, q3⟩ := hg
          simp only [recOf, hgd]
          exact ⟨d, want, q1, q2, q3, by simp⟩
      · exact (findS_viewL sl _ t ht).symm
      · have := List.all_eq_true.1 ht k hk
        simp only [Bool.or_eq_true, List.contains_eq_mem, decide_eq_true_eq] at this
        simp only [recOf, viewR, List.map_map] at this ⊢
        rw [findO_map]
        split
        · rfl
        · rename_i hn
          rcases this with q | q
          · exact absurd (by simpa [Function.comp_def] using q) hn
          · show findO rs k = none
            simpa using q
      · unfold Rec.next
        simp only [recOf, Bool.false_eq_true, if_false]
        rw [mk_applyO]
        exact h1
    split at h
    · rename_i hg
      exact exec (by rw [hg]; trivial) h
    · rename_i j want hg
      obtain ⟨d, b, q1, q2, q3, q4, q5⟩ := h
      by_cases hb : b = want
      · exact exec (by rw [hg]; exact ⟨d, q1, q2, by rw [q3, hb]⟩) (q4 hb)
      · obtain ⟨recs, S', h1, h2, h3⟩ := dops_runs rest (i + 1) _ _ _ (q5 hb)
        refine ⟨⟨i, o, true, [], [], ⟨.no, [], []⟩⟩ :: recs, S', ⟨⟨hi, hd, ?_, fun e => by cases e⟩, ?_⟩, by simpa using h2, by simp [h3, List.range'_succ]⟩
        · simp only [hg]
          exact ⟨d, b, q1, q2, q3, by cases b <;> cases want <;> simp_all⟩
        · unfold Rec.next
          simp only [if_true]
          rw [mk_putO]
          exact h1
theorem Gam.drew {A : Nat → Prop} {w0 : World} {S : St} {a : Act} {w : World} (h : Gam A w0 N S a w) : Gam A w0 N S a { w with drawn := w.drawn + 1 } := by
  obtain ⟨K, φ, hG⟩ := h
  have hs : ∀ (B : Nat → Prop), SameOn B w { w with drawn := w.drawn + 1 } := fun _ _ _ => rfl
  refine ⟨K, φ, fun h r hr => ?_, hG.non, hG.disj, hG.nodup, hG.ge, hG.kin, hG.kout, hG.aK, fun t => MatchV.mono (hs _) (fun _ h => h) _ _ (fun h pl _ e => ⟨e, hs _⟩) (hG.slots t), ⟨hG.bel.os, hG.bel.tape, hG.bel.output, hG.bel.size, hG.bel.block⟩, hG.nd, hG.size⟩
  obtain ⟨pl, hp, hh⟩ := hG.dom h r hr
  exact ⟨pl, hp, Holds.mono (hs _) (fun _ h => h) (fun _ _ => rfl) r (fun h pl _ e => ⟨e, hs _⟩) hh⟩
/-- The look at the end of a drawn region's run. -/
def endOk (all : Array Oper) (sl : List (Nat × AV)) (rs : List (Nat × Option Rs)) (recs : List Rec) : Bool := looksB all recs && recs.all fun r => r.Nw.all fun k => freshB sl rs k
theorem VC_drawn {id : Nat} {l : List Oper} {sl : List (Nat × AV)} {rs : List (Nat × Option Rs)} {Q : Exit → St → Prop} (hm : P.follows .mixedOrders = true) (h : DOps P N l.toArray 0 l sl rs [] (fun S recs => endOk l.toArray sl rs recs = true ∧ Q .normal S)) : VC P N (.region id l.toArray true) (mk sl rs) Q := by
  intro A w0 a w hG
  obtain ⟨recs, S', h1, ⟨h2, h3⟩, h4⟩ := dops_runs l 0 sl rs [] h
  simp only [List.reverse_nil, List.nil_append] at h2
  unfold endOk at h2
  rw [Bool.and_eq_true, List.all_eq_true] at h2
  have hmem : ∀ i, (∃ r ∈ recs, r.i = i) ↔ i < l.length := fun i => by
    have : (∃ r ∈ recs, r.i = i) ↔ i ∈ recs.map (·.i) := by simp
    rw [this, h4]
    simp [List.mem_range']
  have hsz : l.toArray.size = l.length := by simp
  refine wp_region_any hm (any_sound (Kn := fun S => S = S') (fun S a w hS hG => ⟨S, hG, by rw [hS]; exact h3⟩) _ recs _ (mk sl rs) a _ (by rw [hsz, ← List.length_map (f := fun r : Rec => r.i), h4]; simp) h1 h2.1 (fun i hi => ?_) (fun i hi => ?_) (fun r hr => ?_) (fun r hr k hk => fresh_of (List.all_eq_true.1 (h2.2 r hr) k hk)) hG.drew)
  · rw [hmem]
    rw [hsz] at hi
    simp [hi]
  · rw [hsz] at hi
    simp [hi]
  · rw [hsz]; exact (hmem r.i).1 ⟨r, hr, rfl⟩

section
variable {rest : List Oper} {sl : List (Nat × AV)} {rs : List (Nat × Option Rs)} {K : St → List Rec → Prop} {ty : TypeId} {pos : String} {aft : Array Edge} {d i : Nat} {acc : List Rec} {o : Op}
theorem dgo {dst : Option Nat} {v : AV} {del : List Nat} {new : List (Nat × Rs)} (hs : Sound P ⟨dst, o, ty, pos, aft, none⟩ (mk (viewS o sl) (viewR o sl rs)) ⟨v, del, new⟩) (hi : all[i]? = some ⟨dst, o, ty, pos, aft, none⟩) (hd : ∀ d, dst = some d → d < N) (ht : tOk (recOf i ⟨dst, o, ty, pos, aft, none⟩ sl rs v del new) rs = true)
    (h : DOps P N all (i + 1) rest (putS sl dst v) (newL new ++ (goneL del ++ rs)) (recOf i ⟨dst, o, ty, pos, aft, none⟩ sl rs v del new :: acc) K) : DOps P N all i (⟨dst, o, ty, pos, aft, none⟩ :: rest) sl rs acc K := by
  unfold DOps
  exact ⟨hi, hd, v, del, new, hs, ht, h⟩
theorem dgoY {dst : Option Nat} {v : AV} {del : List Nat} {new : List (Nat × Rs)} {j dj : Nat} {want b : Bool} (hj : (all[j]?).bind (·.dst) = some dj) (hN : dj < N) (hb : findS sl dj = .p none (.bool b)) (hbw : b = want) (hs : Sound P ⟨dst, o, ty, pos, aft, some (j, want)⟩ (mk (viewS o sl) (viewR o sl rs)) ⟨v, del, new⟩) (hi : all[i]? = some ⟨dst, o, ty, pos, aft, some (j, want)⟩) (hd : ∀ d, dst = some d → d < N) (ht : tOk (recOf i ⟨dst, o, ty, pos, aft, some (j, want)⟩ sl rs v del new) rs = true)
    (h : DOps P N all (i + 1) rest (putS sl dst v) (newL new ++ (goneL del ++ rs)) (recOf i ⟨dst, o, ty, pos, aft, some (j, want)⟩ sl rs v del new :: acc) K) : DOps P N all i (⟨dst, o, ty, pos, aft, some (j, want)⟩ :: rest) sl rs acc K := by
  unfold DOps
  exact ⟨hi, hd, dj, b, hj, hN, hb, fun _ => ⟨v, del, new, hs, ht, h⟩, fun hn => absurd hbw hn⟩
theorem dgoX {dst : Option Nat} {j dj : Nat} {want b : Bool} (hj : (all[j]?).bind (·.dst) = some dj) (hN : dj < N) (hb : findS sl dj = .p none (.bool b)) (hbw : b = !want) (hi : all[i]? = some ⟨dst, o, ty, pos, aft, some (j, want)⟩) (hd : ∀ d, dst = some d → d < N)
    (h : DOps P N all (i + 1) rest (putS sl dst .no) rs (⟨i, ⟨dst, o, ty, pos, aft, some (j, want)⟩, true, [], [], ⟨.no, [], []⟩⟩ :: acc) K) : DOps P N all i (⟨dst, o, ty, pos, aft, some (j, want)⟩ :: rest) sl rs acc K := by
  unfold DOps
  refine ⟨hi, hd, dj, b, hj, hN, hb, fun e => ?_, fun _ => h⟩
  subst e; cases b <;> cases hbw
theorem dstOk (h : d < N) : ∀ d', some d = some d' → d' < N := fun d' e => by injection e with e; subst e; exact h
theorem dstNo : ∀ d', (none : Option Nat) = some d' → d' < N := fun d' e => by cases e
theorem dnil (h : K (mk sl rs) acc.reverse) : DOps P N all i [] sl rs acc K := h
end
end
end Go.Proofs.Ytcgjlddpbkponaa
