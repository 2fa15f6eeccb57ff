/-
  Regions that draw their order: one run in the text's order, and the look that any two operations that may change places are apart.
-/
import Derived.Test.YtcgjlddpbkponaaEn
namespace Go.Proofs.Ytcgjlddpbkponaa
open Go.ChangeShapes Go.WideShapes Go.ChangeAt Go.RowKit
set_option linter.unusedVariables false
set_option linter.unusedSimpArgs false

/-- One operation of a run: what it looks at, and what it does. -/
structure Rec where
  i : Nat
  o : Oper
  skip : Bool
  vs : List (Nat × AV)
  vr : List (Nat × Option Rs)
  e : Eff
/-- Handles that it takes or writes. -/
def Rec.W (r : Rec) : List Nat := if r.skip then [] else r.e.del ++ r.e.new.map (·.1)
/-- Handles that are new. -/
def Rec.Nw (r : Rec) : List Nat := if r.skip then [] else (r.e.new.map (·.1)).filter fun h => !r.e.del.contains h
def Rec.M (r : Rec) : List Nat := if r.skip then [] else ments r.e.v ++ (r.e.new.map fun q => mentsR q.2).flatten
/-- Handles that it looks at or names. -/
def Rec.T (r : Rec) : List Nat := if r.skip then [] else r.vr.map (·.1) ++ (r.vs.map fun q => ments q.2).flatten ++ (r.vr.map fun q => match q.2 with | some r => mentsR r | none => []).flatten ++ r.M
def Rec.gs (ops : Array Oper) (r : Rec) : List Nat := match r.o.guard with | some (j, _) => ((ops[j]?).bind (·.dst)).toList | none => []
def Rec.looks (ops : Array Oper) (r : Rec) : List Nat := r.vs.map (·.1) ++ r.gs ops
def Rec.next (r : Rec) (S : St) : St := if r.skip then S.put r.o.dst .no else S.apply r.o.dst r.e
def disjB (a b : List Nat) : Bool := a.all fun h => !b.contains h
theorem disjB_spec {a b : List Nat} (h : disjB a b = true) : ∀ x ∈ a, x ∉ b := by
  unfold disjB at h
  simp only [List.all_eq_true, Bool.not_eq_true', List.contains_eq_mem, decide_eq_false_iff_not] at h
  exact h
/-- x and y may change places. -/
def apartB (ops : Array Oper) (x y : Rec) : Bool :=
  disjB x.o.dst.toList (y.looks ops ++ y.o.dst.toList) && disjB y.o.dst.toList (x.looks ops) && disjB x.W (y.T ++ y.W) && disjB y.W x.T
/-- What x makes is not named by y. -/
def farB (x y : Rec) : Bool := disjB x.Nw (y.M ++ y.W)
def afterB (x y : Rec) : Bool := y.o.after.any fun e => e.on == x.i && Region.binds .any e
/-- The whole look: y comes behind x in the text. -/
def pairB (ops : Array Oper) (x y : Rec) : Bool := (afterB x y || (apartB ops x y && farB x y)) && farB y x
def looksB (ops : Array Oper) : List Rec → Bool
  | [] => true
  | x :: l => l.all (fun y => decide (x.i < y.i) && pairB ops x y) && x.o.after.all (fun e => !Region.binds .any e || decide (e.on < x.i)) && (x.skip || x.e.new.all fun q => !x.e.del.contains q.1 || (findO x.vr q.1).isSome) && looksB ops l

section
variable {P : Program} {N : Nat} {ops : Array Oper}
def Ok (P : Program) (N : Nat) (ops : Array Oper) (r : Rec) (S : St) : Prop :=
  ops[r.i]? = some r.o ∧ (∀ d, r.o.dst = some d → d < N) ∧
  (match r.o.guard with
    | none => r.skip = false
    | some (j, want) => ∃ d b, (ops[j]?).bind (·.dst) = some d ∧ d < N ∧ S.slots d = .p none (.bool b) ∧ r.skip = (b != want)) ∧
  (r.skip = false → Sound P r.o (mk r.vs r.vr) r.e ∧ (∀ t ∈ r.vs.map (·.1), S.slots t = findS r.vs t) ∧ ∀ h ∈ r.T, S.res h = findO r.vr h)
def Runs (P : Program) (N : Nat) (ops : Array Oper) : List Rec → St → (St → Prop) → Prop
  | [], S, K => K S
  | r :: l, S, K => Ok P N ops r S ∧ Runs P N ops l (r.next S) K
theorem next_slot {r : Rec} {S : St} {t : Nat} (h : r.o.dst ≠ some t) : (r.next S).slots t = S.slots t := by
  unfold Rec.next
  have put : ∀ (S : St) v, (S.put r.o.dst v).slots t = S.slots t := fun S v => by
    cases hd : r.o.dst with
    | none => rfl
    | some d => simp only [St.put, upd]; rw [if_neg (fun e => h (by rw [hd, e]))]
  split
  · exact put S _
  · unfold St.apply; exact put _ _
theorem next_res {r : Rec} {S : St} {h : Nat} (hw : h ∉ r.W) : (r.next S).res h = S.res h := by
  unfold Rec.next
  have put : ∀ (S : St) v, (S.put r.o.dst v).res = S.res := fun S v => by cases r.o.dst <;> rfl
  split
  · rw [put]
  · rename_i hs
    unfold Rec.W at hw
    rw [if_neg hs] at hw
    simp only [List.mem_append, not_or] at hw
    unfold St.apply
    rw [put]
    simp only [stepRes]
    have : findH r.e.new h = none := by
      cases hf : findH r.e.new h with
      | none => rfl
      | some x => exact absurd (List.mem_map.2 ⟨_, mem_of_findH hf, rfl⟩) hw.2
    rw [this]
    simp [hw.1]
theorem Ok.swap {x y : Rec} {S : St} (h : Ok P N ops y (x.next S)) (hd : ∀ t ∈ x.o.dst.toList, t ∉ y.looks ops) (hw : ∀ k ∈ x.W, k ∉ y.T) : Ok P N ops y S := by
  have hsl : ∀ t ∈ y.looks ops, (x.next S).slots t = S.slots t := fun t ht => next_slot (fun e => hd t (by simp [e]) ht)
  obtain ⟨h1, h2, h3, h4⟩ := h
  refine ⟨h1, h2, ?_, fun hs => ?_⟩
  · split at h3
    · exact h3
    · rename_i j want hg
      obtain ⟨d, b, q1, q2, q3, q4⟩ := h3
      exact ⟨d, b, q1, q2, by rw [← q3]; exact (hsl d (by simp [Rec.looks, Rec.gs, hg, q1])).symm, q4⟩
  · obtain ⟨q1, q2, q3⟩ := h4 hs
    exact ⟨q1, fun t ht => by rw [← q2 t ht]; exact (hsl t (by simp only [Rec.looks, List.mem_append]; exact .inl ht)).symm, fun k hk => by rw [← q3 k hk]; exact (next_res (fun e => hw k e hk)).symm⟩
theorem Ok.swap' {x y : Rec} {S : St} (h : Ok P N ops x S) (hd : ∀ t ∈ y.o.dst.toList, t ∉ x.looks ops) (hw : ∀ k ∈ y.W, k ∉ x.T) : Ok P N ops x (y.next S) := by
  have hsl : ∀ t ∈ x.looks ops, (y.next S).slots t = S.slots t := fun t ht => next_slot (fun e => hd t (by simp [e]) ht)
  obtain ⟨h1, h2, h3, h4⟩ := h
  refine ⟨h1, h2, ?_, fun hs => ?_⟩
  · split at h3
    · exact h3
    · rename_i j want hg
      obtain ⟨d, b, q1, q2, q3, q4⟩ := h3
      exact ⟨d, b, q1, q2, by rw [← q3]; exact hsl d (by simp [Rec.looks, Rec.gs, hg, q1]), q4⟩
  · obtain ⟨q1, q2, q3⟩ := h4 hs
    exact ⟨q1, fun t ht => by rw [← q2 t ht]; exact hsl t (by simp only [Rec.looks, List.mem_append]; exact .inl ht), fun k hk => by rw [← q3 k hk]; exact next_res (fun e => hw k e hk)⟩
def Rec.v (r : Rec) : AV := if r.skip then .no else r.e.v
theorem next_slots (r : Rec) (S : St) : (r.next S).slots = match r.o.dst with | some d => upd S.slots d r.v | none => S.slots := by
  unfold Rec.next Rec.v
  split <;> cases r.o.dst <;> rfl
theorem next_resf (r : Rec) (S : St) : (r.next S).res = if r.skip then S.res else stepRes (· ∈ r.e.del) (findH r.e.new) S.res := by
  unfold Rec.next
  split <;> (try unfold St.apply) <;> cases r.o.dst <;> rfl
theorem St.ext' {S S' : St} (h1 : S.slots = S'.slots) (h2 : S.res = S'.res) : S = S' := by cases S; cases S'; simp_all
theorem next_comm {x y : Rec} {S : St} (hd : ∀ t ∈ x.o.dst.toList, t ∉ y.o.dst.toList) (hw : ∀ k ∈ x.W, k ∉ y.W) : y.next (x.next S) = x.next (y.next S) := by
  apply St.ext'
  · rw [next_slots, next_slots, next_slots, next_slots]
    cases hx : x.o.dst with
    | none => cases hy : y.o.dst <;> rfl
    | some dx =>
      cases hy : y.o.dst with
      | none => rfl
      | some dy =>
        have hne : dx ≠ dy := fun e => hd dx (by simp [hx]) (by simp [hy, e])
        funext t
        simp only [upd]
        by_cases h1 : t = dx
        · subst h1; simp [hne]
        · by_cases h2 : t = dy
          · subst h2; simp [h1]
          · simp [h1, h2]
  · funext h
    by_cases h1 : h ∈ x.W
    · have h2 := hw h h1
      rw [next_res h2]
      by_cases h3 : x.skip = true
      · unfold Rec.W at h1; simp [h3] at h1
      · rw [next_resf x, next_resf x, if_neg h3, if_neg h3]
        simp only [stepRes]
        rw [next_res h2]
    · rw [next_res (r := x) h1]
      by_cases h2 : h ∈ y.W
      · by_cases h3 : y.skip = true
        · unfold Rec.W at h2; simp [h3] at h2
        · rw [next_resf y, next_resf y, if_neg h3, if_neg h3]
          simp only [stepRes]
          rw [next_res h1]
      · rw [next_res h2, next_res h2, next_res h1]
theorem Runs.bubble {y : Rec} {l2 : List Rec} {K : St → Prop} : ∀ {l1 : List Rec} {S : St}, Runs P N ops (l1 ++ y :: l2) S K → (∀ x ∈ l1, apartB ops x y = true) → Ok P N ops y S ∧ Runs P N ops (l1 ++ l2) (y.next S) K
  | [], S, h, _ => h
  | x :: l1, S, h, ha => by
    obtain ⟨h1, h2⟩ := h
    obtain ⟨h3, h4⟩ := Runs.bubble h2 (fun z hz => ha z (by simp [hz]))
    have := ha x (by simp)
    simp only [apartB, Bool.and_eq_true] at this
    obtain ⟨⟨⟨q1, q2⟩, q3⟩, q4⟩ := this
    have q1 := disjB_spec q1
    have q2 := disjB_spec q2
    have q3 := disjB_spec q3
    have q4 := disjB_spec q4
    refine ⟨h3.swap (fun t ht hm => q1 t ht (List.mem_append_left _ hm)) (fun k hk hm => q3 k hk (List.mem_append_left _ hm)), h1.swap' q2 q4, ?_⟩
    rw [← next_comm (fun t ht hm => q1 t ht (List.mem_append_right _ hm)) (fun k hk hm => q3 k hk (List.mem_append_right _ hm))]
    exact h4
theorem Runs.bubble' {y : Rec} {l2 : List Rec} {K : St → Prop} : ∀ {l1 : List Rec} {S : St}, Runs P N ops (l1 ++ y :: l2) S K → ops[y.i]? = some y.o ∧ True
  | [], S, h => ⟨h.1.1, trivial⟩
  | x :: l1, S, h => Runs.bubble' h.2
theorem findS_key {l : List (Nat × AV)} {t : Nat} (h : findS l t ≠ .no) : t ∈ l.map (·.1) := by
  induction l with
  | nil => simp [findS] at h
  | cons q l ih =>
    obtain ⟨k, v⟩ := q
    simp only [findS] at h
    split at h
    · simp_all
    · simp [ih h]
theorem findS_ments {l : List (Nat × AV)} {t h : Nat} (hm : h ∈ ments (findS l t)) : h ∈ (l.map fun q => ments q.2).flatten := by
  induction l with
  | nil => simp [findS, ments] at hm
  | cons q l ih =>
    obtain ⟨k, v⟩ := q
    simp only [findS] at hm
    simp only [List.map_cons, List.flatten_cons, List.mem_append]
    split at hm
    · exact .inl hm
    · exact .inr (ih hm)
theorem findO_key {l : List (Nat × Option Rs)} {h : Nat} {r : Rs} (e : findO l h = some r) : h ∈ l.map (·.1) ∧ ∀ k ∈ mentsR r, k ∈ (l.map fun q => match q.2 with | some r => mentsR r | none => []).flatten := by
  induction l with
  | nil => simp [findO] at e
  | cons q l ih =>
    obtain ⟨k, v⟩ := q
    simp only [findO] at e
    split at e
    · subst e
      rename_i hk
      subst hk
      exact ⟨by simp, fun k hk => by simp [hk]⟩
    · obtain ⟨q1, q2⟩ := ih e
      exact ⟨by simp at q1 ⊢; exact .inr q1, fun k hk => by simp only [List.map_cons, List.flatten_cons, List.mem_append]; exact .inr (q2 k hk)⟩
theorem Ok.sound {r : Rec} {S : St} (h : Ok P N ops r S) (hs : r.skip = false) (hf : ∀ k ∈ r.Nw, Fresh S k) (hn : (r.e.new.all fun q => !r.e.del.contains q.1 || (findO r.vr q.1).isSome) = true) : Sound P r.o S r.e := by
  obtain ⟨_, _, _, h4⟩ := h
  obtain ⟨q1, q2, q3⟩ := h4 hs
  have hT : ∀ k, k ∈ r.vr.map (·.1) ∨ k ∈ (r.vs.map fun q => ments q.2).flatten ∨ k ∈ (r.vr.map fun q => match q.2 with | some r => mentsR r | none => []).flatten ∨ k ∈ r.M → S.res k = findO r.vr k := fun k hk => q3 k (by
    unfold Rec.T
    rw [hs]
    simp only [Bool.false_eq_true, if_false, List.mem_append]
    rcases hk with hk | hk | hk | hk <;> simp [hk])
  have hM : ∀ k, k ∈ ments r.e.v ∨ k ∈ (r.e.new.map fun q => mentsR q.2).flatten → k ∈ r.M := fun k hk => by
    unfold Rec.M
    rw [hs]
    simp only [Bool.false_eq_true, if_false, List.mem_append]
    exact hk
  refine q1.lift (fun t => ?_) (fun k x hx => ?_) (fun t k hk => ?_) (fun k0 x k hx hk => ?_) (fun k hk _ => hT k (.inr (.inr (.inr (hM k (.inl hk)))))) (fun k x h' hx hk _ => ?_) (fun k x hx => ?_)
  · by_cases e : findS r.vs t = .no
    · exact .inl e
    · exact .inr (q2 t (findS_key e))
  · rw [hT k (.inl (findO_key hx).1)]; exact hx
  · exact hT k (.inr (.inl (findS_ments hk)))
  · exact hT k (.inr (.inr (.inl ((findO_key hx).2 k hk))))
  · exact hT h' (.inr (.inr (.inr (hM h' (.inr (List.mem_flatten.2 ⟨_, List.mem_map.2 ⟨_, mem_of_findH hx, rfl⟩, hk⟩))))))
  · by_cases e : k ∈ r.e.del
    · refine .inl ⟨?_, e⟩
      have := List.all_eq_true.1 hn _ (mem_of_findH hx)
      simp only [List.contains_eq_mem, e, decide_true, Bool.not_true, Bool.false_or] at this
      exact Option.isSome_iff_exists.1 this
    · exact .inr (hf k (by
        unfold Rec.Nw
        rw [hs]
        simp only [Bool.false_eq_true, if_false, List.mem_filter, List.contains_eq_mem, e, decide_false, Bool.not_false, and_true]
        exact List.mem_map.2 ⟨_, mem_of_findH hx, rfl⟩))
theorem Fresh.next {r : Rec} {S : St} {k : Nat} (hf : Fresh S k) (h : k ∉ r.M ++ r.W) : Fresh (r.next S) k := by
  simp only [List.mem_append, not_or] at h
  refine ⟨fun t ht => ?_, fun h' x hx hm => ?_, by rw [next_res h.2]; exact hf.2.2⟩
  · rw [next_slots] at ht
    have hv : k ∉ ments r.v := fun hm => by
      unfold Rec.v at hm
      split at hm
      · simp [ments] at hm
      · rename_i hs
        exact h.1 (by unfold Rec.M; rw [if_neg hs]; exact List.mem_append_left _ hm)
    cases hd : r.o.dst with
    | none => rw [hd] at ht; exact hf.1 t ht
    | some d =>
      rw [hd] at ht
      simp only [upd] at ht
      by_cases e : t = d
      · rw [if_pos e] at ht; exact hv ht
      · rw [if_neg e] at ht; exact hf.1 t ht
  · rw [next_resf] at hx
    split at hx
    · exact hf.2.1 h' x hx hm
    · rename_i hs
      simp only [stepRes] at hx
      split at hx
      · rename_i y hy
        injection hx with hx
        subst hx
        exact h.1 (by unfold Rec.M; rw [if_neg hs]; exact List.mem_append_right _ (List.mem_flatten.2 ⟨_, List.mem_map.2 ⟨_, mem_of_findH hy, rfl⟩, hm⟩))
      · split at hx
        · cases hx
        · exact hf.2.1 h' x hx hm
theorem looksB_split {ops : Array Oper} {y : Rec} {l2 : List Rec} : ∀ {l1 : List Rec}, looksB ops (l1 ++ y :: l2) = true → looksB ops (l1 ++ l2) = true ∧ (∀ x ∈ l1, x.i < y.i ∧ pairB ops x y = true) ∧ (∀ z ∈ l2, y.i < z.i ∧ pairB ops y z = true) ∧ (y.skip || y.e.new.all fun q => !y.e.del.contains q.1 || (findO y.vr q.1).isSome) = true
  | [], h => by
    simp only [List.nil_append, looksB, Bool.and_eq_true, List.all_eq_true, decide_eq_true_eq] at h
    obtain ⟨⟨⟨h1, h2⟩, h3⟩, h4⟩ := h
    exact ⟨h4, by simp, h1, h3⟩
  | x :: l1, h => by
    simp only [List.cons_append, looksB, Bool.and_eq_true] at h
    obtain ⟨⟨⟨h1, h2⟩, h3⟩, h4⟩ := h
    obtain ⟨q1, q2, q3, q4⟩ := looksB_split h4
    rw [List.all_eq_true] at h1
    have hy := h1 y (by simp)
    simp only [Bool.and_eq_true, decide_eq_true_eq] at hy
    refine ⟨?_, fun z hz => ?_, q3, q4⟩
    · simp only [List.cons_append, looksB, Bool.and_eq_true]
      refine ⟨⟨⟨List.all_eq_true.2 fun z hz => h1 z ?_, h2⟩, h3⟩, q1⟩
      simp only [List.mem_append, List.mem_cons] at hz ⊢
      rcases hz with hz | hz <;> simp [hz]
    · rcases List.mem_cons.1 hz with rfl | hz
      · exact hy
      · exact q2 z hz
/-- Whatever the order. -/
theorem any_sound {Qw : Exit → Act → World → Prop} {A : Nat → Prop} {w0 : World} {Kn : St → Prop} (hQ : ∀ S a w, Kn S → Gam A w0 N S a w → Qw .normal a w) : ∀ (fuel : Nat) (l : List Rec) (listed : Array Bool) (S : St) (a : Act) (w : World), l.length ≤ fuel → Runs P N ops l S Kn → looksB ops l = true →
    (∀ i, i < ops.size → (listed.getD i true = false ↔ ∃ r ∈ l, r.i = i)) → (∀ i, i < ops.size → listed.getD i false = listed.getD i true) → (∀ r ∈ l, r.i < ops.size) → (∀ r ∈ l, ∀ k ∈ r.Nw, Fresh S k) → Gam A w0 N S a w → wpAny P .any ops Qw fuel listed a w := by
  intro fuel
  induction fuel with
  | zero =>
    intro l listed S a w hl hr hlk hli hli2 hsz hf hG
    have : l = [] := List.eq_nil_of_length_eq_zero (by omega)
    subst this
    refine ⟨?_, hQ S a w hr hG⟩
    unfold Region.ready
    rw [List.filter_eq_nil_iff]
    intro i hi hc
    simp only [Bool.and_eq_true, Bool.not_eq_true'] at hc
    obtain ⟨r, hr, _⟩ := (hli i (List.mem_range.1 hi)).1 hc.1
    simp at hr
  | succ fuel ih =>
    intro l listed S a w hl hr hlk hli hli2 hsz hf hG
    refine ⟨fun hnil => ?_, fun i hi => ?_⟩
    · rcases l with _ | ⟨r, l⟩
      · exact hQ S a w hr hG
      · exfalso
        have hrd : r.i ∈ Region.ready .any ops listed := by
          rw [mem_ready]
          have hsr := hsz r (by simp)
          refine ⟨(hli r.i hsr).2 ⟨r, by simp, rfl⟩, r.o, hr.1.1, fun e he hb => ?_⟩
          simp only [looksB, Bool.and_eq_true, List.all_eq_true, decide_eq_true_eq] at hlk
          obtain ⟨⟨⟨h1, h2⟩, _⟩, _⟩ := hlk
          have h2' := Array.all_eq_true_iff_forall_mem.1 h2 e he
          simp only [hb, Bool.not_true, Bool.false_or, decide_eq_true_eq] at h2'
          rw [hli2 e.on (by omega)]
          cases hx : listed.getD e.on true with
          | true => rfl
          | false =>
            obtain ⟨z, hz, hzi⟩ := (hli e.on (by omega)).1 hx
            rcases List.mem_cons.1 hz with rfl | hz
            · omega
            · have := (h1 z hz).1; omega
        rw [hnil] at hrd
        simp at hrd
    · rw [mem_ready] at hi
      obtain ⟨hi1, o, ho, hdep⟩ := hi
      have hsi : i < ops.size := (Array.getElem?_eq_some_iff.1 ho).1
      obtain ⟨y, hy, rfl⟩ := (hli i hsi).1 hi1
      obtain ⟨l1, l2, rfl⟩ := List.append_of_mem hy
      obtain ⟨k1, k2, k3, k4⟩ := looksB_split hlk
      have hna : ∀ x ∈ l1, afterB x y = false := fun x hx => by
        cases hc : afterB x y with
        | false => rfl
        | true =>
          exfalso
          unfold afterB at hc
          rw [Array.any_eq_true] at hc
          obtain ⟨j, hj, hc⟩ := hc
          simp only [Bool.and_eq_true, beq_iff_eq] at hc
          have hyo := (Runs.bubble' hr).1
          rw [hyo] at ho
          injection ho with ho
          subst ho
          have h1 := hdep _ (Array.getElem_mem hj) hc.2
          rw [hc.1] at h1
          have hxs := hsz x (by simp [hx])
          rw [hli2 x.i hxs] at h1
          have := (hli x.i hxs).2 ⟨x, by simp [hx], rfl⟩
          rw [h1] at this; cases this
      have hap : ∀ x ∈ l1, apartB ops x y = true := fun x hx => by
        have := (k2 x hx).2
        simp only [pairB, hna x hx, Bool.false_or, Bool.and_eq_true] at this
        exact this.1.1
      obtain ⟨hok, hrest⟩ := Runs.bubble hr hap
      have hfr : ∀ x ∈ l1 ++ l2, ∀ k ∈ x.Nw, Fresh (y.next S) k := fun x hx k hk => by
        have hfx := hf x (by simp only [List.mem_append, List.mem_cons] at hx ⊢; rcases hx with hx | hx <;> simp [hx]) k hk
        refine hfx.next ?_
        rcases List.mem_append.1 hx with hx | hx
        · have := (k2 x hx).2
          simp only [pairB, hna x hx, Bool.false_or, Bool.and_eq_true] at this
          exact disjB_spec this.1.2 k hk
        · have := (k3 x hx).2
          simp only [pairB, Bool.and_eq_true] at this
          exact disjB_spec this.2 k hk
      have hgo : ∀ (a' : Act) (w' : World), Gam A w0 N (y.next S) a' w' → wpAny P .any ops Qw fuel (listed.setIfInBounds y.i true) a' w' := fun a' w' hG' => by
        have hne : ∀ x ∈ l1 ++ l2, x.i ≠ y.i := fun x hx => by
          rcases List.mem_append.1 hx with hx | hx
          · have := (k2 x hx).1; omega
          · have := (k3 x hx).1; omega
        have hls : y.i < listed.size := by
          rcases Nat.lt_or_ge y.i listed.size with h | h
          · exact h
          · rw [Array.getD_eq_getD_getElem?, Array.getElem?_eq_none h] at hi1; simp at hi1
        refine ih (l1 ++ l2) _ _ a' w' (by simp at hl ⊢; omega) hrest k1 (fun i hi => ?_) (fun i hi => ?_) (fun r hr => hsz r (by simp only [List.mem_append, List.mem_cons] at hr ⊢; rcases hr with hr | hr <;> simp [hr])) hfr hG'
        · by_cases e : y.i = i
          · subst e
            rw [Array.getD_eq_getD_getElem?, Array.getElem?_setIfInBounds_self_of_lt hls]
            simp only [Option.getD_some, Bool.true_eq_false, false_iff, not_exists, not_and]
            exact fun x hx => hne x hx
          · rw [getD_set_ne true e, hli i hi]
            constructor
            · rintro ⟨r, hr, rfl⟩
              refine ⟨r, ?_, rfl⟩
              simp only [List.mem_append, List.mem_cons] at hr ⊢
              rcases hr with hr | hr | hr
              · exact .inl hr
              · subst hr; exact absurd rfl e
              · exact .inr hr
            · rintro ⟨r, hr, rfl⟩
              refine ⟨r, ?_, rfl⟩
              simp only [List.mem_append, List.mem_cons] at hr ⊢
              rcases hr with hr | hr <;> simp [hr]
        · by_cases e : y.i = i
          · subst e
            rw [Array.getD_eq_getD_getElem?, Array.getD_eq_getD_getElem?, Array.getElem?_setIfInBounds_self_of_lt hls]
            rfl
          · rw [getD_set_ne true e, getD_set_ne false e, hli2 i hi]
      obtain ⟨K, φ, hG⟩ := hG
      have hok' := hok
      obtain ⟨o1, o2, o3, o4⟩ := hok'
      unfold wpOp
      rw [o1]
      simp only
      have exec : y.skip = false → y.o.wp P a w (wpAny P .any ops Qw fuel (listed.setIfInBounds y.i true)) Qw := fun hs => by
        have hn : (y.e.new.all fun q => !y.e.del.contains q.1 || (findO y.vr q.1).isSome) = true := by simpa [hs] using k4
        have := hok.sound hs (hf y (by simp)) hn
        refine Oper.wp_mono (fun a' w' ⟨K', φ', v, _, hG', _⟩ => hgo a' w' ⟨K', φ', ?_⟩) (this K φ A w0 N a w Qw o2 hG)
        unfold Rec.next
        rw [hs]
        exact hG'
      split at o3
      · rename_i hg
        rw [if_pos (by simp [Region.wanted, hg])]
        exact .inl (exec o3)
      · rename_i j want hg
        obtain ⟨d, b, q1, q2, q3, q4⟩ := o3
        rw [wanted_of hG hg q1 q2 q3]
        by_cases hb : b = want
        · rw [if_pos (by simp [hb])]
          exact .inl (exec (by rw [q4]; simp [hb]))
        · rw [if_neg (by simp [hb])]
          refine hgo _ w ⟨K, φ, ?_⟩
          unfold Rec.next
          rw [if_pos (by rw [q4]; simp [hb])]
          exact hG.put o2 (by unfold MatchV; trivial)
end
end Go.Proofs.Ytcgjlddpbkponaa
