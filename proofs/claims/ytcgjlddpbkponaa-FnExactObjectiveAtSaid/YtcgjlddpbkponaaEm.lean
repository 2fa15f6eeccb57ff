/-
  States written out, and the operations over them, one lemma each.
-/
import Derived.Test.YtcgjlddpbkponaaEl
import Derived.IntWalk
import Derived.Laws.StructEq
namespace Go.Proofs.Ytcgjlddpbkponaa
open Go.ChangeShapes Go.WideShapes Go.ChangeAt Go.RowKit
set_option linter.unusedVariables false
set_option linter.unusedSimpArgs false

def findS : List (Nat × AV) → Nat → AV
  | [], _ => .no
  | (k, v) :: l, t => if t = k then v else findS l t
def findO : List (Nat × Option Rs) → Nat → Option Rs
  | [], _ => none
  | (k, r) :: l, h => if h = k then r else findO l h
def mk (sl : List (Nat × AV)) (rs : List (Nat × Option Rs)) : St := ⟨findS sl, findO rs⟩
theorem mk_put (sl : List (Nat × AV)) (rs : List (Nat × Option Rs)) (d : Nat) (v : AV) : (mk sl rs).put (some d) v = mk ((d, v) :: sl) rs := by
  simp only [St.put, mk]
  congr 1
def goneL (del : List Nat) : List (Nat × Option Rs) := del.map fun h => (h, none)
def newL (new : List (Nat × Rs)) : List (Nat × Option Rs) := new.map fun q => (q.1, some q.2)
theorem findO_gone (del : List Nat) (rs : List (Nat × Option Rs)) (h : Nat) : findO (goneL del ++ rs) h = if h ∈ del then none else findO rs h := by
  induction del with
  | nil => simp [goneL]
  | cons k del ih =>
    simp only [goneL, List.map_cons, List.cons_append, findO] at *
    rw [ih]
    by_cases e : h = k <;> simp [e]
theorem findO_new (new : List (Nat × Rs)) (rs : List (Nat × Option Rs)) (h : Nat) : findO (newL new ++ rs) h = match findH new h with | some r => some r | none => findO rs h := by
  induction new with
  | nil => simp [newL, findH]
  | cons q new ih =>
    obtain ⟨k, r⟩ := q
    simp only [newL, List.map_cons, List.cons_append, findO, findH] at *
    rw [ih]
    by_cases e : h = k <;> simp [e]
theorem mk_apply (sl : List (Nat × AV)) (rs : List (Nat × Option Rs)) (d : Nat) (v : AV) (del : List Nat) (new : List (Nat × Rs)) : (mk sl rs).apply (some d) ⟨v, del, new⟩ = mk ((d, v) :: sl) (newL new ++ (goneL del ++ rs)) := by
  unfold St.apply
  rw [← mk_put]
  congr 1
  simp only [mk]
  congr 1
  funext h
  rw [findO_new, findO_gone]
  simp only [stepRes]
  cases findH new h <;> rfl
theorem mk_apply0 (sl : List (Nat × AV)) (rs : List (Nat × Option Rs)) (v : AV) (del : List Nat) (new : List (Nat × Rs)) : (mk sl rs).apply none ⟨v, del, new⟩ = mk sl (newL new ++ (goneL del ++ rs)) := by
  unfold St.apply
  simp only [St.put, mk]
  congr 1
  funext h
  rw [findO_new, findO_gone]
  simp only [stepRes]
  cases findH new h <;> rfl
/-- h is named nowhere, by a look. -/
def freshB (sl : List (Nat × AV)) (rs : List (Nat × Option Rs)) (h : Nat) : Bool :=
  sl.all (fun q => !(ments q.2).contains h) && rs.all (fun q => q.1 != h && match q.2 with | some r => !(mentsR r).contains h | none => true)
theorem fresh_of {sl : List (Nat × AV)} {rs : List (Nat × Option Rs)} {h : Nat} (hb : freshB sl rs h = true) : Fresh (mk sl rs) h := by
  unfold freshB at hb
  rw [Bool.and_eq_true, List.all_eq_true, List.all_eq_true] at hb
  obtain ⟨h1, h2⟩ := hb
  refine ⟨fun t ht => ?_, fun h' r hr hm => ?_, ?_⟩
  · simp only [mk] at ht
    have : ∀ (l : List (Nat × AV)), (∀ x ∈ l, (!(ments x.2).contains h) = true) → h ∉ ments (findS l t) := by
      intro l
      induction l with
      | nil => intro _; simp [findS, ments]
      | cons q l ih =>
        intro hl
        obtain ⟨k, v⟩ := q
        simp only [findS]
        split
        · have := hl (k, v) (by simp)
          simpa using this
        · exact ih fun x hx => hl x (by simp [hx])
    exact this sl h1 ht
  · simp only [mk] at hr
    have : ∀ (l : List (Nat × Option Rs)), (∀ x ∈ l, (x.1 != h && match x.2 with | some r => !(mentsR r).contains h | none => true) = true) → findO l h' = some r → h ∉ mentsR r := by
      intro l
      induction l with
      | nil => intro _ e; simp [findO] at e
      | cons q l ih =>
        intro hl e
        obtain ⟨k, v⟩ := q
        simp only [findO] at e
        split at e
        · subst e
          have := hl (k, some r) (by simp)
          simp only [Bool.and_eq_true] at this
          simpa using this.2
        · exact ih (fun x hx => hl x (by simp [hx])) e
    exact this rs h2 hr hm
  · simp only [mk]
    have : ∀ (l : List (Nat × Option Rs)), (∀ x ∈ l, (x.1 != h && match x.2 with | some r => !(mentsR r).contains h | none => true) = true) → findO l h = none := by
      intro l
      induction l with
      | nil => intro _; rfl
      | cons q l ih =>
        intro hl
        obtain ⟨k, v⟩ := q
        simp only [findO]
        have := hl (k, v) (by simp)
        simp only [Bool.and_eq_true, bne_iff_ne, ne_eq] at this
        rw [if_neg (fun e => this.1 e.symm)]
        exact ih fun x hx => hl x (by simp [hx])
    exact this rs h2
def LeS (g : Nat → Nat) (sl : List (Nat × AV)) : List (Nat × AV) → Prop
  | [] => True
  | (t, x) :: l => findS sl t = mapA g x ∧ LeS g sl l
def LeR (g : Nat → Nat) (rs : List (Nat × Option Rs)) : List (Nat × Option Rs) → Prop
  | [] => True
  | (h, some r) :: l => findO rs (g h) = some (mapR g r) ∧ LeR g rs l
  | (_, none) :: l => LeR g rs l
/-- Handles of a list, no two named alike by g. -/
def injB (g : Nat → Nat) : List (Nat × Option Rs) → Bool
  | [] => true
  | (h, _) :: l => l.all (fun q => q.1 == h || g q.1 != g h) && injB g l
theorem le_mk {g : Nat → Nat} {sl sl' : List (Nat × AV)} {rs rs' : List (Nat × Option Rs)} (h1 : LeS g sl sl') (h2 : LeR g rs rs') (h3 : injB g rs' = true) : Le g (mk sl rs) (mk sl' rs') := by
  refine ⟨fun t => ?_, fun h r hr => ?_, fun h h' r r' hr hr' e => ?_⟩
  · simp only [mk]
    induction sl' with
    | nil => exact .inl rfl
    | cons q l ih =>
      obtain ⟨k, x⟩ := q
      simp only [findS]
      split
      · rename_i e; subst e; exact .inr h1.1
      · exact ih h1.2
  · simp only [mk] at *
    clear h3
    induction rs' with
    | nil => simp [findO] at hr
    | cons q l ih =>
      obtain ⟨k, x⟩ := q
      simp only [findO] at hr
      split at hr
      · rename_i e; subst e; subst hr; exact h2.1
      · cases x with
        | none => exact ih h2 hr
        | some y => exact ih h2.2 hr
  · simp only [mk] at *
    have key : ∀ {l : List (Nat × Option Rs)} {h : Nat} {r : Rs}, findO l h = some r → ∃ x, (h, x) ∈ l := by
      intro l
      induction l with
      | nil => intro h r e; simp [findO] at e
      | cons q l ih =>
        obtain ⟨k, x⟩ := q
        intro h r e
        simp only [findO] at e
        split at e
        · rename_i e'; subst e'; exact ⟨x, by simp⟩
        · obtain ⟨y, hy⟩ := ih e; exact ⟨y, by simp [hy]⟩
    obtain ⟨x, hx⟩ := key hr
    obtain ⟨x', hx'⟩ := key hr'
    clear h1 h2 hr hr'
    induction rs' with
    | nil => simp at hx
    | cons q l ih =>
      obtain ⟨k, y⟩ := q
      simp only [injB, Bool.and_eq_true, List.all_eq_true, Bool.or_eq_true, beq_iff_eq, bne_iff_ne, ne_eq] at h3
      rcases List.mem_cons.1 hx with q1 | q1 <;> rcases List.mem_cons.1 hx' with q2 | q2
      · injection q1 with a b; injection q2 with a' b'; rw [a, a']
      · injection q1 with a b
        subst a
        rcases h3.1 _ q2 with h | h
        · exact h.symm
        · exact absurd e.symm h
      · injection q2 with a b
        subst a
        rcases h3.1 _ q1 with h | h
        · exact h
        · exact absurd e h
      · exact ih h3.2 q1 q2

section
variable {P : Program} {N : Nat} {all : Array Oper} {rest : List Oper} {sl : List (Nat × AV)} {rs : List (Nat × Option Rs)} {K : St → Prop} {ty : TypeId} {pos : String} {aft : Array Edge} {d : Nat} {gd : Option (Nat × Bool)}
def evE (sl : List (Nat × AV)) : Operand → AV
  | .tmp t => findS sl t
  | .const v => avC v
  | .func f => .fn f []
  | .global _ => .no
theorem evE_eq (sl : List (Nat × AV)) (rs : List (Nat × Option Rs)) (x : Operand) : (mk sl rs).ev x = evE sl x := by cases x <;> rfl
theorem op_of {o : Op} {v : AV} {del : List Nat} {new : List (Nat × Rs)} (hs : Sound P ⟨some d, o, ty, pos, aft, none⟩ (mk sl rs) ⟨v, del, new⟩) (hd : d < N) (h : Ops P N all rest (mk ((d, v) :: sl) (newL new ++ (goneL del ++ rs))) K) : Ops P N all (⟨some d, o, ty, pos, aft, none⟩ :: rest) (mk sl rs) K := by
  unfold Ops
  refine ⟨(fun d' e => by injection e with e; subst e; exact hd), ⟨v, del, new⟩, hs, ?_⟩
  rw [mk_apply]
  exact h
theorem op_of0 {o : Op} {v : AV} {del : List Nat} {new : List (Nat × Rs)} (hs : Sound P ⟨none, o, ty, pos, aft, none⟩ (mk sl rs) ⟨v, del, new⟩) (h : Ops P N all rest (mk sl (newL new ++ (goneL del ++ rs))) K) : Ops P N all (⟨none, o, ty, pos, aft, none⟩ :: rest) (mk sl rs) K := by
  unfold Ops
  refine ⟨(fun d' e => by cases e), ⟨v, del, new⟩, hs, ?_⟩
  rw [mk_apply0]
  exact h
/-- Steps of a region in the text's order: a value (V), memory made (N), written (W), grown (A), a call's (C). -/
theorem goV {o : Op} {v : AV} (hs : Sound P ⟨some d, o, ty, pos, aft, none⟩ (mk sl rs) ⟨v, [], []⟩) (hd : d < N) (h : Ops P N all rest (mk ((d, v) :: sl) rs) K) : Ops P N all (⟨some d, o, ty, pos, aft, none⟩ :: rest) (mk sl rs) K := op_of (del := []) (new := []) hs hd h
theorem goN {o : Op} {v : AV} {hh : Nat} {r : Rs} (hs : Sound P ⟨some d, o, ty, pos, aft, none⟩ (mk sl rs) ⟨v, [], [(hh, r)]⟩) (hd : d < N) (h : Ops P N all rest (mk ((d, v) :: sl) ((hh, some r) :: rs)) K) : Ops P N all (⟨some d, o, ty, pos, aft, none⟩ :: rest) (mk sl rs) K := op_of (del := []) (new := [(hh, r)]) hs hd h
theorem goW {o : Op} {hh : Nat} {r : Rs} (hs : Sound P ⟨none, o, ty, pos, aft, none⟩ (mk sl rs) ⟨.no, [hh], [(hh, r)]⟩) (h : Ops P N all rest (mk sl ((hh, some r) :: (hh, none) :: rs)) K) : Ops P N all (⟨none, o, ty, pos, aft, none⟩ :: rest) (mk sl rs) K := op_of0 (v := .no) (del := [hh]) (new := [(hh, r)]) hs h
theorem goA {o : Op} {v : AV} {hh : Nat} {r : Rs} {del : List Nat} (hs : Sound P ⟨some d, o, ty, pos, aft, none⟩ (mk sl rs) ⟨v, del, [(hh, r)]⟩) (hd : d < N) (h : Ops P N all rest (mk ((d, v) :: sl) ((hh, some r) :: (goneL del ++ rs))) K) : Ops P N all (⟨some d, o, ty, pos, aft, none⟩ :: rest) (mk sl rs) K := op_of (del := del) (new := [(hh, r)]) hs hd h
theorem goC {o : Op} {v : AV} {new : List (Nat × Rs)} (hs : Sound P ⟨some d, o, ty, pos, aft, none⟩ (mk sl rs) ⟨v, [], new⟩) (hd : d < N) (h : Ops P N all rest (mk ((d, v) :: sl) (newL new ++ rs)) K) : Ops P N all (⟨some d, o, ty, pos, aft, none⟩ :: rest) (mk sl rs) K := op_of (del := []) (new := new) hs hd h
theorem op_gyes {o : Op} {dst : Option Nat} {S : St} {j dj : Nat} {want b : Bool} (hj : (all[j]?).bind (·.dst) = some dj) (hN : dj < N) (hs : S.slots dj = .p none (.bool b)) (hb : b = want) (h : Ops P N all (⟨dst, o, ty, pos, aft, none⟩ :: rest) S K) : Ops P N all (⟨dst, o, ty, pos, aft, some (j, want)⟩ :: rest) S K := by
  unfold Ops at *
  exact ⟨h.1, dj, b, hj, hN, hs, fun _ => h.2, fun hn => absurd hb hn⟩
theorem op_gno {o : Op} {dst : Option Nat} {S : St} {j dj : Nat} {want b : Bool} (hj : (all[j]?).bind (·.dst) = some dj) (hN : dj < N) (hs : S.slots dj = .p none (.bool b)) (hb : b = !want) (hd : ∀ d, dst = some d → d < N) (h : Ops P N all rest (S.put dst .no) K) : Ops P N all (⟨dst, o, ty, pos, aft, some (j, want)⟩ :: rest) S K := by
  unfold Ops
  refine ⟨hd, dj, b, hj, hN, hs, fun e => ?_, fun _ => h⟩
  subst e; cases b <;> cases hb
theorem op_gnoE {o : Op} {j dj : Nat} {want b : Bool} (hj : (all[j]?).bind (·.dst) = some dj) (hN : dj < N) (hs : findS sl dj = .p none (.bool b)) (hb : b = !want) (hd : d < N) (h : Ops P N all rest (mk ((d, .no) :: sl) rs) K) : Ops P N all (⟨some d, o, ty, pos, aft, some (j, want)⟩ :: rest) (mk sl rs) K :=
  op_gno hj hN hs hb (fun d' e => by injection e with e; subst e; exact hd) (by rw [mk_put]; exact h)
theorem op_nil (h : K (mk sl rs)) : Ops P N all [] (mk sl rs) K := h

theorem sd_move {x : Operand} {v : AV} (hv : evE sl x = v) : Sound P ⟨some d, .move x, ty, pos, aft, gd⟩ (mk sl rs) ⟨v, [], []⟩ :=
  by rw [← hv, ← evE_eq sl rs]; exact sound_move (.inl rfl)
theorem sd_assign {x : Operand} {v : AV} (hv : evE sl x = v) : Sound P ⟨some d, .assign x, ty, pos, aft, gd⟩ (mk sl rs) ⟨v, [], []⟩ :=
  by rw [← hv, ← evE_eq sl rs]; exact sound_move (.inr rfl)
theorem sd_pick {c x y : Operand} {t : Bool} {v : AV} (hc : evE sl c = .p none (.bool t)) (hv : (if t then evE sl x else evE sl y) = v) : Sound P ⟨some d, .pick c x y, ty, pos, aft, gd⟩ (mk sl rs) ⟨v, [], []⟩ :=
  by rw [← hv, ← evE_eq sl rs, ← evE_eq sl rs]; exact sound_pick rfl (by rw [evE_eq]; exact hc)
theorem sd_pickH {c x y : Operand} {t b : Bool} {v : AV} (hc : evE sl c = .p none (.bool t)) (ht : t = b) (hv : (if b then evE sl x else evE sl y) = v) : Sound P ⟨some d, .pick c x y, ty, pos, aft, gd⟩ (mk sl rs) ⟨v, [], []⟩ := by
  subst ht
  exact sd_pick hc hv
theorem sd_extract {x : Operand} {i : Nat} {vs : List AV} {v : AV} (hx : evE sl x = .tup vs) (hv : vs[i]? = some v) : Sound P ⟨some d, .extract x i, ty, pos, aft, gd⟩ (mk sl rs) ⟨v, [], []⟩ :=
  sound_extract rfl (by rw [evE_eq]; exact hx) hv
/-- A length. -/
theorem sd_len {x : Operand} {t e : TypeId} {n : Nat} (ht : P.underlying t = some (.slice e)) (hn : lenIs (mk sl rs) (evE sl x) n) : Sound P ⟨some d, .call { callee := .builtin .len, args := #[x], argTypes := #[t] }, ty, pos, aft, gd⟩ (mk sl rs) ⟨.p none (.int .i64 n), [], []⟩ :=
  sound_len rfl ht (by rw [evE_eq]; exact hn)
theorem len_p {te k : Nat} {xs : List (List Dat)} : lenIs (mk sl rs) (.p none (.sl te k xs)) xs.length := rfl
theorem len_pm {α : Type} {te k : Nat} {xs : List α} {f : α → List Dat} : lenIs (mk sl rs) (.p none (.sl te k (xs.map f))) xs.length := by simp [lenIs]
theorem len_om {α : Type} {h e k : Nat} {dp : Bool} {xs : List α} {f : α → List Dat} (hr : findO rs h = some (.arr e k dp (xs.map f))) : lenIs (mk sl rs) (.own h) xs.length := ⟨e, k, dp, _, hr, by simp⟩
theorem len_ph {h te k : Nat} {xs : List (List Dat)} {r : Rs} (hr : findO rs h = some r) : lenIs (mk sl rs) (.p (some h) (.sl te k xs)) xs.length := ⟨⟨r, hr⟩, rfl⟩
theorem len_own {h e k : Nat} {dp : Bool} {xs : List (List Dat)} (hr : findO rs h = some (.arr e k dp xs)) : lenIs (mk sl rs) (.own h) xs.length := ⟨e, k, dp, xs, hr, rfl⟩
theorem len_nil : lenIs (mk sl rs) .nil 0 := rfl
/-- Numbers and truth values. -/
theorem sd_scal {o : Op} {x : Dat} {v : Value} (hx : x.val? = some v) (hr : ∀ (e : Operand → Value) (w : World), (∀ y u, conc (evE sl y) = some u → e y = u) → (execOp e ⟨some d, o, ty, pos, aft, gd⟩).run P w = .ok (.value v) w) : Sound P ⟨some d, o, ty, pos, aft, gd⟩ (mk sl rs) ⟨.p none x, [], []⟩ :=
  sound_scal hx fun e w he => hr e w fun y u hu => he y u (by rw [evE_eq]; exact hu)
theorem conc_p {x : AV} {y : Dat} {v : Value} (h : x = .p none y) (hv : y.val? = some v) : conc x = some v := by rw [h]; exact hv
section
variable {x y : Operand} {t t' : TypeId} {k : IntKind} {m n : Int}
theorem sd_bin_int {op : BinOp} {r : Dat} {v : Value} (hx : evE sl x = .p none (.int k m)) (hy : evE sl y = .p none (.int k n)) (hv : r.val? = some v) (hr : ∀ w, (binOp op t (.int k m) (.int k n)).run P w = .ok v w) : Sound P ⟨some d, .binOp op t x y t', ty, pos, aft, gd⟩ (mk sl rs) ⟨.p none r, [], []⟩ :=
  sd_scal hv (fun e w he => by
    have h1 := he x _ (conc_p hx rfl)
    have h2 := he y _ (conc_p hy rfl)
    have hg : (eqGuard op t x y (.int k m) (.int k n)).run P w = .ok () w := by
      unfold eqGuard
      cases op <;> rfl
    simp only [execOp, h1, h2, Sem.run_bind, hg, Result.andThen_ok, hr]
    rfl)
theorem sd_lss (hx : evE sl x = .p none (.int k m)) (hy : evE sl y = .p none (.int k n)) : Sound P ⟨some d, .binOp .lss t x y t', ty, pos, aft, gd⟩ (mk sl rs) ⟨.p none (.bool (decide (m < n))), [], []⟩ :=
  sd_bin_int hx hy rfl (fun w => by simp [binOp, Op.intCmp])
theorem sd_leq (hx : evE sl x = .p none (.int k m)) (hy : evE sl y = .p none (.int k n)) : Sound P ⟨some d, .binOp .leq t x y t', ty, pos, aft, gd⟩ (mk sl rs) ⟨.p none (.bool (decide (m ≤ n))), [], []⟩ :=
  sd_bin_int hx hy rfl (fun w => by simp [binOp, Op.intCmp])
theorem sd_gtr (hx : evE sl x = .p none (.int k m)) (hy : evE sl y = .p none (.int k n)) : Sound P ⟨some d, .binOp .gtr t x y t', ty, pos, aft, gd⟩ (mk sl rs) ⟨.p none (.bool (decide (n < m))), [], []⟩ :=
  sd_bin_int hx hy rfl (fun w => by simp [binOp, Op.intCmp])
theorem sd_geq (hx : evE sl x = .p none (.int k m)) (hy : evE sl y = .p none (.int k n)) : Sound P ⟨some d, .binOp .geq t x y t', ty, pos, aft, gd⟩ (mk sl rs) ⟨.p none (.bool (decide (n ≤ m))), [], []⟩ :=
  sd_bin_int hx hy rfl (fun w => by simp [binOp, Op.intCmp])
theorem sd_eql (hx : evE sl x = .p none (.int k m)) (hy : evE sl y = .p none (.int k n)) : Sound P ⟨some d, .binOp .eql t x y t', ty, pos, aft, gd⟩ (mk sl rs) ⟨.p none (.bool (decide (m = n))), [], []⟩ :=
  sd_bin_int hx hy rfl (fun w => by simp [binOp, Op.intCmp]; rfl)
theorem sd_neq (hx : evE sl x = .p none (.int k m)) (hy : evE sl y = .p none (.int k n)) : Sound P ⟨some d, .binOp .neq t x y t', ty, pos, aft, gd⟩ (mk sl rs) ⟨.p none (.bool (!decide (m = n))), [], []⟩ :=
  sd_bin_int hx hy rfl (fun w => by simp [binOp, Op.intCmp]; rfl)
theorem sd_add (hx : evE sl x = .p none (.int k m)) (hy : evE sl y = .p none (.int k n)) : Sound P ⟨some d, .binOp .add t x y t', ty, pos, aft, gd⟩ (mk sl rs) ⟨.p none (.int k (k.wrap (m + n))), [], []⟩ :=
  sd_bin_int hx hy rfl (fun w => by simp [binOp, Op.intArith])
theorem sd_sub (hx : evE sl x = .p none (.int k m)) (hy : evE sl y = .p none (.int k n)) : Sound P ⟨some d, .binOp .sub t x y t', ty, pos, aft, gd⟩ (mk sl rs) ⟨.p none (.int k (k.wrap (m - n))), [], []⟩ :=
  sd_bin_int hx hy rfl (fun w => by simp [binOp, Op.intArith])
theorem sd_mul (hx : evE sl x = .p none (.int k m)) (hy : evE sl y = .p none (.int k n)) : Sound P ⟨some d, .binOp .mul t x y t', ty, pos, aft, gd⟩ (mk sl rs) ⟨.p none (.int k (k.wrap (m * n))), [], []⟩ :=
  sd_bin_int hx hy rfl (fun w => by simp [binOp, Op.intArith])
theorem sd_addI (hx : evE sl x = .p none (.int .i64 m)) (hy : evE sl y = .p none (.int .i64 n)) (hb : -9223372036854775808 ≤ m + n ∧ m + n ≤ 9223372036854775807) : Sound P ⟨some d, .binOp .add t x y t', ty, pos, aft, gd⟩ (mk sl rs) ⟨.p none (.int .i64 (m + n)), [], []⟩ :=
  by rw [← IntWalk.i64_in _ hb]; exact sd_add hx hy
theorem sd_subI (hx : evE sl x = .p none (.int .i64 m)) (hy : evE sl y = .p none (.int .i64 n)) (hb : -9223372036854775808 ≤ m - n ∧ m - n ≤ 9223372036854775807) : Sound P ⟨some d, .binOp .sub t x y t', ty, pos, aft, gd⟩ (mk sl rs) ⟨.p none (.int .i64 (m - n)), [], []⟩ :=
  by rw [← IntWalk.i64_in _ hb]; exact sd_sub hx hy
theorem sd_mulI (hx : evE sl x = .p none (.int .i64 m)) (hy : evE sl y = .p none (.int .i64 n)) (hb : -9223372036854775808 ≤ m * n ∧ m * n ≤ 9223372036854775807) : Sound P ⟨some d, .binOp .mul t x y t', ty, pos, aft, gd⟩ (mk sl rs) ⟨.p none (.int .i64 (m * n)), [], []⟩ :=
  by rw [← IntWalk.i64_in _ hb]; exact sd_mul hx hy
theorem sd_quo (hx : evE sl x = .p none (.int k m)) (hy : evE sl y = .p none (.int k n)) (h0 : n ≠ 0) : Sound P ⟨some d, .binOp .quo t x y t', ty, pos, aft, gd⟩ (mk sl rs) ⟨.p none (.int k (k.wrap (m.tdiv n))), [], []⟩ :=
  sd_bin_int hx hy rfl (fun w => by simp [binOp, Op.intDiv, h0])
theorem sd_rem (hx : evE sl x = .p none (.int k m)) (hy : evE sl y = .p none (.int k n)) (h0 : n ≠ 0) : Sound P ⟨some d, .binOp .rem t x y t', ty, pos, aft, gd⟩ (mk sl rs) ⟨.p none (.int k (m.tmod n)), [], []⟩ :=
  sd_bin_int hx hy rfl (fun w => by simp [binOp, Op.intDiv, h0])
theorem sd_not {b : Bool} (hx : evE sl x = .p none (.bool b)) : Sound P ⟨some d, .unOp .not t x, ty, pos, aft, gd⟩ (mk sl rs) ⟨.p none (.bool (!b)), [], []⟩ :=
  sd_scal (x := .bool (!b)) rfl (fun e w he => by have h1 := he x _ (conc_p hx rfl); simp [execOp, h1, Op.unary])
theorem sd_neg (hx : evE sl x = .p none (.int k m)) : Sound P ⟨some d, .unOp .neg t x, ty, pos, aft, gd⟩ (mk sl rs) ⟨.p none (.int k (k.wrap (0 - m))), [], []⟩ :=
  sd_scal (x := .int k (k.wrap (0 - m))) rfl (fun e w he => by have h1 := he x _ (conc_p hx rfl); simp [execOp, h1, Op.unary, Op.intArith])
end
theorem sd_bin_bool {op : BinOp} {x y : Operand} {t t' : TypeId} {m n : Bool} {r : Dat} {v : Value} (hx : evE sl x = .p none (.bool m)) (hy : evE sl y = .p none (.bool n)) (hv : r.val? = some v) (hr : ∀ w, (binOp op t (.bool m) (.bool n)).run P w = .ok v w) : Sound P ⟨some d, .binOp op t x y t', ty, pos, aft, gd⟩ (mk sl rs) ⟨.p none r, [], []⟩ :=
  sd_scal hv (fun e w he => by
    have h1 := he x _ (conc_p hx rfl)
    have h2 := he y _ (conc_p hy rfl)
    have hg : (eqGuard op t x y (.bool m) (.bool n)).run P w = .ok () w := by
      unfold eqGuard
      cases op <;> rfl
    simp only [execOp, h1, h2, Sem.run_bind, hg, Result.andThen_ok, hr]
    rfl)
theorem sd_neq_bool {x y : Operand} {t t' : TypeId} {m n : Bool} (hu : P.underlying t = some .bool) (hx : evE sl x = .p none (.bool m)) (hy : evE sl y = .p none (.bool n)) : Sound P ⟨some d, .binOp .neq t x y t', ty, pos, aft, gd⟩ (mk sl rs) ⟨.p none (.bool (!(m == n))), [], []⟩ :=
  sd_bin_bool hx hy rfl (fun w => by
    have h := run_equalIn_bool' (P := P) w 9999 t m n hu
    have h' : (Op.equal t (.bool m) (.bool n)).run P w = .ok (m == n) w := h
    simp only [binOp, Sem.run_bind, h', Result.andThen_ok, Sem.run_pure])
theorem sd_eql_bool {x y : Operand} {t t' : TypeId} {m n : Bool} (hu : P.underlying t = some .bool) (hx : evE sl x = .p none (.bool m)) (hy : evE sl y = .p none (.bool n)) : Sound P ⟨some d, .binOp .eql t x y t', ty, pos, aft, gd⟩ (mk sl rs) ⟨.p none (.bool (m == n)), [], []⟩ :=
  sd_bin_bool hx hy rfl (fun w => by
    have h := run_equalIn_bool' (P := P) w 9999 t m n hu
    have h' : (Op.equal t (.bool m) (.bool n)).run P w = .ok (m == n) w := h
    simp only [binOp, Sem.run_bind, h', Result.andThen_ok, Sem.run_pure])
theorem sd_bin_str {op : BinOp} {x y : Operand} {t t' : TypeId} {m n : ByteArray} {r : Dat} {v : Value} (hx : evE sl x = .p none (.str m)) (hy : evE sl y = .p none (.str n)) (hv : r.val? = some v) (hr : ∀ w, (binOp op t (.string m) (.string n)).run P w = .ok v w) : Sound P ⟨some d, .binOp op t x y t', ty, pos, aft, gd⟩ (mk sl rs) ⟨.p none r, [], []⟩ :=
  sd_scal hv (fun e w he => by
    have h1 := he x _ (conc_p hx rfl)
    have h2 := he y _ (conc_p hy rfl)
    have hg : (eqGuard op t x y (.string m) (.string n)).run P w = .ok () w := by
      unfold eqGuard
      cases op <;> rfl
    simp only [execOp, h1, h2, Sem.run_bind, hg, Result.andThen_ok, hr]
    rfl)
theorem sd_neq_string {x y : Operand} {t t' : TypeId} {m n : ByteArray} (hx : evE sl x = .p none (.str m)) (hy : evE sl y = .p none (.str n)) : Sound P ⟨some d, .binOp .neq t x y t', ty, pos, aft, gd⟩ (mk sl rs) ⟨.p none (.bool (!(m.toList == n.toList))), [], []⟩ :=
  sd_bin_str hx hy rfl (fun w => by simp [binOp, Op.stringOp])
theorem sd_eql_string {x y : Operand} {t t' : TypeId} {m n : ByteArray} (hx : evE sl x = .p none (.str m)) (hy : evE sl y = .p none (.str n)) : Sound P ⟨some d, .binOp .eql t x y t', ty, pos, aft, gd⟩ (mk sl rs) ⟨.p none (.bool (m.toList == n.toList)), [], []⟩ :=
  sd_bin_str hx hy rfl (fun w => by simp [binOp, Op.stringOp])
/-- Addresses. -/
theorem sd_fieldP {x : Operand} {s : TypeId} {f off o' hh : Nat} {ft : TypeId} {r : Rs} (hf : fieldOf P s f = some (off, ft)) (hx : evE sl x = .ptr hh o') (hr : findO rs hh = some r) : Sound P ⟨some d, .fieldAddr s x f, ty, pos, aft, gd⟩ (mk sl rs) ⟨.ptr hh (o' + off), [], []⟩ :=
  sound_field_ptr rfl hf (by rw [evE_eq]; exact hx) ⟨r, hr⟩
theorem sd_fieldE {x : Operand} {s : TypeId} {f off o' hh k i : Nat} {ft : TypeId} {r : Rs} (hf : fieldOf P s f = some (off, ft)) (hx : evE sl x = .ep hh k i o') (hr : findO rs hh = some r) : Sound P ⟨some d, .fieldAddr s x f, ty, pos, aft, gd⟩ (mk sl rs) ⟨.ep hh k i (o' + off), [], []⟩ :=
  sound_field_ep rfl hf (by rw [evE_eq]; exact hx) ⟨r, hr⟩
theorem sd_fieldR {x : Operand} {s : TypeId} {f off : Nat} {ft : TypeId} {xs ys : List Dat} (hf : fieldOf P s f = some (off, ft)) (hx : evE sl x = .rp none xs) (hy : xs.drop off = ys) : Sound P ⟨some d, .fieldAddr s x f, ty, pos, aft, gd⟩ (mk sl rs) ⟨.rp none ys, [], []⟩ :=
  by rw [← hy]; exact sound_field_rp (o' := none) rfl hf (by rw [evE_eq]; exact hx) trivial
theorem sd_index {x y : Operand} {t e : TypeId} {k bt te : Nat} {ag : Bool} {z : Value} {xs : List (List Dat)} {ik : IntKind} {n : Int} {row : List Dat} (ht : P.underlying t = some (.slice e)) (hk : tyOf P e = some (ag, k, bt, z)) (hx : evE sl x = .p none (.sl te k xs)) (hy : evE sl y = .p none (.int ik n)) (h0 : 0 ≤ n) (hr : xs[n.toNat]? = some row) : Sound P ⟨some d, .indexAddr t x y, ty, pos, aft, gd⟩ (mk sl rs) ⟨.rp none row, [], []⟩ :=
  sound_index_p (o' := none) rfl ht hk (by rw [evE_eq]; exact hx) trivial (by rw [evE_eq]; exact hy) h0 hr
theorem sd_indexH {x y : Operand} {t e : TypeId} {k bt te hh : Nat} {ag : Bool} {z : Value} {xs : List (List Dat)} {ik : IntKind} {n : Int} {row : List Dat} {r : Rs} (ht : P.underlying t = some (.slice e)) (hk : tyOf P e = some (ag, k, bt, z)) (hx : evE sl x = .p (some hh) (.sl te k xs)) (hl : findO rs hh = some r) (hy : evE sl y = .p none (.int ik n)) (h0 : 0 ≤ n) (hr : xs[n.toNat]? = some row) : Sound P ⟨some d, .indexAddr t x y, ty, pos, aft, gd⟩ (mk sl rs) ⟨.rp (some hh) row, [], []⟩ :=
  sound_index_p (o' := some hh) rfl ht hk (by rw [evE_eq]; exact hx) ⟨r, hl⟩ (by rw [evE_eq]; exact hy) h0 hr
theorem sd_indexO {x y : Operand} {t e : TypeId} {k bt hh e' : Nat} {ag dp : Bool} {z : Value} {xs : List (List Dat)} {ik : IntKind} {n : Int} (ht : P.underlying t = some (.slice e)) (hk : tyOf P e = some (ag, k, bt, z)) (hx : evE sl x = .own hh) (hr : findO rs hh = some (.arr e' k dp xs)) (hy : evE sl y = .p none (.int ik n)) (h0 : 0 ≤ n) (hn : n < xs.length) : Sound P ⟨some d, .indexAddr t x y, ty, pos, aft, gd⟩ (mk sl rs) ⟨.ep hh k n.toNat 0, [], []⟩ :=
  sound_index_own rfl ht hk (by rw [evE_eq]; exact hx) hr (by rw [evE_eq]; exact hy) h0 hn
/-- Loads. -/
theorem sd_loadB {x : Operand} {t tb : TypeId} {n bt off hh : Nat} {z : Value} {cs vs : List AV} (ht : tyOf P t = some (true, n, bt, z)) (hx : evE sl x = .ptr hh off) (hr : findO rs hh = some (.box tb cs)) (hn : off + n ≤ cs.length) (hv : (cs.drop off).take n = vs) : Sound P ⟨some d, .load t x, ty, pos, aft, gd⟩ (mk sl rs) ⟨.agg vs, [], []⟩ :=
  by rw [← hv]; exact sound_load_box rfl ht (by rw [evE_eq]; exact hx) hr hn
theorem sd_loadB1 {x : Operand} {t tb : TypeId} {n bt off hh : Nat} {z : Value} {cs : List AV} {v : AV} (ht : tyOf P t = some (false, n, bt, z)) (hx : evE sl x = .ptr hh off) (hr : findO rs hh = some (.box tb cs)) (hv : cs[off]? = some v) : Sound P ⟨some d, .load t x, ty, pos, aft, gd⟩ (mk sl rs) ⟨v, [], []⟩ :=
  sound_load_box1 rfl ht (by rw [evE_eq]; exact hx) hr hv
theorem sd_loadR {x : Operand} {t : TypeId} {n bt : Nat} {z : Value} {xs : List Dat} {vs : List AV} (ht : tyOf P t = some (true, n, bt, z)) (hx : evE sl x = .rp none xs) (hn : n ≤ xs.length) (hv : (xs.take n).map (pOf none) = vs) : Sound P ⟨some d, .load t x, ty, pos, aft, gd⟩ (mk sl rs) ⟨.agg vs, [], []⟩ :=
  by rw [← hv]; exact sound_load_rp (o' := none) rfl ht (by rw [evE_eq]; exact hx) trivial hn
theorem sd_loadR1 {x : Operand} {t : TypeId} {n bt : Nat} {z : Value} {xs : List Dat} {y : Dat} {v : AV} (ht : tyOf P t = some (false, n, bt, z)) (hx : evE sl x = .rp none xs) (hy : xs[0]? = some y) (hv : pOf none y = v) : Sound P ⟨some d, .load t x, ty, pos, aft, gd⟩ (mk sl rs) ⟨v, [], []⟩ :=
  by rw [← hv]; exact sound_load_rp1 (o' := none) rfl ht (by rw [evE_eq]; exact hx) trivial hy
theorem sd_loadH1 {x : Operand} {t : TypeId} {n bt hh : Nat} {z : Value} {xs : List Dat} {y : Dat} {v : AV} {r : Rs} (ht : tyOf P t = some (false, n, bt, z)) (hx : evE sl x = .rp (some hh) xs) (hl : findO rs hh = some r) (hy : xs[0]? = some y) (hv : pOf (some hh) y = v) : Sound P ⟨some d, .load t x, ty, pos, aft, gd⟩ (mk sl rs) ⟨v, [], []⟩ :=
  by rw [← hv]; exact sound_load_rp1 (o' := some hh) rfl ht (by rw [evE_eq]; exact hx) ⟨r, hl⟩ hy
theorem sd_loadE {x : Operand} {t : TypeId} {n bt hh e k i off : Nat} {dp : Bool} {z : Value} {xs : List (List Dat)} {row : List Dat} {vs : List AV} (ht : tyOf P t = some (true, n, bt, z)) (hx : evE sl x = .ep hh k i off) (hr : findO rs hh = some (.arr e k dp xs)) (hi : xs[i]? = some row) (hn : off + n ≤ row.length) (hv : ((row.drop off).take n).map (pOf (if dp then some hh else none)) = vs) : Sound P ⟨some d, .load t x, ty, pos, aft, gd⟩ (mk sl rs) ⟨.agg vs, [], []⟩ :=
  by rw [← hv]; exact sound_load_ep rfl ht (by rw [evE_eq]; exact hx) hr hi hn
theorem sd_loadE1 {x : Operand} {t : TypeId} {n bt hh e k i off : Nat} {dp : Bool} {z : Value} {xs : List (List Dat)} {row : List Dat} {y : Dat} {v : AV} (ht : tyOf P t = some (false, n, bt, z)) (hx : evE sl x = .ep hh k i off) (hr : findO rs hh = some (.arr e k dp xs)) (hi : xs[i]? = some row) (hy : row[off]? = some y) (hv : pOf (if dp then some hh else none) y = v) : Sound P ⟨some d, .load t x, ty, pos, aft, gd⟩ (mk sl rs) ⟨v, [], []⟩ :=
  by rw [← hv]; exact sound_load_ep1 rfl ht (by rw [evE_eq]; exact hx) hr hi hy
/-- Memory made. -/
theorem sd_box {x : Operand} {t : TypeId} {cs : List AV} (hc : cell1 (mk sl rs) (evE sl x)) (hcs : cellsA (evE sl x) = cs) (hf : freshB sl rs (100 * d) = true) : Sound P ⟨some d, .box t x, ty, pos, aft, gd⟩ (mk sl rs) ⟨.ptr (100 * d) 0, [], [(100 * d, .box t cs)]⟩ :=
  by rw [← hcs, ← evE_eq sl rs]; exact sound_box rfl (by rw [evE_eq]; exact hc) (fresh_of hf)
theorem sd_alloc {t : TypeId} {ag : Bool} {n bt : Nat} {z : Value} {cs : List AV} (ht : tyOf P t = some (ag, n, bt, z)) (hcs : z.cells.toList.map avC = cs) (hf : freshB sl rs (100 * d) = true) : Sound P ⟨some d, .alloc t, ty, pos, aft, gd⟩ (mk sl rs) ⟨.ptr (100 * d) 0, [], [(100 * d, .box t cs)]⟩ :=
  by rw [← hcs]; exact sound_alloc rfl ht (fresh_of hf)
theorem sd_storeB {x y : Operand} {t tb : TypeId} {ag : Bool} {n bt off hh : Nat} {z : Value} {cs cs' : List AV} (ht : tyOf P t = some (ag, n, bt, z)) (hx : evE sl x = .ptr hh off) (hr : findO rs hh = some (.box tb cs)) (hc : cell1 (mk sl rs) (evE sl y)) (hn : (cellsA (evE sl y)).length = n) (hl : off + n ≤ cs.length) (hv : cs.take off ++ cellsA (evE sl y) ++ cs.drop (off + n) = cs') : Sound P ⟨none, .store t x y, ty, pos, aft, gd⟩ (mk sl rs) ⟨.no, [hh], [(hh, .box tb cs')]⟩ :=
  by rw [← hv, ← evE_eq sl rs]; exact sound_store_box rfl ht (by rw [evE_eq]; exact hx) hr (by rw [evE_eq]; exact hc) (by rw [evE_eq]; exact hn) hl
theorem sd_storeE {x y : Operand} {t : TypeId} {ag dp : Bool} {n bt off hh e k i : Nat} {z : Value} {xs xs' : List (List Dat)} {row ys : List Dat} {vs us : List Value} (ht : tyOf P t = some (ag, n, bt, z)) (hx : evE sl x = .ep hh k i off) (hr : findO rs hh = some (.arr e k dp xs)) (hi : xs[i]? = some row) (hrow : Flat row vs) (hy : cellsA (evE sl y) = ys.map (AV.p none)) (hys : Flat ys us) (hn : ys.length = n) (hl : off + n ≤ row.length)
    (hv : xs.set i (row.take off ++ ys ++ row.drop (off + n)) = xs') : Sound P ⟨none, .store t x y, ty, pos, aft, gd⟩ (mk sl rs) ⟨.no, [hh], [(hh, .arr e k dp xs')]⟩ :=
  by rw [← hv]; exact sound_store_ep rfl ht (by rw [evE_eq]; exact hx) hr hi hrow (by rw [evE_eq]; exact hy) hys hn hl
theorem sd_build {t : TypeId} {parts : Array (Nat × Operand)} {z : Value} {ps : List (Nat × Nat)} {cs : List AV} (ht : placesOf P t = some (z, ps)) (hc : ∀ q ∈ parts.toList, cell1 (mk sl rs) (evE sl q.2)) (hf : fillA (ps.toArray[·]?) (z.cells.toList.map avC) (parts.toList.map fun q => (q.1, evE sl q.2)) = some cs) : Sound P ⟨some d, .build t parts, ty, pos, aft, gd⟩ (mk sl rs) ⟨.agg cs, [], []⟩ :=
  sound_build rfl ht (fun q hq => by rw [evE_eq]; exact hc q hq) (by rw [← hf]; congr 1)
theorem sd_slice0 {t e : TypeId} {k bt : Nat} {ag : Bool} {z : Value} (ht : P.underlying t = some (.slice e)) (hk : tyOf P e = some (ag, k, bt, z)) (hf : freshB sl rs (100 * d) = true) : Sound P ⟨some d, .buildSlice t 0 #[], ty, pos, aft, gd⟩ (mk sl rs) ⟨.own (100 * d), [], [(100 * d, .arr e k true [])]⟩ :=
  sound_slice0 rfl ht hk (fresh_of hf)
theorem sd_sliceA {t e : TypeId} {len k bt : Nat} {ag : Bool} {z : Value} {parts : Array (Nat × Operand)} {rows : List (List Dat)} {css : List (List Value)} (ht : P.underlying t = some (.slice e)) (hk : tyOf P e = some (ag, k, bt, z)) (hs : len * k ≤ 16777216) (hp : 0 < len * k) (hc : ∀ q ∈ parts.toList, cell1 (mk sl rs) (evE sl q.2))
    (hf : fillA (fun i => some (i * k, k)) (List.replicate (len * k) AV.no) (parts.toList.map fun q => (q.1, evE sl q.2)) = some (rows.flatten.map (AV.p none))) (hfl : Flats rows css) (hrk : ∀ x ∈ rows, x.length = k) (hrl : rows.length = len) (hfr : freshB sl rs (100 * d) = true) : Sound P ⟨some d, .buildSlice t len parts, ty, pos, aft, gd⟩ (mk sl rs) ⟨.own (100 * d), [], [(100 * d, .arr e k true rows)]⟩ :=
  sound_sliceA rfl ht hk hs hp (fun q hq => by rw [evE_eq]; exact hc q hq) (by rw [← hf]; congr 1) (fresh_of hfr) hfl hrk hrl
theorem sd_bsl {t e : TypeId} {len k bt : Nat} {ag : Bool} {z : Value} {parts : Array (Nat × Operand)} {cs : List AV} (ht : P.underlying t = some (.slice e)) (hk : tyOf P e = some (ag, k, bt, z)) (hs : len * k ≤ 16777216) (hp : 0 < len * k) (hc : ∀ q ∈ parts.toList, cell1 (mk sl rs) (evE sl q.2))
    (hf : fillA (fun i => some (i * k, k)) (List.replicate (len * k) AV.no) (parts.toList.map fun q => (q.1, evE sl q.2)) = some cs) (hfr : freshB sl rs (100 * d) = true) (hm : (mentsL cs).contains (100 * d) = false) : Sound P ⟨some d, .buildSlice t len parts, ty, pos, aft, gd⟩ (mk sl rs) ⟨.bsl (100 * d) len, [], [(100 * d, .box e cs)]⟩ :=
  sound_bsl rfl ht hk hs hp (fun q hq => by rw [evE_eq]; exact hc q hq) (by rw [← hf]; congr 1) (fresh_of hfr) (by simpa using hm)
theorem sd_make {x y : Operand} {t e : TypeId} {k bt n : Nat} {ag : Bool} {z : Value} {kl kc : IntKind} {zr : List Dat} (ht : P.underlying t = some (.slice e)) (hk : tyOf P e = some (ag, k, bt, z)) (hx : evE sl x = .p none (.int kl n)) (hy : evE sl y = .p none (.int kc n)) (hz : ∀ w, OwCs w zr z.cells.toList []) (hn : bt * n ≤ 281474976710656) (hm : n ≤ maxLen) (hf : freshB sl rs (100 * d) = true) : Sound P ⟨some d, .makeSlice t x y, ty, pos, aft, gd⟩ (mk sl rs) ⟨.own (100 * d), [], [(100 * d, .arr e k true (List.replicate n zr))]⟩ :=
  sound_makeSlice rfl ht hk (by rw [evE_eq]; exact hx) (by rw [evE_eq]; exact hy) hz hn hm (fresh_of hf)
section
variable {s x : Operand} {t e : TypeId} {k bt : Nat} {ag : Bool} {z : Value} {del : List Nat} {dp : Bool} {xs ys : List (List Dat)}
theorem sd_appF {dss : List (List Value)} {zs : List (List Dat)} (ht : P.underlying t = some (.slice e)) (hk : tyOf P e = some (ag, k, bt, z)) (hpos : 0 < k) (htgt : TgtIs (mk sl rs) (evE sl s) del e k dp xs) (hsrc : FlatSrc (mk sl rs) (evE sl x) k ys) (hf : Flats ys dss) (hb : (xs.length + ys.length) * bt ≤ 140737488355328) (h63 : xs.length + ys.length ≤ maxLen) (hzs : xs ++ ys = zs) (hfr : freshB sl rs (100 * d) = true) : Sound P ⟨some d, .call { callee := .builtin .append, args := #[s, x], argTypes := #[t, t] }, ty, pos, aft, gd⟩ (mk sl rs) ⟨.own (100 * d), del, [(100 * d, .arr e k dp zs)]⟩ :=
  by rw [← hzs]; exact sound_app_flat rfl ht hk hpos (by rw [evE_eq]; exact htgt) (by rw [evE_eq]; exact hsrc) hf h63 hb (fresh_of hfr)
theorem sd_appR {zs : List (List Dat)} (ht : P.underlying t = some (.slice e)) (hk : tyOf P e = some (ag, k, bt, z)) (hpos : 0 < k) (htgt : TgtIs (mk sl rs) (evE sl s) del e k dp xs) (hdx : dp = false ∨ xs = []) (hsrc : RoSrc (mk sl rs) (evE sl x) k ys) (hb : (xs.length + ys.length) * bt ≤ 140737488355328) (h63 : xs.length + ys.length ≤ maxLen) (hzs : xs ++ ys = zs) (hfr : freshB sl rs (100 * d) = true) : Sound P ⟨some d, .call { callee := .builtin .append, args := #[s, x], argTypes := #[t, t] }, ty, pos, aft, gd⟩ (mk sl rs) ⟨.own (100 * d), del, [(100 * d, .arr e k false zs)]⟩ :=
  by rw [← hzs]; exact sound_app_ro rfl ht hk hpos (by rw [evE_eq]; exact htgt) hdx (by rw [evE_eq]; exact hsrc) h63 hb (fresh_of hfr)
theorem sd_appM {h2 : Nat} {e2 : TypeId} {cs : List AV} {row : List Dat} {hs : List Nat} {zs : List (List Dat)} (ht : P.underlying t = some (.slice e)) (hk : tyOf P e = some (ag, k, bt, z)) (hpos : 0 < k) (htgt : TgtIs (mk sl rs) (evE sl s) del e k dp xs) (hdx : dp = true ∨ xs = []) (hx : evE sl x = .bsl h2 1) (hr : findO rs h2 = some (.box e2 cs)) (hm : MoveC (mk sl rs) cs row hs) (hrow : row.length = k) (hnd : (del ++ hs).Nodup) (hb : (xs.length + 1) * bt ≤ 140737488355328) (h63 : xs.length + 1 ≤ maxLen) (hzs : xs ++ [row] = zs) (hfr : freshB sl rs (100 * d) = true) : Sound P ⟨some d, .call { callee := .builtin .append, args := #[s, x], argTypes := #[t, t] }, ty, pos, aft, gd⟩ (mk sl rs) ⟨.own (100 * d), (del ++ hs), [(100 * d, .arr e k true zs)]⟩ :=
  by rw [← hzs]; exact sound_app_move rfl ht hk hpos (by rw [evE_eq]; exact htgt) hdx (by rw [evE_eq]; exact hx) hr hm hrow hnd h63 hb (fresh_of hfr)
end
theorem sd_call {f : FuncId} {xs : Array Operand} {ts : Array TypeId} {ys : List Ar} {rv v : AV} {rr : List (Nat × Rs)} (hC : Con P f ys rv rr) (hx : AsArs (mk sl rs) (xs.toList.map (evE sl)) ys) (hcl : (closedA rv && rr.all fun q => deepR q.2) = true ∨ settledL (xs.toList.map (evE sl)) = true) (ha : (rr.all fun q => arrR q.2 && freshB sl rs (100 * d + q.1)) = true) (hmt : ((ments rv).all fun h => (findH rr h).isSome) = true) (hv : mapA (100 * d + ·) rv = v) : Sound P ⟨some d, .call { callee := .value (.func f), args := xs, argTypes := ts }, ty, pos, aft, gd⟩ (mk sl rs) ⟨v, [], rr.map fun q => (100 * d + q.1, q.2)⟩ := by
  have e : xs.toList.map (mk sl rs).ev = xs.toList.map (evE sl) := List.map_congr_left fun q _ => evE_eq sl rs q
  simp only [List.all_eq_true, Bool.and_eq_true] at ha hmt hcl
  rw [← hv]
  exact sound_call rfl hC (by rw [e]; exact hx) (by rw [e]; exact hcl) (fun q hq => (ha q hq).1) (fun q hq => fresh_of (ha q hq).2) (fun k hk => Option.isSome_iff_exists.1 (hmt k hk))
theorem asArs_nil {S : St} : AsArs S [] [] := rfl
theorem asArs_cons {S : St} {x : AV} {y : Ar} {xs : List AV} {ys : List Ar} (h : AsAr S x y) (h' : AsArs S xs ys) : AsArs S (x :: xs) (y :: ys) := ⟨y, ys, rfl, h, h'⟩
theorem asAr_p {S : St} {x : Dat} : AsAr S (.p none x) (.one x) := ⟨x, rfl, trivial, rfl⟩
theorem asAr_ph {h : Nat} {x : Dat} {r : Rs} (hr : findO rs h = some r) : AsAr (mk sl rs) (.p (some h) x) (.one x) := ⟨x, rfl, ⟨r, hr⟩, rfl⟩
theorem asAr_own {h e k : Nat} {dp : Bool} {xs : List (List Dat)} (hr : findO rs h = some (.arr e k dp xs)) : AsAr (mk sl rs) (.own h) (.one (.sl e k xs)) := ⟨_, rfl, e, k, dp, xs, hr, rfl⟩
theorem asAr_nil {S : St} {e k : Nat} : AsAr S .nil (.one (.sl e k [])) := ⟨_, rfl, e, k, rfl⟩
theorem asAr_agg {S : St} {cs : List AV} {ys : List Dat} (h : AsDs S cs ys) : AsAr S (.agg cs) (.agg ys) := ⟨ys, rfl, h⟩
theorem asDs_nil {S : St} : AsDs S [] [] := rfl
theorem asDs_cons {S : St} {x : AV} {y : Dat} {xs : List AV} {ys : List Dat} (h : AsD S x y) (h' : AsDs S xs ys) : AsDs S (x :: xs) (y :: ys) := ⟨y, ys, rfl, h, h'⟩
theorem asD_p {S : St} {x : Dat} : AsD S (.p none x) x := ⟨trivial, rfl⟩
theorem asD_ph {h : Nat} {x : Dat} {r : Rs} (hr : findO rs h = some r) : AsD (mk sl rs) (.p (some h) x) x := ⟨⟨r, hr⟩, rfl⟩
theorem asD_own {h e k : Nat} {dp : Bool} {xs : List (List Dat)} (hr : findO rs h = some (.arr e k dp xs)) : AsD (mk sl rs) (.own h) (.sl e k xs) := ⟨e, k, dp, xs, hr, rfl⟩
theorem asD_nil {S : St} {e k : Nat} : AsD S .nil (.sl e k []) := ⟨e, k, rfl⟩
def asD1 (rs : List (Nat × Option Rs)) : AV → Option Dat
  | .p none x => some x
  | .p (some h) x => match findO rs h with | some _ => some x | none => none
  | .own h => match findO rs h with | some (.arr e k _ xs) => some (.sl e k xs) | _ => none
  | _ => none
def asDsF (rs : List (Nat × Option Rs)) : List AV → Option (List Dat)
  | [] => some []
  | x :: xs => match asD1 rs x with | some y => (match asDsF rs xs with | some ys => some (y :: ys) | none => none) | none => none
def asArF (rs : List (Nat × Option Rs)) : AV → Option Ar
  | .agg cs => match asDsF rs cs with | some ys => some (.agg ys) | none => none
  | x => match asD1 rs x with | some y => some (.one y) | none => none
def asArsF (rs : List (Nat × Option Rs)) : List AV → Option (List Ar)
  | [] => some []
  | x :: xs => match asArF rs x with | some y => (match asArsF rs xs with | some ys => some (y :: ys) | none => none) | none => none
theorem asD1_ok {x : AV} {y : Dat} (h : asD1 rs x = some y) : AsD (mk sl rs) x y := by
  unfold asD1 at h
  split at h
  · injection h with h; subst h; exact asD_p
  · split at h
    · rename_i hr; injection h with h; subst h; exact asD_ph hr
    · cases h
  · split at h
    · rename_i hr; injection h with h; subst h; exact asD_own hr
    · cases h
  · cases h
theorem asDsF_ok : ∀ {xs : List AV} {ys : List Dat}, asDsF rs xs = some ys → AsDs (mk sl rs) xs ys
  | [], ys, h => by unfold asDsF at h; injection h with h; subst h; exact asDs_nil
  | x :: xs, ys, h => by
    unfold asDsF at h
    split at h
    · rename_i y hy
      split at h
      · rename_i zs hz
        injection h with h
        subst h
        exact asDs_cons (asD1_ok hy) (asDsF_ok hz)
      · cases h
    · cases h
theorem asArF_ok {x : AV} {y : Ar} (h : asArF rs x = some y) : AsAr (mk sl rs) x y := by
  unfold asArF at h
  split at h
  · split at h
    · rename_i hy; injection h with h; subst h; exact asAr_agg (asDsF_ok hy)
    · cases h
  · rename_i hna
    split at h
    · rename_i z hz
      injection h with h
      subst h
      have hd := asD1_ok (sl := sl) hz
      cases x with
      | agg cs => exact absurd rfl (hna cs)
      | _ => exact ⟨z, rfl, hd⟩
    · cases h
theorem asArsF_ok : ∀ {xs : List AV} {ys : List Ar}, asArsF rs xs = some ys → AsArs (mk sl rs) xs ys
  | [], ys, h => by unfold asArsF at h; injection h with h; subst h; exact asArs_nil
  | x :: xs, ys, h => by
    unfold asArsF at h
    split at h
    · rename_i y hy
      split at h
      · rename_i zs hz
        injection h with h
        subst h
        exact asArs_cons (asArF_ok hy) (asArsF_ok hz)
      · cases h
    · cases h
theorem sd_callF {f : FuncId} {xs : Array Operand} {ts : Array TypeId} {ys : List Ar} {rv v : AV} {rr : List (Nat × Rs)} (hx : asArsF rs (xs.toList.map (evE sl)) = some ys) (hC : Con P f ys rv rr) (hcl : (closedA rv && rr.all fun q => deepR q.2) = true ∨ settledL (xs.toList.map (evE sl)) = true) (ha : (rr.all fun q => arrR q.2 && freshB sl rs (100 * d + q.1)) = true) (hmt : ((ments rv).all fun h => (findH rr h).isSome) = true) (hv : mapA (100 * d + ·) rv = v) : Sound P ⟨some d, .call { callee := .value (.func f), args := xs, argTypes := ts }, ty, pos, aft, gd⟩ (mk sl rs) ⟨v, [], rr.map fun q => (100 * d + q.1, q.2)⟩ :=
  sd_call hC (asArsF_ok hx) hcl ha hmt hv
theorem VC_lit {id : Nat} {l : List Oper} {S : St} {Q : Exit → St → Prop} (h : Ops P N l.toArray l S (Q .normal)) : VC P N (.region id l.toArray false) S Q := VC_region (by simpa using h)
end
end Go.Proofs.Ytcgjlddpbkponaa
