/-
  Walks by computation: what a function's code asks for, as one proposition that the kernel works out along a tree of hints, and that it is enough.
-/
import Derived.Test.YtcgjlddpbkponaaEng2
namespace Go.Proofs.Ytcgjlddpbkponaa
open Go.ChangeShapes Go.WideShapes Go.ChangeAt Go.RowKit
set_option linter.unusedVariables false
set_option linter.unusedSimpArgs false

abbrev Sl := List (Nat × AV)
abbrev Rl := List (Nat × Option Rs)
/-- Quantifiers over a type of tuples, written out. -/
structure Qn (τ : Type) where
  all : (τ → Prop) → Prop
  ex : (τ → Prop) → Prop
  h1 : ∀ P, all P → ∀ x, P x
  h2 : ∀ P, ex P → ∃ x, P x
def Q1 (α : Type) : Qn α := ⟨fun P => ∀ x, P x, fun P => ∃ x, P x, fun _ h => h, fun _ h => h⟩
def Q2 (α β : Type) : Qn (α × β) := ⟨fun P => ∀ x y, P (x, y), fun P => ∃ x y, P (x, y), fun _ h ⟨x, y⟩ => h x y, fun _ ⟨x, y, h⟩ => ⟨(x, y), h⟩⟩
def Q3 (α β γ : Type) : Qn (α × β × γ) := ⟨fun P => ∀ x y z, P (x, y, z), fun P => ∃ x y z, P (x, y, z), fun _ h ⟨x, y, z⟩ => h x y z, fun _ ⟨x, y, z, h⟩ => ⟨(x, y, z), h⟩⟩
def Q4 (α β γ δ : Type) : Qn (α × β × γ × δ) := ⟨fun P => ∀ x y z u, P (x, y, z, u), fun P => ∃ x y z u, P (x, y, z, u), fun _ h ⟨x, y, z, u⟩ => h x y z u, fun _ ⟨x, y, z, u, h⟩ => ⟨(x, y, z, u), h⟩⟩
def Q5 (α β γ δ ε : Type) : Qn (α × β × γ × δ × ε) := ⟨fun P => ∀ x y z u v, P (x, y, z, u, v), fun P => ∃ x y z u v, P (x, y, z, u, v), fun _ h ⟨x, y, z, u, v⟩ => h x y z u v, fun _ ⟨x, y, z, u, v, h⟩ => ⟨(x, y, z, u, v), h⟩⟩

/-- Hints along a run. -/
inductive T : Type 1 where
  | fin (ren : List (Nat × Nat))
  | back (ren : List (Nat × Nat))
  | br (a b : T)
  | lit (t : T)
  | yes (t : T)
  | no (t : T)
  | raw (t : T)
  | elem (α : Type) (enc : α → List Dat) (l : List α) (t : α → T)
  | row (r : List Dat) (t : T)
  | len (n : Nat) (t : T)
  | mk (n : Nat) (zr : List Dat) (zs : List (List Dat)) (t : T)
  | set (α : Type) (enc : α → List Dat) (l : List α) (y : α → α) (t : α → T)
  | app (α : Type) (enc : α → List Dat) (l l2 : List α) (t : T)
  | appx (α : Type) (enc : α → List Dat) (l : List α) (x : α) (t : T)
  | appr (zs : List (List Dat)) (t : T)
  | call (rv : AV) (rr : List (Nat × Rs)) (t : T)
  | callx (fs : List AV) (ri : List (Nat × Rs)) (ren : List (Nat × Nat)) (rv : AV) (ro : List (Nat × Rs)) (t : T)
  | loop (τ : Type) (q : Qn τ) (W V : List Nat) (osl : τ → Sl) (ors : τ → Rl) (inv : τ → Prop) (m : τ → Nat) (t : τ → T)

/-- The facts on types that a walk uses. -/
structure Tb where
  ty : List (Nat × (Bool × Nat × Nat × Value))
  sl : List (Nat × Nat)
  fl : List (Nat × List (Nat × (Nat × Nat)))
  pl : List (Nat × (Value × List (Nat × Nat)))
  bo : List (Nat × Unit)
def look {α : Type} : List (Nat × α) → Nat → Option α
  | [], _ => none
  | (k, v) :: l, t => match Nat.beq t k with | true => some v | false => look l t
def Forall {α : Type} (p : Nat → α → Prop) : List (Nat × α) → Prop
  | [] => True
  | (k, v) :: l => p k v ∧ Forall p l
theorem look_of {α : Type} {p : Nat → α → Prop} : ∀ {l : List (Nat × α)} {t : Nat} {x : α}, Forall p l → look l t = some x → p t x
  | [], _, _, _, h => by simp [look] at h
  | (k, v) :: l, t, x, hf, h => by
    unfold look at h
    split at h
    · rename_i e
      have := Nat.eq_of_beq_eq_true e
      subst this
      injection h with h
      subst h
      exact hf.1
    · exact look_of hf.2 h
structure TbOk (P : Program) (tb : Tb) : Prop where
  ty : Forall (fun t x => tyOf P t = some x) tb.ty
  sl : Forall (fun t e => P.underlying t = some (.slice e)) tb.sl
  fl : Forall (fun t l => Forall (fun f x => fieldOf P t f = some x) l) tb.fl
  pl : Forall (fun t x => placesOf P t = some x) tb.pl
  bo : Forall (fun t _ => P.underlying t = some .bool) tb.bo

def inR (n : Int) : Prop := -9223372036854775808 ≤ n ∧ n ≤ 9223372036854775807
abbrev vI (n : Int) : AV := .p none (.int .i64 n)
abbrev vB (b : Bool) : AV := .p none (.bool b)
def EqD : Dat → Dat → Prop
  | .int k a, .int k' b => if k = k' then a = b else False
  | .bool a, .bool b => a = b
  | .str a, .str b => a = b
  | .sl e k xs, .sl e' k' ys => match Nat.beq e e' && Nat.beq k k' with | true => xs = ys | false => False
  | _, _ => False
theorem EqD.eq : ∀ {x y : Dat}, EqD x y → x = y := by
  intro x y h
  unfold EqD at h
  split at h
  · split at h
    · rename_i e; subst e; rw [h]
    · cases h
  · rw [h]
  · rw [h]
  · split at h
    · rename_i e
      rw [Bool.and_eq_true] at e
      rw [Nat.eq_of_beq_eq_true e.1, Nat.eq_of_beq_eq_true e.2, h]
    · cases h
  · cases h
def EqN (a b : Nat) (K : Prop) : Prop := match Nat.beq a b with | true => K | false => False
theorem EqN.eq {a b : Nat} {K : Prop} (h : EqN a b K) : a = b ∧ K := by
  unfold EqN at h
  split at h
  · rename_i e; exact ⟨Nat.eq_of_beq_eq_true e, h⟩
  · cases h
def eqO : Option Nat → Option Nat → Bool
  | none, none => true
  | some a, some b => Nat.beq a b
  | _, _ => false
theorem eqO_eq : ∀ {a b : Option Nat}, eqO a b = true → a = b
  | none, none, _ => rfl
  | some a, some b, h => by rw [Nat.eq_of_beq_eq_true h]
  | none, some _, h => by cases h
  | some _, none, h => by cases h
mutual
def EqA : AV → AV → Prop → Prop
  | .p o x, y, K => (match y with | .p o' x' => (match eqO o o' with | true => EqD x x' ∧ K | false => False) | _ => False)
  | .own h, y, K => (match y with | .own h' => EqN h h' K | _ => False)
  | .ptr h o, y, K => (match y with | .ptr h' o' => EqN h h' (EqN o o' K) | _ => False)
  | .nil, y, K => (match y with | .nil => K | _ => False)
  | .no, y, K => (match y with | .no => K | _ => False)
  | .agg cs, y, K => (match y with | .agg cs' => EqAL cs cs' K | _ => False)
  | .tup cs, y, K => (match y with | .tup cs' => EqAL cs cs' K | _ => False)
  | .fn f cs, y, K => (match y with | .fn f' cs' => EqN f f' (EqAL cs cs' K) | _ => False)
  | x, y, K => x = y ∧ K
def EqAL : List AV → List AV → Prop → Prop
  | [], ys, K => (match ys with | [] => K | _ => False)
  | x :: xs, ys, K => (match ys with | y :: ys => EqA x y (EqAL xs ys K) | [] => False)
end
mutual
theorem EqA.eq : ∀ (x y : AV) (K : Prop), EqA x y K → x = y ∧ K
  | .p o x, y, K, h => by
    unfold EqA at h
    split at h
    · split at h
      · rename_i e; exact ⟨by rw [eqO_eq e, EqD.eq h.1], h.2⟩
      · cases h
    · cases h
  | .own h, y, K, hh => by
    unfold EqA at hh
    split at hh
    · exact ⟨by rw [hh.eq.1], hh.eq.2⟩
    · cases hh
  | .ptr h o, y, K, hh => by
    unfold EqA at hh
    split at hh
    · exact ⟨by rw [hh.eq.1, hh.eq.2.eq.1], hh.eq.2.eq.2⟩
    · cases hh
  | .nil, y, K, h => by
    unfold EqA at h
    split at h
    · exact ⟨rfl, h⟩
    · cases h
  | .no, y, K, h => by
    unfold EqA at h
    split at h
    · exact ⟨rfl, h⟩
    · cases h
  | .agg cs, y, K, h => by
    unfold EqA at h
    split at h
    · have := EqAL.eq cs _ K h; exact ⟨by rw [this.1], this.2⟩
    · cases h
  | .tup cs, y, K, h => by
    unfold EqA at h
    split at h
    · have := EqAL.eq cs _ K h; exact ⟨by rw [this.1], this.2⟩
    · cases h
  | .fn f cs, y, K, h => by
    unfold EqA at h
    split at h
    · have := EqAL.eq cs _ K h.eq.2; exact ⟨by rw [h.eq.1, this.1], this.2⟩
    · cases h
  | .ep _ _ _ _, y, K, h => by unfold EqA at h; exact h
  | .rp _ _, y, K, h => by unfold EqA at h; exact h
  | .bsl _ _, y, K, h => by unfold EqA at h; exact h
theorem EqAL.eq : ∀ (xs ys : List AV) (K : Prop), EqAL xs ys K → xs = ys ∧ K
  | [], ys, K, h => by
    unfold EqAL at h
    split at h
    · exact ⟨rfl, h⟩
    · cases h
  | x :: xs, ys, K, h => by
    unfold EqAL at h
    split at h
    · rename_i y ys'
      have h1 := EqA.eq x y _ h
      have h2 := EqAL.eq xs _ K h1.2
      exact ⟨by rw [h1.1, h2.1], h2.2⟩
    · cases h
end
def EqR : Rs → Rs → Prop → Prop
  | .box t cs, y, K => (match y with | .box t' cs' => EqN t t' (EqAL cs cs' K) | _ => False)
  | .arr e k d xs, y, K => (match y with | .arr e' k' d' ys => (match Nat.beq e e' && Nat.beq k k' && (d == d') with | true => xs = ys ∧ K | false => False) | _ => False)
theorem EqR.eq {x y : Rs} {K : Prop} (h : EqR x y K) : x = y ∧ K := by
  cases x with
  | box t cs =>
    simp only [EqR] at h
    split at h
    · have := EqAL.eq cs _ K h.eq.2; exact ⟨by rw [h.eq.1, this.1], this.2⟩
    · cases h
  | arr e k d xs =>
    simp only [EqR] at h
    split at h
    · split at h
      · rename_i hb
        simp only [Bool.and_eq_true, beq_iff_eq] at hb
        exact ⟨by rw [Nat.eq_of_beq_eq_true hb.1.1, Nat.eq_of_beq_eq_true hb.1.2, hb.2, h.1], h.2⟩
      · cases h
    · cases h

/-- h is named by nothing that is seen. -/
def freshV (sl : Sl) (rs : Rl) (h : Nat) : Bool :=
  (Nat.ble 100 h && (match findO rs h with | none => true | some _ => false)) && sl.all (fun q => !(ments (findS sl q.1)).contains h) && rs.all (fun q => match findO rs q.1 with | some r => !(mentsR r).contains h | none => true)
theorem freshV_ok {sl : Sl} {rs : Rl} {h : Nat} (hb : freshV sl rs h = true) : Fresh (mk sl rs) h := by
  unfold freshV at hb
  simp only [Bool.and_eq_true, List.all_eq_true] at hb
  obtain ⟨⟨⟨h0, h1⟩, h2⟩, h3⟩ := hb
  refine ⟨fun t ht => ?_, fun h' r hr hm => ?_, ?_, Nat.le_of_ble_eq_true h0⟩
  · simp only [mk] at ht
    have : t ∈ sl.map (·.1) := by
      refine Classical.byContradiction fun hn => ?_
      have e : ∀ (l : Sl), t ∉ l.map (·.1) → findS l t = .no := by
        intro l
        induction l with
        | nil => intro _; rfl
        | cons q l ih =>
          intro hn
          simp only [List.map_cons, List.mem_cons, not_or] at hn
          simp only [findS]
          rw [if_neg hn.1]; exact ih hn.2
      rw [e sl hn] at ht
      simp [ments] at ht
    obtain ⟨q, hq, rfl⟩ := List.mem_map.1 this
    have := h2 q hq
    simp only [Bool.not_eq_true', List.contains_eq_mem, decide_eq_false_iff_not] at this
    exact this ht
  · simp only [mk] at hr
    have : h' ∈ rs.map (·.1) := by
      refine Classical.byContradiction fun hn => ?_
      have e : ∀ (l : Rl), h' ∉ l.map (·.1) → findO l h' = none := by
        intro l
        induction l with
        | nil => intro _; rfl
        | cons q l ih =>
          intro hn
          simp only [List.map_cons, List.mem_cons, not_or] at hn
          simp only [findO]
          rw [if_neg hn.1]; exact ih hn.2
      rw [e rs hn] at hr
      cases hr
    obtain ⟨q, hq, rfl⟩ := List.mem_map.1 this
    have := h3 q hq
    rw [hr] at this
    simp only [Bool.not_eq_true', List.contains_eq_mem, decide_eq_false_iff_not] at this
    exact this hm
  · simp only [mk]
    cases hf : findO rs h with
    | none => rfl
    | some r => simp [hf] at h1

/- One operation. -/
def arW (k : IntKind) (r : Int) (t : T) (K : AV → T → Prop) : Prop := match k with
  | .i64 => match t with | .raw t => K (.p none (.int .i64 (IntKind.i64.wrap r))) t | t => inR r ∧ K (.p none (.int .i64 r)) t
  | k => K (.p none (.int k (k.wrap r))) t
def bitI (op : BinOp) (k : IntKind) (m n : Int) : Int := k.wrap (match op with
  | .and => (BitVec.ofInt k.bits m &&& BitVec.ofInt k.bits n).toNat
  | .or => (BitVec.ofInt k.bits m ||| BitVec.ofInt k.bits n).toNat
  | .xor => (BitVec.ofInt k.bits m ^^^ BitVec.ofInt k.bits n).toNat
  | _ => (BitVec.ofInt k.bits m &&& ~~~ BitVec.ofInt k.bits n).toNat : Nat)
def intW (op : BinOp) (k : IntKind) (m n : Int) (t : T) (K : AV → T → Prop) : Prop := match op with
  | .lss => K (vB (decide (m < n))) t
  | .leq => K (vB (decide (m ≤ n))) t
  | .gtr => K (vB (decide (n < m))) t
  | .geq => K (vB (decide (n ≤ m))) t
  | .eql => K (vB (decide (m = n))) t
  | .neq => K (vB (!decide (m = n))) t
  | .add => arW k (m + n) t K
  | .sub => arW k (m - n) t K
  | .mul => arW k (m * n) t K
  | .quo => n ≠ 0 ∧ arW k (m.tdiv n) t K
  | .rem => n ≠ 0 ∧ K (.p none (.int k (m.tmod n))) t
  | .and => K (.p none (.int k (bitI .and k m n))) t
  | .or => K (.p none (.int k (bitI .or k m n))) t
  | .xor => K (.p none (.int k (bitI .xor k m n))) t
  | .andNot => K (.p none (.int k (bitI .andNot k m n))) t
  | _ => False
def shW (op : BinOp) (k : IntKind) (m n : Int) (t : T) (K : AV → T → Prop) : Prop := match k with
  | .i64 => match op with
    | .shl => (0 ≤ n ∧ n ≤ 64) ∧ arW .i64 (m * 2 ^ n.toNat) t K
    | .shr => (0 ≤ n ∧ n ≤ 64) ∧ K (.p none (.int .i64 (m / 2 ^ n.toNat))) t
    | _ => False
  | _ => False
def strW (op : BinOp) (m n : ByteArray) (t : T) (K : AV → T → Prop) : Prop := match op with
  | .eql => K (vB (m.toList == n.toList)) t
  | .neq => K (vB (!(m.toList == n.toList))) t
  | .add => m.size + n.size ≤ 9223372036854775807 ∧ K (.p none (.str (m ++ n))) t
  | .lss => K (vB (Op.bytesLess m.toList n.toList)) t
  | .geq => K (vB (!Op.bytesLess m.toList n.toList)) t
  | _ => False
def binW (tb : Tb) (op : BinOp) (ty : TypeId) (x y : AV) (t : T) (K : AV → T → Prop) : Prop :=
  match x with
  | .p none (.int k m) => (match y with
    | .p none (.int k' n) => (match op with
      | .shl => shW .shl k m n t K
      | .shr => shW .shr k m n t K
      | op => if k = k' then intW op k m n t K else False)
    | _ => False)
  | .p none (.bool m) => (match y with
    | .p none (.bool n) => (match look tb.bo ty with
      | some _ => (match op with
        | .eql => K (vB (m == n)) t
        | .neq => K (vB (!(m == n))) t
        | _ => False)
      | none => False)
    | _ => False)
  | .p none (.str m) => (match y with
    | .p none (.str n) => strW op m n t K
    | _ => False)
  | _ => False
def unW (op : UnOp) (x : AV) (t : T) (K : AV → T → Prop) : Prop := match op with
  | .not => (match x with | .p none (.bool b) => K (vB (!b)) t | _ => False)
  | .neg => (match x with | .p none (.int k m) => arW k (-m) t K | _ => False)
  | _ => False
def pickW (c x y : AV) (t : T) (K : AV → T → Prop) : Prop := match c with
  | .p none (.bool b) => (match t with
    | .br t1 t2 => (b = true → K x t1) ∧ (b = false → K y t2)
    | .lit t => (match b with | true => K x t | false => K y t)
    | .yes t => b = true ∧ K x t
    | .no t => b = false ∧ K y t
    | t => (match b with | true => K x t | false => K y t))
  | _ => False
def liveB (rs : Rl) : Option Nat → Bool
  | none => true
  | some h => (findO rs h).isSome
/-- An element of rows. -/
def elemW (xs : List (List Dat)) (i : Nat) (t : T) (K : List Dat → T → Prop) : Prop := match t with
  | .elem _ enc l t => xs = l.map enc ∧ i < l.length ∧ ∀ x, l[i]? = some x → K (enc x) (t x)
  | .row r t => xs[i]? = some r ∧ K r t
  | _ => False
def idxW (tb : Tb) (rs : Rl) (ty : TypeId) (x y : AV) (t : T) (K : AV → T → Prop) : Prop :=
  match y with
  | .p none (.int _ n) => (match look tb.sl ty with
    | some e => (match look tb.ty e with
      | some q => (match x with
        | .p o (.sl _ k xs) => (match Nat.beq k q.2.1 && liveB rs o with
          | true => 0 ≤ n ∧ elemW xs n.toNat t (fun r t => K (.rp o r) t)
          | false => False)
        | .own h => (match findO rs h with
          | some (.arr _ k _ xs) => (match Nat.beq k q.2.1 with
            | true => (match t with | .len m t => 0 ≤ n ∧ xs.length = m ∧ n < m ∧ K (.ep h k n.toNat 0) t | _ => False)
            | false => False)
          | _ => False)
        | _ => False)
      | none => False)
    | none => False)
  | _ => False
def fldW (tb : Tb) (rs : Rl) (s : TypeId) (x : AV) (f : Nat) (K : AV → Prop) : Prop := match look tb.fl s with
  | some l => (match look l f with
    | some q => (match x with
      | .ptr h o => K (.ptr h (o + q.1))
      | .ep h k i o => (match liveB rs (some h) with | true => K (.ep h k i (o + q.1)) | false => False)
      | .rp o xs => (match liveB rs o with | true => K (.rp o (xs.drop q.1)) | false => False)
      | _ => False)
    | none => False)
  | none => False
def loadW (tb : Tb) (rs : Rl) (ty : TypeId) (x : AV) (t : T) (K : AV → T → Prop) : Prop := match look tb.ty ty with
  | some (ag, n, _, _) => (match x with
    | .ptr h off => (match findO rs h with
      | some (.box _ cs) => (match ag with
        | true => (match Nat.ble (off + n) cs.length with | true => K (.agg ((cs.drop off).take n)) t | false => False)
        | false => (match cs[off]? with | some v => K v t | none => False))
      | _ => False)
    | .rp o xs => (match liveB rs o with
      | true => (match ag with
        | true => (match Nat.ble n xs.length with | true => K (.agg ((xs.take n).map (pOf o))) t | false => False)
        | false => (match xs[0]? with | some y => K (pOf o y) t | none => False))
      | false => False)
    | .ep h k i off => (match findO rs h with
      | some (.arr _ k' dp xs) => (match Nat.beq k k' with
        | true => elemW xs i t (fun row t => match ag with
          | true => (match Nat.ble (off + n) row.length with | true => K (.agg (((row.drop off).take n).map (pOf (match dp with | true => some h | false => none)))) t | false => False)
          | false => (match row[off]? with | some y => K (pOf (match dp with | true => some h | false => none) y) t | none => False))
        | false => False)
      | _ => False)
    | _ => False)
  | none => False
def cell1B (rs : Rl) : AV → Bool
  | .p o _ => liveB rs o
  | .own h => liveB rs (some h)
  | .ptr h _ => liveB rs (some h)
  | .ep h _ _ _ => liveB rs (some h)
  | .rp o _ => liveB rs o
  | .bsl h _ => liveB rs (some h)
  | .fn _ _ => true
  | .nil => true
  | .agg _ => true
  | _ => false
def datsOf : List AV → Option (List Dat)
  | [] => some []
  | .p none x :: l => (match x.val? with
    | some _ => (match datsOf l with | some ds => some (x :: ds) | none => none)
    | none => none)
  | _ => none
def flatB : List Dat → Bool
  | [] => true
  | x :: l => x.val?.isSome && flatB l
def stW (tb : Tb) (rs : Rl) (ty : TypeId) (x y : AV) (t : T) (K : List Nat → List (Nat × Rs) → T → Prop) : Prop := match look tb.ty ty with
  | some (_, n, _, _) => (match x with
    | .ptr h off => (match findO rs h with
      | some (.box tq cs) => (match cell1B rs y && Nat.beq (cellsA y).length n && Nat.ble (off + n) cs.length with
        | true => K [h] [(h, .box tq (cs.take off ++ cellsA y ++ cs.drop (off + n)))] t
        | false => False)
      | _ => False)
    | .ep h k i off => (match findO rs h with
      | some (.arr e k' dp xs) => (match Nat.beq k k' with
        | true => (match datsOf (cellsA y) with
          | some ys => (match Nat.beq ys.length n with
            | true => (match t with
              | .set _ enc l y t => xs = l.map enc ∧ i < l.length ∧ ∀ x, l[i]? = some x → flatB (enc x) = true ∧ off + n ≤ (enc x).length ∧ (enc x).take off ++ ys ++ (enc x).drop (off + n) = enc (y x) ∧ K [h] [(h, .arr e k dp ((l.set i (y x)).map enc))] (t x)
              | _ => False)
            | false => False)
          | none => False)
        | false => False)
      | _ => False)
    | _ => False)
  | none => False
def buildW (tb : Tb) (rs : Rl) (ty : TypeId) (parts : List (Nat × AV)) (K : AV → Prop) : Prop := match look tb.pl ty with
  | some (z, ps) => (match parts.all (fun q => cell1B rs q.2) with
    | true => (match fillA (ps.toArray[·]?) (z.cells.toList.map avC) parts with | some cs => K (.agg cs) | none => False)
    | false => False)
  | none => False
def chunk (k : Nat) : Nat → List Dat → List (List Dat)
  | 0, _ => []
  | n + 1, l => l.take k :: chunk k n (l.drop k)
def bslW (tb : Tb) (sl : Sl) (rs : Rl) (d : Nat) (ty : TypeId) (n : Nat) (parts : List (Nat × AV)) (K : AV → List (Nat × Rs) → Prop) : Prop := match look tb.sl ty with
  | some e => (match look tb.ty e with
    | some (_, k, _, _) => (match freshV sl rs (100 * d) with
      | true => (match n with
        | 0 => (match parts with | [] => K (.own (100 * d)) [(100 * d, .arr e k true [])] | _ => False)
        | n => (match parts.all (fun q => cell1B rs q.2) && Nat.ble (n * k) 16777216 && Nat.blt 0 (n * k) with
          | true => (match fillA (fun i => some (i * k, k)) (List.replicate (n * k) AV.no) parts with
            | some cs => (match datsOf cs with
              | some ds => (match Nat.beq ds.length (n * k) with | true => K (.own (100 * d)) [(100 * d, .arr e k true (chunk k n ds))] | false => False)
              | none => (match (mentsL cs).contains (100 * d) with | true => False | false => K (.bsl (100 * d) n) [(100 * d, .box e cs)]))
            | none => False)
          | false => False))
      | false => False)
    | none => False)
  | none => False
def zeroB : List Value → List Dat → Bool
  | [], [] => true
  | .int k n :: vs, .int k' m :: ds => (if k = k' then true else false) && (if n = m then true else false) && zeroB vs ds
  | .bool a :: vs, .bool b :: ds => (a == b) && zeroB vs ds
  | .slice none 0 0 :: vs, .sl _ _ [] :: ds => zeroB vs ds
  | _, _ => false
def mkW (tb : Tb) (sl : Sl) (rs : Rl) (d : Nat) (ty : TypeId) (x y : AV) (t : T) (K : AV → List (Nat × Rs) → T → Prop) : Prop := match look tb.sl ty with
  | some e => (match look tb.ty e with
    | some (_, k, bt, z) => (match freshV sl rs (100 * d) with
      | true => (match x with
        | .p none (.int _ a) => (match y with
          | .p none (.int _ b) => (match t with
            | .mk n zr zs t => (match zeroB z.cells.toList zr with
              | true => a = n ∧ b = n ∧ bt * n ≤ 281474976710656 ∧ n ≤ 9223372036854775807 ∧ List.replicate n zr = zs ∧ K (.own (100 * d)) [(100 * d, .arr e k true zs)] t
              | false => False)
            | _ => False)
          | _ => False)
        | _ => False)
      | false => False)
    | none => False)
  | none => False
def lenW (rs : Rl) (x : AV) (t : T) (K : AV → T → Prop) : Prop := match x with
  | .p o (.sl _ _ xs) => (match liveB rs o with
    | true => (match t with | .len n t => xs.length = n ∧ K (vI n) t | _ => False)
    | false => False)
  | .own h => (match findO rs h with
    | some (.arr _ _ _ xs) => (match t with | .len n t => xs.length = n ∧ K (vI n) t | _ => False)
    | _ => False)
  | .nil => K (vI 0) t
  | _ => False
def moveP (rs : Rl) : List AV → List Dat → Prop → Prop
  | [], row, K => (match row with | [] => K | _ => False)
  | c :: cs, row, K => (match row with
    | [] => False
    | x :: row => (match c with
      | .p none y => (match y.val? with | some _ => EqD y x ∧ moveP rs cs row K | none => False)
      | .own g => (match x with
        | .sl e k ys => (match findO rs g with
          | some (.arr e' k' true xs) => (match Nat.beq e' e && Nat.beq k' k with | true => xs = ys ∧ moveP rs cs row K | false => False)
          | _ => False)
        | _ => False)
      | .nil => (match x with | .sl _ _ ys => ys = [] ∧ moveP rs cs row K | _ => False)
      | _ => False))
def moveH : List AV → List Nat
  | [] => []
  | .own g :: cs => g :: moveH cs
  | _ :: cs => moveH cs
def tgtW (rs : Rl) (e k : Nat) (x : AV) (K : List Nat → Bool → List (List Dat) → Prop) : Prop := match x with
  | .own h => (match findO rs h with
    | some (.arr e' k' dp xs) => (match Nat.beq e' e && Nat.beq k' k with | true => K [h] dp xs | false => False)
    | _ => False)
  | .nil => K [] true []
  | _ => False
def srcW (rs : Rl) (k : Nat) (x : AV) (K : List (List Dat) → Prop) : Prop := match x with
  | .p o (.sl _ k' xs) => (match liveB rs o && Nat.beq k' k with | true => K xs | false => False)
  | .own h => (match findO rs h with
    | some (.arr _ k' _ xs) => (match Nat.beq k' k with | true => K xs | false => False)
    | _ => False)
  | .nil => K []
  | _ => False
def nodupB : List Nat → Bool
  | [] => true
  | x :: l => !l.contains x && nodupB l
def appW (tb : Tb) (sl : Sl) (rs : Rl) (d : Nat) (ty : TypeId) (s x : AV) (t : T) (K : AV → List Nat → List (Nat × Rs) → T → Prop) : Prop := match look tb.sl ty with
  | some e => (match look tb.ty e with
    | some (_, k, bt, _) => (match freshV sl rs (100 * d) && Nat.blt 0 k && Nat.blt 0 bt with
      | true => tgtW rs e k s (fun del dp xs => match t with
        | .app _ enc l l2 t => xs = l.map enc ∧ srcW rs k x (fun ys => ys = l2.map enc) ∧ (∀ x, flatB (enc x) = true) ∧ (l.length + l2.length) * bt ≤ 140737488355328 ∧ K (.own (100 * d)) del [(100 * d, .arr e k dp ((l ++ l2).map enc))] t
        | .appx _ enc l y t => (match dp with
          | true => (match x with
            | .bsl h2 1 => (match findO rs h2 with
              | some (.box _ cs) => (match nodupB (del ++ moveH cs) with
                | true => (match Nat.beq (enc y).length k with | true => xs = l.map enc ∧ moveP rs cs (enc y) ((l.length + 1) * bt ≤ 140737488355328 ∧ K (.own (100 * d)) (del ++ moveH cs) [(100 * d, .arr e k true ((l ++ [y]).map enc))] t) | false => False)
                | false => False)
              | _ => False)
            | _ => False)
          | false => False)
        | _ => False)
      | false => False)
    | none => False)
  | none => False
def callW (P : Program) (sl : Sl) (rs : Rl) (d : Nat) (f : FuncId) (args : List AV) (t : T) (K : AV → List (Nat × Rs) → T → Prop) : Prop := match t with
  | .call rv rr t => (match asArsF rs args with
    | some ys => (match ((closedA rv && rr.all fun q => deepR q.2) || settledL args) && (rr.all fun q => arrR q.2 && freshV sl rs (100 * d + q.1)) && ((ments rv).all fun h => (findH rr h).isSome) with
      | true => Con P f ys rv rr ∧ K (mapA (100 * d + ·) rv) (rr.map fun q => (100 * d + q.1, q.2)) t
      | false => False)
    | none => False)
  | _ => False
/-- An operation that yields a value for slot d. -/
def valW (P : Program) (tb : Tb) (sl : Sl) (rs : Rl) (d : Nat) (o : Op) (t : T) (K : AV → List Nat → List (Nat × Rs) → T → Prop) : Prop := match o with
  | .move x => K (evE sl x) [] [] t
  | .assign x => K (evE sl x) [] [] t
  | .pick c x y => pickW (evE sl c) (evE sl x) (evE sl y) t (fun v t => K v [] [] t)
  | .extract x i => (match evE sl x with | .tup vs => (match vs[i]? with | some v => K v [] [] t | none => False) | _ => False)
  | .binOp op ty x y _ => binW tb op ty (evE sl x) (evE sl y) t (fun v t => K v [] [] t)
  | .unOp op _ x => unW op (evE sl x) t (fun v t => K v [] [] t)
  | .fieldAddr s x f => fldW tb rs s (evE sl x) f (fun v => K v [] [] t)
  | .indexAddr ty x y => idxW tb rs ty (evE sl x) (evE sl y) t (fun v t => K v [] [] t)
  | .load ty x => loadW tb rs ty (evE sl x) t (fun v t => K v [] [] t)
  | .alloc ty => (match look tb.ty ty with | some (_, _, _, z) => (match freshV sl rs (100 * d) with | true => K (.ptr (100 * d) 0) [] [(100 * d, .box ty (z.cells.toList.map avC))] t | false => False) | none => False)
  | .box ty x => (match cell1B rs (evE sl x) && freshV sl rs (100 * d) with | true => K (.ptr (100 * d) 0) [] [(100 * d, .box ty (cellsA (evE sl x)))] t | false => False)
  | .build ty parts => buildW tb rs ty (parts.toList.map fun q => (q.1, evE sl q.2)) (fun v => K v [] [] t)
  | .buildSlice ty n parts => bslW tb sl rs d ty n (parts.toList.map fun q => (q.1, evE sl q.2)) (fun v new => K v [] new t)
  | .makeSlice ty x y => mkW tb sl rs d ty (evE sl x) (evE sl y) t (fun v new t => K v [] new t)
  | .call c => (match c with
    | ⟨.builtin b, ⟨args⟩, ⟨ts⟩⟩ => (match b with
      | .len => (match args, ts with
        | [x], [ty] => (match look tb.sl ty with | some _ => lenW rs (evE sl x) t (fun v t => K v [] [] t) | none => False)
        | _, _ => False)
      | .append => (match args, ts with
        | [s, x], [ty, ty'] => EqN ty' ty (appW tb sl rs d ty (evE sl s) (evE sl x) t K)
        | _, _ => False)
      | _ => False)
    | ⟨.value x, ⟨args⟩, _⟩ => (match evE sl x with
      | .fn f caps => callW P sl rs d f (args.map (evE sl) ++ caps) t (fun v new t => K v [] new t)
      | _ => False)
    | _ => False)
  | .makeFunc (.func f) ⟨[]⟩ captured => K (.fn f (captured.toList.map (evE sl))) [] [] t
  | _ => False
def opW (P : Program) (tb : Tb) (sl : Sl) (rs : Rl) (dst : Option Nat) (o : Op) (t : T) (K : AV → List Nat → List (Nat × Rs) → T → Prop) : Prop := match dst with
  | some d => valW P tb sl rs d o t K
  | none => (match o with
    | .store ty x y => stW tb rs ty (evE sl x) (evE sl y) t (fun del new t => K .no del new t)
    | _ => False)
end Go.Proofs.Ytcgjlddpbkponaa
