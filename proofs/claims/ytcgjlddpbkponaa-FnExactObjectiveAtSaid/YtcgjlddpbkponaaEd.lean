/-
  Steps that leave memory as it is: moves, numbers, lengths, addresses, loads.
-/
import Derived.Test.YtcgjlddpbkponaaEc
import Derived.Laws.Cells
import Derived.Laws.CopyRow
namespace Go.Proofs.Ytcgjlddpbkponaa
open Go.ChangeShapes Go.WideShapes Go.ChangeAt Go.RowKit
set_option linter.unusedVariables false
set_option linter.unusedSimpArgs false

/-- What is known of a type: is it a struct or an array; its cells; its bytes; its zero value. -/
def tyOf (P : Program) (t : TypeId) : Option (Bool × Nat × Nat × Value) :=
  match P.info? t, P.underlying t with
  | some i, some d => match i.zero with
    | some z => if z.cells.size = i.size ∧ z.cells.toList.all Value.oneCell' = true then some ((match d with | .struct _ | .array _ _ => true | _ => false), i.size, i.bytes, z) else none
    | none => none
  | _, _ => none
theorem tyOf_spec {P : Program} {t : TypeId} {g : Bool} {n b : Nat} {z : Value} (h : tyOf P t = some (g, n, b, z)) (w : World) :
    (isAgg t).run P w = .ok g w ∧ (sizeOf t).run P w = .ok n w ∧ (zeroValue t).run P w = .ok z w ∧ (typeInfo t).run P w = .ok ((P.info? t).getD default) w ∧ ((P.info? t).getD default).bytes = b ∧ P.info? t = some ((P.info? t).getD default) ∧ ((P.info? t).getD default).size = n ∧ ((P.info? t).getD default).zero = some z := by
  unfold tyOf at h
  split at h
  · rename_i i d hi hd
    split at h
    · rename_i z' hz
      split at h
      · simp only [Option.some.injEq, Prod.mk.injEq] at h
        obtain ⟨h1, h2, h3, h4⟩ := h
        subst h4
        refine ⟨?_, ?_, ?_, ?_, ?_, ?_, ?_, ?_⟩
        · simp only [isAgg, Sem.run_bind, run_underlying hd, Result.andThen_ok]
          subst h1
          cases d <;> rfl
        · simp [sizeOf, typeInfo, hi, h2]
        · simp [zeroValue, typeInfo, hi, hz]
        · simp [typeInfo, hi]
        · simp [hi, h3]
        · simp [hi]
        · simp [hi, h2]
        · simp [hi, hz]
      · cases h
    · cases h
  · cases h
theorem tyOf_zero {P : Program} {t : TypeId} {g : Bool} {n b : Nat} {z : Value} (h : tyOf P t = some (g, n, b, z)) : z.cells.size = n ∧ ∀ u ∈ z.cells.toList, u.oneCell' = true := by
  unfold tyOf at h
  split at h
  · split at h
    · split at h
      · rename_i hc
        simp only [Option.some.injEq, Prod.mk.injEq] at h
        obtain ⟨h1, h2, h3, h4⟩ := h
        subst h4
        exact ⟨by rw [← h2]; exact hc.1, fun u hu => List.all_eq_true.1 hc.2 u hu⟩
      · cases h
    · cases h
  · cases h

/-- Effect of a step: what the slot takes; which handles go or are written anew; what comes. -/
structure Eff where
  v : AV
  del : List Nat
  new : List (Nat × Rs)
def findH : List (Nat × Rs) → Nat → Option Rs
  | [], _ => none
  | (k, r) :: l, h => if h = k then some r else findH l h
theorem findH_nil : findH [] = fun _ => none := by funext h; rfl
def St.apply (S : St) (d : Option Nat) (e : Eff) : St := ({ S with res := stepRes (· ∈ e.del) (findH e.new) S.res } : St).put d e.v
def avC : Value → AV
  | .int k n => .p none (.int k n)
  | .bool b => .p none (.bool b)
  | .string s => .p none (.str s)
  | .slice none 0 0 => .nil
  | _ => .no
def St.ev (S : St) : Operand → AV
  | .tmp t => S.slots t
  | .const v => avC v
  | .func f => .fn f []
  | .global _ => .no
theorem avC_match (K : Nat → Prop) (φ : Phi) (w : World) (v : Value) : MatchV K φ w (avC v) v := by
  unfold avC
  split <;> unfold MatchV
  · unfold RdV; rfl
  · unfold RdV; rfl
  · unfold RdV; rfl
  · rfl
  · trivial

section
variable {K : Nat → Prop} {φ : Phi} {A : Nat → Prop} {w0 : World} {N : Nat} {S : St} {a : Act} {w : World} {P : Program}
theorem G.ev (hG : G K φ A w0 N S a w) (x : Operand) : MatchV K φ w (S.ev x) (a.eval x) := by
  cases x with
  | tmp t => exact hG.slots t
  | const v => exact avC_match K φ w v
  | func f => simp only [St.ev, Act.eval]; unfold MatchV; exact ⟨#[], rfl, by unfold MatchL; rfl⟩
  | global g => simp only [St.ev]; unfold MatchV; trivial
theorem St.apply_nil (S : St) (d : Option Nat) (v : AV) : S.apply d ⟨v, [], []⟩ = S.put d v := by
  have : stepRes (· ∈ ([] : List Nat)) (findH []) S.res = S.res := by
    funext h
    simp [stepRes, findH]
  simp only [St.apply, this]

/-- The step is right: whatever the frame and the world. -/
def Sound (P : Program) (o : Oper) (S : St) (e : Eff) : Prop :=
  ∀ (K : Nat → Prop) (φ : Phi) (A : Nat → Prop) (w0 : World) (N : Nat) (a : Act) (w : World) (Q : Exit → Act → World → Prop), (∀ d, o.dst = some d → d < N) → G K φ A w0 N S a w →
    o.wp P a w (fun a' w' => ∃ K' φ' v, a' = a.put o.dst v ∧ G K' φ' A w0 N (S.apply o.dst e) a' w' ∧ Tr K φ w (· ∈ e.del) (findH e.new) K' φ' w') Q
/-- A step that computes a value and leaves memory. -/
theorem sound_val {o : Oper} {x : AV} (h : ∀ K φ A w0 N a w, G K φ A w0 N S a w → ∃ v, (execOp a.eval o).run P w = .ok (.value v) w ∧ MatchV K φ w x v) : Sound P o S ⟨x, [], []⟩ := by
  intro K φ A w0 N a w Q hd hG
  obtain ⟨v, hr, hm⟩ := h K φ A w0 N a w hG
  unfold Oper.wp
  rw [hr, Oper.upon_value, St.apply_nil]
  exact ⟨K, φ, v, rfl, hG.put hd hm, Tr.refl _ _ _ _ _⟩

/-- Values without memory behind them. -/
def conc : AV → Option Value
  | .p none x => x.val?
  | .agg [.p none x] => x.val?.map fun a => .agg #[a]
  | .agg [.p none x, .p none y] => match x.val?, y.val? with | some a, some b => some (.agg #[a, b]) | _, _ => none
  | .agg [.p none x, .p none y, .p none z] => match x.val?, y.val?, z.val? with | some a, some b, some c => some (.agg #[a, b, c]) | _, _, _ => none
  | .agg [.p none x, .p none y, .p none z, .p none u] => match x.val?, y.val?, z.val?, u.val? with | some a, some b, some c, some d => some (.agg #[a, b, c, d]) | _, _, _, _ => none
  | _ => none
theorem matchL_scal {K : Nat → Prop} {φ : Phi} {w : World} : ∀ {xs : List Dat} {us vs : List Value}, xs.map Dat.val? = us.map some → MatchL K φ w (xs.map (AV.p none)) vs → vs = us
  | [], us, vs, h, hm => by
    cases us with
    | nil => unfold MatchL at hm; exact hm
    | cons u us => simp at h
  | x :: xs, us, vs, h, hm => by
    cases us with
    | nil => simp at h
    | cons u us =>
      simp only [List.map_cons, List.cons.injEq] at h
      simp only [List.map_cons] at hm
      unfold MatchL at hm
      obtain ⟨v, vs', rfl, h1, h2⟩ := hm
      unfold MatchV at h1
      rw [(RdV.scalar h.1).1 h1, matchL_scal h.2 h2]
theorem conc_match {x : AV} {u v : Value} (h : conc x = some u) (hm : MatchV K φ w x v) : v = u := by
  unfold conc at h
  split at h
  · unfold MatchV at hm; exact (RdV.scalar h).1 hm
  · rename_i x
    unfold MatchV at hm
    obtain ⟨vs, rfl, _, hl⟩ := hm
    cases hx : x.val? with
    | none => simp [hx] at h
    | some p =>
      simp only [hx, Option.map_some, Option.some.injEq] at h
      subst h
      have := matchL_scal (xs := [x]) (us := [p]) (by simp [hx]) hl
      congr 1; apply Array.ext'; simpa using this
  · rename_i x y
    unfold MatchV at hm
    obtain ⟨vs, rfl, _, hl⟩ := hm
    split at h
    · rename_i p q hx hy
      simp only [Option.some.injEq] at h
      subst h
      have := matchL_scal (xs := [x, y]) (us := [p, q]) (by simp [hx, hy]) hl
      congr 1; apply Array.ext'; simpa using this
    · cases h
  · rename_i x y z
    unfold MatchV at hm
    obtain ⟨vs, rfl, _, hl⟩ := hm
    split at h
    · rename_i p q r hx hy hz
      simp only [Option.some.injEq] at h
      subst h
      have := matchL_scal (xs := [x, y, z]) (us := [p, q, r]) (by simp [hx, hy, hz]) hl
      congr 1; apply Array.ext'; simpa using this
    · cases h
  · rename_i x y z u
    unfold MatchV at hm
    obtain ⟨vs, rfl, _, hl⟩ := hm
    split at h
    · rename_i p q r s hx hy hz hu
      simp only [Option.some.injEq] at h
      subst h
      have := matchL_scal (xs := [x, y, z, u]) (us := [p, q, r, s]) (by simp [hx, hy, hz, hu]) hl
      congr 1; apply Array.ext'; simpa using this
    · cases h
  · cases h

theorem sound_scal {o : Oper} {x : Dat} {v : Value} (hx : x.val? = some v)
    (h : ∀ (e : Operand → Value) (w : World), (∀ y u, conc (S.ev y) = some u → e y = u) → (execOp e o).run P w = .ok (.value v) w) : Sound P o S ⟨.p none x, [], []⟩ :=
  sound_val fun K φ A w0 N a w hG => ⟨v, h a.eval w (fun y u hu => conc_match hu (hG.ev y)), by unfold MatchV; exact (RdV.scalar hx).2 rfl⟩
theorem sound_move {o : Oper} {x : Operand} (ho : o.op = .move x ∨ o.op = .assign x) : Sound P o S ⟨S.ev x, [], []⟩ :=
  sound_val fun K φ A w0 N a w hG => ⟨a.eval x, by rcases ho with ho | ho <;> simp [execOp, ho], hG.ev x⟩
theorem sound_pick {o : Oper} {c x y : Operand} {t : Bool} (ho : o.op = .pick c x y) (hc : S.ev c = .p none (.bool t)) : Sound P o S ⟨if t then S.ev x else S.ev y, [], []⟩ :=
  sound_val fun K φ A w0 N a w hG => by
    have h1 : a.eval c = .bool t := conc_match (x := S.ev c) (by rw [hc]; rfl) (hG.ev c)
    refine ⟨if t then a.eval x else a.eval y, by cases t <;> simp [execOp, ho, h1, asBool], ?_⟩
    cases t
    · exact hG.ev y
    · exact hG.ev x
theorem matchL_get {K : Nat → Prop} {φ : Phi} {w : World} : ∀ {xs : List AV} {vs : List Value} {i : Nat} {x : AV}, MatchL K φ w xs vs → xs[i]? = some x → ∃ v, vs[i]? = some v ∧ MatchV K φ w x v
  | [], _, _, _, _, h => by simp at h
  | y :: xs, _, 0, x, hm, h => by
    unfold MatchL at hm
    obtain ⟨v, vs', rfl, h1, _⟩ := hm
    simp at h; subst h; exact ⟨v, rfl, h1⟩
  | y :: xs, _, i + 1, x, hm, h => by
    unfold MatchL at hm
    obtain ⟨v, vs', rfl, _, h2⟩ := hm
    simp at h
    obtain ⟨u, hu, h3⟩ := matchL_get h2 h
    exact ⟨u, by simpa using hu, h3⟩
theorem matchL_len {K : Nat → Prop} {φ : Phi} {w : World} : ∀ {xs : List AV} {vs : List Value}, MatchL K φ w xs vs → vs.length = xs.length
  | [], _, h => by unfold MatchL at h; rw [h]; rfl
  | y :: xs, _, h => by
    unfold MatchL at h
    obtain ⟨v, vs', rfl, _, h2⟩ := h
    simp [matchL_len h2]
theorem matchL_drop {K : Nat → Prop} {φ : Phi} {w : World} : ∀ {xs : List AV} {vs : List Value} (i : Nat), MatchL K φ w xs vs → MatchL K φ w (xs.drop i) (vs.drop i)
  | xs, vs, 0, h => h
  | [], _, i + 1, h => by unfold MatchL at h; subst h; simp only [List.drop_nil]; unfold MatchL; rfl
  | y :: xs, _, i + 1, h => by
    unfold MatchL at h
    obtain ⟨v, vs', rfl, _, h2⟩ := h
    exact matchL_drop i h2
theorem matchL_take {K : Nat → Prop} {φ : Phi} {w : World} : ∀ {xs : List AV} {vs : List Value} (i : Nat), MatchL K φ w xs vs → MatchL K φ w (xs.take i) (vs.take i)
  | xs, vs, 0, h => by simp only [List.take_zero]; unfold MatchL; rfl
  | [], _, i + 1, h => by unfold MatchL at h; subst h; simp only [List.take_nil]; unfold MatchL; rfl
  | y :: xs, _, i + 1, h => by
    unfold MatchL at h
    obtain ⟨v, vs', rfl, h1, h2⟩ := h
    simp only [List.take_succ_cons]
    unfold MatchL
    exact ⟨v, _, rfl, h1, matchL_take i h2⟩
theorem matchL_append {K : Nat → Prop} {φ : Phi} {w : World} : ∀ {xs ys : List AV} {vs us : List Value}, MatchL K φ w xs vs → MatchL K φ w ys us → MatchL K φ w (xs ++ ys) (vs ++ us)
  | [], _, _, _, h, h' => by unfold MatchL at h; subst h; exact h'
  | y :: xs, ys, _, us, h, h' => by
    unfold MatchL at h
    obtain ⟨v, vs', rfl, h1, h2⟩ := h
    simp only [List.cons_append]
    unfold MatchL
    exact ⟨v, _, rfl, h1, matchL_append h2 h'⟩
theorem sound_extract {o : Oper} {x : Operand} {i : Nat} {vs : List AV} {y : AV} (ho : o.op = .extract x i) (hx : S.ev x = .tup vs) (hy : vs[i]? = some y) : Sound P o S ⟨y, [], []⟩ :=
  sound_val fun K φ A w0 N a w hG => by
    have h1 := hG.ev x
    rw [hx] at h1
    unfold MatchV at h1
    obtain ⟨us, he, hl⟩ := h1
    obtain ⟨v, hv, hm⟩ := matchL_get hl hy
    have hv' : us[i]? = some v := by rw [← Array.getElem?_toList]; exact hv
    exact ⟨v, by simp [execOp, ho, he, Instr.extract, hv'], hm⟩

/-- The length of a slice that a slot holds. -/
def lenIs (S : St) : AV → Nat → Prop
  | .p none (.sl _ _ xs), n => n = xs.length
  | .p (some h) (.sl _ _ xs), n => (∃ r, S.res h = some r) ∧ n = xs.length
  | .own h, n => ∃ e k d xs, S.res h = some (.arr e k d xs) ∧ n = xs.length
  | .nil, n => n = 0
  | _, _ => False
theorem G.owned (hG : G K φ A w0 N S a w) {h : Nat} {e k : Nat} {d : Bool} {xs : List (List Dat)} (hr : S.res h = some (.arr e k d xs)) :
    ∃ (pl : Pl) (css : List (List Value)), φ h = some pl ∧ w.ownsRow 0 e k pl.val xs.length css.flatten ∧ css.length = xs.length ∧ (∀ c ∈ css, c.length = k) ∧ pl.top = pl.val.ownBlock.toList ∧
      ∀ (i : Nat) x c, xs[i]? = some x → css[i]? = some c → x.length = k ∧ RdL (In K pl) w x c ∧ (d = false → RdL K w x c) := by
  obtain ⟨pl, hp, hh⟩ := hG.dom h _ hr
  cases d with
  | true =>
    obtain ⟨css, Fs, h1, h2, h3, h4⟩ := hh
    have hl := h4.len
    refine ⟨pl, css, hp, h1, hl.1, hl.2, h2, fun i x c hx hc => ?_⟩
    have := OwRs.rd (A := In K pl) k xs css Fs i x c (fun g hg => .inr (by rw [h3]; exact hg)) h4 hx hc
    exact ⟨this.1, this.2, fun e => by cases e⟩
  | false =>
    obtain ⟨css, h1, h2, h3, h4⟩ := hh
    have hl := h4.len
    refine ⟨pl, css, hp, h1, hl.1, hl.2, h2, fun i x c hx hc => ?_⟩
    have := h4.at_ hx hc
    exact ⟨this.1, RdL.mono (fun _ _ => rfl) (fun b hb => .inl hb) x c this.2, fun _ => this.2⟩
theorem lenIs_match (hG : G K φ A w0 N S a w) {x : AV} {n : Nat} {v : Value} (hn : lenIs S x n) (hm : MatchV K φ w x v) : ∃ b c, v = .slice b n c ∧ n ≤ c ∧ c ≤ maxLen := by
  unfold lenIs at hn
  split at hn
  · unfold MatchV RdV at hm
    obtain ⟨b, c, e, h1, h2, _⟩ := hm
    exact ⟨b, c, by rw [e, hn], by omega, h2⟩
  · obtain ⟨⟨r, hr⟩, hn⟩ := hn
    obtain ⟨pl, hp, _⟩ := hG.dom _ r hr
    unfold MatchV at hm
    have := hm pl hp
    unfold RdV at this
    obtain ⟨b, c, e, h1, h2, _⟩ := this
    exact ⟨b, c, by rw [e, hn], by omega, h2⟩
  · obtain ⟨e, k, d, xs, hr, hn⟩ := hn
    obtain ⟨pl, css, hp, ho, _⟩ := hG.owned hr
    unfold MatchV at hm
    obtain ⟨b, c, e, h1, h2, _⟩ := owns_shape ho
    exact ⟨b, c, by rw [hm pl hp, e, hn], by omega, h2⟩
  · unfold MatchV at hm
    exact ⟨none, 0, by rw [hm, hn], by omega, by unfold maxLen; omega⟩
  · exact hn.elim
end
end Go.Proofs.Ytcgjlddpbkponaa
