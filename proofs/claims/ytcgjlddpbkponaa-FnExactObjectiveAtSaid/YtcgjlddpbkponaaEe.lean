/-
  Steps that leave memory as it is, continued: lengths, fields, addresses, loads, structs built.
-/
import Derived.Test.YtcgjlddpbkponaaEd
import Derived.Laws.Tables
namespace Go.Proofs.Ytcgjlddpbkponaa
open Go.ChangeShapes Go.WideShapes Go.ChangeAt Go.RowKit
set_option linter.unusedVariables false
set_option linter.unusedSimpArgs false

/-- A field that takes memory: its offset and type. -/
def fieldOf (P : Program) (s : TypeId) (f : Nat) : Option (Nat × TypeId) :=
  match P.underlying s with
  | some (.struct fields) => match fields[f]? with
    | some fd => match P.info? fd.type with
      | some i => if i.size = 0 then none else some (fd.offset, fd.type)
      | none => none
    | none => none
  | _ => none
theorem run_fieldAt {P : Program} {s : TypeId} {f off : Nat} {ft : TypeId} (h : fieldOf P s f = some (off, ft)) (w : World) (g o : Nat) : (Instr.fieldAt s (.pointer (some ⟨g, o, none⟩)) f).run P w = .ok (.pointer (some ⟨g, o + off, none⟩)) w := by
  unfold fieldOf at h
  split at h
  · rename_i fields hu
    split at h
    · rename_i fd hf
      split at h
      · rename_i i hi
        split at h
        · cases h
        · rename_i hz
          simp only [Option.some.injEq, Prod.mk.injEq] at h
          obtain ⟨rfl, rfl⟩ := h
          simp [Instr.fieldAt, run_underlying hu, hf, Instr.sureAddr, fieldPlace, sizeOf, typeInfo, hi, hz, add_none]
      · cases h
    · cases h
  · cases h
def liveO (S : St) : Option Nat → Prop
  | none => True
  | some h => ∃ r, S.res h = some r

section
variable {K : Nat → Prop} {φ : Phi} {A : Nat → Prop} {w0 : World} {N : Nat} {S : St} {a : Act} {w : World} {P : Program}
/-- The blocks in which what hangs on o is read. -/
theorem G.inO (hG : G K φ A w0 N S a w) {o : Option Nat} (hl : liveO S o) : ∃ B : Nat → Prop, (∀ x v, MatchV K φ w (.p o x) v ↔ RdV B w x v) ∧ (∀ x v, MatchV K φ w (.rp o x) v ↔ ∃ b, v = .pointer b ∧ RdCs B w x b 0) := by
  cases o with
  | none => exact ⟨K, fun x v => by unfold MatchV; exact Iff.rfl, fun x v => by unfold MatchV; exact Iff.rfl⟩
  | some h =>
    obtain ⟨r, hr⟩ := hl
    obtain ⟨pl, hp, _⟩ := hG.dom h r hr
    refine ⟨In K pl, fun x v => ?_, fun x v => ?_⟩
    · unfold MatchV
      exact ⟨fun h => h pl hp, fun h pl' hp' => by rw [hp] at hp'; injection hp' with e; subst e; exact h⟩
    · unfold MatchV
      exact ⟨fun h => h pl hp, fun h pl' hp' => by rw [hp] at hp'; injection hp' with e; subst e; exact h⟩
theorem sound_len {o : Oper} {x : Operand} {t e : TypeId} {n : Nat} (ho : o.op = .call { callee := .builtin .len, args := #[x], argTypes := #[t] }) (ht : P.underlying t = some (.slice e)) (hn : lenIs S (S.ev x) n) : Sound P o S ⟨.p none (.int .i64 n), [], []⟩ :=
  sound_val fun K φ A w0 N a w hG => by
    obtain ⟨b, c, he, _⟩ := lenIs_match hG hn (hG.ev x)
    refine ⟨.int .i64 n, ?_, by unfold MatchV RdV; rfl⟩
    simp [execOp, ho, resolve, invoke, builtin, Builtin.len_, run_underlying ht, he, goInt]
theorem rdCs_drop {B : Nat → Prop} {w : World} : ∀ (f : Nat) {x : List Dat} {b off : Nat}, RdCs B w x (some ⟨b, off, none⟩) 0 → RdCs B w (x.drop f) (some ⟨b, off + f, none⟩) 0 := by
  intro f x b off h
  obtain ⟨b', off', vs, e, hb, hl, hc⟩ := h.vals
  simp only [Option.some.injEq, Addr.mk.injEq, and_true] at e
  obtain ⟨rfl, rfl⟩ := e
  have hld : ∀ (f : Nat) {x : List Dat} {vs : List Value}, RdL B w x vs → RdL B w (x.drop f) (vs.drop f) := by
    intro f
    induction f with
    | zero => intro x vs h; exact h
    | succ f ih =>
      intro x vs h
      cases x with
      | nil => rw [show vs = [] from h]; exact rfl
      | cons y ys => obtain ⟨v, vs', rfl, _, h2⟩ := h; exact ih h2
  refine RdCs.mk (fun hne => hb (fun e => by subst e; simp at hne)) (hld f hl) fun j v hv => ?_
  rw [List.getElem?_drop] at hv
  have := hc (f + j) v hv
  rw [show off + f + 0 + j = off + 0 + (f + j) by omega]; exact this
theorem sound_field_ptr {o : Oper} {x : Operand} {s : TypeId} {f off o' : Nat} {ft : TypeId} {h : Nat} (ho : o.op = .fieldAddr s x f) (hf : fieldOf P s f = some (off, ft)) (hx : S.ev x = .ptr h o') (hl : liveO S (some h)) : Sound P o S ⟨.ptr h (o' + off), [], []⟩ :=
  sound_val fun K φ A w0 N a w hG => by
    obtain ⟨r, hr⟩ := hl
    obtain ⟨pl, hp, _⟩ := hG.dom h r hr
    have h1 := hG.ev x
    rw [hx] at h1
    unfold MatchV at h1
    obtain ⟨g, hg, he⟩ := h1 pl hp
    refine ⟨.pointer (some ⟨g, o' + off, none⟩), by simp [execOp, ho, he, run_fieldAt hf], ?_⟩
    unfold MatchV
    exact fun pl' hp' => by rw [hp] at hp'; injection hp' with e; subst e; exact ⟨g, hg, rfl⟩
theorem sound_field_ep {o : Oper} {x : Operand} {s : TypeId} {f off k i o' : Nat} {ft : TypeId} {h : Nat} (ho : o.op = .fieldAddr s x f) (hf : fieldOf P s f = some (off, ft)) (hx : S.ev x = .ep h k i o') (hl : liveO S (some h)) : Sound P o S ⟨.ep h k i (o' + off), [], []⟩ :=
  sound_val fun K φ A w0 N a w hG => by
    obtain ⟨r, hr⟩ := hl
    obtain ⟨pl, hp, _⟩ := hG.dom h r hr
    have h1 := hG.ev x
    rw [hx] at h1
    unfold MatchV at h1
    obtain ⟨g, hg, he⟩ := h1 pl hp
    refine ⟨.pointer (some ⟨g, i * k + (o' + off), none⟩), by simp [execOp, ho, he, run_fieldAt hf, Nat.add_assoc], ?_⟩
    unfold MatchV
    exact fun pl' hp' => by rw [hp] at hp'; injection hp' with e; subst e; exact ⟨g, hg, rfl⟩
theorem sound_field_rp {o : Oper} {x : Operand} {s : TypeId} {f off : Nat} {ft : TypeId} {o' : Option Nat} {xs : List Dat} (ho : o.op = .fieldAddr s x f) (hf : fieldOf P s f = some (off, ft)) (hx : S.ev x = .rp o' xs) (hl : liveO S o') : Sound P o S ⟨.rp o' (xs.drop off), [], []⟩ :=
  sound_val fun K φ A w0 N a w hG => by
    obtain ⟨B, _, hB⟩ := hG.inO hl
    have h1 := hG.ev x
    rw [hx, hB] at h1
    obtain ⟨b, he, hr⟩ := h1
    obtain ⟨b', off', vs, rfl, _⟩ := hr.vals
    exact ⟨.pointer (some ⟨b', off' + off, none⟩), by simp [execOp, ho, he, run_fieldAt hf], (hB _ _).2 ⟨_, rfl, rdCs_drop off hr⟩⟩

theorem run_indexAt {P : Program} {t e : TypeId} {k bt : Nat} {ag : Bool} {z : Value} (ht : P.underlying t = some (.slice e)) (hk : tyOf P e = some (ag, k, bt, z)) (w : World) (ik : IntKind) (n : Int) (len c g o : Nat) (h0 : 0 ≤ n) (h1 : n < len) :
    (Instr.indexAt t (.slice (some ⟨g, o, none⟩) len c) (.int ik n)).run P w = .ok (.pointer (some ⟨g, o + n.toNat * k, none⟩)) w := by
  have hs := (tyOf_spec hk w).2.1
  simp [Instr.indexAt, asIntOf, run_underlying ht, h0, h1, hs, add_none]
theorem sound_index_p {o : Oper} {x y : Operand} {t e : TypeId} {k bt : Nat} {ag : Bool} {z : Value} {o' : Option Nat} {te : Nat} {xs : List (List Dat)} {ik : IntKind} {n : Int} {row : List Dat} (ho : o.op = .indexAddr t x y) (ht : P.underlying t = some (.slice e)) (hk : tyOf P e = some (ag, k, bt, z))
    (hx : S.ev x = .p o' (.sl te k xs)) (hl : liveO S o') (hy : S.ev y = .p none (.int ik n)) (h0 : 0 ≤ n) (hr : xs[n.toNat]? = some row) : Sound P o S ⟨.rp o' row, [], []⟩ :=
  sound_val fun K φ A w0 N a w hG => by
    obtain ⟨B, hBp, hB⟩ := hG.inO hl
    have h1 := hG.ev x
    rw [hx, hBp] at h1
    unfold RdV at h1
    obtain ⟨b, c, he, _, _, hrs⟩ := h1
    have h2 : a.eval y = .int ik n := conc_match (x := S.ev y) (by rw [hy]; rfl) (hG.ev y)
    obtain ⟨_, hcs⟩ := hrs.at_ hr
    have hn : n < xs.length := by have := (List.getElem?_eq_some_iff.1 hr).1; omega
    obtain ⟨g, off, vs, rfl, hb, hl, hc⟩ := hcs.vals
    refine ⟨.pointer (some ⟨g, off + n.toNat * k, none⟩), by simp [execOp, ho, he, h2, run_indexAt ht hk w ik n xs.length c g off h0 hn], (hB _ _).2 ⟨_, rfl, RdCs.mk hb hl fun j v hv => ?_⟩⟩
    have := hc j v hv
    simpa using this
theorem sound_index_own {o : Oper} {x y : Operand} {t e : TypeId} {k bt : Nat} {ag : Bool} {z : Value} {h : Nat} {e' : Nat} {d : Bool} {xs : List (List Dat)} {ik : IntKind} {n : Int} (ho : o.op = .indexAddr t x y) (ht : P.underlying t = some (.slice e)) (hk : tyOf P e = some (ag, k, bt, z))
    (hx : S.ev x = .own h) (hh : S.res h = some (.arr e' k d xs)) (hy : S.ev y = .p none (.int ik n)) (h0 : 0 ≤ n) (hn : n < xs.length) : Sound P o S ⟨.ep h k n.toNat 0, [], []⟩ :=
  sound_val fun K φ A w0 N a w hG => by
    obtain ⟨pl, css, hp, hown, hl, hc, htop, _⟩ := hG.owned hh
    have h1 := hG.ev x
    rw [hx] at h1
    unfold MatchV at h1
    have he := h1 pl hp
    have h2 : a.eval y = .int ik n := conc_match (x := S.ev y) (by rw [hy]; rfl) (hG.ev y)
    obtain ⟨b, c, hv, _, _, hb⟩ := owns_shape hown
    obtain ⟨g, rfl, _, _⟩ := hb (by omega)
    rw [hv] at he htop
    refine ⟨.pointer (some ⟨g, 0 + n.toNat * k, none⟩), by simp [execOp, ho, he, h2, run_indexAt ht hk w ik n xs.length c g 0 h0 hn], ?_⟩
    unfold MatchV
    exact fun pl' hp' => by rw [hp] at hp'; injection hp' with e; subst e; exact ⟨g, by rw [htop]; rfl, by simp⟩

theorem run_loadAgg {P : Program} {t : TypeId} {n bt : Nat} {z : Value} (ht : tyOf P t = some (true, n, bt, z)) (w : World) (g o : Nat) (cs : List Value) (hn : cs.length = n) (h : ∀ j v, cs[j]? = some v → w.cell? ⟨g, o + j, none⟩ = some v) :
    (Instr.loadAt t (.pointer (some ⟨g, o, none⟩))).run P w = .ok (.agg cs.toArray) w := by
  obtain ⟨h1, h2, _⟩ := tyOf_spec ht w
  have h3 := run_loadCells_list (P := P) w ⟨g, o, none⟩ cs (fun j v hv => by rw [add_none]; exact h j v hv)
  rw [hn] at h3
  simp [Instr.loadAt, Instr.sureAddr, loadVar, h1, h2, h3]
theorem run_loadOne {P : Program} {t : TypeId} {n bt : Nat} {z : Value} (ht : tyOf P t = some (false, n, bt, z)) (w : World) (g o : Nat) (v : Value) (h : w.cell? ⟨g, o, none⟩ = some v) :
    (Instr.loadAt t (.pointer (some ⟨g, o, none⟩))).run P w = .ok v w := by
  obtain ⟨h1, h2, _⟩ := tyOf_spec ht w
  simp [Instr.loadAt, Instr.sureAddr, loadVar, h1, run_load, h]
theorem G.boxed (hG : G K φ A w0 N S a w) {h : Nat} {t : TypeId} {cs : List AV} (hr : S.res h = some (.box t cs)) :
    ∃ g vs, φ h = some ⟨.pointer (some ⟨g, 0, none⟩), [g], []⟩ ∧ Blk w g t vs ∧ (∀ u ∈ vs.toList, u.oneCell' = true) ∧ MatchL K φ w cs vs.toList := by
  obtain ⟨pl, hp, g, vs, rfl, h1, h2, h3⟩ := hG.dom h _ hr
  exact ⟨g, vs, hp, h1, h2, h3⟩
theorem mem_take_drop {α : Type} {l : List α} {i n : Nat} {x : α} (h : x ∈ (l.drop i).take n) : x ∈ l := List.mem_of_mem_drop (List.mem_of_mem_take h)
theorem sound_load_box {o : Oper} {x : Operand} {t tb : TypeId} {n bt off : Nat} {z : Value} {h : Nat} {cs : List AV} (ho : o.op = .load t x) (ht : tyOf P t = some (true, n, bt, z)) (hx : S.ev x = .ptr h off) (hh : S.res h = some (.box tb cs)) (hn : off + n ≤ cs.length) :
    Sound P o S ⟨.agg ((cs.drop off).take n), [], []⟩ :=
  sound_val fun K φ A w0 N a w hG => by
    obtain ⟨g, vs, hp, hB, h1, hl⟩ := hG.boxed hh
    have h2 := hG.ev x
    rw [hx] at h2
    unfold MatchV at h2
    obtain ⟨g', hg', he⟩ := h2 _ hp
    simp only [List.cons.injEq, and_true] at hg'
    subst hg'
    have hlen := matchL_len hl
    refine ⟨.agg ((vs.toList.drop off).take n).toArray, ?_, ?_⟩
    · simp only [execOp, ho, he, Sem.run_bind]
      rw [run_loadAgg ht w g off ((vs.toList.drop off).take n) (by simp at hlen ⊢; omega)]
      · rfl
      · intro j v hv
        rw [hB.cell, ← Array.getElem?_toList]
        rw [List.getElem?_take] at hv
        split at hv
        · rwa [List.getElem?_drop] at hv
        · cases hv
    · unfold MatchV
      exact ⟨_, rfl, fun u hu => h1 u (mem_take_drop (by simpa using hu)), by simpa using matchL_take n (matchL_drop off hl)⟩
theorem sound_load_box1 {o : Oper} {x : Operand} {t tb : TypeId} {n bt off : Nat} {z : Value} {h : Nat} {cs : List AV} {y : AV} (ho : o.op = .load t x) (ht : tyOf P t = some (false, n, bt, z)) (hx : S.ev x = .ptr h off) (hh : S.res h = some (.box tb cs)) (hy : cs[off]? = some y) :
    Sound P o S ⟨y, [], []⟩ :=
  sound_val fun K φ A w0 N a w hG => by
    obtain ⟨g, vs, hp, hB, h1, hl⟩ := hG.boxed hh
    have h2 := hG.ev x
    rw [hx] at h2
    unfold MatchV at h2
    obtain ⟨g', hg', he⟩ := h2 _ hp
    simp only [List.cons.injEq, and_true] at hg'
    subst hg'
    obtain ⟨v, hv, hm⟩ := matchL_get hl hy
    refine ⟨v, ?_, hm⟩
    simp only [execOp, ho, he, Sem.run_bind]
    rw [run_loadOne ht w g off v (by rw [hB.cell, ← Array.getElem?_toList]; exact hv)]
    rfl
/-- Numbers hang on nothing. -/
def pOf (o : Option Nat) (x : Dat) : AV := match x with | .sl e k xs => .p o (.sl e k xs) | x => .p none x
theorem pOf_match {B : Nat → Prop} {o : Option Nat} (hB : ∀ x v, MatchV K φ w (.p o x) v ↔ RdV B w x v) {x : Dat} {v : Value} (h : RdV B w x v) : MatchV K φ w (pOf o x) v := by
  unfold pOf
  split
  · exact (hB _ _).2 h
  · rename_i h1
    cases x with
    | sl e k xs => exact absurd rfl (h1 e k xs)
    | _ => unfold MatchV; unfold RdV at *; exact h
theorem rdV_one {B : Nat → Prop} {x : Dat} {v : Value} (h : RdV B w x v) : v.oneCell' = true := by
  cases x <;> unfold RdV at h
  · rw [h]; rfl
  · rw [h]; rfl
  · rw [h]; rfl
  · obtain ⟨a, c, rfl, _⟩ := h; rfl
theorem rdL_match {B : Nat → Prop} {o : Option Nat} (hB : ∀ x v, MatchV K φ w (.p o x) v ↔ RdV B w x v) : ∀ {xs : List Dat} {vs : List Value}, RdL B w xs vs → MatchL K φ w (xs.map (pOf o)) vs ∧ ∀ u ∈ vs, u.oneCell' = true
  | [], vs, h => by rw [show vs = [] from h]; exact ⟨by simp only [List.map_nil]; unfold MatchL; rfl, by simp⟩
  | x :: xs, _, ⟨v, vs', e, h1, h2⟩ => by
    subst e
    obtain ⟨h3, h4⟩ := rdL_match hB h2
    refine ⟨by simp only [List.map_cons]; unfold MatchL; exact ⟨v, vs', rfl, pOf_match hB h1, h3⟩, fun u hu => ?_⟩
    rcases List.mem_cons.1 hu with rfl | hu
    · exact rdV_one h1
    · exact h4 u hu
theorem rdL_take {B : Nat → Prop} : ∀ (n : Nat) {xs : List Dat} {vs : List Value}, RdL B w xs vs → RdL B w (xs.take n) (vs.take n)
  | 0, xs, vs, _ => rfl
  | n + 1, [], vs, h => by rw [show vs = [] from h]; exact rfl
  | n + 1, x :: xs, _, ⟨v, vs', e, h1, h2⟩ => by subst e; exact ⟨v, _, rfl, h1, rdL_take n h2⟩
theorem rdL_drop {B : Nat → Prop} : ∀ (n : Nat) {xs : List Dat} {vs : List Value}, RdL B w xs vs → RdL B w (xs.drop n) (vs.drop n)
  | 0, xs, vs, h => h
  | n + 1, [], vs, h => by rw [show vs = [] from h]; exact rfl
  | n + 1, x :: xs, _, ⟨v, vs', e, h1, h2⟩ => by subst e; exact rdL_drop n h2
theorem sound_load_rp {o : Oper} {x : Operand} {t : TypeId} {n bt : Nat} {z : Value} {o' : Option Nat} {xs : List Dat} (ho : o.op = .load t x) (ht : tyOf P t = some (true, n, bt, z)) (hx : S.ev x = .rp o' xs) (hl : liveO S o') (hn : n ≤ xs.length) :
    Sound P o S ⟨.agg ((xs.take n).map (pOf o')), [], []⟩ :=
  sound_val fun K φ A w0 N a w hG => by
    obtain ⟨B, hBp, hB⟩ := hG.inO hl
    have h1 := hG.ev x
    rw [hx, hB] at h1
    obtain ⟨b, he, hr⟩ := h1
    obtain ⟨g, off, vs, rfl, _, hl, hc⟩ := hr.vals
    have hlen := hl.len
    obtain ⟨h3, h4⟩ := rdL_match hBp (rdL_take n hl)
    refine ⟨.agg (vs.take n).toArray, ?_, by unfold MatchV; exact ⟨_, rfl, by simpa using h4, by simpa using h3⟩⟩
    simp only [execOp, ho, he, Sem.run_bind]
    rw [run_loadAgg ht w g off (vs.take n) (by simp; omega)]
    · rfl
    · intro j v hv
      rw [List.getElem?_take] at hv
      split at hv
      · have := hc j v hv; simpa using this
      · cases hv
theorem sound_load_rp1 {o : Oper} {x : Operand} {t : TypeId} {n bt : Nat} {z : Value} {o' : Option Nat} {xs : List Dat} {y : Dat} (ho : o.op = .load t x) (ht : tyOf P t = some (false, n, bt, z)) (hx : S.ev x = .rp o' xs) (hl : liveO S o') (hy : xs[0]? = some y) :
    Sound P o S ⟨pOf o' y, [], []⟩ :=
  sound_val fun K φ A w0 N a w hG => by
    obtain ⟨B, hBp, hB⟩ := hG.inO hl
    have h1 := hG.ev x
    rw [hx, hB] at h1
    obtain ⟨b, he, hr⟩ := h1
    obtain ⟨g, off, vs, rfl, _, hl, hc⟩ := hr.vals
    obtain ⟨v, hv, hm⟩ := hl.at_ hy
    refine ⟨v, ?_, pOf_match hBp hm⟩
    simp only [execOp, ho, he, Sem.run_bind]
    rw [run_loadOne ht w g off v (by have := hc 0 v hv; simpa using this)]
    rfl
/-- Element i of a slice of the call's own: its values in memory. -/
theorem G.elem (hG : G K φ A w0 N S a w) {h : Nat} {e k : Nat} {d : Bool} {xs : List (List Dat)} {i : Nat} {row : List Dat} (hr : S.res h = some (.arr e k d xs)) (hi : xs[i]? = some row) :
    ∃ (pl : Pl) (g : Nat) (c : List Value) (B : Nat → Prop), φ h = some pl ∧ pl.top = [g] ∧ row.length = k ∧ RdL B w row c ∧ (∀ x v, MatchV K φ w (.p (if d then some h else none) x) v ↔ RdV B w x v) ∧ ∀ (j : Nat) u, c[j]? = some u → w.cell? ⟨g, i * k + j, none⟩ = some u := by
  obtain ⟨pl, css, hp, hown, hl, hc, htop, hrow⟩ := hG.owned hr
  have hi' : i < css.length := by have := (List.getElem?_eq_some_iff.1 hi).1; omega
  obtain ⟨b, c, hv, _, _, hb, hcell⟩ := rows_cells hown hc hl
  obtain ⟨g, rfl, hg, hcs⟩ := hcell i _ (List.getElem?_eq_getElem hi')
  obtain ⟨h1, h2, h3⟩ := hrow i row _ hi (List.getElem?_eq_getElem hi')
  cases d with
  | true =>
    refine ⟨pl, g, _, In K pl, hp, by rw [htop, hg]; rfl, h1, h2, fun x v => ?_, hcs⟩
    simp only [if_true]
    unfold MatchV
    exact ⟨fun h => h pl hp, fun h pl' hp' => by rw [hp] at hp'; injection hp' with e; subst e; exact h⟩
  | false =>
    refine ⟨pl, g, _, K, hp, by rw [htop, hg]; rfl, h1, h3 rfl, fun x v => ?_, hcs⟩
    simp only [Bool.false_eq_true, if_false]
    unfold MatchV
    exact Iff.rfl
theorem sound_load_ep {o : Oper} {x : Operand} {t : TypeId} {n bt : Nat} {z : Value} {h : Nat} {e k i off : Nat} {d : Bool} {xs : List (List Dat)} {row : List Dat} (ho : o.op = .load t x) (ht : tyOf P t = some (true, n, bt, z)) (hx : S.ev x = .ep h k i off) (hh : S.res h = some (.arr e k d xs)) (hr : xs[i]? = some row) (hn : off + n ≤ row.length) :
    Sound P o S ⟨.agg (((row.drop off).take n).map (pOf (if d then some h else none))), [], []⟩ :=
  sound_val fun K φ A w0 N a w hG => by
    obtain ⟨pl, g, c, B, hp, htop, hk, hl, hB, hc⟩ := hG.elem hh hr
    have h1 := hG.ev x
    rw [hx] at h1
    unfold MatchV at h1
    obtain ⟨g', hg', he⟩ := h1 pl hp
    rw [htop] at hg'
    simp only [List.cons.injEq, and_true] at hg'
    subst hg'
    have hlen := hl.len
    obtain ⟨h3, h4⟩ := rdL_match hB (rdL_take n (rdL_drop off hl))
    refine ⟨.agg ((c.drop off).take n).toArray, ?_, by unfold MatchV; exact ⟨_, rfl, by simpa using h4, by simpa using h3⟩⟩
    simp only [execOp, ho, he, Sem.run_bind]
    rw [run_loadAgg ht w g (i * k + off) ((c.drop off).take n) (by simp; omega)]
    · rfl
    · intro j v hv
      rw [List.getElem?_take] at hv
      split at hv
      · rw [List.getElem?_drop] at hv
        have := hc (off + j) v hv
        rw [Nat.add_assoc]; exact this
      · cases hv
theorem sound_load_ep1 {o : Oper} {x : Operand} {t : TypeId} {n bt : Nat} {z : Value} {h : Nat} {e k i off : Nat} {d : Bool} {xs : List (List Dat)} {row : List Dat} {y : Dat} (ho : o.op = .load t x) (ht : tyOf P t = some (false, n, bt, z)) (hx : S.ev x = .ep h k i off) (hh : S.res h = some (.arr e k d xs)) (hr : xs[i]? = some row) (hy : row[off]? = some y) :
    Sound P o S ⟨pOf (if d then some h else none) y, [], []⟩ :=
  sound_val fun K φ A w0 N a w hG => by
    obtain ⟨pl, g, c, B, hp, htop, hk, hl, hB, hc⟩ := hG.elem hh hr
    have h1 := hG.ev x
    rw [hx] at h1
    unfold MatchV at h1
    obtain ⟨g', hg', he⟩ := h1 pl hp
    rw [htop] at hg'
    simp only [List.cons.injEq, and_true] at hg'
    subst hg'
    obtain ⟨v, hv, hm⟩ := hl.at_ hy
    refine ⟨v, ?_, pOf_match hB hm⟩
    simp only [execOp, ho, he, Sem.run_bind]
    rw [run_loadOne ht w g (i * k + off) v (hc off v hv)]
    rfl
end
end Go.Proofs.Ytcgjlddpbkponaa
