/-
  Words on memory that a call itself made: a datum with its footprint, the list of the blocks that hold it. Two data whose footprints share no block are apart: writing one leaves the other.
-/
import Derived.Test.YtcgjlddpbkponaaInts
namespace Go.Proofs.Ytcgjlddpbkponaa
open Go.ChangeShapes Go.WideShapes Go.ChangeAt Go.RowKit

abbrev Od (α : Type) := World → List Nat → List Value → α → Prop
/-- Blocks of F are the same in both worlds. -/
def KeptOn (F : List Nat) (w w' : World) : Prop := ∀ g ∈ F, w'.heap[g]? = w.heap[g]?
def MonoO {α : Type} (O : Od α) : Prop := ∀ w w' F cs x, KeptOn F w w' → O w F cs x → O w' F cs x
/-- A datum of the call's own reads. -/
def Reads {α : Type} (O : Od α) (R : Rd α) : Prop := ∀ w F cs x, O w F cs x → R w cs x
/-- All blocks of the footprint are blocks of the world. -/
def Inside {α : Type} (O : Od α) : Prop := ∀ w F cs x, O w F cs x → ∀ g ∈ F, g < w.heap.size

/-- Only blocks of S, and new ones, may have changed. -/
structure Only (S : List Nat) (w w' : World) : Prop where
  os : w'.os = w.os
  tape : w'.tape = w.tape
  output : w'.output = w.output
  size : w.heap.size ≤ w'.heap.size
  block : ∀ k, k < w.heap.size → k ∉ S → w'.heap[k]? = w.heap[k]?
theorem Only.refl (S : List Nat) (w : World) : Only S w w := ⟨rfl, rfl, rfl, Nat.le_refl _, fun _ _ _ => rfl⟩
theorem Only.of_below {S : List Nat} {w w' : World} (h : Below w.heap.size w w') : Only S w w' := ⟨h.os, h.tape, h.output, h.size, fun k hk _ => h.block k hk⟩
theorem Only.trans {S : List Nat} {a b c : World} (h : Only S a b) (k : Only S b c) : Only S a c :=
  ⟨k.os.trans h.os, k.tape.trans h.tape, k.output.trans h.output, Nat.le_trans h.size k.size, fun i hi hn => (k.block i (Nat.lt_of_lt_of_le hi h.size) hn).trans (h.block i hi hn)⟩
theorem Only.mono {S S' : List Nat} {a b : World} (h : Only S a b) (hS : ∀ g ∈ S, g ∈ S') : Only S' a b := ⟨h.os, h.tape, h.output, h.size, fun i hi hn => h.block i hi (fun hm => hn (hS i hm))⟩
theorem Only.keptOn {S F : List Nat} {a b : World} (h : Only S a b) (hF : ∀ g ∈ F, g < a.heap.size ∧ g ∉ S) : KeptOn F a b := fun g hg => h.block g (hF g hg).1 (hF g hg).2
theorem Only.below {S : List Nat} {B : Nat} {a b : World} (h : Only S a b) (hS : ∀ g ∈ S, B ≤ g) (hB : B ≤ a.heap.size) : Below B a b :=
  ⟨h.os, h.tape, h.output, h.size, fun k hk => h.block k (by omega) (fun hm => by have := hS k hm; omega)⟩
theorem Only.of_grown {w w' : World} {row : Option Nat} (h : w.grownBy w' row) : Only row.toList w w' :=
  ⟨h.os, h.tape, h.output, h.size, fun k hk hn => h.block k hk (fun e => hn (by rw [← e]; simp))⟩

theorem KeptOn.below {F : List Nat} {B : Nat} {w w' : World} (h : Below B w w') (hF : ∀ g ∈ F, g < B) : KeptOn F w w' := fun g hg => h.block g (hF g hg)
theorem KeptOn.mono {F F' : List Nat} {w w' : World} (h : KeptOn F w w') (hF : ∀ g ∈ F', g ∈ F) : KeptOn F' w w' := fun g hg => h g (hF g hg)

def IntO : Od Int := fun _ F cs n => F = [] ∧ cs = [.int .i64 n] ∧ Fits n
def BoolO : Od Bool := fun _ F cs b => F = [] ∧ cs = [.bool b]
def StrO : Od ByteArray := fun _ F cs s => F = [] ∧ cs = [.string s] ∧ s.size ≤ maxLen
def IntsO : Od (List Int) := fun w F cs l => ∃ v, cs = [v] ∧ OwnI w 0 v l ∧ F = v.ownBlock.toList ∧ ∀ x ∈ l, Fits x
/-- A slice of the call's own, its elements of type e, k cells each, each with a footprint of its own. -/
def SliceO {α : Type} (e k : Nat) (O : Od α) : Od (List α) := fun w F cs xs =>
  ∃ (v : Value) (Fs : List (List Nat)) (css : List (List Value)), cs = [v] ∧ w.ownsRow 0 e k v xs.length (List.flatten css) ∧ F = v.ownBlock.toList ++ List.flatten Fs ∧ css.length = xs.length ∧ Fs.length = xs.length ∧
    ∀ (i : Nat) x, xs[i]? = some x → ∃ Fi ci, Fs[i]? = some Fi ∧ css[i]? = some ci ∧ ci.length = k ∧ O w Fi ci x

theorem owns_keptOn {w w' : World} {base e size n : Nat} {v : Value} {xs : List Value} (h : w.ownsRow base e size v n xs) (hk : KeptOn v.ownBlock.toList w w') : w'.ownsRow base e size v n xs := by
  refine ⟨h.1, ?_⟩
  rcases h.2 with hn | ⟨g, cap, cur, rfl, hb, hg, r⟩
  · exact .inl hn
  · exact .inr ⟨g, cap, cur, rfl, hb, (hk g (by simp [Value.ownBlock])).trans hg, r⟩
theorem owns_base {w : World} {base base' e size n : Nat} {v : Value} {xs : List Value} (h : w.ownsRow base e size v n xs) (hb : ∀ g ∈ v.ownBlock.toList, base' ≤ g) : w.ownsRow base' e size v n xs := by
  refine ⟨h.1, ?_⟩
  rcases h.2 with hn | ⟨g, cap, cur, rfl, _, hg, r⟩
  · exact .inl hn
  · exact .inr ⟨g, cap, cur, rfl, hb g (by simp [Value.ownBlock]), hg, r⟩
theorem owns_lt {w : World} {base e size n : Nat} {v : Value} {xs : List Value} (h : w.ownsRow base e size v n xs) : ∀ g ∈ v.ownBlock.toList, base ≤ g ∧ g < w.heap.size := fun g hg => h.lt g (by simpa using hg)

theorem mono_intO : MonoO IntO := fun _ _ _ _ _ _ h => h
theorem mono_boolO : MonoO BoolO := fun _ _ _ _ _ _ h => h
theorem mono_strO : MonoO StrO := fun _ _ _ _ _ _ h => h
theorem mono_intsO : MonoO IntsO := by
  rintro w w' F cs l hk ⟨v, rfl, ho, rfl, hf⟩
  exact ⟨v, rfl, owns_keptOn ho hk, rfl, hf⟩
theorem mono_sliceO {α : Type} {e k : Nat} {O : Od α} (hO : MonoO O) : MonoO (SliceO e k O) := by
  rintro w w' F cs xs hk ⟨v, Fs, css, rfl, ho, rfl, h1, h2, h3⟩
  refine ⟨v, Fs, css, rfl, owns_keptOn ho (hk.mono fun g hg => List.mem_append_left _ hg), rfl, h1, h2, fun i x hx => ?_⟩
  obtain ⟨Fi, ci, hF, hc, hl, ho'⟩ := h3 i x hx
  exact ⟨Fi, ci, hF, hc, hl, hO _ _ _ _ _ (hk.mono fun g hg => List.mem_append_right _ (List.mem_flatten.2 ⟨Fi, List.mem_of_getElem? hF, hg⟩)) ho'⟩

theorem inside_intO : Inside IntO := fun _ _ _ _ h g hg => by rw [h.1] at hg; simp at hg
theorem inside_intsO : Inside IntsO := by
  rintro w F cs l ⟨v, rfl, ho, rfl, _⟩ g hg
  exact (owns_lt ho g hg).2
theorem inside_sliceO {α : Type} {e k : Nat} {O : Od α} (hO : Inside O) : Inside (SliceO e k O) := by
  rintro w F cs xs ⟨v, Fs, css, rfl, ho, rfl, h1, h2, h3⟩ g hg
  rcases List.mem_append.1 hg with hg | hg
  · exact (owns_lt ho g hg).2
  · obtain ⟨Fi, hFi, hg⟩ := List.mem_flatten.1 hg
    obtain ⟨i, hi, rfl⟩ := List.getElem_of_mem hFi
    have hx : xs[i]? = some (xs[i]'(by omega)) := List.getElem?_eq_getElem (by omega)
    obtain ⟨Fi, ci, hF, _, _, ho'⟩ := h3 i _ hx
    rw [List.getElem?_eq_getElem hi] at hF
    injection hF with hF
    exact hO _ _ _ _ ho' g (hF ▸ hg)

theorem reads_int : Reads IntO IntR := fun _ _ _ _ h => h.2
theorem reads_bool : Reads BoolO BoolR := fun _ _ _ _ h => h.2
theorem reads_str : Reads StrO StrR := fun _ _ _ _ h => h.2
theorem reads_ints : Reads IntsO (SliceR 1 IntR) := by
  rintro w F cs l ⟨v, rfl, ho, rfl, hf⟩
  exact IntsR.of_own ho hf
theorem flatten_at {α : Type} {k : Nat} : ∀ (css : List (List α)), (∀ c ∈ css, c.length = k) → ∀ (i j : Nat) (c : List α), css[i]? = some c → j < k → css.flatten[i * k + j]? = c[j]?
  | [], _, i, j, c, h, _ => by simp at h
  | d :: css, hl, 0, j, c, h, hj => by
    simp at h; subst h
    rw [List.flatten_cons, Nat.zero_mul, Nat.zero_add, List.getElem?_append_left (by rw [hl d (by simp)]; exact hj)]
  | d :: css, hl, i + 1, j, c, h, hj => by
    have hd := hl d (by simp)
    rw [List.flatten_cons, List.getElem?_append_right (by rw [hd, Nat.add_mul]; omega), hd, show (i + 1) * k + j - k = i * k + j by rw [Nat.add_mul]; omega]
    exact flatten_at css (fun c hc => hl c (by simp [hc])) i j c (by simpa using h) hj
theorem reads_slice {α : Type} {e k : Nat} {O : Od α} {R : Rd α} (hO : Reads O R) : Reads (SliceO e k O) (SliceR k R) := by
  rintro w F cs xs ⟨v, Fs, css, rfl, ho, rfl, h1, h2, h3⟩
  obtain ⟨A, c, rfl, hc1, hc2, hA⟩ := owns_shape ho
  have hlen : ∀ c ∈ css, c.length = k := by
    intro c hc
    obtain ⟨i, hi, rfl⟩ := List.getElem_of_mem hc
    obtain ⟨_, ci, _, hci, hl, _⟩ := h3 i _ (List.getElem?_eq_getElem (by omega : i < xs.length))
    rw [List.getElem?_eq_getElem hi] at hci
    injection hci with hci
    rw [hci]; exact hl
  refine ⟨A, c, rfl, hc1, hc2, fun i x hx => ?_⟩
  have hi : i < xs.length := (List.getElem?_eq_some_iff.1 hx).1
  obtain ⟨g, rfl, _, _⟩ := hA (by omega)
  obtain ⟨Fi, ci, hF, hc, hl, ho'⟩ := h3 i x hx
  refine ⟨g, 0, ci, rfl, hl, fun j u hu => ?_, hO _ _ _ _ ho'⟩
  have hj : j < k := by
    have := (List.getElem?_eq_some_iff.1 hu).1
    omega
  have hik : i * k + j < xs.length * k := by
    have : (i + 1) * k ≤ xs.length * k := Nat.mul_le_mul_right k (by omega)
    rw [Nat.add_mul] at this; omega
  rw [Nat.zero_add, ho.cellAt (i * k + j) hik, flatten_at css hlen i j ci hc hj]
  exact hu

theorem keep_cell {w w' : World} {p : Addr} {u : Value} (h : w.cell? p = some u) (hb : Below w.heap.size w w') : w'.cell? p = some u := Kept.below hb (Nat.le_refl _) p u h
theorem keep_drew {w w' : World} {p : Addr} {u : Value} (h : w.cell? p = some u) (hb : Below w.drew.heap.size w.drew w') : w'.cell? p = some u := Kept.below hb (Nat.le_refl _) p u h

theorem keep_set {w : World} {p a : Addr} {u v : Value} (h : w.cell? p = some u) (hne : p.block < a.block) : (w.setCell a v).cell? p = some u := (World.cell?_setCell_other w a p v (fun e => by subst e; omega)).trans h
theorem keep_new {w : World} {p : Addr} {u : Value} {o : Obj} (h : w.cell? p = some u) : (w.alloc o).cell? p = some u := keep_cell h ((Below.refl _ _).alloc (Nat.le_refl _) _)
theorem keep_newD {w : World} {p : Addr} {u : Value} {o : Obj} (h : w.cell? p = some u) : (w.alloc o).drew.cell? p = some u := keep_cell h ((Below.refl _ _).alloc (Nat.le_refl _) _).drew

/-- Block g is known whole: just these cells, of element type t, none frozen. -/
def Blk (w : World) (g : Nat) (t : TypeId) (cs : Array Value) : Prop := w.heap[g]? = some (.cells cs t (0, 0))
section
variable {w w' : World} {g : Nat} {t : TypeId} {cs : Array Value}
theorem Blk.lt (h : Blk w g t cs) : g < w.heap.size := (Array.getElem?_eq_some_iff.1 h).1
theorem Blk.cell (h : Blk w g t cs) (i : Nat) : w.cell? ⟨g, i, none⟩ = cs[i]? := cell_of_row w g i cs t (0, 0) h
theorem Blk.frozen (h : Blk w g t cs) (i : Nat) : w.frozen? ⟨g, i, none⟩ = false := frozen_of_row w g i cs t h
theorem Blk.new (w : World) (t : TypeId) (cs : Array Value) : Blk (w.alloc (.cells cs t)) w.heap.size t cs := heap_alloc_new w _
theorem Blk.at_ (w : World) (t : TypeId) (cs : Array Value) (h : w.heap.size = g) : Blk (w.alloc (.cells cs t)) g t cs := by subst h; exact heap_alloc_new w _
theorem Blk.alloc (h : Blk w g t cs) (o : Obj) : Blk (w.alloc o) g t cs := (Below.heap_alloc w o g h.lt).trans h
theorem Blk.store (h : Blk w g t cs) (i : Nat) (u : Value) : Blk (w.setCell ⟨g, i, none⟩ u) g t (cs.setIfInBounds i u) := heap_setCell_same w g i cs t u h
theorem Blk.far (h : Blk w g t cs) {p : Addr} (hp : g ≠ p.block) (u : Value) : Blk (w.setCell p u) g t cs := (Below.heap_setCell w p u g hp).trans h
theorem Blk.below {B : Nat} (h : Blk w g t cs) (hb : Below B w w') (hg : g < B) : Blk w' g t cs := (hb.block g hg).trans h
theorem Blk.on (h : Blk w g t cs) (hb : Below w.heap.size w w') : Blk w' g t cs := h.below hb h.lt
theorem Blk.onDrew (h : Blk w g t cs) (hb : Below w.drew.heap.size w.drew w') : Blk w' g t cs := (hb.block g h.lt).trans h
theorem Blk.onDrewN {n : Nat} (h : Blk w g t cs) (hb : Below (w.drewN n).heap.size (w.drewN n) w') : Blk w' g t cs := (hb.block g h.lt).trans h
theorem Blk.drewN (h : Blk w g t cs) (n : Nat) : Blk (w.drewN n) g t cs := h
theorem Blk.get (h : Blk w g t cs) (i : Nat) (u : Value) (hu : cs[i]? = some u) : w.cell? ⟨g, i, none⟩ = some u := (h.cell i).trans hu
end

/-- What a function hands back that makes a datum new: its blocks are new, no two the same. -/
def NewO {α : Type} (O : Od α) (w : World) (x : α) (e : Ending) (w' : World) : Prop :=
  ∃ F v, e = .returned v ∧ O w' F v.cells.toList x ∧ F.Nodup ∧ (∀ g ∈ F, w.heap.size ≤ g) ∧ Below w.heap.size w w'

/-- The same for an aggregate, and for a slice. -/
def NewA {α : Type} (O : Od α) (w : World) (x : α) (e : Ending) (w' : World) : Prop :=
  ∃ F cs, e = .returned (.agg cs) ∧ O w' F cs.toList x ∧ F.Nodup ∧ (∀ g ∈ F, w.heap.size ≤ g) ∧ Below w.heap.size w w'
def NewS {α : Type} (O : Od (List α)) (w : World) (x : List α) (e : Ending) (w' : World) : Prop :=
  ∃ F A c, e = .returned (.slice A x.length c) ∧ O w' F [.slice A x.length c] x ∧ F.Nodup ∧ (∀ g ∈ F, w.heap.size ≤ g) ∧ Below w.heap.size w w'
theorem nodup_new {F G : List Nat} {N : Nat} (hF : F.Nodup) (hG : G.Nodup) (h1 : ∀ g ∈ F, g < N) (h2 : ∀ g ∈ G, N ≤ g) : (F ++ G).Nodup := by
  rw [List.nodup_append]
  exact ⟨hF, hG, fun a ha b hb e => by have := h1 a ha; have := h2 b hb; omega⟩
theorem far_of {α : Type} {O : Od α} (hO : MonoO O) {w : World} {F : List Nat} {cs : List Value} {x : α} (h : O w F cs x) {p : Addr} (hp : ∀ g ∈ F, p.block < g) (u : Value) : O (w.setCell p u) F cs x :=
  hO _ _ _ _ _ (fun g hg => Below.heap_setCell w p u g (by have := hp g hg; omega)) h
theorem grow_of {α : Type} {O : Od α} (hO : MonoO O) (hI : Inside O) {w w' : World} {F : List Nat} {cs : List Value} {x : α} (h : O w F cs x) (hb : Below w.heap.size w w') : O w' F cs x :=
  hO _ _ _ _ _ (KeptOn.below hb (hI _ _ _ _ h)) h

theorem grow_drew {α : Type} {O : Od α} (hO : MonoO O) (hI : Inside O) {w w' : World} {F : List Nat} {cs : List Value} {x : α} (h : O w F cs x) (hb : Below w.drew.heap.size w.drew w') : O w' F cs x :=
  hO _ _ _ _ _ (KeptOn.below ((Below.refl w.heap.size w).drew.trans hb) (hI _ _ _ _ h)) h

theorem NewInts.new {w w' : World} {l : List Int} {e : Ending} (h : NewInts w l e w') (hf : ∀ x ∈ l, Fits x) : ∃ F A c, e = .returned (.slice A l.length c) ∧ IntsO w' F [.slice A l.length c] l ∧ F.Nodup ∧ (∀ g ∈ F, w.heap.size ≤ g) ∧ Below w.heap.size w w' := by
  obtain ⟨v, rfl, ho, hb⟩ := h
  obtain ⟨A, c, rfl, _⟩ := owns_shape ho
  refine ⟨_, A, c, rfl, ⟨_, rfl, owns_base ho (fun g _ => Nat.zero_le g), rfl, hf⟩, ?_, fun g hg => (owns_lt ho g hg).1, hb⟩
  cases A <;> simp [Value.ownBlock]

theorem toIntS_new (v : Value) (l : List Int) (w : World) (h : SliceR 1 IntR w [v] l) (hc : l.length ≤ 1048576) : Calls Try.prog 60 #[v] w (NewS IntsO w l) :=
  (toIntS_any v l w h (by omega)).mono fun _ _ hn => hn.new (IntsR.fits h)
theorem slice_form {α : Type} {k : Nat} {R : Rd α} {w : World} {v : Value} {l : List α} (h : SliceR k R w [v] l) : ∃ A c, v = .slice A l.length c ∧ l.length ≤ c ∧ c ≤ maxLen := by
  obtain ⟨A, c, hv, h1, h2, _⟩ := h
  exact ⟨A, c, by simpa using hv, h1, h2⟩
end Go.Proofs.Ytcgjlddpbkponaa
