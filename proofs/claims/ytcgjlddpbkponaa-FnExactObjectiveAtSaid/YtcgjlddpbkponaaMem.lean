/-
  Words on memory: what a value's cells read as (ints, strings, bools, slices of whatever element), and how a reading is kept while memory grows. No program in sight but for the imports.
-/
import Derived.Test.YtcgjlddpbkponaaRows
import Derived.WalkKit
import Derived.ProofKit
import Derived.OpenShut
import Derived.WalkLawsBesides
import Derived.WalkSpells
import Derived.BigQuiet
import Derived.Deep.QuietTactic
import Derived.Lib.Hide
import Derived.Below
import Derived.Deep.Draws
import Derived.Deep.AppendLies
import Derived.Deep.Slices
import Derived.Laws.BitsAllLaws
import Derived.Laws.BitsLemmas
namespace Go.Proofs.Ytcgjlddpbkponaa
open Go.ChangeShapes Go.WideShapes Go.ChangeAt Go.RowKit

theorem ret_bool {a b : Bool} (h : a = b) : Ending.returned (.bool a) = .returned (.bool b) := by rw [h]
theorem ret_int {k : IntKind} {a b : Int} (h : a = b) : Ending.returned (.int k a) = .returned (.int k b) := by rw [h]

/-- n fits an int. -/
def Fits (n : Int) : Prop := -9223372036854775808 ≤ n ∧ n ≤ 9223372036854775807
theorem fits_of_wf {n : Int} (h : (Lit.int .i64 n).wf = true) : Fits n := by
  have := bounds_i64 h
  exact this

/-- Every cell of w is a cell of w' with the same content. -/
def Kept (w w' : World) : Prop := ∀ p u, w.cell? p = some u → w'.cell? p = some u
theorem Kept.refl (w : World) : Kept w w := fun _ _ h => h
theorem Kept.trans {a b c : World} (h : Kept a b) (k : Kept b c) : Kept a c := fun p u hp => k p u (h p u hp)
theorem Kept.below {B : Nat} {w w' : World} (h : Below B w w') (hB : w.heap.size ≤ B) : Kept w w' := fun p _ hp =>
  (h.cell (p := p) (Nat.lt_of_lt_of_le (World.block_lt_of_cell? w p hp) hB)).trans hp
theorem Kept.drewN (w : World) (n : Nat) : Kept w (w.drewN n) := fun _ _ h => h
theorem Kept.drew (w : World) : Kept w w.drew := fun _ _ h => h
theorem Kept.alloc (w : World) (o : Obj) : Kept w (w.alloc o) := Kept.below ((Below.refl w.heap.size w).alloc (Nat.le_refl _) o) (Nat.le_refl _)

theorem below_drewN {B : Nat} {a w : World} (h : Below B a w) (n : Nat) : Below B a (w.drewN n) := ⟨h.os, h.tape, h.output, h.size, h.block⟩

abbrev Rd (α : Type) := World → List Value → α → Prop

def IntR : Rd Int := fun _ cs n => cs = [.int .i64 n] ∧ Fits n
def BoolR : Rd Bool := fun _ cs b => cs = [.bool b]
def StrR : Rd ByteArray := fun _ cs s => cs = [.string s] ∧ s.size ≤ maxLen
/-- A slice whose elements take k cells each and read by R. -/
def SliceR {α : Type} (k : Nat) (R : Rd α) : Rd (List α) := fun w cs xs =>
  ∃ A c, cs = [.slice A xs.length c] ∧ xs.length ≤ c ∧ c ≤ maxLen ∧
    ∀ i x, xs[i]? = some x → ∃ b off cs', A = some ⟨b, off, none⟩ ∧ cs'.length = k ∧ (∀ j u, cs'[j]? = some u → w.cell? ⟨b, off + i * k + j, none⟩ = some u) ∧ R w cs' x

/-- A reading that growing memory keeps. -/
def Mono {α : Type} (R : Rd α) : Prop := ∀ w w' cs x, Kept w w' → R w cs x → R w' cs x
theorem mono_int : Mono IntR := fun _ _ _ _ _ h => h
theorem mono_bool : Mono BoolR := fun _ _ _ _ _ h => h
theorem mono_str : Mono StrR := fun _ _ _ _ _ h => h
theorem mono_slice {α : Type} {k : Nat} {R : Rd α} (hR : Mono R) : Mono (SliceR k R) := by
  rintro w w' cs xs hk ⟨A, c, rfl, h1, h2, h3⟩
  refine ⟨A, c, rfl, h1, h2, fun i x hx => ?_⟩
  obtain ⟨b, off, cs', rfl, hl, hc, hr⟩ := h3 i x hx
  exact ⟨b, off, cs', rfl, hl, fun j u hu => hk _ _ (hc j u hu), hR _ _ _ _ hk hr⟩

/-- A slice of ints. -/
def IntsR (w : World) (v : Value) (l : List Int) : Prop := SliceR 1 IntR w [v] l
theorem IntsR.kept {w w' : World} {v : Value} {l : List Int} (h : IntsR w v l) (hk : Kept w w') : IntsR w' v l := mono_slice mono_int _ _ _ _ hk h
theorem IntsR.below {B : Nat} {w w' : World} {v : Value} {l : List Int} (h : IntsR w v l) (hb : Below B w w') (hB : w.heap.size ≤ B) : IntsR w' v l := h.kept (Kept.below hb hB)
theorem IntsR.form {w : World} {v : Value} {l : List Int} (h : IntsR w v l) : ∃ A c, v = .slice A l.length c ∧ l.length ≤ c ∧ c ≤ maxLen := by
  obtain ⟨A, c, hv, h1, h2, _⟩ := h
  exact ⟨A, c, by simpa using hv, h1, h2⟩
theorem IntsR.at_ {w : World} {A : Option Addr} {n c : Nat} {l : List Int} (h : IntsR w (.slice A n c) l) {k : Nat} (hk : k < l.length) :
    ∃ b off x, A = some ⟨b, off, none⟩ ∧ Hid (l[k]? = some x) ∧ Fits x ∧ b < w.heap.size ∧ w.cell? ⟨b, off + k, none⟩ = some (.int .i64 x) := by
  obtain ⟨A', c', hv, h1, h2, h3⟩ := h
  simp only [List.cons.injEq, Value.slice.injEq, and_true] at hv
  obtain ⟨rfl, rfl, rfl⟩ := hv
  obtain ⟨b, off, cs', rfl, hl, hc, rfl, hf⟩ := h3 k _ (List.getElem?_eq_getElem hk)
  have hc0 := hc 0 _ rfl
  simp only [Nat.mul_one, Nat.add_zero] at hc0
  exact ⟨b, off, _, rfl, List.getElem?_eq_getElem hk, hf, World.block_lt_of_cell? w _ hc0, hc0⟩
theorem IntsR.fits {w : World} {v : Value} {l : List Int} (h : IntsR w v l) : ∀ x ∈ l, Fits x := by
  obtain ⟨A', c', hv, h1, h2, h3⟩ := h
  intro x hx
  obtain ⟨i, hi, rfl⟩ := List.getElem_of_mem hx
  obtain ⟨b, off, cs', rfl, hl, hc, rfl, hf⟩ := h3 i _ (List.getElem?_eq_getElem hi)
  exact hf

theorem take_snoc {α : Type} {l : List α} {k : Nat} {x : α} (h : l[k]? = some x) : l.take (k + 1) = l.take k ++ [x] := by
  rw [List.take_add_one, h]; rfl
theorem all_snoc {α : Type} {p : α → Bool} {l : List α} {k : Nat} {x : α} (h : l[k]? = some x) (ht : (l.take k).all p = true) (hx : p x = true) : (l.take (k + 1)).all p = true := by
  rw [take_snoc h, List.all_append, ht]; simp [hx]
theorem all_stop {α : Type} {p : α → Bool} {l : List α} {k : Nat} {x : α} (h : l[k]? = some x) (hx : p x = false) : l.all p = false := by
  rw [List.all_eq_false]
  exact ⟨x, List.mem_of_getElem? h, by simp [hx]⟩
theorem all_done {α : Type} {p : α → Bool} {l : List α} {k : Nat} (hk : l.length ≤ k) (ht : (l.take k).all p = true) : l.all p = true := by
  rwa [List.take_of_length_le hk] at ht
theorem hid_lt {α : Type} {l : List α} {k : Nat} {x : α} (h : Hid (l[k]? = some x)) : k < l.length := (List.getElem?_eq_some_iff.1 h.out).1

/-- A row of ints of the call's own reads as a slice of ints. -/
theorem IntsR.of_own {w : World} {base e : Nat} {v : Value} {l : List Int} (h : w.ownsRow base e 1 v l.length (l.map (Value.int .i64))) (hf : ∀ x ∈ l, Fits x) : IntsR w v l := by
  rcases h.2 with ⟨rfl, h0⟩ | ⟨g, cap, cur, rfl, hb, hg, hnc, hcm, hcs, htake⟩
  · have : l = [] := List.eq_nil_of_length_eq_zero h0
    subst this
    exact ⟨none, 0, rfl, Nat.le_refl _, Nat.zero_le _, fun i x hx => by simp at hx⟩
  · refine ⟨some ⟨g, 0, none⟩, cap, rfl, hnc, hcm, fun i x hx => ⟨g, 0, [.int .i64 x], rfl, rfl, fun j u hu => ?_, rfl, hf x (List.mem_of_getElem? hx)⟩⟩
    have hi : i < l.length := (List.getElem?_eq_some_iff.1 hx).1
    have h1 := h.cellAt i (by omega)
    rcases j with _ | j
    · simp only [List.getElem?_cons_zero, Option.some.injEq] at hu
      subst hu
      simp only [Nat.mul_one, Nat.add_zero, Nat.zero_add]
      rw [h1, List.getElem?_map, hx]; rfl
    · simp at hu

section
variable {H : Type} {enc : TypeId × Value → H} {P : Program} {w : World} {base : Nat} {spare : Nat → Bool} {held : Bool}
theorem trod_int {t : TypeId} {fuel : Nat} {cs : List Value} {x : DataW H × List MemPlace} (ht : P.underlying t = some (.int .i64)) (h : DataW.trod enc P w base spare held fuel t cs = some x) : ∃ n, IntR w cs n := by
  obtain ⟨n, rfl, _, hw⟩ := DataW.trod_int ht h
  exact ⟨n, rfl, fits_of_wf hw⟩
theorem trod_bool {t : TypeId} {fuel : Nat} {cs : List Value} {x : DataW H × List MemPlace} (ht : P.underlying t = some .bool) (h : DataW.trod enc P w base spare held fuel t cs = some x) : ∃ b, BoolR w cs b := by
  cases fuel with
  | zero => simp [DataW.trod] at h
  | succ f =>
    unfold DataW.trod at h
    rw [ht] at h
    split at h <;> simp_all [BoolR]
theorem trod_str {t : TypeId} {fuel : Nat} {cs : List Value} {x : DataW H × List MemPlace} (ht : P.underlying t = some .string) (h : DataW.trod enc P w base spare held fuel t cs = some x) : ∃ s, StrR w cs s := by
  cases fuel with
  | zero => simp [DataW.trod] at h
  | succ f =>
    unfold DataW.trod at h
    rw [ht] at h
    split at h <;> simp_all [StrR]
theorem trod_slice {α : Type} {t e : TypeId} {k : Nat} {R : Rd α} {fuel : Nat} {cs : List Value} {x : DataW H × List MemPlace} (ht : P.underlying t = some (.slice e)) (hk : P.cellsOf e = k) (hpos : 0 < k)
    (hR : ∀ n cs x, DataW.trod enc P w base spare held n e cs = some x → ∃ a, R w cs a) (h : DataW.trod enc P w base spare held fuel t cs = some x) : ∃ xs, SliceR k R w cs xs := by
  rcases Deep.open_slice ht h with ⟨rfl, _⟩ | ⟨a, len, cap, m, n, D, Pl, rfl, hb, hl, hm, hmm, hx, hi⟩
  · exact ⟨[], none, 0, rfl, Nat.le_refl _, Nat.zero_le _, fun i x hx => by simp at hx⟩
  · have hlm : len ≤ m := by rw [hmm]; split <;> omega
    have hch : ∀ i, i < len → ∃ y : α, ∃ cs', w.cells? base (a.add (i * P.cellsOf e)) (P.cellsOf e) = some cs' ∧ R w cs' y := fun i hil => by
      obtain ⟨cs', hc, ht'⟩ := hi i (by omega)
      obtain ⟨y, hy⟩ := hR _ _ _ ht'
      exact ⟨y, cs', hc, hy⟩
    have hlist : ∀ m, m ≤ len → ∃ ys : List α, ys.length = m ∧ ∀ i y, ys[i]? = some y → ∃ cs', w.cells? base (a.add (i * P.cellsOf e)) (P.cellsOf e) = some cs' ∧ R w cs' y := by
      intro m
      induction m with
      | zero => intro _; exact ⟨[], rfl, fun i y hy => by simp at hy⟩
      | succ m ih =>
        intro hm'
        obtain ⟨ys, hyl, hys⟩ := ih (by omega)
        obtain ⟨y, hy⟩ := hch m (by omega)
        refine ⟨ys ++ [y], by simp [hyl], fun i z hz => ?_⟩
        by_cases him : i < ys.length
        · rw [List.getElem?_append_left him] at hz
          exact hys i z hz
        · rw [List.getElem?_append_right (by omega)] at hz
          have : i = m := by
            have := (List.getElem?_eq_some_iff.1 hz).1
            simp at this; omega
          subst this
          simp [hyl] at hz
          subst hz
          exact hy
    obtain ⟨ys, hyl, hys⟩ := hlist len (Nat.le_refl _)
    refine ⟨ys, some a, cap, by rw [hyl], by omega, hm, fun i y hy => ?_⟩
    obtain ⟨cs', hc, hr⟩ := hys i y hy
    obtain ⟨_, hcl, hat⟩ := World.cells?_some hc
    rw [hk] at hcl hat
    have hspot : a.spot = none := by
      have hyl0 : 0 < ys.length := by
        have := (List.getElem?_eq_some_iff.1 hy).1
        omega
      obtain ⟨cs0, hc0, _⟩ := hys 0 _ (List.getElem?_eq_getElem hyl0)
      obtain ⟨_, hcl0, hat0⟩ := World.cells?_some hc0
      rw [hk] at hcl0 hat0
      have h0 := hat0 0 hpos
      have hv : cs0[0]? = some (cs0[0]'(by omega)) := List.getElem?_eq_getElem (by omega)
      rw [hv] at h0
      have := World.cell?_spot h0
      simpa [Addr.add] using this
    obtain ⟨b, off, spot⟩ := a
    simp only at hspot
    subst hspot
    have hadd : ∀ n, (⟨b, off, none⟩ : Addr).add n = ⟨b, off + n, none⟩ := fun n => by
      unfold Addr.add; split <;> simp_all
    refine ⟨b, off, cs', rfl, hcl, fun j u hu => ?_, hr⟩
    have hj : j < k := by
      have := (List.getElem?_eq_some_iff.1 hu).1
      omega
    have h1 := hat j hj
    rw [hu, Deep.add_add, hadd] at h1
    rw [← h1, Nat.add_assoc]
end
end Go.Proofs.Ytcgjlddpbkponaa
