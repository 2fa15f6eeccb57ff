/-
  Merged: Mem Num Ints Own EqSelf Mark Open Slice Shapes Focus Append
-/
import Derived.Test.YtcgjlddpbkponaaRows
import Derived.WalkKit
import Derived.ProofKit
import Derived.OpenShut
import Derived.WalkLawsBesides
import Derived.WalkSpells
import Derived.BigQuiet
import Derived.Deep.QuietTactic
import Derived.Lib.Hide
import Derived.Below
import Derived.Deep.Draws
import Derived.Deep.AppendLies
import Derived.Deep.Slices
import Derived.Laws.BitsAllLaws
import Derived.Laws.BitsLemmas
import Derived.Deep.RegionHeld3
import Derived.Maps.AppendAt
import Derived.RegionTactic
import Derived.Deep.DeepCutAuto
namespace Go.Proofs.Ytcgjlddpbkponaa
open Go.ChangeShapes Go.WideShapes Go.ChangeAt Go.RowKit
set_option linter.unusedVariables false
set_option linter.unusedSimpArgs false

/- Words on memory: what a value's cells read as (ints, strings, bools, slices of whatever element), and how a reading is kept while memory grows. No program in sight but for the imports. -/

theorem ret_bool {a b : Bool} (h : a = b) : Ending.returned (.bool a) = .returned (.bool b) := by rw [h]
theorem ret_int {k : IntKind} {a b : Int} (h : a = b) : Ending.returned (.int k a) = .returned (.int k b) := by rw [h]

/-- n fits an int. -/
def Fits (n : Int) : Prop := -9223372036854775808 ≤ n ∧ n ≤ 9223372036854775807
theorem fits_of_wf {n : Int} (h : (Lit.int .i64 n).wf = true) : Fits n := by
  have := bounds_i64 h
  exact this

/-- Every cell of w is a cell of w' with the same content. -/
def Kept (w w' : World) : Prop := ∀ p u, w.cell? p = some u → w'.cell? p = some u
theorem Kept.refl (w : World) : Kept w w := fun _ _ h => h
theorem Kept.trans {a b c : World} (h : Kept a b) (k : Kept b c) : Kept a c := fun p u hp => k p u (h p u hp)
theorem Kept.below {B : Nat} {w w' : World} (h : Below B w w') (hB : w.heap.size ≤ B) : Kept w w' := fun p _ hp =>
  (h.cell (p := p) (Nat.lt_of_lt_of_le (World.block_lt_of_cell? w p hp) hB)).trans hp
theorem Kept.drewN (w : World) (n : Nat) : Kept w (w.drewN n) := fun _ _ h => h
theorem Kept.drew (w : World) : Kept w w.drew := fun _ _ h => h
theorem Kept.alloc (w : World) (o : Obj) : Kept w (w.alloc o) := Kept.below ((Below.refl w.heap.size w).alloc (Nat.le_refl _) o) (Nat.le_refl _)

theorem below_drewN {B : Nat} {a w : World} (h : Below B a w) (n : Nat) : Below B a (w.drewN n) := ⟨h.os, h.tape, h.output, h.size, h.block⟩

abbrev Rd (α : Type) := World → List Value → α → Prop

def IntR : Rd Int := fun _ cs n => cs = [.int .i64 n] ∧ Fits n
def BoolR : Rd Bool := fun _ cs b => cs = [.bool b]
def StrR : Rd ByteArray := fun _ cs s => cs = [.string s] ∧ s.size ≤ maxLen
/-- A slice whose elements take k cells each and read by R. -/
def SliceR {α : Type} (k : Nat) (R : Rd α) : Rd (List α) := fun w cs xs =>
  ∃ A c, cs = [.slice A xs.length c] ∧ xs.length ≤ c ∧ c ≤ maxLen ∧
    ∀ i x, xs[i]? = some x → ∃ b off cs', A = some ⟨b, off, none⟩ ∧ cs'.length = k ∧ (∀ j u, cs'[j]? = some u → w.cell? ⟨b, off + i * k + j, none⟩ = some u) ∧ R w cs' x

/-- A reading that growing memory keeps. -/
def Mono {α : Type} (R : Rd α) : Prop := ∀ w w' cs x, Kept w w' → R w cs x → R w' cs x
theorem mono_int : Mono IntR := fun _ _ _ _ _ h => h
theorem mono_bool : Mono BoolR := fun _ _ _ _ _ h => h
theorem mono_str : Mono StrR := fun _ _ _ _ _ h => h
theorem mono_slice {α : Type} {k : Nat} {R : Rd α} (hR : Mono R) : Mono (SliceR k R) := by
  rintro w w' cs xs hk ⟨A, c, rfl, h1, h2, h3⟩
  refine ⟨A, c, rfl, h1, h2, fun i x hx => ?_⟩
  obtain ⟨b, off, cs', rfl, hl, hc, hr⟩ := h3 i x hx
  exact ⟨b, off, cs', rfl, hl, fun j u hu => hk _ _ (hc j u hu), hR _ _ _ _ hk hr⟩

/-- A slice of ints. -/
def IntsR (w : World) (v : Value) (l : List Int) : Prop := SliceR 1 IntR w [v] l
theorem IntsR.kept {w w' : World} {v : Value} {l : List Int} (h : IntsR w v l) (hk : Kept w w') : IntsR w' v l := mono_slice mono_int _ _ _ _ hk h
theorem IntsR.below {B : Nat} {w w' : World} {v : Value} {l : List Int} (h : IntsR w v l) (hb : Below B w w') (hB : w.heap.size ≤ B) : IntsR w' v l := h.kept (Kept.below hb hB)
theorem IntsR.form {w : World} {v : Value} {l : List Int} (h : IntsR w v l) : ∃ A c, v = .slice A l.length c ∧ l.length ≤ c ∧ c ≤ maxLen := by
  obtain ⟨A, c, hv, h1, h2, _⟩ := h
  exact ⟨A, c, by simpa using hv, h1, h2⟩
theorem IntsR.at_ {w : World} {A : Option Addr} {n c : Nat} {l : List Int} (h : IntsR w (.slice A n c) l) {k : Nat} (hk : k < l.length) :
    ∃ b off x, A = some ⟨b, off, none⟩ ∧ Hid (l[k]? = some x) ∧ Fits x ∧ b < w.heap.size ∧ w.cell? ⟨b, off + k, none⟩ = some (.int .i64 x) := by
  obtain ⟨A', c', hv, h1, h2, h3⟩ := h
  simp only [List.cons.injEq, Value.slice.injEq, and_true] at hv
  obtain ⟨rfl, rfl, rfl⟩ := hv
  obtain ⟨b, off, cs', rfl, hl, hc, rfl, hf⟩ := h3 k _ (List.getElem?_eq_getElem hk)
  have hc0 := hc 0 _ rfl
  simp only [Nat.mul_one, Nat.add_zero] at hc0
  exact ⟨b, off, _, rfl, List.getElem?_eq_getElem hk, hf, World.block_lt_of_cell? w _ hc0, hc0⟩
theorem IntsR.fits {w : World} {v : Value} {l : List Int} (h : IntsR w v l) : ∀ x ∈ l, Fits x := by
  obtain ⟨A', c', hv, h1, h2, h3⟩ := h
  intro x hx
  obtain ⟨i, hi, rfl⟩ := List.getElem_of_mem hx
  obtain ⟨b, off, cs', rfl, hl, hc, rfl, hf⟩ := h3 i _ (List.getElem?_eq_getElem hi)
  exact hf

theorem take_snoc {α : Type} {l : List α} {k : Nat} {x : α} (h : l[k]? = some x) : l.take (k + 1) = l.take k ++ [x] := by
  rw [List.take_add_one, h]; rfl
theorem all_snoc {α : Type} {p : α → Bool} {l : List α} {k : Nat} {x : α} (h : l[k]? = some x) (ht : (l.take k).all p = true) (hx : p x = true) : (l.take (k + 1)).all p = true := by
  rw [take_snoc h, List.all_append, ht]; simp [hx]
theorem all_stop {α : Type} {p : α → Bool} {l : List α} {k : Nat} {x : α} (h : l[k]? = some x) (hx : p x = false) : l.all p = false := by
  rw [List.all_eq_false]
  exact ⟨x, List.mem_of_getElem? h, by simp [hx]⟩
theorem all_done {α : Type} {p : α → Bool} {l : List α} {k : Nat} (hk : l.length ≤ k) (ht : (l.take k).all p = true) : l.all p = true := by
  rwa [List.take_of_length_le hk] at ht
theorem hid_lt {α : Type} {l : List α} {k : Nat} {x : α} (h : Hid (l[k]? = some x)) : k < l.length := (List.getElem?_eq_some_iff.1 h.out).1

/-- A row of ints of the call's own reads as a slice of ints. -/
theorem IntsR.of_own {w : World} {base e : Nat} {v : Value} {l : List Int} (h : w.ownsRow base e 1 v l.length (l.map (Value.int .i64))) (hf : ∀ x ∈ l, Fits x) : IntsR w v l := by
  rcases h.2 with ⟨rfl, h0⟩ | ⟨g, cap, cur, rfl, hb, hg, hnc, hcm, hcs, htake⟩
  · have : l = [] := List.eq_nil_of_length_eq_zero h0
    subst this
    exact ⟨none, 0, rfl, Nat.le_refl _, Nat.zero_le _, fun i x hx => by simp at hx⟩
  · refine ⟨some ⟨g, 0, none⟩, cap, rfl, hnc, hcm, fun i x hx => ⟨g, 0, [.int .i64 x], rfl, rfl, fun j u hu => ?_, rfl, hf x (List.mem_of_getElem? hx)⟩⟩
    have hi : i < l.length := (List.getElem?_eq_some_iff.1 hx).1
    have h1 := h.cellAt i (by omega)
    rcases j with _ | j
    · simp only [List.getElem?_cons_zero, Option.some.injEq] at hu
      subst hu
      simp only [Nat.mul_one, Nat.add_zero, Nat.zero_add]
      rw [h1, List.getElem?_map, hx]; rfl
    · simp at hu

section
variable {H : Type} {enc : TypeId × Value → H} {P : Program} {w : World} {base : Nat} {spare : Nat → Bool} {held : Bool}
theorem trod_int {t : TypeId} {fuel : Nat} {cs : List Value} {x : DataW H × List MemPlace} (ht : P.underlying t = some (.int .i64)) (h : DataW.trod enc P w base spare held fuel t cs = some x) : ∃ n, IntR w cs n := by
  obtain ⟨n, rfl, _, hw⟩ := DataW.trod_int ht h
  exact ⟨n, rfl, fits_of_wf hw⟩
theorem trod_bool {t : TypeId} {fuel : Nat} {cs : List Value} {x : DataW H × List MemPlace} (ht : P.underlying t = some .bool) (h : DataW.trod enc P w base spare held fuel t cs = some x) : ∃ b, BoolR w cs b := by
  cases fuel with
  | zero => simp [DataW.trod] at h
  | succ f =>
    unfold DataW.trod at h
    rw [ht] at h
    split at h <;> simp_all [BoolR]
theorem trod_str {t : TypeId} {fuel : Nat} {cs : List Value} {x : DataW H × List MemPlace} (ht : P.underlying t = some .string) (h : DataW.trod enc P w base spare held fuel t cs = some x) : ∃ s, StrR w cs s := by
  cases fuel with
  | zero => simp [DataW.trod] at h
  | succ f =>
    unfold DataW.trod at h
    rw [ht] at h
    split at h <;> simp_all [StrR]
theorem trod_slice {α : Type} {t e : TypeId} {k : Nat} {R : Rd α} {fuel : Nat} {cs : List Value} {x : DataW H × List MemPlace} (ht : P.underlying t = some (.slice e)) (hk : P.cellsOf e = k) (hpos : 0 < k)
    (hR : ∀ n cs x, DataW.trod enc P w base spare held n e cs = some x → ∃ a, R w cs a) (h : DataW.trod enc P w base spare held fuel t cs = some x) : ∃ xs, SliceR k R w cs xs := by
  rcases Deep.open_slice ht h with ⟨rfl, _⟩ | ⟨a, len, cap, m, n, D, Pl, rfl, hb, hl, hm, hmm, hx, hi⟩
  · exact ⟨[], none, 0, rfl, Nat.le_refl _, Nat.zero_le _, fun i x hx => by simp at hx⟩
  · have hlm : len ≤ m := by rw [hmm]; split <;> omega
    have hch : ∀ i, i < len → ∃ y : α, ∃ cs', w.cells? base (a.add (i * P.cellsOf e)) (P.cellsOf e) = some cs' ∧ R w cs' y := fun i hil => by
      obtain ⟨cs', hc, ht'⟩ := hi i (by omega)
      obtain ⟨y, hy⟩ := hR _ _ _ ht'
      exact ⟨y, cs', hc, hy⟩
    have hlist : ∀ m, m ≤ len → ∃ ys : List α, ys.length = m ∧ ∀ i y, ys[i]? = some y → ∃ cs', w.cells? base (a.add (i * P.cellsOf e)) (P.cellsOf e) = some cs' ∧ R w cs' y := by
      intro m
      induction m with
      | zero => intro _; exact ⟨[], rfl, fun i y hy => by simp at hy⟩
      | succ m ih =>
        intro hm'
        obtain ⟨ys, hyl, hys⟩ := ih (by omega)
        obtain ⟨y, hy⟩ := hch m (by omega)
        refine ⟨ys ++ [y], by simp [hyl], fun i z hz => ?_⟩
        by_cases him : i < ys.length
        · rw [List.getElem?_append_left him] at hz
          exact hys i z hz
        · rw [List.getElem?_append_right (by omega)] at hz
          have : i = m := by
            have := (List.getElem?_eq_some_iff.1 hz).1
            simp at this; omega
          subst this
          simp [hyl] at hz
          subst hz
          exact hy
    obtain ⟨ys, hyl, hys⟩ := hlist len (Nat.le_refl _)
    refine ⟨ys, some a, cap, by rw [hyl], by omega, hm, fun i y hy => ?_⟩
    obtain ⟨cs', hc, hr⟩ := hys i y hy
    obtain ⟨_, hcl, hat⟩ := World.cells?_some hc
    rw [hk] at hcl hat
    have hspot : a.spot = none := by
      have hyl0 : 0 < ys.length := by
        have := (List.getElem?_eq_some_iff.1 hy).1
        omega
      obtain ⟨cs0, hc0, _⟩ := hys 0 _ (List.getElem?_eq_getElem hyl0)
      obtain ⟨_, hcl0, hat0⟩ := World.cells?_some hc0
      rw [hk] at hcl0 hat0
      have h0 := hat0 0 hpos
      have hv : cs0[0]? = some (cs0[0]'(by omega)) := List.getElem?_eq_getElem (by omega)
      rw [hv] at h0
      have := World.cell?_spot h0
      simpa [Addr.add] using this
    obtain ⟨b, off, spot⟩ := a
    simp only at hspot
    subst hspot
    have hadd : ∀ n, (⟨b, off, none⟩ : Addr).add n = ⟨b, off + n, none⟩ := fun n => by
      unfold Addr.add; split <;> simp_all
    refine ⟨b, off, cs', rfl, hcl, fun j u hu => ?_, hr⟩
    have hj : j < k := by
      have := (List.getElem?_eq_some_iff.1 hu).1
      omega
    have h1 := hat j hj
    rw [hu, Deep.add_add, hadd] at h1
    rw [← h1, Nat.add_assoc]
end

/- Contracts of the two range tests, program and reference. -/

/-- n lies in the range a to b. -/
def inB (n a b : Int) : Bool := decide (a ≤ n) && decide (n ≤ b)
theorem inB_true {n a b : Int} (h : inB n a b = true) : a ≤ n ∧ n ≤ b := by simpa [inB] using h
theorem inB_false {n a b : Int} (h : inB n a b = false) : n < a ∨ b < n := by simp [inB] at h; omega
theorem inB_mk {n a b : Int} (h : a ≤ n) (h' : n ≤ b) : inB n a b = true := by simp [inB, h, h']
theorem inB_no {n a b : Int} (h : n < a ∨ b < n) : inB n a b = false := by simp [inB]; omega


theorem within_any (n a b : Int) (w : World) : Calls Try.prog 62 #[.int .i64 n, .int .i64 a, .int .i64 b] w fun e w' => e = .returned (.bool (inB n a b)) ∧ w = w' := by
  by_cases h : a ≤ n
  · by_cases h' : n ≤ b
    · go_enter Try.func62, Try.ntmps62
      go_wp2
      go_ret
      exact ⟨ret_bool (inB_mk h h').symm, rfl⟩
    · go_enter Try.func62, Try.ntmps62
      go_wp2
      go_ret
      exact ⟨ret_bool (inB_no (.inr (by omega))).symm, rfl⟩
  · go_enter Try.func62, Try.ntmps62
    go_wp2
    go_ret
    exact ⟨ret_bool (inB_no (.inl (by omega))).symm, rfl⟩

theorem l1In_any (n a b : Int) (w : World) : Calls Try.prog 59 #[.int .i64 n, .int .i64 a, .int .i64 b] w fun e w' => e = .returned (.bool (inB n a b)) ∧ w = w' := by
  by_cases h : a ≤ n
  · by_cases h' : n ≤ b
    · go_enter Try.func59, Try.ntmps59
      go_wp2
      go_ret
      exact ⟨ret_bool (inB_mk h h').symm, rfl⟩
    · go_enter Try.func59, Try.ntmps59
      go_wp2
      go_ret
      exact ⟨ret_bool (inB_no (.inr (by omega))).symm, rfl⟩
  · go_enter Try.func59, Try.ntmps59
    go_wp2
    go_ret
    exact ⟨ret_bool (inB_no (.inl (by omega))).symm, rfl⟩

theorem pow2_le (b : Nat) (h : b ≤ 12) : 1 ≤ (2 : Int) ^ b ∧ (2 : Int) ^ b ≤ 4096 := by
  have : ∀ b : Fin 13, 1 ≤ (2 : Int) ^ b.1 ∧ (2 : Int) ^ b.1 ≤ 4096 := by decide
  exact this ⟨b, by omega⟩

/- Contracts of the laws' helpers over []int: toIntS, eqIntS, szIntS, markIntS, heldIntS. -/

theorem info_int : (Try.prog.info? 3).map (fun i => (i.zero, i.size, i.bytes)) = some (some (.int .i64 0), 1, 8) := by kernel_rfl

abbrev vals (l : List Int) : List Value := l.map (Value.int .i64)
/-- A row of ints of the call's own, from block 'base' on. -/
abbrev OwnI (w : World) (base : Nat) (v : Value) (l : List Int) : Prop := w.ownsRow base 3 1 v l.length (vals l)

/-- What a function that makes a new slice of ints hands back. -/
def NewInts (w : World) (l : List Int) (e : Ending) (w' : World) : Prop := ∃ v, e = .returned v ∧ OwnI w' w.heap.size v l ∧ Below w.heap.size w w'

theorem take_set_snoc {α : Type} (zs : List α) (k : Nat) (u : α) (h : k < zs.length) : (zs.set k u).take (k + 1) = zs.take k ++ [u] := by
  rw [List.take_add_one, List.getElem?_set_self h, List.take_set, List.set_eq_of_length_le (by simp; omega)]
  rfl

theorem toInts_rel {w wr : World} {n k : Nat} {l : List Int} {zs : List Value} {x : Int} (hk : Hid (l[k]? = some x)) (hn : n = l.length)
    (hown : wr.ownsRow w.heap.size 3 1 (.slice (some ⟨w.heap.size, 0, none⟩) n n) n zs) (htake : zs.take k = vals (l.take k)) (hb : Below w.heap.size w wr) :
    (wr.setCell ⟨w.heap.size, k, none⟩ (.int .i64 x)).ownsRow w.heap.size 3 1 (.slice (some ⟨w.heap.size, 0, none⟩) n n) n (zs.set k (.int .i64 x)) ∧ (zs.set k (.int .i64 x)).take (k + 1) = vals (l.take (k + 1)) ∧
    Below w.heap.size w (wr.setCell ⟨w.heap.size, k, none⟩ (.int .i64 x)) := by
  have hlt := hid_lt hk
  refine ⟨(hown.stored k _).1, ?_, hb.setCell (Nat.le_refl _) _⟩
  rw [take_set_snoc _ _ _ (by have := hown.1; omega), htake, take_snoc hk.out]
  simp [vals]

set_option maxHeartbeats 400000 in
theorem toIntS_any (v : Value) (l : List Int) (w : World) (h : IntsR w v l) (hl : l.length ≤ 17592186044416) :
    Calls Try.prog 60 #[v] w (NewInts w l) := by
  obtain ⟨i0, hi, hz0, hz1, hz2⟩ := info_parts info_int
  obtain ⟨A, c, rfl, hc1, hc2⟩ := h.form
  go_enter Try.func60, Try.ntmps60
  go_wp2_with (at_make; refine wpList_make_full _ rfl _ _ 22 rfl w.heap.size 3 i0 (.int .i64 0) 1 Try.underlying22 hi hz0 hz1 .i64 .i64 _ _ l.length rfl rfl rfl rfl ?c1 ?c2 ?c3 ?_)
  case c1 => rw [hz2]; omega
  case c2 => unfold maxLen; omega
  case c3 => exact Nat.le_refl _
  intro w1 hown hg
  have hb1 : Below w.heap.size w w1 := (Below.refl _ _).grown hg (Nat.le_refl _) (by simp)
  clear hg
  go_wp2
  go_loopw [4] (fun i wr => ∃ k : Nat, k ≤ l.length ∧ i = .int .i64 k ∧ ∃ zs, wr.ownsRow w.heap.size 3 1 (.slice (some ⟨w.heap.size, 0, none⟩) l.length l.length) l.length zs ∧ zs.take k = vals (l.take k) ∧ Below w.heap.size w wr) (fun i _ => l.length - (intOf i).toNat)
  case atStart => exact ⟨0, Nat.zero_le _, rfl, _, hown, by simp, hb1⟩
  case round =>
    clear hown hb1 w1
    obtain ⟨k, hk, rfl, zs, hown, htake, hb⟩ := hrel
    by_cases hlt : k < l.length
    · obtain ⟨b, off, x, rfl, hx, hf, hbs, hcell⟩ := (h.below hb (Nat.le_refl _)).at_ hlt
      have hd : ∃ u, wr.cell? ⟨w.heap.size, k, none⟩ = some u := ⟨_, (hown.cellAt k (by omega)).trans (List.getElem?_eq_getElem (by have := hown.1; omega))⟩
      obtain ⟨u0, hd⟩ := hd
      have hz := hown.frozenAt k
      have HR := Lib.hid (toInts_rel hx rfl hown htake hb)
      clear hown htake hb h
      go_wp2
      exact ⟨⟨k + 1, by omega, by go_num, _, HR.out.1, HR.out.2.1, HR.out.2.2⟩, by simp [intOf]; omega⟩
    · have HO := Lib.hid hown
      have HT : Hid (zs = vals l) := by
        have h1 := hown.1
        rw [List.take_of_length_le (by omega), List.take_of_length_le (by omega)] at htake
        exact htake
      clear hown htake
      go_wp2
      go_ret
      exact ⟨_, rfl, by have := HO.out; rw [HT.out] at this; exact this, hb⟩

/-- Two lists of ints are one. -/
def eqL (a b : List Int) : Bool := decide (a = b)
theorem eqL_self (a : List Int) : eqL a a = true := by simp [eqL]

set_option maxHeartbeats 400000 in
theorem eqIntS_any (v v' : Value) (l l' : List Int) (w : World) (h : IntsR w v l) (h' : IntsR w v' l') :
    Calls Try.prog 63 #[v, v'] w fun e w' => e = .returned (.bool (eqL l l')) ∧ ∃ n, w' = w.drewN n := by
  obtain ⟨A, c, rfl, hc1, hc2⟩ := h.form
  obtain ⟨A', c', rfl, hc1', hc2'⟩ := h'.form
  unfold maxLen at hc2 hc2'
  by_cases hne : l.length = l'.length
  · have hl : ((l.length : Int) != (l'.length : Int)) = false := by simp [hne]
    have HN := Lib.hid hne
    clear hne
    go_enter Try.func63, Try.ntmps63
    go_wp2
    go_loopw [5] (fun i wr => ∃ k : Nat, k ≤ l.length ∧ i = .int .i64 k ∧ l.take k = l'.take k ∧ ∃ n, wr = w.drewN n) (fun i _ => l.length - (intOf i).toNat)
    case atStart => exact ⟨0, Nat.zero_le _, rfl, rfl, 0, rfl⟩
    case round =>
      obtain ⟨k, hk, rfl, heq, n, rfl⟩ := hrel
      have HE := Lib.hid heq
      clear heq
      by_cases hlt : k < l.length
      · obtain ⟨b, off, x, rfl, hx, hf, hbs, hcell⟩ := h.at_ hlt
        have hlt' : k < l'.length := by rw [← HN.out]; exact hlt
        obtain ⟨b', off', x', rfl, hx', hf', hbs', hcell'⟩ := h'.at_ hlt'
        by_cases hxx : x = x'
        · subst hxx
          go_wp2
          go_quiet (fail)
          go_wp2
          exact ⟨⟨k + 1, by omega, by go_num, by rw [take_snoc hx.out, take_snoc hx'.out, HE.out], _, rfl⟩, by simp [intOf]; omega⟩
        · have hxn : (x != x') = true := by simp [hxx]
          go_wp2
          go_quiet (fail)
          go_wp2
          go_ret
          refine ⟨ret_bool ?_, _, World.drewN_drewN _ _ _⟩
          simp only [eqL]
          symm
          rw [decide_eq_false_iff_not]
          rintro rfl
          have := hx.out.symm.trans hx'.out
          simp at this
          exact hxx this
      · go_wp2
        go_ret
        refine ⟨ret_bool ?_, _, rfl⟩
        have hE := HE.out
        rw [List.take_of_length_le (by omega), List.take_of_length_le (by have := HN.out; omega)] at hE
        simp [eqL, hE]
  · have hl : ((l.length : Int) != (l'.length : Int)) = true := by simp; omega
    go_enter Try.func63, Try.ntmps63
    go_wp2
    go_ret
    exact ⟨ret_bool (by simp only [eqL]; symm; rw [decide_eq_false_iff_not]; rintro rfl; exact hne rfl), 0, rfl⟩

def szStep (n : Nat) (m : Int) : Int := if n ≤ m then m - n else -1
theorem szStep_yes {n : Nat} {m : Int} (h : n ≤ m) : szStep n m = m - n := if_pos h
theorem szStep_no {n : Nat} {m : Int} (h : ¬ n ≤ m) : szStep n m = -1 := if_neg h

theorem szIntS_any (v : Value) (l : List Int) (m : Int) (w : World) (h : IntsR w v l) (hm : 0 ≤ m) (hm' : m ≤ 1048576) (hl : l.length ≤ 9223372036854775807) :
    Calls Try.prog 57 #[v, .int .i64 m] w fun e w' => e = .returned (.int .i64 (szStep l.length m)) ∧ w = w' := by
  obtain ⟨A, c, rfl, hc1, hc2⟩ := h.form
  by_cases hlt : (l.length : Int) ≤ m
  · go_enter Try.func57, Try.ntmps57
    go_wp2
    go_ret
    exact ⟨ret_int (szStep_yes (by omega)).symm, rfl⟩
  · go_enter Try.func57, Try.ntmps57
    go_wp2
    go_ret
    exact ⟨ret_int (szStep_no (by omega)).symm, rfl⟩

/-- n numbers from k on. -/
def iota (k : Int) (n : Nat) : List Int := (List.range n).map fun i => k + (i : Nat)
theorem iota_length (k : Int) (n : Nat) : (iota k n).length = n := by simp [iota]
theorem iota_succ (k : Int) (n : Nat) : iota k (n + 1) = iota k n ++ [k + n] := by simp [iota, List.range_succ]
theorem iota_at {k : Int} {n i : Nat} {x : Int} (h : (iota k n)[i]? = some x) : x = k + i := by
  simp only [iota, List.getElem?_map, Option.map_eq_some_iff] at h
  obtain ⟨j, hj, rfl⟩ := h
  have := (List.getElem?_eq_some_iff.1 hj).2
  simp at this
  omega
theorem iota_fits {k : Int} {n : Nat} (h0 : 0 ≤ k) (h : k + n ≤ 9223372036854775807) : ∀ x ∈ iota k n, Fits x := by
  intro x hx
  simp only [iota, List.mem_map, List.mem_range] at hx
  obtain ⟨i, hi, rfl⟩ := hx
  unfold Fits; omega

theorem owns_shape {w : World} {base e size n : Nat} {v : Value} {xs : List Value} (h : w.ownsRow base e size v n xs) : ∃ A c, v = .slice A n c ∧ n ≤ c ∧ c ≤ maxLen ∧ (0 < n → ∃ g, A = some ⟨g, 0, none⟩ ∧ base ≤ g ∧ g < w.heap.size) := by
  rcases h.2 with ⟨rfl, rfl⟩ | ⟨g, cap, cur, rfl, hb, hg, h1, h2, _⟩
  · exact ⟨none, 0, rfl, Nat.le_refl _, Nat.zero_le _, fun h => absurd h (by omega)⟩
  · exact ⟨_, cap, rfl, h1, h2, fun _ => ⟨g, rfl, hb, (Array.getElem?_eq_some_iff.1 hg).1⟩⟩

/-- What marking a row of ints leaves. -/
def Marked (w : World) (base : Nat) (v : Value) (k : Int) (n : Nat) (e : Ending) (w' : World) : Prop := e = .returned (.int .i64 (k + n)) ∧ OwnI w' base v (iota k n) ∧ w.grownBy w' v.ownBlock ∧ w'.heap.size = w.heap.size

theorem mark_rel {w wr : World} {base n k g c : Nat} {k0 : Int} {zs : List Value} (hk : k < n) (hown : wr.ownsRow base 3 1 (.slice (some ⟨g, 0, none⟩) n c) n zs) (htake : zs.take k = vals (iota k0 k)) (hg : w.grownBy wr (some g)) (hsz : wr.heap.size = w.heap.size) :
    (wr.setCell ⟨g, k, none⟩ (.int .i64 (k0 + k))).ownsRow base 3 1 (.slice (some ⟨g, 0, none⟩) n c) n (zs.set k (.int .i64 (k0 + k))) ∧ (zs.set k (.int .i64 (k0 + k))).take (k + 1) = vals (iota k0 (k + 1)) ∧
    w.grownBy (wr.setCell ⟨g, k, none⟩ (.int .i64 (k0 + k))) (some g) ∧ (wr.setCell ⟨g, k, none⟩ (.int .i64 (k0 + k))).heap.size = w.heap.size := by
  refine ⟨(hown.stored k _).1, ?_, hg.trans (hown.stored k _).2, by simpa [World.setCell] using hsz⟩
  rw [take_set_snoc _ _ _ (by have := hown.1; omega), htake, iota_succ]
  simp [vals]

set_option maxHeartbeats 400000 in
theorem markIntS_any (v : Value) (n base : Nat) (xs : List Value) (k0 : Int) (w : World) (h : w.ownsRow base 3 1 v n xs) (h0 : 0 ≤ k0) (hk : k0 + n ≤ 9223372036854775807) :
    Calls Try.prog 72 #[v, .int .i64 k0] w (Marked w base v k0 n) := by
  obtain ⟨A, c, rfl, hc1, hc2, hA⟩ := owns_shape h
  go_enter Try.func72, Try.ntmps72
  go_wp2
  go_loopw [1, 5] (fun t i wr => ∃ k : Nat, k ≤ n ∧ i = .int .i64 k ∧ t = .int .i64 (k0 + k) ∧ ∃ zs, wr.ownsRow base 3 1 (.slice A n c) n zs ∧ zs.take k = vals (iota k0 k) ∧ w.grownBy wr (Value.slice A n c).ownBlock ∧ wr.heap.size = w.heap.size) (fun _ i _ => n - (intOf i).toNat)
  case atStart => exact ⟨0, Nat.zero_le _, rfl, by simp, xs, h, by simp [iota], World.grownBy.refl _ _, rfl⟩
  case round =>
    obtain ⟨k, hkn, rfl, rfl, zs, hown, htake, hg, hsz⟩ := hrel
    by_cases hlt : k < n
    · obtain ⟨g, rfl, _, _⟩ := hA (by omega)
      have hd : ∃ u, wr.cell? ⟨g, k, none⟩ = some u := ⟨_, (hown.cellAt k (by omega)).trans (List.getElem?_eq_getElem (by have := hown.1; omega))⟩
      obtain ⟨u0, hd⟩ := hd
      have hz := hown.frozenAt k
      have HR := Lib.hid (mark_rel hlt hown htake hg hsz)
      clear hown htake hg h hA hsz
      go_wp2
      exact ⟨⟨k + 1, by omega, by go_num, by go_num, _, HR.out.1, HR.out.2.1, HR.out.2.2.1, HR.out.2.2.2⟩, by simp [intOf]; omega⟩
    · have HT : Hid (zs = vals (iota k0 n)) := by
        have h1 := hown.1
        obtain rfl : k = n := by omega
        rw [List.take_of_length_le (by omega)] at htake
        exact htake
      have HO := Lib.hid hown
      have HG := Lib.hid hg
      have HS := Lib.hid hsz
      obtain rfl : k = n := by omega
      clear hown htake hg h hA hsz
      go_wp2
      go_ret
      exact ⟨rfl, by have := HO.out; rw [HT.out] at this; unfold OwnI; rw [iota_length]; exact this, HG.out, HS.out⟩

set_option maxHeartbeats 400000 in
theorem heldIntS_any (v : Value) (n : Nat) (k0 : Int) (w : World) (h : IntsR w v (iota k0 n)) (h0 : 0 ≤ k0) (hk : k0 + n ≤ 9223372036854775807) :
    Calls Try.prog 76 #[v, .int .i64 k0] w fun e w' => e = .returned (.int .i64 (k0 + n)) ∧ w = w' := by
  obtain ⟨A, c, rfl, hc1, hc2⟩ := h.form
  rw [iota_length] at h hc1 ⊢
  have hlen := iota_length k0 n
  go_enter Try.func76, Try.ntmps76
  go_wp2
  go_loop [1, 5] (fun t i => ∃ k : Nat, k ≤ n ∧ i = .int .i64 k ∧ t = .int .i64 (k0 + k)) (fun _ i => n - (intOf i).toNat)
  case atStart => exact ⟨0, Nat.zero_le _, rfl, by simp⟩
  case round =>
    obtain ⟨k, hkn, rfl, rfl⟩ := hrel
    by_cases hlt : k < n
    · obtain ⟨b, off, x, rfl, hx, hf, hbs, hcell⟩ := h.at_ (k := k) (by omega)
      obtain rfl := iota_at hx.out
      clear hlen h
      go_wp2
      exact ⟨⟨k + 1, by omega, by go_num, by go_num⟩, by simp [intOf]; omega⟩
    · obtain rfl : k = n := by omega
      clear hlen h
      go_wp2
      go_ret
      exact ⟨rfl, rfl⟩

/- Words on memory that a call itself made: a datum with its footprint, the list of the blocks that hold it. Two data whose footprints share no block are apart: writing one leaves the other. -/

abbrev Od (α : Type) := World → List Nat → List Value → α → Prop
/-- Blocks of F are the same in both worlds. -/
def KeptOn (F : List Nat) (w w' : World) : Prop := ∀ g ∈ F, w'.heap[g]? = w.heap[g]?
def MonoO {α : Type} (O : Od α) : Prop := ∀ w w' F cs x, KeptOn F w w' → O w F cs x → O w' F cs x
/-- A datum of the call's own reads. -/
def Reads {α : Type} (O : Od α) (R : Rd α) : Prop := ∀ w F cs x, O w F cs x → R w cs x
/-- All blocks of the footprint are blocks of the world. -/
def Inside {α : Type} (O : Od α) : Prop := ∀ w F cs x, O w F cs x → ∀ g ∈ F, g < w.heap.size

/-- Only blocks of S, and new ones, may have changed. -/
structure Only (S : List Nat) (w w' : World) : Prop where
  os : w'.os = w.os
  tape : w'.tape = w.tape
  output : w'.output = w.output
  size : w.heap.size ≤ w'.heap.size
  block : ∀ k, k < w.heap.size → k ∉ S → w'.heap[k]? = w.heap[k]?
theorem Only.refl (S : List Nat) (w : World) : Only S w w := ⟨rfl, rfl, rfl, Nat.le_refl _, fun _ _ _ => rfl⟩
theorem Only.of_below {S : List Nat} {w w' : World} (h : Below w.heap.size w w') : Only S w w' := ⟨h.os, h.tape, h.output, h.size, fun k hk _ => h.block k hk⟩
theorem Only.trans {S : List Nat} {a b c : World} (h : Only S a b) (k : Only S b c) : Only S a c :=
  ⟨k.os.trans h.os, k.tape.trans h.tape, k.output.trans h.output, Nat.le_trans h.size k.size, fun i hi hn => (k.block i (Nat.lt_of_lt_of_le hi h.size) hn).trans (h.block i hi hn)⟩
theorem Only.mono {S S' : List Nat} {a b : World} (h : Only S a b) (hS : ∀ g ∈ S, g ∈ S') : Only S' a b := ⟨h.os, h.tape, h.output, h.size, fun i hi hn => h.block i hi (fun hm => hn (hS i hm))⟩
theorem Only.keptOn {S F : List Nat} {a b : World} (h : Only S a b) (hF : ∀ g ∈ F, g < a.heap.size ∧ g ∉ S) : KeptOn F a b := fun g hg => h.block g (hF g hg).1 (hF g hg).2
theorem Only.below {S : List Nat} {B : Nat} {a b : World} (h : Only S a b) (hS : ∀ g ∈ S, B ≤ g) (hB : B ≤ a.heap.size) : Below B a b :=
  ⟨h.os, h.tape, h.output, h.size, fun k hk => h.block k (by omega) (fun hm => by have := hS k hm; omega)⟩
theorem Only.of_grown {w w' : World} {row : Option Nat} (h : w.grownBy w' row) : Only row.toList w w' :=
  ⟨h.os, h.tape, h.output, h.size, fun k hk hn => h.block k hk (fun e => hn (by rw [← e]; simp))⟩

theorem KeptOn.below {F : List Nat} {B : Nat} {w w' : World} (h : Below B w w') (hF : ∀ g ∈ F, g < B) : KeptOn F w w' := fun g hg => h.block g (hF g hg)
theorem KeptOn.mono {F F' : List Nat} {w w' : World} (h : KeptOn F w w') (hF : ∀ g ∈ F', g ∈ F) : KeptOn F' w w' := fun g hg => h g (hF g hg)

def IntO : Od Int := fun _ F cs n => F = [] ∧ cs = [.int .i64 n] ∧ Fits n
def BoolO : Od Bool := fun _ F cs b => F = [] ∧ cs = [.bool b]
def StrO : Od ByteArray := fun _ F cs s => F = [] ∧ cs = [.string s] ∧ s.size ≤ maxLen
def IntsO : Od (List Int) := fun w F cs l => ∃ v, cs = [v] ∧ OwnI w 0 v l ∧ F = v.ownBlock.toList ∧ ∀ x ∈ l, Fits x
/-- A slice of the call's own, its elements of type e, k cells each, each with a footprint of its own. -/
def SliceO {α : Type} (e k : Nat) (O : Od α) : Od (List α) := fun w F cs xs =>
  ∃ (v : Value) (Fs : List (List Nat)) (css : List (List Value)), cs = [v] ∧ w.ownsRow 0 e k v xs.length (List.flatten css) ∧ F = v.ownBlock.toList ++ List.flatten Fs ∧ css.length = xs.length ∧ Fs.length = xs.length ∧
    ∀ (i : Nat) x, xs[i]? = some x → ∃ Fi ci, Fs[i]? = some Fi ∧ css[i]? = some ci ∧ ci.length = k ∧ O w Fi ci x

theorem owns_keptOn {w w' : World} {base e size n : Nat} {v : Value} {xs : List Value} (h : w.ownsRow base e size v n xs) (hk : KeptOn v.ownBlock.toList w w') : w'.ownsRow base e size v n xs := by
  refine ⟨h.1, ?_⟩
  rcases h.2 with hn | ⟨g, cap, cur, rfl, hb, hg, r⟩
  · exact .inl hn
  · exact .inr ⟨g, cap, cur, rfl, hb, (hk g (by simp [Value.ownBlock])).trans hg, r⟩
theorem owns_base {w : World} {base base' e size n : Nat} {v : Value} {xs : List Value} (h : w.ownsRow base e size v n xs) (hb : ∀ g ∈ v.ownBlock.toList, base' ≤ g) : w.ownsRow base' e size v n xs := by
  refine ⟨h.1, ?_⟩
  rcases h.2 with hn | ⟨g, cap, cur, rfl, _, hg, r⟩
  · exact .inl hn
  · exact .inr ⟨g, cap, cur, rfl, hb g (by simp [Value.ownBlock]), hg, r⟩
theorem owns_lt {w : World} {base e size n : Nat} {v : Value} {xs : List Value} (h : w.ownsRow base e size v n xs) : ∀ g ∈ v.ownBlock.toList, base ≤ g ∧ g < w.heap.size := fun g hg => h.lt g (by simpa using hg)

theorem mono_intO : MonoO IntO := fun _ _ _ _ _ _ h => h
theorem mono_boolO : MonoO BoolO := fun _ _ _ _ _ _ h => h
theorem mono_strO : MonoO StrO := fun _ _ _ _ _ _ h => h
theorem mono_intsO : MonoO IntsO := by
  rintro w w' F cs l hk ⟨v, rfl, ho, rfl, hf⟩
  exact ⟨v, rfl, owns_keptOn ho hk, rfl, hf⟩
theorem mono_sliceO {α : Type} {e k : Nat} {O : Od α} (hO : MonoO O) : MonoO (SliceO e k O) := by
  rintro w w' F cs xs hk ⟨v, Fs, css, rfl, ho, rfl, h1, h2, h3⟩
  refine ⟨v, Fs, css, rfl, owns_keptOn ho (hk.mono fun g hg => List.mem_append_left _ hg), rfl, h1, h2, fun i x hx => ?_⟩
  obtain ⟨Fi, ci, hF, hc, hl, ho'⟩ := h3 i x hx
  exact ⟨Fi, ci, hF, hc, hl, hO _ _ _ _ _ (hk.mono fun g hg => List.mem_append_right _ (List.mem_flatten.2 ⟨Fi, List.mem_of_getElem? hF, hg⟩)) ho'⟩

theorem inside_intO : Inside IntO := fun _ _ _ _ h g hg => by rw [h.1] at hg; simp at hg
theorem inside_intsO : Inside IntsO := by
  rintro w F cs l ⟨v, rfl, ho, rfl, _⟩ g hg
  exact (owns_lt ho g hg).2
theorem inside_sliceO {α : Type} {e k : Nat} {O : Od α} (hO : Inside O) : Inside (SliceO e k O) := by
  rintro w F cs xs ⟨v, Fs, css, rfl, ho, rfl, h1, h2, h3⟩ g hg
  rcases List.mem_append.1 hg with hg | hg
  · exact (owns_lt ho g hg).2
  · obtain ⟨Fi, hFi, hg⟩ := List.mem_flatten.1 hg
    obtain ⟨i, hi, rfl⟩ := List.getElem_of_mem hFi
    have hx : xs[i]? = some (xs[i]'(by omega)) := List.getElem?_eq_getElem (by omega)
    obtain ⟨Fi, ci, hF, _, _, ho'⟩ := h3 i _ hx
    rw [List.getElem?_eq_getElem hi] at hF
    injection hF with hF
    exact hO _ _ _ _ ho' g (hF ▸ hg)

theorem reads_int : Reads IntO IntR := fun _ _ _ _ h => h.2
theorem reads_bool : Reads BoolO BoolR := fun _ _ _ _ h => h.2
theorem reads_str : Reads StrO StrR := fun _ _ _ _ h => h.2
theorem reads_ints : Reads IntsO (SliceR 1 IntR) := by
  rintro w F cs l ⟨v, rfl, ho, rfl, hf⟩
  exact IntsR.of_own ho hf
theorem flatten_at {α : Type} {k : Nat} : ∀ (css : List (List α)), (∀ c ∈ css, c.length = k) → ∀ (i j : Nat) (c : List α), css[i]? = some c → j < k → css.flatten[i * k + j]? = c[j]?
  | [], _, i, j, c, h, _ => by simp at h
  | d :: css, hl, 0, j, c, h, hj => by
    simp at h; subst h
    rw [List.flatten_cons, Nat.zero_mul, Nat.zero_add, List.getElem?_append_left (by rw [hl d (by simp)]; exact hj)]
  | d :: css, hl, i + 1, j, c, h, hj => by
    have hd := hl d (by simp)
    rw [List.flatten_cons, List.getElem?_append_right (by rw [hd, Nat.add_mul]; omega), hd, show (i + 1) * k + j - k = i * k + j by rw [Nat.add_mul]; omega]
    exact flatten_at css (fun c hc => hl c (by simp [hc])) i j c (by simpa using h) hj
theorem reads_slice {α : Type} {e k : Nat} {O : Od α} {R : Rd α} (hO : Reads O R) : Reads (SliceO e k O) (SliceR k R) := by
  rintro w F cs xs ⟨v, Fs, css, rfl, ho, rfl, h1, h2, h3⟩
  obtain ⟨A, c, rfl, hc1, hc2, hA⟩ := owns_shape ho
  have hlen : ∀ c ∈ css, c.length = k := by
    intro c hc
    obtain ⟨i, hi, rfl⟩ := List.getElem_of_mem hc
    obtain ⟨_, ci, _, hci, hl, _⟩ := h3 i _ (List.getElem?_eq_getElem (by omega : i < xs.length))
    rw [List.getElem?_eq_getElem hi] at hci
    injection hci with hci
    rw [hci]; exact hl
  refine ⟨A, c, rfl, hc1, hc2, fun i x hx => ?_⟩
  have hi : i < xs.length := (List.getElem?_eq_some_iff.1 hx).1
  obtain ⟨g, rfl, _, _⟩ := hA (by omega)
  obtain ⟨Fi, ci, hF, hc, hl, ho'⟩ := h3 i x hx
  refine ⟨g, 0, ci, rfl, hl, fun j u hu => ?_, hO _ _ _ _ ho'⟩
  have hj : j < k := by
    have := (List.getElem?_eq_some_iff.1 hu).1
    omega
  have hik : i * k + j < xs.length * k := by
    have : (i + 1) * k ≤ xs.length * k := Nat.mul_le_mul_right k (by omega)
    rw [Nat.add_mul] at this; omega
  rw [Nat.zero_add, ho.cellAt (i * k + j) hik, flatten_at css hlen i j ci hc hj]
  exact hu

theorem keep_cell {w w' : World} {p : Addr} {u : Value} (h : w.cell? p = some u) (hb : Below w.heap.size w w') : w'.cell? p = some u := Kept.below hb (Nat.le_refl _) p u h
theorem keep_drew {w w' : World} {p : Addr} {u : Value} (h : w.cell? p = some u) (hb : Below w.drew.heap.size w.drew w') : w'.cell? p = some u := Kept.below hb (Nat.le_refl _) p u h

theorem keep_set {w : World} {p a : Addr} {u v : Value} (h : w.cell? p = some u) (hne : p.block < a.block) : (w.setCell a v).cell? p = some u := (World.cell?_setCell_other w a p v (fun e => by subst e; omega)).trans h
theorem keep_new {w : World} {p : Addr} {u : Value} {o : Obj} (h : w.cell? p = some u) : (w.alloc o).cell? p = some u := keep_cell h ((Below.refl _ _).alloc (Nat.le_refl _) _)
theorem keep_newD {w : World} {p : Addr} {u : Value} {o : Obj} (h : w.cell? p = some u) : (w.alloc o).drew.cell? p = some u := keep_cell h ((Below.refl _ _).alloc (Nat.le_refl _) _).drew

/-- Block g is known whole: just these cells, of element type t, none frozen. -/
def Blk (w : World) (g : Nat) (t : TypeId) (cs : Array Value) : Prop := w.heap[g]? = some (.cells cs t (0, 0))
section
variable {w w' : World} {g : Nat} {t : TypeId} {cs : Array Value}
theorem Blk.lt (h : Blk w g t cs) : g < w.heap.size := (Array.getElem?_eq_some_iff.1 h).1
theorem Blk.cell (h : Blk w g t cs) (i : Nat) : w.cell? ⟨g, i, none⟩ = cs[i]? := cell_of_row w g i cs t (0, 0) h
theorem Blk.frozen (h : Blk w g t cs) (i : Nat) : w.frozen? ⟨g, i, none⟩ = false := frozen_of_row w g i cs t h
theorem Blk.new (w : World) (t : TypeId) (cs : Array Value) : Blk (w.alloc (.cells cs t)) w.heap.size t cs := heap_alloc_new w _
theorem Blk.at_ (w : World) (t : TypeId) (cs : Array Value) (h : w.heap.size = g) : Blk (w.alloc (.cells cs t)) g t cs := by subst h; exact heap_alloc_new w _
theorem Blk.alloc (h : Blk w g t cs) (o : Obj) : Blk (w.alloc o) g t cs := (Below.heap_alloc w o g h.lt).trans h
theorem Blk.store (h : Blk w g t cs) (i : Nat) (u : Value) : Blk (w.setCell ⟨g, i, none⟩ u) g t (cs.setIfInBounds i u) := heap_setCell_same w g i cs t u h
theorem Blk.far (h : Blk w g t cs) {p : Addr} (hp : g ≠ p.block) (u : Value) : Blk (w.setCell p u) g t cs := (Below.heap_setCell w p u g hp).trans h
theorem Blk.below {B : Nat} (h : Blk w g t cs) (hb : Below B w w') (hg : g < B) : Blk w' g t cs := (hb.block g hg).trans h
theorem Blk.on (h : Blk w g t cs) (hb : Below w.heap.size w w') : Blk w' g t cs := h.below hb h.lt
theorem Blk.onDrew (h : Blk w g t cs) (hb : Below w.drew.heap.size w.drew w') : Blk w' g t cs := (hb.block g h.lt).trans h
theorem Blk.onDrewN {n : Nat} (h : Blk w g t cs) (hb : Below (w.drewN n).heap.size (w.drewN n) w') : Blk w' g t cs := (hb.block g h.lt).trans h
theorem Blk.drewN (h : Blk w g t cs) (n : Nat) : Blk (w.drewN n) g t cs := h
theorem Blk.get (h : Blk w g t cs) (i : Nat) (u : Value) (hu : cs[i]? = some u) : w.cell? ⟨g, i, none⟩ = some u := (h.cell i).trans hu
end

/-- What a function hands back that makes a datum new: its blocks are new, no two the same. -/
def NewO {α : Type} (O : Od α) (w : World) (x : α) (e : Ending) (w' : World) : Prop :=
  ∃ F v, e = .returned v ∧ O w' F v.cells.toList x ∧ F.Nodup ∧ (∀ g ∈ F, w.heap.size ≤ g) ∧ Below w.heap.size w w'

/-- The same for an aggregate, and for a slice. -/
def NewA {α : Type} (O : Od α) (w : World) (x : α) (e : Ending) (w' : World) : Prop :=
  ∃ F cs, e = .returned (.agg cs) ∧ O w' F cs.toList x ∧ F.Nodup ∧ (∀ g ∈ F, w.heap.size ≤ g) ∧ Below w.heap.size w w'
def NewS {α : Type} (O : Od (List α)) (w : World) (x : List α) (e : Ending) (w' : World) : Prop :=
  ∃ F A c, e = .returned (.slice A x.length c) ∧ O w' F [.slice A x.length c] x ∧ F.Nodup ∧ (∀ g ∈ F, w.heap.size ≤ g) ∧ Below w.heap.size w w'
theorem nodup_new {F G : List Nat} {N : Nat} (hF : F.Nodup) (hG : G.Nodup) (h1 : ∀ g ∈ F, g < N) (h2 : ∀ g ∈ G, N ≤ g) : (F ++ G).Nodup := by
  rw [List.nodup_append]
  exact ⟨hF, hG, fun a ha b hb e => by have := h1 a ha; have := h2 b hb; omega⟩
theorem far_of {α : Type} {O : Od α} (hO : MonoO O) {w : World} {F : List Nat} {cs : List Value} {x : α} (h : O w F cs x) {p : Addr} (hp : ∀ g ∈ F, p.block < g) (u : Value) : O (w.setCell p u) F cs x :=
  hO _ _ _ _ _ (fun g hg => Below.heap_setCell w p u g (by have := hp g hg; omega)) h
theorem grow_of {α : Type} {O : Od α} (hO : MonoO O) (hI : Inside O) {w w' : World} {F : List Nat} {cs : List Value} {x : α} (h : O w F cs x) (hb : Below w.heap.size w w') : O w' F cs x :=
  hO _ _ _ _ _ (KeptOn.below hb (hI _ _ _ _ h)) h

theorem grow_drew {α : Type} {O : Od α} (hO : MonoO O) (hI : Inside O) {w w' : World} {F : List Nat} {cs : List Value} {x : α} (h : O w F cs x) (hb : Below w.drew.heap.size w.drew w') : O w' F cs x :=
  hO _ _ _ _ _ (KeptOn.below ((Below.refl w.heap.size w).drew.trans hb) (hI _ _ _ _ h)) h

theorem NewInts.new {w w' : World} {l : List Int} {e : Ending} (h : NewInts w l e w') (hf : ∀ x ∈ l, Fits x) : ∃ F A c, e = .returned (.slice A l.length c) ∧ IntsO w' F [.slice A l.length c] l ∧ F.Nodup ∧ (∀ g ∈ F, w.heap.size ≤ g) ∧ Below w.heap.size w w' := by
  obtain ⟨v, rfl, ho, hb⟩ := h
  obtain ⟨A, c, rfl, _⟩ := owns_shape ho
  refine ⟨_, A, c, rfl, ⟨_, rfl, owns_base ho (fun g _ => Nat.zero_le g), rfl, hf⟩, ?_, fun g hg => (owns_lt ho g hg).1, hb⟩
  cases A <;> simp [Value.ownBlock]

theorem toIntS_new (v : Value) (l : List Int) (w : World) (h : SliceR 1 IntR w [v] l) (hc : l.length ≤ 1048576) : Calls Try.prog 60 #[v] w (NewS IntsO w l) :=
  (toIntS_any v l w h (by omega)).mono fun _ _ hn => hn.new (IntsR.fits h)
theorem slice_form {α : Type} {k : Nat} {R : Rd α} {w : World} {v : Value} {l : List α} (h : SliceR k R w [v] l) : ∃ A c, v = .slice A l.length c ∧ l.length ≤ c ∧ c ≤ maxLen := by
  obtain ⟨A, c, hv, h1, h2, _⟩ := h
  exact ⟨A, c, by simpa using hv, h1, h2⟩

/- Equal slices of ints compare equal. -/

theorem eqIntS_self (v v' : Value) (l : List Int) (w : World) (h : IntsR w v l) (h' : IntsR w v' l) : Calls Try.prog 63 #[v, v'] w fun e w' => e = .returned (.bool true) ∧ Below w.heap.size w w' :=
  (eqIntS_any v v' l l w h h').mono fun _ _ ⟨he, n, hn⟩ => ⟨by rw [he, eqL_self], by rw [hn]; exact below_drewN (Below.refl _ _) n⟩


/- Contracts of the laws' marks: what marking a datum of the call's own leaves, and that the marks are held. -/

/-- What marking leaves: the datum x in the same blocks, only these written. -/
def MarkO {α : Type} (O : Od α) (F : List Nat) (cs : List Value) (x : α) (k : Int) (w : World) (e : Ending) (w' : World) : Prop := e = .returned (.int .i64 k) ∧ O w' F cs x ∧ Only F w w'

theorem Blk.only {w w' : World} {g : Nat} {t : TypeId} {cs : Array Value} {S : List Nat} (h : Blk w g t cs) (ho : Only S w w') (hg : g ∉ S) : Blk w' g t cs := (ho.block g h.lt hg).trans h
theorem only_of {α : Type} {O : Od α} (hO : MonoO O) {w w' : World} {F S : List Nat} {cs : List Value} {x : α} (h : O w F cs x) (ho : Only S w w') (hF : ∀ g ∈ F, g < w.heap.size ∧ g ∉ S) : O w' F cs x :=
  hO _ _ _ _ _ (ho.keptOn hF) h
theorem Only.alloc {S : List Nat} {a w : World} (h : Only S a w) (o : Obj) : Only S a (w.alloc o) :=
  h.trans (Only.of_below ((Below.refl _ _).alloc (Nat.le_refl _) o))
theorem disj_of_nodup {F G : List Nat} (h : (F ++ G).Nodup) : ∀ g ∈ G, g ∉ F := fun g hg hf => (List.nodup_append.1 h).2.2 g hf g hg rfl
theorem disj_of_nodup' {F G : List Nat} (h : (F ++ G).Nodup) : ∀ g ∈ F, g ∉ G := fun g hg hf => (List.nodup_append.1 h).2.2 g hg g hf rfl

theorem markIntS_own (v : Value) (l : List Int) (F : List Nat) (k : Int) (w : World) (h : IntsO w F [v] l) (h0 : 0 ≤ k) (hk : k + l.length ≤ 4611686018427387904) :
    Calls Try.prog 72 #[v, .int .i64 k] w (MarkO IntsO F [v] (iota k l.length) (k + l.length) w) := by
  obtain ⟨v', hv, ho, rfl, hf⟩ := h
  simp only [List.cons.injEq, and_true] at hv
  subst hv
  refine (markIntS_any v l.length 0 (vals l) k w ho h0 (by omega)).mono ?_
  rintro e w' ⟨rfl, ho', hg, hs⟩
  exact ⟨rfl, ⟨v, rfl, ho', rfl, iota_fits h0 (by omega)⟩, Only.of_grown hg⟩

theorem heldIntS_own (v : Value) (l : List Int) (k : Int) (w : World) (h : SliceR 1 IntR w [v] (iota k l.length)) (h0 : 0 ≤ k) (hk : k + l.length ≤ 4611686018427387904) :
    Calls Try.prog 76 #[v, .int .i64 k] w fun e w' => e = .returned (.int .i64 (k + l.length)) ∧ Below w.heap.size w w' :=
  (heldIntS_any v l.length k w h h0 (by omega)).mono fun _ _ ⟨he, hw⟩ => ⟨he, hw ▸ Below.refl _ _⟩

/- Openers: what an argument's cells read as. -/
section
variable {H : Type} {enc : TypeId × Value → H} {w : World} {base : Nat} {spare : Nat → Bool} {held : Bool}
theorem open_ints {fuel : Nat} {cs : List Value} {x : DataW H × List MemPlace} (h : DataW.trod enc Try.prog w base spare held fuel 22 cs = some x) : ∃ l, SliceR 1 IntR w cs l :=
  trod_slice Try.underlying22 (by kernel_rfl) (by omega) (fun _ _ _ h => trod_int Try.underlying3 h) h
end

/- Slices of whatever element, for loops: reading element k; a slice that a loop fills element by element. -/

section
variable {α : Type}
theorem SliceR.at_ {K : Nat} {R : Rd α} {w : World} {A : Option Addr} {n c : Nat} {xs : List α} (h : SliceR K R w [.slice A n c] xs) {k : Nat} (hk : k < xs.length) :
    ∃ b off cs x, A = some ⟨b, off, none⟩ ∧ Hid (xs[k]? = some x) ∧ cs.length = K ∧ (∀ j u, cs[j]? = some u → w.cell? ⟨b, off + k * K + j, none⟩ = some u) ∧ R w cs x := by
  obtain ⟨A', c', hv, h1, h2, h3⟩ := h
  simp only [List.cons.injEq, Value.slice.injEq, and_true] at hv
  obtain ⟨rfl, rfl, rfl⟩ := hv
  obtain ⟨b, off, cs', rfl, hl, hc, hr⟩ := h3 k _ (List.getElem?_eq_getElem hk)
  exact ⟨b, off, cs', _, rfl, List.getElem?_eq_getElem hk, hl, hc, hr⟩
theorem SliceR.all_ {K : Nat} {R : Rd α} {w : World} {cs : List Value} {xs : List α} (h : SliceR K R w cs xs) {p : α → Prop} (hp : ∀ w cs x, R w cs x → p x) : ∀ x ∈ xs, p x := by
  obtain ⟨A', c', hv, h1, h2, h3⟩ := h
  intro x hx
  obtain ⟨i, hi, rfl⟩ := List.getElem_of_mem hx
  obtain ⟨b, off, cs', _, _, _, hr⟩ := h3 i _ (List.getElem?_eq_getElem hi)
  exact hp _ _ _ hr

def setCells (w : World) (g o : Nat) : List Value → World
  | [] => w
  | c :: cs => setCells (w.setCell ⟨g, o, none⟩ c) g (o + 1) cs
def setL (zs : List Value) (o : Nat) : List Value → List Value
  | [] => zs
  | c :: cs => setL (zs.set o c) (o + 1) cs
theorem setL_length (cs : List Value) : ∀ (zs : List Value) (o : Nat), (setL zs o cs).length = zs.length := by
  induction cs with
  | nil => intro zs o; rfl
  | cons c cs ih => intro zs o; rw [setL, ih]; simp
theorem setL_take (cs : List Value) : ∀ (zs : List Value) (o : Nat), o + cs.length ≤ zs.length → (setL zs o cs).take (o + cs.length) = zs.take o ++ cs := by
  induction cs with
  | nil => intro zs o _; simp [setL]
  | cons c cs ih =>
    intro zs o h
    simp only [List.length_cons] at h ⊢
    rw [setL, show o + (cs.length + 1) = (o + 1) + cs.length by omega, ih _ _ (by simp; omega), take_set_snoc _ _ _ (by omega)]
    simp
theorem setL_drop (cs : List Value) : ∀ (zs : List Value) (o m : Nat), o + cs.length ≤ m → (setL zs o cs).drop m = zs.drop m := by
  induction cs with
  | nil => intro zs o m _; rfl
  | cons c cs ih =>
    intro zs o m h
    simp only [List.length_cons] at h
    rw [setL, ih _ _ _ (by omega), List.drop_set_of_lt (by omega)]
theorem setCells_owns {base e size g n cap : Nat} (cs : List Value) : ∀ {w : World} {o : Nat} {zs : List Value}, w.ownsRow base e size (.slice (some ⟨g, 0, none⟩) n cap) n zs →
    (setCells w g o cs).ownsRow base e size (.slice (some ⟨g, 0, none⟩) n cap) n (setL zs o cs) := by
  induction cs with
  | nil => intro w o zs h; exact h
  | cons c cs ih => intro w o zs h; exact ih (h.stored o c).1
theorem setCells_heap (cs : List Value) : ∀ (w : World) (g o k : Nat), k ≠ g → (setCells w g o cs).heap[k]? = w.heap[k]? := by
  induction cs with
  | nil => intro w g o k _; rfl
  | cons c cs ih => intro w g o k hk; rw [setCells, ih _ _ _ _ hk]; exact Below.heap_setCell w ⟨g, o, none⟩ c k hk
theorem setCells_size (cs : List Value) : ∀ (w : World) (g o : Nat), (setCells w g o cs).heap.size = w.heap.size := by
  induction cs with
  | nil => intro w g o; rfl
  | cons c cs ih => intro w g o; rw [setCells, ih]; simp [World.setCell]
theorem setCells_below {B : Nat} {a : World} (cs : List Value) : ∀ {w : World} {g o : Nat}, Below B a w → B ≤ g → Below B a (setCells w g o cs) := by
  induction cs with
  | nil => intro w g o h _; exact h
  | cons c cs ih => intro w g o h hg; exact ih (h.setCell (p := ⟨g, o, none⟩) hg c) hg
theorem setCells_only {S : List Nat} {a : World} (cs : List Value) : ∀ {w : World} {g o : Nat}, Only S a w → g ∈ S → Only S a (setCells w g o cs) := by
  induction cs with
  | nil => intro w g o h _; exact h
  | cons c cs ih =>
    intro w g o h hg
    exact ih (h.trans ⟨rfl, rfl, rfl, by simp [World.setCell], fun k _ hk => Below.heap_setCell w ⟨g, o, none⟩ c k (fun e => hk (e ▸ hg))⟩) hg

/-- The first elements xs of a slice of n elements, made new at block g, are filled. -/
def Pre (O : Od α) (e K base : Nat) (w : World) (g n : Nat) (xs : List α) : Prop :=
  ∃ (zs : List Value) (Fs : List (List Nat)) (css : List (List Value)), w.ownsRow base e K (.slice (some ⟨g, 0, none⟩) n n) n zs ∧ zs.take (xs.length * K) = css.flatten ∧ css.length = xs.length ∧ Fs.length = xs.length ∧
    (∀ (i : Nat) x, xs[i]? = some x → ∃ Fi ci, Fs[i]? = some Fi ∧ css[i]? = some ci ∧ ci.length = K ∧ O w Fi ci x) ∧ Fs.flatten.Nodup ∧ (∀ q ∈ Fs.flatten, g < q ∧ q < w.heap.size)
theorem Pre.start {O : Od α} {e K base : Nat} {w : World} {g n : Nat} {zs : List Value} (h : w.ownsRow base e K (.slice (some ⟨g, 0, none⟩) n n) n zs) : Pre O e K base w g n [] :=
  ⟨zs, [], [], h, by simp, rfl, rfl, fun i x hx => by simp at hx, by simp, by simp⟩
theorem Pre.lt {O : Od α} {e K base : Nat} {w : World} {g n : Nat} {xs : List α} (h : Pre O e K base w g n xs) : base ≤ g ∧ g < w.heap.size := by
  obtain ⟨zs, Fs, css, ho, _⟩ := h
  exact ho.lt g rfl
theorem Pre.grow {O : Od α} (hO : MonoO O) {e K base : Nat} {w w' : World} {g n : Nat} {xs : List α} (h : Pre O e K base w g n xs) (hb : Below w.heap.size w w') : Pre O e K base w' g n xs := by
  have hlt := h.lt
  obtain ⟨zs, Fs, css, ho, h1, h2, h3, h4, h5, h6⟩ := h
  refine ⟨zs, Fs, css, owns_keptOn ho (KeptOn.below hb (fun q hq => (owns_lt ho q hq).2)), h1, h2, h3, fun i x hx => ?_, h5, fun q hq => ⟨(h6 q hq).1, Nat.lt_of_lt_of_le (h6 q hq).2 hb.size⟩⟩
  obtain ⟨Fi, ci, hF, hc, hl, ho'⟩ := h4 i x hx
  exact ⟨Fi, ci, hF, hc, hl, hO _ _ _ _ _ (KeptOn.below hb (fun q hq => (h6 q (List.mem_flatten.2 ⟨Fi, List.mem_of_getElem? hF, hq⟩)).2)) ho'⟩
theorem Pre.cell {O : Od α} {e K base : Nat} {w : World} {g n : Nat} {xs : List α} (h : Pre O e K base w g n xs) (hn : xs.length < n) (j : Nat) (hj : j < K) : (∃ u, w.cell? ⟨g, xs.length * K + j, none⟩ = some u) ∧ w.frozen? ⟨g, xs.length * K + j, none⟩ = false := by
  obtain ⟨zs, Fs, css, ho, _⟩ := h
  have hlt : xs.length * K + j < n * K := by
    have : (xs.length + 1) * K ≤ n * K := Nat.mul_le_mul_right K hn
    rw [Nat.add_mul] at this; omega
  refine ⟨⟨_, (ho.cellAt _ hlt).trans (List.getElem?_eq_getElem (by have := ho.1; omega))⟩, ho.frozenAt _⟩
theorem Pre.step {O : Od α} (hO : MonoO O) (hI : Inside O) {e K base : Nat} {w w' : World} {g n : Nat} {xs : List α} (h : Pre O e K base w g n xs) (hn : xs.length < n) (hb : Below w.heap.size w w')
    {F : List Nat} {cs : List Value} {x : α} (ho : O w' F cs x) (hF : F.Nodup) (hlo : ∀ q ∈ F, w.heap.size ≤ q) (hl : cs.length = K) : Pre O e K base (setCells w' g (xs.length * K) cs) g n (xs ++ [x]) := by
  have hlt := h.lt
  have h6 := h
  have hg := h.grow hO hb
  obtain ⟨_, _, _, _, _, _, _, _, _, h6⟩ := h6
  obtain ⟨zs, Fs, css, hw, h1, h2, h3, h4, h5, h7⟩ := hg
  obtain ⟨zs0, Fs0, css0, hw0, h10, h20, h30, h40, h50, h60⟩ := h
  clear h6
  have hKn : xs.length * K + K ≤ n * K := by
    have : (xs.length + 1) * K ≤ n * K := Nat.mul_le_mul_right K hn
    rw [Nat.add_mul] at this; omega
  have hk0 := hw0
  refine ⟨setL zs0 (xs.length * K) cs, Fs0 ++ [F], css0 ++ [cs], setCells_owns cs (owns_keptOn hw0 (KeptOn.below hb (fun q hq => (owns_lt hw0 q hq).2))), ?_, by simp [h20], by simp [h30], ?_, ?_, ?_⟩
  · rw [List.length_append, List.length_singleton, Nat.add_mul, Nat.one_mul, ← hl, setL_take _ _ _ (by have := hw0.1; rw [hl]; omega)]
    rw [hl, h10]; simp
  · intro i y hy
    by_cases hi : i < xs.length
    · rw [List.getElem?_append_left hi] at hy
      obtain ⟨Fi, ci, hFi, hci, hcl, hoi⟩ := h40 i y hy
      refine ⟨Fi, ci, by rw [List.getElem?_append_left (by omega)]; exact hFi, by rw [List.getElem?_append_left (by omega)]; exact hci, hcl, ?_⟩
      refine hO _ _ _ _ _ (fun q hq => ?_) hoi
      have hm := h60 q (List.mem_flatten.2 ⟨Fi, List.mem_of_getElem? hFi, hq⟩)
      rw [setCells_heap _ _ _ _ _ (by omega)]
      exact hb.block q hm.2
    · rw [List.getElem?_append_right (by omega)] at hy
      have hi' : i = xs.length := by
        have := (List.getElem?_eq_some_iff.1 hy).1
        simp at this; omega
      subst hi'
      simp at hy
      subst hy
      refine ⟨F, cs, by rw [List.getElem?_append_right (by omega)]; simp [h30], by rw [List.getElem?_append_right (by omega)]; simp [h20], hl, ?_⟩
      exact hO _ _ _ _ _ (fun q hq => setCells_heap _ _ _ _ _ (by have := hlo q hq; omega)) ho
  · rw [List.flatten_append]
    simp only [List.flatten_cons, List.flatten_nil, List.append_nil]
    exact nodup_new h50 hF (fun q hq => (h60 q hq).2) hlo
  · intro q hq
    rw [List.flatten_append] at hq
    simp only [List.flatten_cons, List.flatten_nil, List.append_nil, List.mem_append] at hq
    rw [setCells_size]
    rcases hq with hq | hq
    · have := h60 q hq; have := hb.size; omega
    · have := hlo q hq; have := hI _ _ _ _ ho q hq; omega
theorem Pre.done {O : Od α} {e K base : Nat} {w w0 : World} {g n : Nat} {xs : List α} (h : Pre O e K base w g n xs) (hn : xs.length = n) (hb : Below w0.heap.size w0 w) (hg : w0.heap.size ≤ g) :
    NewS (SliceO e K O) w0 xs (.returned (.slice (some ⟨g, 0, none⟩) n n)) w := by
  obtain ⟨zs, Fs, css, ho, h1, h2, h3, h4, h5, h6⟩ := h
  subst hn
  have hz : zs = css.flatten := by rw [← h1, List.take_of_length_le (by have := ho.1; omega)]
  subst hz
  refine ⟨g :: Fs.flatten, some ⟨g, 0, none⟩, xs.length, rfl, ⟨_, Fs, css, rfl, owns_base ho (fun g _ => Nat.zero_le g), rfl, h2, h3, h4⟩, ?_, ?_, hb⟩
  · rw [List.nodup_cons]
    exact ⟨fun hm => Nat.lt_irrefl _ (h6 g hm).1, h5⟩
  · intro q hq
    rcases List.mem_cons.1 hq with rfl | hq
    · exact hg
    · have := (h6 q hq).1; omega
end

section
variable {α : Type} {O : Od α} {enc : α → List Value} {ok : α → Prop} {K e : Nat}
/-- A slice of plain elements (no memory behind them): its cells are the elements' cells, one after the other. -/
theorem plain_intro (hO : ∀ w F cs x, O w F cs x ↔ F = [] ∧ cs = enc x ∧ ok x) (hK : ∀ x, (enc x).length = K) {w : World} {v : Value} {xs : List α} (h : w.ownsRow 0 e K v xs.length (xs.flatMap enc)) (hok : ∀ x ∈ xs, ok x) : SliceO e K O w v.ownBlock.toList [v] xs := by
  refine ⟨v, xs.map fun _ => [], xs.map enc, rfl, by rw [← List.flatMap_def]; exact h, ?_, by simp, by simp, fun i x hx => ⟨[], enc x, by simp [hx], by simp [hx], hK x, (hO _ _ _ _).2 ⟨rfl, rfl, hok x (List.mem_of_getElem? hx)⟩⟩⟩
  have : (xs.map fun _ => ([] : List Nat)).flatten = [] := by
    rw [List.flatten_eq_nil_iff]
    intro l hl
    simp at hl
    exact hl.2
  rw [this]; simp
theorem plain_elim (hO : ∀ w F cs x, O w F cs x ↔ F = [] ∧ cs = enc x ∧ ok x) {w : World} {F : List Nat} {v : Value} {xs : List α} (h : SliceO e K O w F [v] xs) : w.ownsRow 0 e K v xs.length (xs.flatMap enc) ∧ F = v.ownBlock.toList ∧ ∀ x ∈ xs, ok x := by
  obtain ⟨v', Fs, css, hv, ho, rfl, h1, h2, h3⟩ := h
  simp only [List.cons.injEq, and_true] at hv
  subst hv
  have e1 : css = xs.map enc := by
    apply List.ext_getElem?
    intro i
    by_cases hi : i < xs.length
    · obtain ⟨Fi, ci, _, hc, _, hoo⟩ := h3 i _ (List.getElem?_eq_getElem hi)
      rw [hc, List.getElem?_map, List.getElem?_eq_getElem hi, ((hO _ _ _ _).1 hoo).2.1]; rfl
    · rw [List.getElem?_eq_none (by omega), List.getElem?_eq_none (by simp; omega)]
  have e2 : Fs.flatten = [] := by
    rw [List.flatten_eq_nil_iff]
    intro l hl
    obtain ⟨i, hi, rfl⟩ := List.getElem_of_mem hl
    obtain ⟨Fi, ci, hF, _, _, hoo⟩ := h3 i _ (List.getElem?_eq_getElem (by omega : i < xs.length))
    rw [List.getElem?_eq_getElem hi] at hF
    injection hF with hF
    rw [hF]; exact ((hO _ _ _ _).1 hoo).1
  refine ⟨by rw [List.flatMap_def, ← e1]; exact ho, by rw [e2]; simp, fun x hx => ?_⟩
  obtain ⟨i, hi, rfl⟩ := List.getElem_of_mem hx
  obtain ⟨Fi, ci, _, _, _, hoo⟩ := h3 i _ (List.getElem?_eq_getElem hi)
  exact ((hO _ _ _ _).1 hoo).2.2
end
/-- The first k of n elements have been written anew. -/
theorem setL_flat {α : Type} {enc : α → List Value} {K n k : Nat} {zs : List Value} {ms : List α} {m : α} (hK : ∀ x, (enc x).length = K) (hz : zs.length = n * K) (hk : k < n) (ht : zs.take (k * K) = ms.flatMap enc) :
    (setL zs (k * K) (enc m)).take ((k + 1) * K) = (ms ++ [m]).flatMap enc := by
  have hKn : k * K + K ≤ n * K := by
    have : (k + 1) * K ≤ n * K := Nat.mul_le_mul_right K hk
    rw [Nat.add_mul] at this; omega
  have := setL_take (enc m) zs (k * K) (by rw [hK]; omega)
  rw [hK] at this
  rw [Nat.add_mul, Nat.one_mul, this, ht]
  simp

/- Shapes of slices of the call's own; how many values a nested slice holds. -/
theorem ints_shape {w : World} {F : List Nat} {v : Value} {l : List Int} (h : IntsO w F [v] l) : ∃ A c, v = .slice A l.length c := by
  obtain ⟨_, e, o, _⟩ := h
  simp only [List.cons.injEq, and_true] at e
  subst e
  obtain ⟨a, k, h, _⟩ := owns_shape o
  exact ⟨a, k, h⟩
theorem slice_shape {α : Type} {e k : Nat} {O : Od α} {w : World} {F : List Nat} {v : Value} {l : List α} (h : SliceO e k O w F [v] l) : ∃ A c, v = .slice A l.length c := by
  obtain ⟨_, _, _, e, o, _⟩ := h
  simp only [List.cons.injEq, and_true] at e
  subst e
  obtain ⟨a, k, h, _⟩ := owns_shape o
  exact ⟨a, k, h⟩
theorem slice_max {α : Type} {e k : Nat} {O : Od α} {w : World} {F : List Nat} {v : Value} {l : List α} (h : SliceO e k O w F [v] l) : l.length ≤ 9223372036854775807 := by
  obtain ⟨_, _, _, e, o, _⟩ := h
  obtain ⟨a, k, h, h1, h2, _⟩ := owns_shape o
  unfold maxLen at h2
  omega
def iotaL (k : Int) (l : List Int) : List Int := iota k l.length
def cntL {α : Type} (c : α → Nat) (xs : List α) : Nat := xs.length + (xs.map c).sum
theorem cntL_len {α : Type} (c : α → Nat) (xs : List α) : xs.length ≤ cntL c xs := Nat.le_add_right _ _
theorem sum_mem {l : List Nat} {n : Nat} (h : n ∈ l) : n ≤ l.sum := by
  induction l with
  | nil => simp at h
  | cons a l ih =>
    rcases List.mem_cons.1 h with rfl | h
    · simp
    · have := ih h; simp; omega
theorem cntL_mem {α : Type} (c : α → Nat) {xs : List α} {k : Nat} {x : α} (h : xs[k]? = some x) : c x ≤ cntL c xs :=
  Nat.le_trans (sum_mem (List.mem_map.2 ⟨x, List.mem_of_getElem? h, rfl⟩)) (Nat.le_add_left _ _)
theorem slice_form' {α : Type} {k : Nat} {R : Rd α} {w : World} {cs : List Value} {l : List α} (h : SliceR k R w cs l) : ∃ A c, cs = [.slice A l.length c] ∧ l.length ≤ c ∧ c ≤ maxLen := by
  obtain ⟨A, c, hv, h1, h2, _⟩ := h
  exact ⟨A, c, hv, h1, h2⟩

/- One element of a slice of the call's own, marked in its own blocks; a list marked element by element. -/

section
variable {α : Type}
theorem nodup_flatten_at {Fs : List (List Nat)} (h : Fs.flatten.Nodup) : ∀ {i j : Nat} {A B : List Nat}, Fs[i]? = some A → Fs[j]? = some B → i ≠ j → ∀ g ∈ A, g ∉ B := by
  induction Fs with
  | nil => intro i j A B hi; simp at hi
  | cons F Fs ih =>
    rw [List.flatten_cons, List.nodup_append] at h
    intro i j A B hi hj hij g hg hb
    rcases i with _ | i
    · rcases j with _ | j
      · exact hij rfl
      · simp at hi hj
        subst hi
        exact h.2.2 g hg g (List.mem_flatten.2 ⟨B, List.mem_of_getElem? hj, hb⟩) rfl
    · rcases j with _ | j
      · simp at hi hj
        subst hj
        exact h.2.2 g hb g (List.mem_flatten.2 ⟨A, List.mem_of_getElem? hi, hg⟩) rfl
      · simp at hi hj
        exact ih h.2.1 hi hj (by omega) g hg hb
theorem nodup_flatten_mem {Fs : List (List Nat)} (h : Fs.flatten.Nodup) {i : Nat} {A : List Nat} (hi : Fs[i]? = some A) : A.Nodup := by
  induction Fs generalizing i with
  | nil => simp at hi
  | cons F Fs ih =>
    rw [List.flatten_cons, List.nodup_append] at h
    rcases i with _ | i
    · simp at hi; subst hi; exact h.1
    · simp at hi; exact ih h.2.1 hi
/-- Element j of a slice: its footprint and cells; written in its own blocks alone, the slice is as it was but for that element. -/
theorem SliceO.focus {O : Od α} (hO : MonoO O) (hI : Inside O) {e K : Nat} {w : World} {F : List Nat} {v : Value} {xs : List α} (h : SliceO e K O w F [v] xs) (hn : F.Nodup) {j : Nat} {x : α} (hx : xs[j]? = some x) :
    ∃ Fj cj, O w Fj cj x ∧ Fj.Nodup ∧ cj.length = K ∧ (∀ g ∈ Fj, g ∈ F) ∧ (∃ g c, v = .slice (some ⟨g, 0, none⟩) xs.length c ∧ ∀ i u, cj[i]? = some u → w.cell? ⟨g, 0 + j * K + i, none⟩ = some u) ∧
      ∀ w' x', Only Fj w w' → O w' Fj cj x' → SliceO e K O w' F [v] (xs.set j x') := by
  have hr := reads_slice (R := fun _ _ _ => True) (O := O) (fun _ _ _ _ _ => trivial) w F [v] xs h
  obtain ⟨v', Fs, css, hv, ho, rfl, h1, h2, h3⟩ := h
  simp only [List.cons.injEq, and_true] at hv
  subst hv
  have hj : j < xs.length := (List.getElem?_eq_some_iff.1 hx).1
  obtain ⟨Fj, cj, hF, hc, hl, hoj⟩ := h3 j x hx
  have hnd := List.nodup_append.1 hn
  obtain ⟨A, c, rfl, hc1, hc2, hA⟩ := owns_shape ho
  obtain ⟨g, rfl, _, _⟩ := hA (by omega)
  refine ⟨Fj, cj, hoj, nodup_flatten_mem hnd.2.1 hF, hl, fun q hq => List.mem_append_right _ (List.mem_flatten.2 ⟨Fj, List.mem_of_getElem? hF, hq⟩), ⟨g, c, rfl, fun i u hu => ?_⟩, fun w' x' hon hox => ?_⟩
  · have hik : i < K := by
      have := (List.getElem?_eq_some_iff.1 hu).1
      omega
    have hlen : ∀ c ∈ css, c.length = K := by
      intro c hc
      obtain ⟨i, hi, rfl⟩ := List.getElem_of_mem hc
      obtain ⟨_, ci, _, hci, hl, _⟩ := h3 i _ (List.getElem?_eq_getElem (by omega : i < xs.length))
      rw [List.getElem?_eq_getElem hi] at hci
      injection hci with hci
      rw [hci]; exact hl
    have hlt : j * K + i < xs.length * K := by
      have : (j + 1) * K ≤ xs.length * K := Nat.mul_le_mul_right K (by omega)
      rw [Nat.add_mul] at this; omega
    rw [Nat.zero_add, ho.cellAt _ hlt, flatten_at css hlen j i cj hc hik]
    exact hu
  · have hout : ∀ q ∈ (Value.slice (some ⟨g, 0, none⟩) xs.length c).ownBlock.toList, q ∉ Fj := fun q hq hm => hnd.2.2 q hq q (List.mem_flatten.2 ⟨Fj, List.mem_of_getElem? hF, hm⟩) rfl
    refine ⟨_, Fs, css, rfl, ?_, rfl, by simp [h1], by simp [h2], fun i y hy => ?_⟩
    · rw [List.length_set]
      exact owns_keptOn ho (hon.keptOn fun q hq => ⟨(owns_lt ho q hq).2, hout q hq⟩)
    · by_cases hij : i = j
      · subst hij
        rw [List.getElem?_set_self hj] at hy
        injection hy with hy
        subst hy
        exact ⟨Fj, cj, hF, hc, hl, hox⟩
      · rw [List.getElem?_set_ne (fun e => hij e.symm)] at hy
        obtain ⟨Fi, ci, hFi, hci, hli, hoi⟩ := h3 i y hy
        exact ⟨Fi, ci, hFi, hci, hli, only_of hO hoi hon (fun q hq => ⟨hI _ _ _ _ hoi q hq, nodup_flatten_at hnd.2.1 hFi hF hij q hq⟩)⟩
theorem drop_cons_at {l : List α} {j : Nat} (h : j < l.length) : l.drop j = l[j] :: l.drop (j + 1) := List.drop_eq_getElem_cons h
/-- A list marked element by element, each counting so many marks. -/
def markL (mk : Int → α → α) (ct : α → Nat) : Int → List α → List α
  | _, [] => []
  | k, a :: l => mk k a :: markL mk ct (k + ct a) l
def sumL (ct : α → Nat) (l : List α) : Nat := (l.map ct).sum
theorem markL_len (mk : Int → α → α) (ct : α → Nat) : ∀ (k : Int) (l : List α), (markL mk ct k l).length = l.length
  | _, [] => rfl
  | k, a :: l => by simp [markL, markL_len mk ct (k + ct a) l]
theorem markL_at (mk : Int → α → α) (ct : α → Nat) : ∀ (l : List α) (k : Int) (j : Nat) (x : α), l[j]? = some x → (markL mk ct k l)[j]? = some (mk (k + sumL ct (l.take j)) x)
  | [], _, _, _, h => by simp at h
  | a :: l, k, 0, x, h => by simp at h; subst h; simp [markL, sumL]
  | a :: l, k, j + 1, x, h => by
    simp at h
    rw [markL, List.getElem?_cons_succ, markL_at mk ct l (k + ct a) j x h]
    simp [sumL, Int.add_assoc]
theorem sumL_snoc (ct : α → Nat) {l : List α} {j : Nat} {x : α} (h : l[j]? = some x) : sumL ct (l.take (j + 1)) = sumL ct (l.take j) + ct x := by
  rw [take_snoc h]; simp [sumL]
theorem sumL_le (ct : α → Nat) (l : List α) (j : Nat) : sumL ct (l.take j) ≤ sumL ct l := by
  have h : sumL ct l = sumL ct (l.take j) + sumL ct (l.drop j) := by
    unfold sumL
    rw [← List.sum_append, ← List.map_append, List.take_append_drop]
  omega
/-- The first j elements marked, the rest as they were. -/
def markPre (mk : Int → α → α) (ct : α → Nat) (k : Int) (l : List α) (j : Nat) : List α := (markL mk ct k l).take j ++ l.drop j
theorem markPre_zero (mk : Int → α → α) (ct : α → Nat) (k : Int) (l : List α) : markPre mk ct k l 0 = l := by simp [markPre]
theorem markPre_done (mk : Int → α → α) (ct : α → Nat) (k : Int) (l : List α) : markPre mk ct k l l.length = markL mk ct k l := by
  simp [markPre, List.take_of_length_le (Nat.le_of_eq (markL_len mk ct k l))]
theorem markPre_len (mk : Int → α → α) (ct : α → Nat) (k : Int) (l : List α) (j : Nat) (h : j ≤ l.length) : (markPre mk ct k l j).length = l.length := by
  simp [markPre, markL_len]; omega
theorem markPre_get (mk : Int → α → α) (ct : α → Nat) (k : Int) (l : List α) (j : Nat) (h : j ≤ l.length) : (markPre mk ct k l j)[j]? = l[j]? := by
  unfold markPre
  rw [List.getElem?_append_right (by simp [markL_len]; omega)]
  simp only [List.length_take, markL_len]
  rw [show min j l.length = j by omega, Nat.sub_self, List.getElem?_drop]; simp
theorem markPre_set (mk : Int → α → α) (ct : α → Nat) (k : Int) (l : List α) (j : Nat) (x : α) (h : l[j]? = some x) : (markPre mk ct k l j).set j (mk (k + sumL ct (l.take j)) x) = markPre mk ct k l (j + 1) := by
  have hj : j < l.length := (List.getElem?_eq_some_iff.1 h).1
  have e1 : (l.drop j).set 0 (mk (k + sumL ct (l.take j)) x) = mk (k + sumL ct (l.take j)) x :: l.drop (j + 1) := by
    rw [drop_cons_at hj]; rfl
  unfold markPre
  rw [List.set_append_right _ _ (by simp; omega)]
  simp only [List.length_take, markL_len]
  rw [show min j l.length = j by omega, Nat.sub_self, e1, take_snoc (markL_at mk ct l k j x h)]
  simp
end

/- append onto a row of the call's own, whatever the source: nil, empty or not. -/

/-- The slice value sv of m elements, K cells each, holds the cells news. -/
def Src (w : World) (K : Nat) (sv : Value) (m : Nat) (news : List Value) : Prop :=
  ∃ A c, sv = .slice A m c ∧ news.length = m * K ∧ (A = none → m = 0) ∧ ∀ b, A = some b → ∀ j u, news[j]? = some u → w.cell? (b.add j) = some u
theorem add_none (b off j : Nat) : (⟨b, off, none⟩ : Addr).add j = ⟨b, off + j, none⟩ := by unfold Addr.add; split <;> simp_all
theorem Src.one {w : World} {K : Nat} {b : Nat} {t : TypeId} {cs : Array Value} (h : Blk w b t cs) (hK : cs.size = K) : Src w K (.slice (some ⟨b, 0, none⟩) 1 1) 1 cs.toList :=
  ⟨some ⟨b, 0, none⟩, 1, rfl, by simp [hK], by simp, fun b' e => by
    simp only [Option.some.injEq] at e
    subst e
    exact fun j u hu => by rw [add_none, Nat.zero_add, h.cell j]; simpa using hu⟩
theorem Src.kept {w w' : World} {K : Nat} {sv : Value} {m : Nat} {news : List Value} (h : Src w K sv m news) (hk : Kept w w') : Src w' K sv m news := by
  obtain ⟨A, c, rfl, h1, h2, h3⟩ := h
  exact ⟨A, c, rfl, h1, h2, fun b e j u hu => hk _ _ (h3 b e j u hu)⟩

section
variable {P : Program} (w : World)
theorem run_append_src (base : Nat) (t ty e : TypeId) (i : TypeInfo) (z : Value) (size bytes : Nat) (ht : P.underlying t = some (.slice e)) (hi : P.info? e = some i) (hz : i.zero = some z)
    (hsize : i.size = size) (hby : i.bytes = bytes) (hzs : z.cells.size = size) (hsz : 0 < size)
    (v : Value) (n : Nat) (xs : List Value) (hown : w.ownsRow base e size v n xs) (sv : Value) (m : Nat) (news : List Value) (hr : Src w size sv m news) (h1 : ∀ u ∈ news, u.oneCell' = true)
    (h63 : n + m ≤ maxLen) (hbytes : (n + m) * bytes ≤ 140737488355328) (hbase : base ≤ w.heap.size) :
    ∃ v' w', (Builtin.append_ #[t, t] ty #[v, sv]).run P w = .ok v' w' ∧ w'.ownsRow base e size v' (n + m) (xs ++ news) ∧ w.grownBy w' v.ownBlock ∧ (v'.ownBlock = v.ownBlock ∨ v'.ownBlock = some w.heap.size) := by
  obtain ⟨A, c, rfl, hl, hA, hc⟩ := hr
  rcases A with _ | ad
  · have hm := hA rfl
    subst hm
    have hn : news = [] := List.eq_nil_of_length_eq_zero (by simpa using hl)
    subst hn
    refine ⟨v, w, ?_, by simpa using hown, World.grownBy.refl w _, .inl rfl⟩
    rcases hown.2 with ⟨rfl, rfl⟩ | ⟨g, cap, cur, rfl, _, _, hnc, _⟩
    · simp [Builtin.append_, run_underlying ht, sizeOf, typeInfo, hi, Builtin.lenOf, Builtin.firstCells]
    · simp [Builtin.append_, run_underlying ht, sizeOf, typeInfo, hi, Builtin.lenOf, Builtin.firstCells, hnc, storeCells]
  · obtain ⟨v', w', hrun, h2, h3, _, h5⟩ := run_append_own_at (P := P) w base t ty e i z size bytes ht hi hz hsize hby hzs hsz v n xs hown ad m c news hl (hc ad rfl) h1 h63 hbytes hbase
    exact ⟨v', w', hrun, h2, h3, h5⟩
theorem wp_append_src {o : Oper} {a : Act} {K : Act → World → Prop} {Q : Exit → Act → World → Prop} (s x : Operand) (t : TypeId)
    (ho : o.op = .call { callee := .builtin .append, args := #[s, x], argTypes := #[t, t] })
    (base : Nat) (e : TypeId) (i : TypeInfo) (z : Value) (size bytes : Nat) (ht : P.underlying t = some (.slice e)) (hi : P.info? e = some i) (hz : i.zero = some z)
    (hsize : i.size = size) (hby : i.bytes = bytes) (hzs : z.cells.size = size) (hsz : 0 < size)
    (v : Value) (n : Nat) (xs : List Value) (hs : a.eval s = v) (hown : w.ownsRow base e size v n xs) (sv : Value) (m : Nat) (news : List Value) (hx : a.eval x = sv) (hr : Src w size sv m news) (h1 : ∀ u ∈ news, u.oneCell' = true)
    (h63 : n + m ≤ maxLen) (hbytes : (n + m) * bytes ≤ 140737488355328) (hbase : base ≤ w.heap.size)
    (h : ∀ v' w', w'.ownsRow base e size v' (n + m) (xs ++ news) → w.grownBy w' v.ownBlock → (v'.ownBlock = v.ownBlock ∨ v'.ownBlock = some w.heap.size) → K (a.put o.dst v') w') : o.wp P a w K Q := by
  obtain ⟨v', w', hrun, h2, h3, h4⟩ := run_append_src (P := P) w base t o.type e i z size bytes ht hi hz hsize hby hzs hsz v n xs hown sv m news hr h1 h63 hbytes hbase
  unfold Oper.wp execOp
  simp only [ho, resolve, invoke, builtin, Sem.run_bind, Sem.run_pure, Result.andThen_ok, List.map_toArray, List.map_cons, List.map_nil, hs, hx, hrun]
  exact h v' w' h2 h3 h4
theorem wpList_append_src {ops : Array Oper} {rest : List Oper} {o : Oper} {a : Act} {Q : Exit → Act → World → Prop} (hgd : o.guard = none) (s x : Operand) (t : TypeId)
    (ho : o.op = .call { callee := .builtin .append, args := #[s, x], argTypes := #[t, t] })
    (base : Nat) (e : TypeId) (i : TypeInfo) (z : Value) (size bytes : Nat) (ht : P.underlying t = some (.slice e)) (hi : P.info? e = some i) (hz : i.zero = some z)
    (hsize : i.size = size) (hby : i.bytes = bytes) (hzs : z.cells.size = size) (hsz : 0 < size)
    (v : Value) (n : Nat) (xs : List Value) (hs : a.eval s = v) (hown : w.ownsRow base e size v n xs) (sv : Value) (m : Nat) (news : List Value) (hx : a.eval x = sv) (hr : Src w size sv m news) (h1 : ∀ u ∈ news, u.oneCell' = true)
    (h63 : n + m ≤ maxLen) (hbytes : (n + m) * bytes ≤ 140737488355328) (hbase : base ≤ w.heap.size)
    (h : ∀ v' w', w'.ownsRow base e size v' (n + m) (xs ++ news) → w.grownBy w' v.ownBlock → (v'.ownBlock = v.ownBlock ∨ v'.ownBlock = some w.heap.size) → wpList P ops Q rest (a.put o.dst v') w') : wpList P ops Q (o :: rest) a w :=
  wpList_plain hgd fun _ hK => wp_append_src w s x t ho base e i z size bytes ht hi hz hsize hby hzs hsz v n xs hs hown sv m news hx hr h1 h63 hbytes hbase fun v' w' h2 h3 h4 => hK _ _ (h v' w' h2 h3 h4)
theorem step_append_src {ops : Array Oper} {o : Oper} {a : Act} {K : Act → World → Prop} {Q : Exit → Act → World → Prop} {E : Prop} (hgd : o.guard = none) (s x : Operand) (t : TypeId)
    (ho : o.op = .call { callee := .builtin .append, args := #[s, x], argTypes := #[t, t] })
    (base : Nat) (e : TypeId) (i : TypeInfo) (z : Value) (size bytes : Nat) (ht : P.underlying t = some (.slice e)) (hi : P.info? e = some i) (hz : i.zero = some z)
    (hsize : i.size = size) (hby : i.bytes = bytes) (hzs : z.cells.size = size) (hsz : 0 < size)
    (v : Value) (n : Nat) (xs : List Value) (hs : a.eval s = v) (hown : w.ownsRow base e size v n xs) (sv : Value) (m : Nat) (news : List Value) (hx : a.eval x = sv) (hr : Src w size sv m news) (h1 : ∀ u ∈ news, u.oneCell' = true)
    (h63 : n + m ≤ maxLen) (hbytes : (n + m) * bytes ≤ 140737488355328) (hbase : base ≤ w.heap.size)
    (h : ∀ v' w', w'.ownsRow base e size v' (n + m) (xs ++ news) → w.grownBy w' v.ownBlock → (v'.ownBlock = v.ownBlock ∨ v'.ownBlock = some w.heap.size) → K (a.put o.dst v') w') :
    if Region.wanted o (yielded ops a.tmps) = true then Oper.wp P o a w K Q else E := by
  have hw : Region.wanted o (yielded ops a.tmps) = true := by simp [Region.wanted, hgd]
  rw [if_pos hw]
  exact wp_append_src w s x t ho base e i z size bytes ht hi hz hsize hby hzs hsz v n xs hs hown sv m news hx hr h1 h63 hbytes hbase h
end
/-- The cells of a slice that reads: what append takes of it. -/
theorem SliceR.src {α : Type} {K : Nat} {R : Rd α} {w : World} {v : Value} {xs : List α} (h : SliceR K R w [v] xs) : ∃ css : List (List Value), Src w K v xs.length css.flatten ∧ css.length = xs.length ∧ ∀ (i : Nat) x, xs[i]? = some x → ∃ c, css[i]? = some c ∧ c.length = K ∧ R w c x := by
  obtain ⟨A, c, hv, h1, h2, h3⟩ := h
  have hv' : v = .slice A xs.length c := by simpa using hv
  subst hv'
  have hlist : ∀ m, m ≤ xs.length → ∃ css : List (List Value), css.length = m ∧ ∀ (i : Nat) d, css[i]? = some d → ∃ x b off, xs[i]? = some x ∧ A = some ⟨b, off, none⟩ ∧ d.length = K ∧ (∀ j u, d[j]? = some u → w.cell? ⟨b, off + i * K + j, none⟩ = some u) ∧ R w d x := by
    intro m
    induction m with
    | zero => intro _; exact ⟨[], rfl, fun i d hd => by simp at hd⟩
    | succ m ih =>
      intro hm
      obtain ⟨css, hl, hc⟩ := ih (by omega)
      obtain ⟨b, off, d, hA, hd, hcell, hr⟩ := h3 m _ (List.getElem?_eq_getElem (by omega : m < xs.length))
      refine ⟨css ++ [d], by simp [hl], fun i d' hd' => ?_⟩
      by_cases hi : i < css.length
      · rw [List.getElem?_append_left hi] at hd'
        exact hc i d' hd'
      · rw [List.getElem?_append_right (by omega)] at hd'
        have him : i = m := by
          have := (List.getElem?_eq_some_iff.1 hd').1
          simp at this; omega
        subst him
        simp [hl] at hd'
        subst hd'
        exact ⟨_, b, off, List.getElem?_eq_getElem (by omega), hA, hd, hcell, hr⟩
  obtain ⟨css, hl, hc⟩ := hlist xs.length (Nat.le_refl _)
  have hK : ∀ d ∈ css, d.length = K := by
    intro d hd
    obtain ⟨i, hi, rfl⟩ := List.getElem_of_mem hd
    obtain ⟨_, _, _, _, _, h, _⟩ := hc i _ (List.getElem?_eq_getElem hi)
    exact h
  have hfl : css.flatten.length = xs.length * K := by
    rw [← hl]
    clear hc h3 hv h1 h2 hlist hl
    induction css with
    | nil => simp
    | cons d css ih =>
      rw [List.flatten_cons, List.length_append, hK d (by simp), ih (fun d hd => hK d (by simp [hd])), List.length_cons, Nat.add_mul]; omega
  refine ⟨css, ⟨A, c, rfl, hfl, fun hA => ?_, fun b hb => ?_⟩, hl, fun i x hx => ?_⟩
  · rcases Nat.eq_zero_or_pos xs.length with h0 | h0
    · exact h0
    · obtain ⟨_, _, _, hA', _⟩ := h3 0 _ (List.getElem?_eq_getElem h0)
      rw [hA] at hA'; cases hA'
  · subst hb
    intro j u hu
    have hj : j < xs.length * K := by rw [← hfl]; exact (List.getElem?_eq_some_iff.1 hu).1
    have hKp : 0 < K := by
      rcases Nat.eq_zero_or_pos K with h0 | h0
      · subst h0; simp at hj
      · exact h0
    have hq : j / K < xs.length := Nat.div_lt_of_lt_mul (by rw [Nat.mul_comm]; exact hj)
    obtain ⟨x', b', off, _, hA, hd, hcell, _⟩ := hc (j / K) _ (List.getElem?_eq_getElem (by omega : j / K < css.length))
    simp only [Option.some.injEq] at hA
    subst hA
    have hr := flatten_at css hK (j / K) (j % K) _ (List.getElem?_eq_getElem (by omega : j / K < css.length)) (Nat.mod_lt _ hKp)
    have hdm : j / K * K + j % K = j := by rw [Nat.mul_comm]; exact Nat.div_add_mod j K
    rw [hdm, hu] at hr
    have := hcell (j % K) u hr.symm
    rw [add_none]
    rw [Nat.add_assoc, hdm] at this
    exact this
  · have hi : i < css.length := by rw [hl]; exact (List.getElem?_eq_some_iff.1 hx).1
    obtain ⟨x', b, off, hx', hA, hd, hcell, hr⟩ := hc i _ (List.getElem?_eq_getElem hi)
    rw [hx] at hx'
    injection hx' with hx'
    subst hx'
    exact ⟨_, List.getElem?_eq_getElem hi, hd, hr⟩

theorem app_below {B : Nat} {W wx w1 : World} {e size n : Nat} {v : Value} {xs : List Value} (hb : Below B W wx) (ho : wx.ownsRow B e size v n xs) (hg : wx.grownBy w1 v.ownBlock) (hB : B ≤ wx.heap.size) : Below B W w1 :=
  hb.grown hg hB (fun j hj => (ho.lt j hj).1)
/-- As step_append_src; what lay below the base stays. -/
theorem step_append_below {P : Program} (w : World) {ops : Array Oper} {o : Oper} {a : Act} {K : Act → World → Prop} {Q : Exit → Act → World → Prop} {E : Prop} (hgd : o.guard = none) (s x : Operand) (t : TypeId)
    (ho : o.op = .call { callee := .builtin .append, args := #[s, x], argTypes := #[t, t] })
    (W : World) (base : Nat) (hbel : Below base W w) (e : TypeId) (i : TypeInfo) (z : Value) (size bytes : Nat) (ht : P.underlying t = some (.slice e)) (hi : P.info? e = some i) (hz : i.zero = some z)
    (hsize : i.size = size) (hby : i.bytes = bytes) (hzs : z.cells.size = size) (hsz : 0 < size)
    (v : Value) (n : Nat) (xs : List Value) (hs : a.eval s = v) (hown : w.ownsRow base e size v n xs) (sv : Value) (m : Nat) (news : List Value) (hx : a.eval x = sv) (hr : Src w size sv m news) (h1 : ∀ u ∈ news, u.oneCell' = true)
    (h63 : n + m ≤ maxLen) (hbytes : (n + m) * bytes ≤ 140737488355328) (hbase : base ≤ w.heap.size)
    (h : ∀ v' w', w'.ownsRow base e size v' (n + m) (xs ++ news) → w.grownBy w' v.ownBlock → Below base W w' → K (a.put o.dst v') w') :
    if Region.wanted o (yielded ops a.tmps) = true then Oper.wp P o a w K Q else E :=
  step_append_src w hgd s x t ho base e i z size bytes ht hi hz hsize hby hzs hsz v n xs hs hown sv m news hx hr h1 h63 hbytes hbase fun v' w' h2 h3 _ => h v' w' h2 h3 (app_below hbel hown h3 hbase)
theorem made_row {w : World} {n base e : Nat} (K : Nat) (h : w.heap.size = n) (hb : base ≤ w.heap.size) : (w.alloc (.cells #[] e)).ownsRow base e K (.slice (some ⟨n, 0, none⟩) 0 0) 0 [] := by
  have := World.ownsRow_made (base := base) (e := e) (size := K) w #[] 0 hb (Nat.zero_le _) (by simp)
  rw [show (⟨w.heap.size, 0, none⟩ : Addr) = ⟨n, 0, none⟩ by rw [h]] at this
  exact this

end Go.Proofs.Ytcgjlddpbkponaa
