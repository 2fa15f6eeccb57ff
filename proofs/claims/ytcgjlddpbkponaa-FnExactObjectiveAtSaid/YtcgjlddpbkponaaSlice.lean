/-
  Slices of whatever element, for loops: reading element k; a slice that a loop fills element by element.
-/
import Derived.Test.YtcgjlddpbkponaaMark
import Derived.Deep.RegionHeld3
namespace Go.Proofs.Ytcgjlddpbkponaa
open Go.ChangeShapes Go.WideShapes Go.ChangeAt Go.RowKit

section
variable {α : Type}
theorem SliceR.at_ {K : Nat} {R : Rd α} {w : World} {A : Option Addr} {n c : Nat} {xs : List α} (h : SliceR K R w [.slice A n c] xs) {k : Nat} (hk : k < xs.length) :
    ∃ b off cs x, A = some ⟨b, off, none⟩ ∧ Hid (xs[k]? = some x) ∧ cs.length = K ∧ (∀ j u, cs[j]? = some u → w.cell? ⟨b, off + k * K + j, none⟩ = some u) ∧ R w cs x := by
  obtain ⟨A', c', hv, h1, h2, h3⟩ := h
  simp only [List.cons.injEq, Value.slice.injEq, and_true] at hv
  obtain ⟨rfl, rfl, rfl⟩ := hv
  obtain ⟨b, off, cs', rfl, hl, hc, hr⟩ := h3 k _ (List.getElem?_eq_getElem hk)
  exact ⟨b, off, cs', _, rfl, List.getElem?_eq_getElem hk, hl, hc, hr⟩
theorem SliceR.all_ {K : Nat} {R : Rd α} {w : World} {cs : List Value} {xs : List α} (h : SliceR K R w cs xs) {p : α → Prop} (hp : ∀ w cs x, R w cs x → p x) : ∀ x ∈ xs, p x := by
  obtain ⟨A', c', hv, h1, h2, h3⟩ := h
  intro x hx
  obtain ⟨i, hi, rfl⟩ := List.getElem_of_mem hx
  obtain ⟨b, off, cs', _, _, _, hr⟩ := h3 i _ (List.getElem?_eq_getElem hi)
  exact hp _ _ _ hr

def setCells (w : World) (g o : Nat) : List Value → World
  | [] => w
  | c :: cs => setCells (w.setCell ⟨g, o, none⟩ c) g (o + 1) cs
def setL (zs : List Value) (o : Nat) : List Value → List Value
  | [] => zs
  | c :: cs => setL (zs.set o c) (o + 1) cs
theorem setL_length (cs : List Value) : ∀ (zs : List Value) (o : Nat), (setL zs o cs).length = zs.length := by
  induction cs with
  | nil => intro zs o; rfl
  | cons c cs ih => intro zs o; rw [setL, ih]; simp
theorem setL_take (cs : List Value) : ∀ (zs : List Value) (o : Nat), o + cs.length ≤ zs.length → (setL zs o cs).take (o + cs.length) = zs.take o ++ cs := by
  induction cs with
  | nil => intro zs o _; simp [setL]
  | cons c cs ih =>
    intro zs o h
    simp only [List.length_cons] at h ⊢
    rw [setL, show o + (cs.length + 1) = (o + 1) + cs.length by omega, ih _ _ (by simp; omega), take_set_snoc _ _ _ (by omega)]
    simp
theorem setL_drop (cs : List Value) : ∀ (zs : List Value) (o m : Nat), o + cs.length ≤ m → (setL zs o cs).drop m = zs.drop m := by
  induction cs with
  | nil => intro zs o m _; rfl
  | cons c cs ih =>
    intro zs o m h
    simp only [List.length_cons] at h
    rw [setL, ih _ _ _ (by omega), List.drop_set_of_lt (by omega)]
theorem setCells_owns {base e size g n cap : Nat} (cs : List Value) : ∀ {w : World} {o : Nat} {zs : List Value}, w.ownsRow base e size (.slice (some ⟨g, 0, none⟩) n cap) n zs →
    (setCells w g o cs).ownsRow base e size (.slice (some ⟨g, 0, none⟩) n cap) n (setL zs o cs) := by
  induction cs with
  | nil => intro w o zs h; exact h
  | cons c cs ih => intro w o zs h; exact ih (h.stored o c).1
theorem setCells_heap (cs : List Value) : ∀ (w : World) (g o k : Nat), k ≠ g → (setCells w g o cs).heap[k]? = w.heap[k]? := by
  induction cs with
  | nil => intro w g o k _; rfl
  | cons c cs ih => intro w g o k hk; rw [setCells, ih _ _ _ _ hk]; exact Below.heap_setCell w ⟨g, o, none⟩ c k hk
theorem setCells_size (cs : List Value) : ∀ (w : World) (g o : Nat), (setCells w g o cs).heap.size = w.heap.size := by
  induction cs with
  | nil => intro w g o; rfl
  | cons c cs ih => intro w g o; rw [setCells, ih]; simp [World.setCell]
theorem setCells_below {B : Nat} {a : World} (cs : List Value) : ∀ {w : World} {g o : Nat}, Below B a w → B ≤ g → Below B a (setCells w g o cs) := by
  induction cs with
  | nil => intro w g o h _; exact h
  | cons c cs ih => intro w g o h hg; exact ih (h.setCell (p := ⟨g, o, none⟩) hg c) hg
theorem setCells_only {S : List Nat} {a : World} (cs : List Value) : ∀ {w : World} {g o : Nat}, Only S a w → g ∈ S → Only S a (setCells w g o cs) := by
  induction cs with
  | nil => intro w g o h _; exact h
  | cons c cs ih =>
    intro w g o h hg
    exact ih (h.trans ⟨rfl, rfl, rfl, by simp [World.setCell], fun k _ hk => Below.heap_setCell w ⟨g, o, none⟩ c k (fun e => hk (e ▸ hg))⟩) hg

/-- The first elements xs of a slice of n elements, made new at block g, are filled. -/
def Pre (O : Od α) (e K base : Nat) (w : World) (g n : Nat) (xs : List α) : Prop :=
  ∃ (zs : List Value) (Fs : List (List Nat)) (css : List (List Value)), w.ownsRow base e K (.slice (some ⟨g, 0, none⟩) n n) n zs ∧ zs.take (xs.length * K) = css.flatten ∧ css.length = xs.length ∧ Fs.length = xs.length ∧
    (∀ (i : Nat) x, xs[i]? = some x → ∃ Fi ci, Fs[i]? = some Fi ∧ css[i]? = some ci ∧ ci.length = K ∧ O w Fi ci x) ∧ Fs.flatten.Nodup ∧ (∀ q ∈ Fs.flatten, g < q ∧ q < w.heap.size)
theorem Pre.start {O : Od α} {e K base : Nat} {w : World} {g n : Nat} {zs : List Value} (h : w.ownsRow base e K (.slice (some ⟨g, 0, none⟩) n n) n zs) : Pre O e K base w g n [] :=
  ⟨zs, [], [], h, by simp, rfl, rfl, fun i x hx => by simp at hx, by simp, by simp⟩
theorem Pre.lt {O : Od α} {e K base : Nat} {w : World} {g n : Nat} {xs : List α} (h : Pre O e K base w g n xs) : base ≤ g ∧ g < w.heap.size := by
  obtain ⟨zs, Fs, css, ho, _⟩ := h
  exact ho.lt g rfl
theorem Pre.grow {O : Od α} (hO : MonoO O) {e K base : Nat} {w w' : World} {g n : Nat} {xs : List α} (h : Pre O e K base w g n xs) (hb : Below w.heap.size w w') : Pre O e K base w' g n xs := by
  have hlt := h.lt
  obtain ⟨zs, Fs, css, ho, h1, h2, h3, h4, h5, h6⟩ := h
  refine ⟨zs, Fs, css, owns_keptOn ho (KeptOn.below hb (fun q hq => (owns_lt ho q hq).2)), h1, h2, h3, fun i x hx => ?_, h5, fun q hq => ⟨(h6 q hq).1, Nat.lt_of_lt_of_le (h6 q hq).2 hb.size⟩⟩
  obtain ⟨Fi, ci, hF, hc, hl, ho'⟩ := h4 i x hx
  exact ⟨Fi, ci, hF, hc, hl, hO _ _ _ _ _ (KeptOn.below hb (fun q hq => (h6 q (List.mem_flatten.2 ⟨Fi, List.mem_of_getElem? hF, hq⟩)).2)) ho'⟩
theorem Pre.cell {O : Od α} {e K base : Nat} {w : World} {g n : Nat} {xs : List α} (h : Pre O e K base w g n xs) (hn : xs.length < n) (j : Nat) (hj : j < K) : (∃ u, w.cell? ⟨g, xs.length * K + j, none⟩ = some u) ∧ w.frozen? ⟨g, xs.length * K + j, none⟩ = false := by
  obtain ⟨zs, Fs, css, ho, _⟩ := h
  have hlt : xs.length * K + j < n * K := by
    have : (xs.length + 1) * K ≤ n * K := Nat.mul_le_mul_right K hn
    rw [Nat.add_mul] at this; omega
  refine ⟨⟨_, (ho.cellAt _ hlt).trans (List.getElem?_eq_getElem (by have := ho.1; omega))⟩, ho.frozenAt _⟩
theorem Pre.step {O : Od α} (hO : MonoO O) (hI : Inside O) {e K base : Nat} {w w' : World} {g n : Nat} {xs : List α} (h : Pre O e K base w g n xs) (hn : xs.length < n) (hb : Below w.heap.size w w')
    {F : List Nat} {cs : List Value} {x : α} (ho : O w' F cs x) (hF : F.Nodup) (hlo : ∀ q ∈ F, w.heap.size ≤ q) (hl : cs.length = K) : Pre O e K base (setCells w' g (xs.length * K) cs) g n (xs ++ [x]) := by
  have hlt := h.lt
  have h6 := h
  have hg := h.grow hO hb
  obtain ⟨_, _, _, _, _, _, _, _, _, h6⟩ := h6
  obtain ⟨zs, Fs, css, hw, h1, h2, h3, h4, h5, h7⟩ := hg
  obtain ⟨zs0, Fs0, css0, hw0, h10, h20, h30, h40, h50, h60⟩ := h
  clear h6
  have hKn : xs.length * K + K ≤ n * K := by
    have : (xs.length + 1) * K ≤ n * K := Nat.mul_le_mul_right K hn
    rw [Nat.add_mul] at this; omega
  have hk0 := hw0
  refine ⟨setL zs0 (xs.length * K) cs, Fs0 ++ [F], css0 ++ [cs], setCells_owns cs (owns_keptOn hw0 (KeptOn.below hb (fun q hq => (owns_lt hw0 q hq).2))), ?_, by simp [h20], by simp [h30], ?_, ?_, ?_⟩
  · rw [List.length_append, List.length_singleton, Nat.add_mul, Nat.one_mul, ← hl, setL_take _ _ _ (by have := hw0.1; rw [hl]; omega)]
    rw [hl, h10]; simp
  · intro i y hy
    by_cases hi : i < xs.length
    · rw [List.getElem?_append_left hi] at hy
      obtain ⟨Fi, ci, hFi, hci, hcl, hoi⟩ := h40 i y hy
      refine ⟨Fi, ci, by rw [List.getElem?_append_left (by omega)]; exact hFi, by rw [List.getElem?_append_left (by omega)]; exact hci, hcl, ?_⟩
      refine hO _ _ _ _ _ (fun q hq => ?_) hoi
      have hm := h60 q (List.mem_flatten.2 ⟨Fi, List.mem_of_getElem? hFi, hq⟩)
      rw [setCells_heap _ _ _ _ _ (by omega)]
      exact hb.block q hm.2
    · rw [List.getElem?_append_right (by omega)] at hy
      have hi' : i = xs.length := by
        have := (List.getElem?_eq_some_iff.1 hy).1
        simp at this; omega
      subst hi'
      simp at hy
      subst hy
      refine ⟨F, cs, by rw [List.getElem?_append_right (by omega)]; simp [h30], by rw [List.getElem?_append_right (by omega)]; simp [h20], hl, ?_⟩
      exact hO _ _ _ _ _ (fun q hq => setCells_heap _ _ _ _ _ (by have := hlo q hq; omega)) ho
  · rw [List.flatten_append]
    simp only [List.flatten_cons, List.flatten_nil, List.append_nil]
    exact nodup_new h50 hF (fun q hq => (h60 q hq).2) hlo
  · intro q hq
    rw [List.flatten_append] at hq
    simp only [List.flatten_cons, List.flatten_nil, List.append_nil, List.mem_append] at hq
    rw [setCells_size]
    rcases hq with hq | hq
    · have := h60 q hq; have := hb.size; omega
    · have := hlo q hq; have := hI _ _ _ _ ho q hq; omega
theorem Pre.done {O : Od α} {e K base : Nat} {w w0 : World} {g n : Nat} {xs : List α} (h : Pre O e K base w g n xs) (hn : xs.length = n) (hb : Below w0.heap.size w0 w) (hg : w0.heap.size ≤ g) :
    NewS (SliceO e K O) w0 xs (.returned (.slice (some ⟨g, 0, none⟩) n n)) w := by
  obtain ⟨zs, Fs, css, ho, h1, h2, h3, h4, h5, h6⟩ := h
  subst hn
  have hz : zs = css.flatten := by rw [← h1, List.take_of_length_le (by have := ho.1; omega)]
  subst hz
  refine ⟨g :: Fs.flatten, some ⟨g, 0, none⟩, xs.length, rfl, ⟨_, Fs, css, rfl, owns_base ho (fun g _ => Nat.zero_le g), rfl, h2, h3, h4⟩, ?_, ?_, hb⟩
  · rw [List.nodup_cons]
    exact ⟨fun hm => Nat.lt_irrefl _ (h6 g hm).1, h5⟩
  · intro q hq
    rcases List.mem_cons.1 hq with rfl | hq
    · exact hg
    · have := (h6 q hq).1; omega
end

section
variable {α : Type} {O : Od α} {enc : α → List Value} {ok : α → Prop} {K e : Nat}
/-- A slice of plain elements (no memory behind them): its cells are the elements' cells, one after the other. -/
theorem plain_intro (hO : ∀ w F cs x, O w F cs x ↔ F = [] ∧ cs = enc x ∧ ok x) (hK : ∀ x, (enc x).length = K) {w : World} {v : Value} {xs : List α} (h : w.ownsRow 0 e K v xs.length (xs.flatMap enc)) (hok : ∀ x ∈ xs, ok x) : SliceO e K O w v.ownBlock.toList [v] xs := by
  refine ⟨v, xs.map fun _ => [], xs.map enc, rfl, by rw [← List.flatMap_def]; exact h, ?_, by simp, by simp, fun i x hx => ⟨[], enc x, by simp [hx], by simp [hx], hK x, (hO _ _ _ _).2 ⟨rfl, rfl, hok x (List.mem_of_getElem? hx)⟩⟩⟩
  have : (xs.map fun _ => ([] : List Nat)).flatten = [] := by
    rw [List.flatten_eq_nil_iff]
    intro l hl
    simp at hl
    exact hl.2
  rw [this]; simp
theorem plain_elim (hO : ∀ w F cs x, O w F cs x ↔ F = [] ∧ cs = enc x ∧ ok x) {w : World} {F : List Nat} {v : Value} {xs : List α} (h : SliceO e K O w F [v] xs) : w.ownsRow 0 e K v xs.length (xs.flatMap enc) ∧ F = v.ownBlock.toList ∧ ∀ x ∈ xs, ok x := by
  obtain ⟨v', Fs, css, hv, ho, rfl, h1, h2, h3⟩ := h
  simp only [List.cons.injEq, and_true] at hv
  subst hv
  have e1 : css = xs.map enc := by
    apply List.ext_getElem?
    intro i
    by_cases hi : i < xs.length
    · obtain ⟨Fi, ci, _, hc, _, hoo⟩ := h3 i _ (List.getElem?_eq_getElem hi)
      rw [hc, List.getElem?_map, List.getElem?_eq_getElem hi, ((hO _ _ _ _).1 hoo).2.1]; rfl
    · rw [List.getElem?_eq_none (by omega), List.getElem?_eq_none (by simp; omega)]
  have e2 : Fs.flatten = [] := by
    rw [List.flatten_eq_nil_iff]
    intro l hl
    obtain ⟨i, hi, rfl⟩ := List.getElem_of_mem hl
    obtain ⟨Fi, ci, hF, _, _, hoo⟩ := h3 i _ (List.getElem?_eq_getElem (by omega : i < xs.length))
    rw [List.getElem?_eq_getElem hi] at hF
    injection hF with hF
    rw [hF]; exact ((hO _ _ _ _).1 hoo).1
  refine ⟨by rw [List.flatMap_def, ← e1]; exact ho, by rw [e2]; simp, fun x hx => ?_⟩
  obtain ⟨i, hi, rfl⟩ := List.getElem_of_mem hx
  obtain ⟨Fi, ci, _, _, _, hoo⟩ := h3 i _ (List.getElem?_eq_getElem hi)
  exact ((hO _ _ _ _).1 hoo).2.2
end
/-- The first k of n elements have been written anew. -/
theorem setL_flat {α : Type} {enc : α → List Value} {K n k : Nat} {zs : List Value} {ms : List α} {m : α} (hK : ∀ x, (enc x).length = K) (hz : zs.length = n * K) (hk : k < n) (ht : zs.take (k * K) = ms.flatMap enc) :
    (setL zs (k * K) (enc m)).take ((k + 1) * K) = (ms ++ [m]).flatMap enc := by
  have hKn : k * K + K ≤ n * K := by
    have : (k + 1) * K ≤ n * K := Nat.mul_le_mul_right K hk
    rw [Nat.add_mul] at this; omega
  have := setL_take (enc m) zs (k * K) (by rw [hK]; omega)
  rw [hK] at this
  rw [Nat.add_mul, Nat.one_mul, this, ht]
  simp
end Go.Proofs.Ytcgjlddpbkponaa
