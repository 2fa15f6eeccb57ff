/-
  One element of a slice of the call's own, marked in its own blocks; a list marked element by element.
-/
import Derived.Test.YtcgjlddpbkponaaShapes
namespace Go.Proofs.Ytcgjlddpbkponaa
open Go.ChangeShapes Go.WideShapes Go.ChangeAt Go.RowKit

section
variable {α : Type}
theorem nodup_flatten_at {Fs : List (List Nat)} (h : Fs.flatten.Nodup) : ∀ {i j : Nat} {A B : List Nat}, Fs[i]? = some A → Fs[j]? = some B → i ≠ j → ∀ g ∈ A, g ∉ B := by
  induction Fs with
  | nil => intro i j A B hi; simp at hi
  | cons F Fs ih =>
    rw [List.flatten_cons, List.nodup_append] at h
    intro i j A B hi hj hij g hg hb
    rcases i with _ | i
    · rcases j with _ | j
      · exact hij rfl
      · simp at hi hj
        subst hi
        exact h.2.2 g hg g (List.mem_flatten.2 ⟨B, List.mem_of_getElem? hj, hb⟩) rfl
    · rcases j with _ | j
      · simp at hi hj
        subst hj
        exact h.2.2 g hb g (List.mem_flatten.2 ⟨A, List.mem_of_getElem? hi, hg⟩) rfl
      · simp at hi hj
        exact ih h.2.1 hi hj (by omega) g hg hb
theorem nodup_flatten_mem {Fs : List (List Nat)} (h : Fs.flatten.Nodup) {i : Nat} {A : List Nat} (hi : Fs[i]? = some A) : A.Nodup := by
  induction Fs generalizing i with
  | nil => simp at hi
  | cons F Fs ih =>
    rw [List.flatten_cons, List.nodup_append] at h
    rcases i with _ | i
    · simp at hi; subst hi; exact h.1
    · simp at hi; exact ih h.2.1 hi
/-- Element j of a slice: its footprint and cells; written in its own blocks alone, the slice is as it was but for that element. -/
theorem SliceO.focus {O : Od α} (hO : MonoO O) (hI : Inside O) {e K : Nat} {w : World} {F : List Nat} {v : Value} {xs : List α} (h : SliceO e K O w F [v] xs) (hn : F.Nodup) {j : Nat} {x : α} (hx : xs[j]? = some x) :
    ∃ Fj cj, O w Fj cj x ∧ Fj.Nodup ∧ cj.length = K ∧ (∀ g ∈ Fj, g ∈ F) ∧ (∃ g c, v = .slice (some ⟨g, 0, none⟩) xs.length c ∧ ∀ i u, cj[i]? = some u → w.cell? ⟨g, 0 + j * K + i, none⟩ = some u) ∧
      ∀ w' x', Only Fj w w' → O w' Fj cj x' → SliceO e K O w' F [v] (xs.set j x') := by
  have hr := reads_slice (R := fun _ _ _ => True) (O := O) (fun _ _ _ _ _ => trivial) w F [v] xs h
  obtain ⟨v', Fs, css, hv, ho, rfl, h1, h2, h3⟩ := h
  simp only [List.cons.injEq, and_true] at hv
  subst hv
  have hj : j < xs.length := (List.getElem?_eq_some_iff.1 hx).1
  obtain ⟨Fj, cj, hF, hc, hl, hoj⟩ := h3 j x hx
  have hnd := List.nodup_append.1 hn
  obtain ⟨A, c, rfl, hc1, hc2, hA⟩ := owns_shape ho
  obtain ⟨g, rfl, _, _⟩ := hA (by omega)
  refine ⟨Fj, cj, hoj, nodup_flatten_mem hnd.2.1 hF, hl, fun q hq => List.mem_append_right _ (List.mem_flatten.2 ⟨Fj, List.mem_of_getElem? hF, hq⟩), ⟨g, c, rfl, fun i u hu => ?_⟩, fun w' x' hon hox => ?_⟩
  · have hik : i < K := by
      have := (List.getElem?_eq_some_iff.1 hu).1
      omega
    have hlen : ∀ c ∈ css, c.length = K := by
      intro c hc
      obtain ⟨i, hi, rfl⟩ := List.getElem_of_mem hc
      obtain ⟨_, ci, _, hci, hl, _⟩ := h3 i _ (List.getElem?_eq_getElem (by omega : i < xs.length))
      rw [List.getElem?_eq_getElem hi] at hci
      injection hci with hci
      rw [hci]; exact hl
    have hlt : j * K + i < xs.length * K := by
      have : (j + 1) * K ≤ xs.length * K := Nat.mul_le_mul_right K (by omega)
      rw [Nat.add_mul] at this; omega
    rw [Nat.zero_add, ho.cellAt _ hlt, flatten_at css hlen j i cj hc hik]
    exact hu
  · have hout : ∀ q ∈ (Value.slice (some ⟨g, 0, none⟩) xs.length c).ownBlock.toList, q ∉ Fj := fun q hq hm => hnd.2.2 q hq q (List.mem_flatten.2 ⟨Fj, List.mem_of_getElem? hF, hm⟩) rfl
    refine ⟨_, Fs, css, rfl, ?_, rfl, by simp [h1], by simp [h2], fun i y hy => ?_⟩
    · rw [List.length_set]
      exact owns_keptOn ho (hon.keptOn fun q hq => ⟨(owns_lt ho q hq).2, hout q hq⟩)
    · by_cases hij : i = j
      · subst hij
        rw [List.getElem?_set_self hj] at hy
        injection hy with hy
        subst hy
        exact ⟨Fj, cj, hF, hc, hl, hox⟩
      · rw [List.getElem?_set_ne (fun e => hij e.symm)] at hy
        obtain ⟨Fi, ci, hFi, hci, hli, hoi⟩ := h3 i y hy
        exact ⟨Fi, ci, hFi, hci, hli, only_of hO hoi hon (fun q hq => ⟨hI _ _ _ _ hoi q hq, nodup_flatten_at hnd.2.1 hFi hF hij q hq⟩)⟩
theorem drop_cons_at {l : List α} {j : Nat} (h : j < l.length) : l.drop j = l[j] :: l.drop (j + 1) := List.drop_eq_getElem_cons h
/-- A list marked element by element, each counting so many marks. -/
def markL (mk : Int → α → α) (ct : α → Nat) : Int → List α → List α
  | _, [] => []
  | k, a :: l => mk k a :: markL mk ct (k + ct a) l
def sumL (ct : α → Nat) (l : List α) : Nat := (l.map ct).sum
theorem markL_len (mk : Int → α → α) (ct : α → Nat) : ∀ (k : Int) (l : List α), (markL mk ct k l).length = l.length
  | _, [] => rfl
  | k, a :: l => by simp [markL, markL_len mk ct (k + ct a) l]
theorem markL_at (mk : Int → α → α) (ct : α → Nat) : ∀ (l : List α) (k : Int) (j : Nat) (x : α), l[j]? = some x → (markL mk ct k l)[j]? = some (mk (k + sumL ct (l.take j)) x)
  | [], _, _, _, h => by simp at h
  | a :: l, k, 0, x, h => by simp at h; subst h; simp [markL, sumL]
  | a :: l, k, j + 1, x, h => by
    simp at h
    rw [markL, List.getElem?_cons_succ, markL_at mk ct l (k + ct a) j x h]
    simp [sumL, Int.add_assoc]
theorem sumL_snoc (ct : α → Nat) {l : List α} {j : Nat} {x : α} (h : l[j]? = some x) : sumL ct (l.take (j + 1)) = sumL ct (l.take j) + ct x := by
  rw [take_snoc h]; simp [sumL]
theorem sumL_le (ct : α → Nat) (l : List α) (j : Nat) : sumL ct (l.take j) ≤ sumL ct l := by
  have h : sumL ct l = sumL ct (l.take j) + sumL ct (l.drop j) := by
    unfold sumL
    rw [← List.sum_append, ← List.map_append, List.take_append_drop]
  omega
/-- The first j elements marked, the rest as they were. -/
def markPre (mk : Int → α → α) (ct : α → Nat) (k : Int) (l : List α) (j : Nat) : List α := (markL mk ct k l).take j ++ l.drop j
theorem markPre_zero (mk : Int → α → α) (ct : α → Nat) (k : Int) (l : List α) : markPre mk ct k l 0 = l := by simp [markPre]
theorem markPre_done (mk : Int → α → α) (ct : α → Nat) (k : Int) (l : List α) : markPre mk ct k l l.length = markL mk ct k l := by
  simp [markPre, List.take_of_length_le (Nat.le_of_eq (markL_len mk ct k l))]
theorem markPre_len (mk : Int → α → α) (ct : α → Nat) (k : Int) (l : List α) (j : Nat) (h : j ≤ l.length) : (markPre mk ct k l j).length = l.length := by
  simp [markPre, markL_len]; omega
theorem markPre_get (mk : Int → α → α) (ct : α → Nat) (k : Int) (l : List α) (j : Nat) (h : j ≤ l.length) : (markPre mk ct k l j)[j]? = l[j]? := by
  unfold markPre
  rw [List.getElem?_append_right (by simp [markL_len]; omega)]
  simp only [List.length_take, markL_len]
  rw [show min j l.length = j by omega, Nat.sub_self, List.getElem?_drop]; simp
theorem markPre_set (mk : Int → α → α) (ct : α → Nat) (k : Int) (l : List α) (j : Nat) (x : α) (h : l[j]? = some x) : (markPre mk ct k l j).set j (mk (k + sumL ct (l.take j)) x) = markPre mk ct k l (j + 1) := by
  have hj : j < l.length := (List.getElem?_eq_some_iff.1 h).1
  have e1 : (l.drop j).set 0 (mk (k + sumL ct (l.take j)) x) = mk (k + sumL ct (l.take j)) x :: l.drop (j + 1) := by
    rw [drop_cons_at hj]; rfl
  unfold markPre
  rw [List.set_append_right _ _ (by simp; omega)]
  simp only [List.length_take, markL_len]
  rw [show min j l.length = j by omega, Nat.sub_self, e1, take_snoc (markL_at mk ct l k j x h)]
  simp
end
end Go.Proofs.Ytcgjlddpbkponaa
