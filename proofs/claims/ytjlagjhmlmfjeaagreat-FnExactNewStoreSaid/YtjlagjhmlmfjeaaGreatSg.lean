/-
  Owned rows, one by one; rows turned by the library.
-/
import Derived.Test.YtjlagjhmlmfjeaaGreatSp
import Derived.Shelf.SlSortCmp.Insertion
namespace Go.Proofs.YtjlagjhmlmfjeaaGreat
open Go.ChangeShapes Go.WideShapes Go.ChangeAt Go.RowKit Go.Shelf Go.Lib
set_option linter.unusedVariables false
set_option linter.unusedSimpArgs false
theorem owRs_map {w : World} {k : Nat} {ι : Type} (f : ι → List Dat) (g : ι → List Value) (h : ι → List Nat) : ∀ {L : List ι}, (∀ i ∈ L, (f i).length = k ∧ OwCs w (f i) (g i) (h i)) → OwRs w k (L.map f) (L.map g) (L.map h)
  | [], _ => by simp only [List.map_nil]; unfold OwRs; exact ⟨rfl, rfl⟩
  | i :: L, hL => by
    simp only [List.map_cons]
    unfold OwRs
    exact ⟨_, _, _, _, rfl, rfl, (hL i (by simp)).1, (hL i (by simp)).2, owRs_map f g h fun j hj => hL j (by simp [hj])⟩
theorem owRs_lens {w : World} {k : Nat} : ∀ {xs : List (List Dat)} {css : List (List Value)} {Fs : List (List Nat)}, OwRs w k xs css Fs → css.length = xs.length ∧ Fs.length = xs.length
  | [], _, _, h => by unfold OwRs at h; rw [h.1, h.2]; exact ⟨rfl, rfl⟩
  | x :: xs, _, _, h => by
    unfold OwRs at h
    obtain ⟨c, css', F, Fs', rfl, rfl, _, _, h3⟩ := h
    have := owRs_lens h3
    simp [this.1, this.2]
theorem owRs_get {w : World} {k : Nat} : ∀ {xs : List (List Dat)} {css : List (List Value)} {Fs : List (List Nat)} {i : Nat} {x : List Dat}, OwRs w k xs css Fs → xs[i]? = some x → ∃ c F, css[i]? = some c ∧ Fs[i]? = some F ∧ x.length = k ∧ OwCs w x c F
  | [], _, _, _, _, _, hx => by simp at hx
  | y :: xs, _, _, 0, x, h, hx => by
    unfold OwRs at h
    obtain ⟨c, css', F, Fs', rfl, rfl, h1, h2, _⟩ := h
    simp at hx; subst hx
    exact ⟨c, F, rfl, rfl, h1, h2⟩
  | y :: xs, _, _, i + 1, x, h, hx => by
    unfold OwRs at h
    obtain ⟨c, css', F, Fs', rfl, rfl, _, _, h3⟩ := h
    simp at hx
    simpa using owRs_get h3 hx
theorem flat_one : ∀ (l : List (List Value)) (i : Nat) (v : Value), (∀ d ∈ l, d.length = 1) → l[i]? = some [v] → l.flatten[i]? = some v
  | [], i, v, _, h => by simp at h
  | d :: l, 0, v, hd, h => by simp at h; subst h; simp
  | d :: l, i + 1, v, hd, h => by
    have h1 := hd d (by simp)
    rw [List.flatten_cons, List.getElem?_append_right (by omega), h1]
    exact flat_one l i v (fun d' hd' => hd d' (by simp [hd'])) (by simpa using h)
theorem flat_enc {ι : Type} (f : ι → Value) : ∀ L : List ι, (L.map fun i => [f i]).flatten = L.map f
  | [] => rfl
  | i :: L => by rw [List.map_cons, List.flatten_cons, flat_enc f L]; rfl
theorem flat_len : ∀ (l : List (List Value)), (∀ d ∈ l, d.length = 1) → l.flatten.length = l.length
  | [], _ => rfl
  | d :: l, hd => by
    rw [List.flatten_cons, List.length_append, hd d (by simp), flat_len l fun d' hd' => hd d' (by simp [hd'])]
    simp; omega
/-- An owned row of numbers: its value. -/
theorem owRow {w : World} {e : Nat} {r : List Int} {c : List Value} {F : List Nat} (h : OwCs w [.sl e 1 (r.map intD)] c F) : ∃ a cap, c = [.slice a r.length cap] ∧ RowV w a r ∧ (∀ x ∈ a, x.block ∈ F) ∧ r.length ≤ 9223372036854775807 := by
  unfold OwCs at h
  obtain ⟨v, cs', F1, F2, rfl, rfl, h1, h2⟩ := h
  unfold OwCs at h2
  obtain ⟨rfl, rfl⟩ := h2
  unfold OwV at h1
  obtain ⟨css, Fs, q1, q2, q3⟩ := h1
  rcases q1.2 with ⟨rfl, hz⟩ | ⟨g, cap, cur, rfl, _, hb, hn, hcap2, hsz, htk⟩
  · simp at hz
    subst hz
    exact ⟨none, 0, rfl, fun j x hx => by simp at hx, by simp, by simp⟩
  · refine ⟨some ⟨g, 0, none⟩, cap, by simp, fun j x hx => ⟨g, 0, rfl, ?_⟩, fun x hx => ?_, by have : cap ≤ maxLen := hcap2; unfold maxLen at this; simp at hn; omega⟩
    · obtain ⟨c0, F0, g1, _, _, g4⟩ := owRs_get q3 (show (r.map intD)[j]? = some (intD x) by rw [List.getElem?_map, hx]; rfl)
      unfold intD OwCs at g4
      obtain ⟨v0, cs0, _, _, rfl, _, g5, g6⟩ := g4
      unfold OwCs at g6
      obtain ⟨rfl, _⟩ := g6
      unfold OwV at g5
      obtain ⟨rfl, _⟩ := g5
      have hlen : ∀ d ∈ css, d.length = 1 := fun d hd => by
        obtain ⟨i, hi⟩ := List.getElem?_of_mem hd
        have hil : i < (r.map intD).length := by
          have := (owRs_lens q3).1
          have := (List.getElem?_eq_some_iff.1 hi).1
          omega
        obtain ⟨c1, F1, k1, _, k3, k4⟩ := owRs_get q3 (List.getElem?_eq_getElem hil)
        rw [hi] at k1
        injection k1 with k1; subst k1
        rw [List.getElem_map] at k4
        unfold intD OwCs at k4
        obtain ⟨_, _, _, _, rfl, _, _, k6⟩ := k4
        unfold OwCs at k6
        rw [k6.1]; rfl
      have hflat : css.flatten[j]? = some (.int .i64 x) := by
        exact flat_one css j _ hlen g1
      have hj : j < r.length := (List.getElem?_eq_some_iff.1 hx).1
      simp only [World.cell?, hb, Nat.zero_add, Option.isSome_none, Bool.false_eq_true, if_false]
      rw [← Array.getElem?_toList, ← hflat, ← htk, List.getElem?_take_of_lt (by simpa using hj)]
    · simp at hx
      subst hx
      rw [q2]
      simp [Value.ownBlock]
theorem cells_put {w : World} {enc : Nat → Value} {g n : Nat} {os : Array Obj} {cur : Array Value} {e : TypeId} {fr : Nat × Nat} (d : Array Nat) (hb : w.heap[g]? = some (.cells cur e fr)) :
    (sortWorld enc w g 0 n d os).heap[g]? = some (.cells (Go.Sort.putCells enc 0 d cur) e fr) := by
  have hg : g < w.heap.size := (Array.getElem?_eq_some_iff.1 hb).1
  unfold sortWorld
  rw [Go.Sort.heap_grow_old _ _ (by simpa using hg)]
  simp [Go.Sort.putRow, Go.Sort.mapBlock, Go.Sort.ahead, Array.getElem?_modify, hb, Go.Sort.onCells]
theorem cells_kept {w : World} {enc : Nat → Value} {g n k : Nat} {os : Array Obj} (d : Array Nat) (hk : k < w.heap.size) (hne : k ≠ g) : (sortWorld enc w g 0 n d os).heap[k]? = w.heap[k]? := by
  unfold sortWorld
  rw [Go.Sort.heap_grow_old _ _ (by simpa using hk)]
  simp [Go.Sort.putRow, Go.Sort.mapBlock, Go.Sort.ahead, Array.getElem?_modify, Ne.symm hne]
theorem put_take (enc : Nat → Value) (cur : Array Value) (ts : List Nat) (h : ts.length ≤ cur.size) : (Go.Sort.putCells enc 0 ts.toArray cur).toList.take ts.length = ts.map enc := by
  apply List.ext_getElem?
  intro j
  by_cases hj : j < ts.length
  · rw [List.getElem?_take_of_lt hj, Array.getElem?_toList]
    simp [Go.Sort.putCells, hj, show j < cur.size by omega]
  · rw [List.getElem?_take_eq_none (by omega), List.getElem?_eq_none (by simp; omega)]
theorem rowV_kept {w w' : World} {a : Option Addr} {r : List Int} (h : RowV w a r) (hk : ∀ x ∈ a, w'.heap[x.block]? = w.heap[x.block]?) : RowV w' a r := fun j x hx => by
  obtain ⟨b, o, rfl, hc⟩ := h j x hx
  refine ⟨b, o, rfl, ?_⟩
  have := hk ⟨b, o, none⟩ rfl
  unfold World.cell? at *
  simp only at *
  rw [this]; exact hc
end Go.Proofs.YtjlagjhmlmfjeaaGreat
