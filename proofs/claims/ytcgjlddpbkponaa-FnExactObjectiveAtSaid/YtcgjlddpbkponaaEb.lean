/-
  Symbolic states: what the slots hold and which memory the call owns; how a state speaks of a frame and a world; what growing or written memory leaves of it.
-/
import Derived.Test.YtcgjlddpbkponaaEa
namespace Go.Proofs.Ytcgjlddpbkponaa
open Go.ChangeShapes Go.WideShapes Go.ChangeAt Go.RowKit
set_option linter.unusedVariables false
set_option linter.unusedSimpArgs false

/-- What a slot is known to hold. -/
inductive AV where
  | p (o : Option Nat) (x : Dat)
  | own (h : Nat)
  | ptr (h : Nat) (off : Nat)
  | ep (h : Nat) (k i off : Nat)
  | rp (o : Option Nat) (x : List Dat)
  | agg (cs : List AV)
  | tup (vs : List AV)
  | fn (f : FuncId) (cap : List AV)
  | nil
  | bsl (h : Nat) (n : Nat)
  | no
/-- Memory of the call's own: a variable's block, or a slice's array. -/
inductive Rs where
  | box (t : TypeId) (cs : List AV)
  | arr (e k : Nat) (deep : Bool) (xs : List (List Dat))
/-- Where it lies. -/
structure Pl where
  val : Value
  top : List Nat
  sub : List Nat
abbrev Phi := Nat → Option Pl

mutual
def ments : AV → List Nat
  | .p (some h) _ => [h]
  | .p none _ => []
  | .own h => [h]
  | .ptr h _ => [h]
  | .ep h _ _ _ => [h]
  | .rp (some h) _ => [h]
  | .rp none _ => []
  | .agg cs => mentsL cs
  | .tup cs => mentsL cs
  | .fn _ cs => mentsL cs
  | .nil => []
  | .bsl h _ => [h]
  | .no => []
def mentsL : List AV → List Nat
  | [] => []
  | x :: xs => ments x ++ mentsL xs
end
def mentsR : Rs → List Nat
  | .box _ cs => mentsL cs
  | .arr _ _ _ _ => []

/-- Blocks in which a datum may lie: settled ones, and what the elements of h own. -/
def In (K : Nat → Prop) (pl : Pl) : Nat → Prop := fun b => K b ∨ b ∈ pl.sub
mutual
def MatchV (K : Nat → Prop) (φ : Phi) (w : World) : AV → Value → Prop
  | .p none x, v => RdV K w x v
  | .p (some h) x, v => ∀ pl, φ h = some pl → RdV (In K pl) w x v
  | .own h, v => ∀ pl, φ h = some pl → v = pl.val
  | .ptr h off, v => ∀ pl, φ h = some pl → ∃ g, pl.top = [g] ∧ v = .pointer (some ⟨g, off, none⟩)
  | .ep h k i off, v => ∀ pl, φ h = some pl → ∃ g, pl.top = [g] ∧ v = .pointer (some ⟨g, i * k + off, none⟩)
  | .rp none x, v => ∃ a, v = .pointer a ∧ RdCs K w x a 0
  | .rp (some h) x, v => ∀ pl, φ h = some pl → ∃ a, v = .pointer a ∧ RdCs (In K pl) w x a 0
  | .agg cs, v => ∃ vs : Array Value, v = .agg vs ∧ (∀ u ∈ vs.toList, u.oneCell' = true) ∧ MatchL K φ w cs vs.toList
  | .tup cs, v => ∃ vs : Array Value, v = .tuple vs ∧ MatchL K φ w cs vs.toList
  | .fn f cs, v => ∃ vs : Array Value, v = .func (.func f) #[] vs ∧ MatchL K φ w cs vs.toList
  | .nil, v => v = .slice none 0 0
  | .bsl h n, v => ∀ pl, φ h = some pl → ∃ g, pl.top = [g] ∧ v = .slice (some ⟨g, 0, none⟩) n n
  | .no, _ => True
def MatchL (K : Nat → Prop) (φ : Phi) (w : World) : List AV → List Value → Prop
  | [], vs => vs = []
  | x :: xs, vs => ∃ v vs', vs = v :: vs' ∧ MatchV K φ w x v ∧ MatchL K φ w xs vs'
end

mutual
theorem MatchV.mono {K K' : Nat → Prop} {φ φ' : Phi} {w w' : World} (hs : SameOn K w w') (hK : ∀ b, K b → K' b) :
    ∀ (x : AV) (v : Value), (∀ h pl, h ∈ ments x → φ' h = some pl → φ h = some pl ∧ SameOn (· ∈ pl.sub) w w') → MatchV K φ w x v → MatchV K' φ' w' x v
  | .p none x, v, _, hx => by unfold MatchV at *; exact RdV.mono hs hK x v hx
  | .p (some h) x, v, hm, hx => by
    unfold MatchV at *
    intro pl hp
    obtain ⟨h1, h2⟩ := hm h pl (by simp [ments]) hp
    exact RdV.mono (fun b hb => by rcases hb with hb | hb; exact hs b hb; exact h2 b hb) (fun b hb => by rcases hb with hb | hb; exact .inl (hK b hb); exact .inr hb) x v (hx pl h1)
  | .own h, v, hm, hx => by
    unfold MatchV at *
    intro pl hp
    exact hx pl (hm h pl (by simp [ments]) hp).1
  | .ptr h off, v, hm, hx => by
    unfold MatchV at *
    intro pl hp
    exact hx pl (hm h pl (by simp [ments]) hp).1
  | .ep h k i off, v, hm, hx => by
    unfold MatchV at *
    intro pl hp
    exact hx pl (hm h pl (by simp [ments]) hp).1
  | .rp none x, v, _, hx => by
    unfold MatchV at *
    obtain ⟨a, e, hr⟩ := hx
    exact ⟨a, e, RdCs.mono hs hK x a 0 hr⟩
  | .rp (some h) x, v, hm, hx => by
    unfold MatchV at *
    intro pl hp
    obtain ⟨h1, h2⟩ := hm h pl (by simp [ments]) hp
    obtain ⟨a, e, hr⟩ := hx pl h1
    exact ⟨a, e, RdCs.mono (fun b hb => by rcases hb with hb | hb; exact hs b hb; exact h2 b hb) (fun b hb => by rcases hb with hb | hb; exact .inl (hK b hb); exact .inr hb) x a 0 hr⟩
  | .agg cs, v, hm, hx => by
    unfold MatchV at *
    obtain ⟨vs, e, h1, hl⟩ := hx
    exact ⟨vs, e, h1, MatchL.mono hs hK cs _ (fun h pl hh => hm h pl (by simpa [ments] using hh)) hl⟩
  | .tup cs, v, hm, hx => by
    unfold MatchV at *
    obtain ⟨vs, e, hl⟩ := hx
    exact ⟨vs, e, MatchL.mono hs hK cs _ (fun h pl hh => hm h pl (by simpa [ments] using hh)) hl⟩
  | .fn f cs, v, hm, hx => by
    unfold MatchV at *
    obtain ⟨vs, e, hl⟩ := hx
    exact ⟨vs, e, MatchL.mono hs hK cs _ (fun h pl hh => hm h pl (by simpa [ments] using hh)) hl⟩
  | .nil, v, _, hx => by unfold MatchV at *; exact hx
  | .bsl h n, v, hm, hx => by
    unfold MatchV at *
    intro pl hp
    exact hx pl (hm h pl (by simp [ments]) hp).1
  | .no, _, _, _ => by unfold MatchV; trivial
theorem MatchL.mono {K K' : Nat → Prop} {φ φ' : Phi} {w w' : World} (hs : SameOn K w w') (hK : ∀ b, K b → K' b) :
    ∀ (xs : List AV) (vs : List Value), (∀ h pl, h ∈ mentsL xs → φ' h = some pl → φ h = some pl ∧ SameOn (· ∈ pl.sub) w w') → MatchL K φ w xs vs → MatchL K' φ' w' xs vs
  | [], _, _, hx => by unfold MatchL at *; exact hx
  | x :: xs, vs, hm, hx => by
    unfold MatchL at *
    obtain ⟨v, vs', e, h1, h2⟩ := hx
    exact ⟨v, vs', e, MatchV.mono hs hK x v (fun h pl hh => hm h pl (by simp [mentsL, hh])) h1, MatchL.mono hs hK xs vs' (fun h pl hh => hm h pl (by simp [mentsL, hh])) h2⟩
end

mutual
/-- The tree lies in memory of its own: the blocks F. -/
def OwV (w : World) : Dat → Value → List Nat → Prop
  | .int k n, v, F => v = .int k n ∧ F = []
  | .bool b, v, F => v = .bool b ∧ F = []
  | .str s, v, F => v = .string s ∧ F = []
  | .sl e k xs, v, F => ∃ (css : List (List Value)) (Fs : List (List Nat)), w.ownsRow 0 e k v xs.length css.flatten ∧ F = v.ownBlock.toList ++ Fs.flatten ∧ OwRs w k xs css Fs
def OwRs (w : World) (k : Nat) : List (List Dat) → List (List Value) → List (List Nat) → Prop
  | [], css, Fs => css = [] ∧ Fs = []
  | x :: xs, css, Fs => ∃ c css' F Fs', css = c :: css' ∧ Fs = F :: Fs' ∧ x.length = k ∧ OwCs w x c F ∧ OwRs w k xs css' Fs'
def OwCs (w : World) : List Dat → List Value → List Nat → Prop
  | [], cs, F => cs = [] ∧ F = []
  | p :: ps, cs, F => ∃ v cs' F1 F2, cs = v :: cs' ∧ F = F1 ++ F2 ∧ OwV w p v F1 ∧ OwCs w ps cs' F2
end
mutual
theorem OwV.kept {w w' : World} : ∀ (x : Dat) (v : Value) (F : List Nat), KeptOn F w w' → OwV w x v F → OwV w' x v F
  | .int _ _, _, _, _, h => by unfold OwV at *; exact h
  | .bool _, _, _, _, h => by unfold OwV at *; exact h
  | .str _, _, _, _, h => by unfold OwV at *; exact h
  | .sl e k xs, v, F, hk, h => by
    unfold OwV at *
    obtain ⟨css, Fs, h1, rfl, h2⟩ := h
    exact ⟨css, Fs, owns_keptOn h1 (hk.mono fun g hg => List.mem_append_left _ hg), rfl, OwRs.kept k xs css Fs (hk.mono fun g hg => List.mem_append_right _ hg) h2⟩
theorem OwRs.kept {w w' : World} : ∀ (k : Nat) (xs : List (List Dat)) (css : List (List Value)) (Fs : List (List Nat)), KeptOn Fs.flatten w w' → OwRs w k xs css Fs → OwRs w' k xs css Fs
  | _, [], _, _, _, h => by unfold OwRs at *; exact h
  | k, x :: xs, _, _, hk, h => by
    unfold OwRs at *
    obtain ⟨c, css', F, Fs', rfl, rfl, h1, h2, h3⟩ := h
    exact ⟨c, css', F, Fs', rfl, rfl, h1, OwCs.kept x c F (hk.mono fun g hg => by simp [hg]) h2, OwRs.kept k xs css' Fs' (hk.mono fun g hg => by simp only [List.flatten_cons, List.mem_append]; exact .inr hg) h3⟩
theorem OwCs.kept {w w' : World} : ∀ (x : List Dat) (cs : List Value) (F : List Nat), KeptOn F w w' → OwCs w x cs F → OwCs w' x cs F
  | [], _, _, _, h => by unfold OwCs at *; exact h
  | p :: ps, _, _, hk, h => by
    unfold OwCs at *
    obtain ⟨v, cs', F1, F2, rfl, rfl, h1, h2⟩ := h
    exact ⟨v, cs', F1, F2, rfl, rfl, OwV.kept p v F1 (hk.mono fun g hg => List.mem_append_left _ hg) h1, OwCs.kept ps cs' F2 (hk.mono fun g hg => List.mem_append_right _ hg) h2⟩
end
theorem OwCs.len {w : World} : ∀ {x : List Dat} {cs : List Value} {F : List Nat}, OwCs w x cs F → cs.length = x.length
  | [], _, _, h => by unfold OwCs at h; rw [h.1]; rfl
  | p :: ps, _, _, h => by
    unfold OwCs at h
    obtain ⟨v, cs', F1, F2, rfl, rfl, h1, h2⟩ := h
    simp [OwCs.len h2]
theorem OwRs.len {w : World} {k : Nat} : ∀ {xs : List (List Dat)} {css : List (List Value)} {Fs : List (List Nat)}, OwRs w k xs css Fs → css.length = xs.length ∧ (∀ c ∈ css, c.length = k)
  | [], _, _, h => by unfold OwRs at h; rw [h.1]; simp
  | x :: xs, _, _, h => by
    unfold OwRs at h
    obtain ⟨c, css', F, Fs', rfl, rfl, h1, h2, h3⟩ := h
    have := OwRs.len h3
    refine ⟨by simp [this.1], fun d hd => ?_⟩
    rcases List.mem_cons.1 hd with rfl | hd
    · rw [h2.len, h1]
    · exact this.2 d hd
theorem rows_cells {w : World} {e k n : Nat} {v : Value} {css : List (List Value)} (ho : w.ownsRow 0 e k v n css.flatten) (hc : ∀ c ∈ css, c.length = k) (hl : css.length = n) :
    ∃ a c, v = .slice a n c ∧ n ≤ c ∧ c ≤ maxLen ∧ (0 < n → ∃ g, a = some ⟨g, 0, none⟩ ∧ v.ownBlock = some g) ∧
      ∀ (i : Nat) c, css[i]? = some c → ∃ g, a = some ⟨g, 0, none⟩ ∧ v.ownBlock = some g ∧ ∀ (j : Nat) u, c[j]? = some u → w.cell? ⟨g, i * k + j, none⟩ = some u := by
  obtain ⟨A, c, rfl, hc1, hc2, hA⟩ := owns_shape ho
  have hA' : 0 < n → ∃ g, A = some ⟨g, 0, none⟩ ∧ (Value.slice A n c).ownBlock = some g := fun hn => by
    obtain ⟨g, rfl, _, _⟩ := hA hn
    exact ⟨g, rfl, rfl⟩
  refine ⟨A, c, rfl, hc1, hc2, hA', fun i d hd => ?_⟩
  have hi : i < n := by have := (List.getElem?_eq_some_iff.1 hd).1; omega
  obtain ⟨g, rfl, hg⟩ := hA' (by omega)
  refine ⟨g, rfl, hg, fun j u hu => ?_⟩
  have hj : j < k := by
    have := (List.getElem?_eq_some_iff.1 hu).1
    rw [hc d (List.mem_of_getElem? hd)] at this; exact this
  have hik : i * k + j < n * k := by
    have : (i + 1) * k ≤ n * k := Nat.mul_le_mul_right k (by omega)
    rw [Nat.add_mul] at this; omega
  rw [ho.cellAt (i * k + j) hik, flatten_at css hc i j d hd hj]
  exact hu
theorem rdRs_of {A : Nat → Prop} {w : World} {k g : Nat} : ∀ {xs : List (List Dat)} {css : List (List Value)} {o : Nat}, A g → css.length = xs.length → (∀ (i : Nat) x c, xs[i]? = some x → css[i]? = some c → x.length = k ∧ RdL A w x c) →
    (∀ (i : Nat) c, css[i]? = some c → ∀ (j : Nat) u, c[j]? = some u → w.cell? ⟨g, o + i * k + j, none⟩ = some u) → RdRs A w k xs (some ⟨g, 0, none⟩) o
  | [], _, _, _, _, _, _ => by unfold RdRs; trivial
  | x :: xs, [], _, _, hl, _, _ => by simp at hl
  | x :: xs, c :: css, o, hA, hl, hr, hc => by
    unfold RdRs
    obtain ⟨h1, h2⟩ := hr 0 x c rfl rfl
    refine ⟨h1, RdCs.mk (fun _ => hA) h2 fun j u hu => ?_, rdRs_of hA (by simpa using hl) (fun i x' c' hx hc' => hr (i + 1) x' c' (by simpa using hx) (by simpa using hc')) fun i c' hc' j u hu => ?_⟩
    · have := hc 0 c rfl j u hu
      simpa using this
    · have := hc (i + 1) c' (by simpa using hc') j u hu
      rw [show o + k + i * k + j = o + (i + 1) * k + j by rw [Nat.add_mul]; omega]; exact this
mutual
theorem OwV.rd {A : Nat → Prop} {w : World} : ∀ (x : Dat) (v : Value) (F : List Nat), (∀ g ∈ F, A g) → OwV w x v F → RdV A w x v
  | .int _ _, _, _, _, h => by unfold OwV RdV at *; exact h.1
  | .bool _, _, _, _, h => by unfold OwV RdV at *; exact h.1
  | .str _, _, _, _, h => by unfold OwV RdV at *; exact h.1
  | .sl e k xs, v, F, hF, h => by
    unfold OwV at h
    unfold RdV
    obtain ⟨css, Fs, ho, rfl, h2⟩ := h
    have hl := OwRs.len h2
    obtain ⟨a, c, rfl, h3, h4, h5, h6⟩ := rows_cells ho hl.2 hl.1
    refine ⟨a, c, rfl, h3, h4, ?_⟩
    by_cases hn : 0 < xs.length
    · obtain ⟨g, rfl, hg⟩ := h5 hn
      refine rdRs_of (hF g (by simp [hg])) hl.1 (fun i x c' hx hc' => OwRs.rd k xs css Fs i x c' (fun q hq => hF q (List.mem_append_right _ hq)) h2 hx hc') fun i c' hc' j u hu => ?_
      obtain ⟨g', e1, _, e2⟩ := h6 i c' hc'
      simp only [Option.some.injEq, Addr.mk.injEq, and_true] at e1
      subst e1
      have := e2 j u hu
      rwa [Nat.zero_add]
    · have : xs = [] := List.eq_nil_of_length_eq_zero (by omega)
      subst this
      unfold RdRs; trivial
theorem OwRs.rd {A : Nat → Prop} {w : World} : ∀ (k : Nat) (xs : List (List Dat)) (css : List (List Value)) (Fs : List (List Nat)) (i : Nat) (x : List Dat) (c : List Value), (∀ g ∈ Fs.flatten, A g) → OwRs w k xs css Fs → xs[i]? = some x → css[i]? = some c → x.length = k ∧ RdL A w x c
  | _, [], _, _, _, _, _, _, _, hx, _ => by simp at hx
  | k, y :: xs, _, _, 0, x, c, hF, h, hx, hc => by
    unfold OwRs at h
    obtain ⟨c', css', F, Fs', rfl, rfl, h1, h2, h3⟩ := h
    simp at hx hc
    subst hx
    subst hc
    exact ⟨h1, OwCs.rd y c' F (fun g hg => hF g (by simp [hg])) h2⟩
  | k, y :: xs, _, _, i + 1, x, c, hF, h, hx, hc => by
    unfold OwRs at h
    obtain ⟨c', css', F, Fs', rfl, rfl, h1, h2, h3⟩ := h
    simp at hx hc
    exact OwRs.rd k xs css' Fs' i x c (fun g hg => hF g (by simp only [List.flatten_cons, List.mem_append]; exact .inr hg)) h3 hx hc
theorem OwCs.rd {A : Nat → Prop} {w : World} : ∀ (x : List Dat) (cs : List Value) (F : List Nat), (∀ g ∈ F, A g) → OwCs w x cs F → RdL A w x cs
  | [], _, _, _, h => by unfold OwCs at h; exact h.1
  | p :: ps, _, _, hF, h => by
    unfold OwCs at h
    obtain ⟨v, cs', F1, F2, rfl, rfl, h1, h2⟩ := h
    exact ⟨v, cs', rfl, OwV.rd p v F1 (fun g hg => hF g (List.mem_append_left _ hg)) h1, OwCs.rd ps cs' F2 (fun g hg => hF g (List.mem_append_right _ hg)) h2⟩
end
end Go.Proofs.Ytcgjlddpbkponaa
