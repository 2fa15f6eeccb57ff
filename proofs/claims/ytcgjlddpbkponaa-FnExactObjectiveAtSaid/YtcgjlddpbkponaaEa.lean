/-
  Plain data (trees of numbers, truth values, texts and slices) and how a value of memory reads as such a tree, within a set of blocks.
-/
import Derived.Test.YtcgjlddpbkponaaAppend
namespace Go.Proofs.Ytcgjlddpbkponaa
open Go.ChangeShapes Go.WideShapes Go.ChangeAt Go.RowKit
set_option linter.unusedVariables false
set_option linter.unusedSimpArgs false

/-- Plain data; a slice's elements (of type e) are rows of cells, k cells each. -/
inductive Dat where
  | int (k : IntKind) (n : Int)
  | bool (b : Bool)
  | str (s : ByteArray)
  | sl (e k : Nat) (xs : List (List Dat))

mutual
/-- v reads as the tree, all memory looked at in blocks of A. -/
def RdV (A : Nat → Prop) (w : World) : Dat → Value → Prop
  | .int k n, v => v = .int k n
  | .bool b, v => v = .bool b
  | .str s, v => v = .string s
  | .sl _ k xs, v => ∃ a c, v = .slice a xs.length c ∧ xs.length ≤ c ∧ c ≤ maxLen ∧ RdRs A w k xs a 0
/-- Rows one after the other from offset 'o' behind the address on. -/
def RdRs (A : Nat → Prop) (w : World) (k : Nat) : List (List Dat) → Option Addr → Nat → Prop
  | [], _, _ => True
  | x :: xs, a, o => x.length = k ∧ RdCs A w x a o ∧ RdRs A w k xs a (o + k)
/-- Cells one after the other. -/
def RdCs (A : Nat → Prop) (w : World) : List Dat → Option Addr → Nat → Prop
  | [], a, _ => ∃ b off, a = some ⟨b, off, none⟩
  | p :: ps, a, o => (∃ b off u, a = some ⟨b, off, none⟩ ∧ A b ∧ w.cell? ⟨b, off + o, none⟩ = some u ∧ RdV A w p u) ∧ RdCs A w ps a (o + 1)
end
/-- Values that read as a list of trees. -/
def RdL (A : Nat → Prop) (w : World) : List Dat → List Value → Prop
  | [], vs => vs = []
  | p :: ps, vs => ∃ v vs', vs = v :: vs' ∧ RdV A w p v ∧ RdL A w ps vs'

/-- Blocks of A are as they were. -/
def SameOn (A : Nat → Prop) (w w' : World) : Prop := ∀ b, A b → w'.heap[b]? = w.heap[b]?
theorem SameOn.cell {A : Nat → Prop} {w w' : World} (h : SameOn A w w') {b o : Nat} (hb : A b) : w'.cell? ⟨b, o, none⟩ = w.cell? ⟨b, o, none⟩ := by
  unfold World.cell?
  simp only
  rw [h b hb]
theorem SameOn.below {A : Nat → Prop} {w w' : World} (h : Below w.heap.size w w') (hA : ∀ b, A b → b < w.heap.size) : SameOn A w w' := fun b hb => h.block b (hA b hb)

mutual
theorem RdV.mono {A A' : Nat → Prop} {w w' : World} (h : SameOn A w w') (hA : ∀ b, A b → A' b) : ∀ (x : Dat) (v : Value), RdV A w x v → RdV A' w' x v
  | .int _ _, _, hx => by unfold RdV at *; exact hx
  | .bool _, _, hx => by unfold RdV at *; exact hx
  | .str _, _, hx => by unfold RdV at *; exact hx
  | .sl e k xs, _, hx => by
    unfold RdV at *
    obtain ⟨a, c, h1, h2, h3, h4⟩ := hx
    exact ⟨a, c, h1, h2, h3, RdRs.mono h hA k xs a 0 h4⟩
theorem RdRs.mono {A A' : Nat → Prop} {w w' : World} (h : SameOn A w w') (hA : ∀ b, A b → A' b) : ∀ (k : Nat) (xs : List (List Dat)) (a : Option Addr) (o : Nat), RdRs A w k xs a o → RdRs A' w' k xs a o
  | _, [], _, _, _ => by unfold RdRs; trivial
  | k, x :: xs, a, o, hx => by
    unfold RdRs at *
    exact ⟨hx.1, RdCs.mono h hA x a o hx.2.1, RdRs.mono h hA k xs a (o + k) hx.2.2⟩
theorem RdCs.mono {A A' : Nat → Prop} {w w' : World} (h : SameOn A w w') (hA : ∀ b, A b → A' b) : ∀ (x : List Dat) (a : Option Addr) (o : Nat), RdCs A w x a o → RdCs A' w' x a o
  | [], _, _, hx => by unfold RdCs at *; exact hx
  | p :: ps, a, o, hx => by
    unfold RdCs at *
    obtain ⟨⟨b, off, u, h1, h2, h3, h4⟩, h5⟩ := hx
    exact ⟨⟨b, off, u, h1, hA b h2, (h.cell h2).trans h3, RdV.mono h hA p u h4⟩, RdCs.mono h hA ps a (o + 1) h5⟩
end
theorem RdL.mono {A A' : Nat → Prop} {w w' : World} (h : SameOn A w w') (hA : ∀ b, A b → A' b) : ∀ (xs : List Dat) (vs : List Value), RdL A w xs vs → RdL A' w' xs vs
  | [], _, hx => hx
  | p :: ps, _, ⟨v, vs', e, h1, h2⟩ => ⟨v, vs', e, RdV.mono h hA p v h1, RdL.mono h hA ps vs' h2⟩
theorem RdL.len {A : Nat → Prop} {w : World} : ∀ {xs : List Dat} {vs : List Value}, RdL A w xs vs → vs.length = xs.length
  | [], _, h => by rw [h]; rfl
  | p :: ps, _, ⟨v, vs', e, _, h2⟩ => by rw [e]; simp [RdL.len h2]
theorem RdL.at_ {A : Nat → Prop} {w : World} : ∀ {xs : List Dat} {vs : List Value} {i : Nat} {x : Dat}, RdL A w xs vs → xs[i]? = some x → ∃ v, vs[i]? = some v ∧ RdV A w x v
  | [], _, _, _, _, h => by simp at h
  | p :: ps, _, 0, x, ⟨v, vs', e, h1, _⟩, h => by simp at h; subst h; subst e; exact ⟨v, rfl, h1⟩
  | p :: ps, _, i + 1, x, ⟨v, vs', e, _, h2⟩, h => by
    simp at h; subst e
    obtain ⟨u, hu, hr⟩ := RdL.at_ h2 h
    exact ⟨u, by simpa using hu, hr⟩
theorem RdL.append {A : Nat → Prop} {w : World} : ∀ {xs ys : List Dat} {vs us : List Value}, RdL A w xs vs → RdL A w ys us → RdL A w (xs ++ ys) (vs ++ us)
  | [], _, _, _, h, h' => by rw [show _ = [] from h]; exact h'
  | p :: ps, ys, _, us, ⟨v, vs', e, h1, h2⟩, h' => by subst e; exact ⟨v, vs' ++ us, rfl, h1, RdL.append h2 h'⟩

theorem RdRs.at_ {A : Nat → Prop} {w : World} {k : Nat} : ∀ {xs : List (List Dat)} {a : Option Addr} {o i : Nat} {x : List Dat}, RdRs A w k xs a o → xs[i]? = some x → x.length = k ∧ RdCs A w x a (o + i * k)
  | [], _, _, _, _, _, h => by simp at h
  | y :: xs, a, o, 0, x, hr, h => by
    simp at h; subst h
    unfold RdRs at hr
    exact ⟨hr.1, by simpa using hr.2.1⟩
  | y :: xs, a, o, i + 1, x, hr, h => by
    simp at h
    unfold RdRs at hr
    have := RdRs.at_ hr.2.2 h
    rw [Nat.add_mul, Nat.one_mul, show o + (i * k + k) = o + k + i * k by omega]
    exact this
/-- Cells at an address with its offset: the values that lie there. -/
theorem RdCs.vals {A : Nat → Prop} {w : World} : ∀ {x : List Dat} {a : Option Addr} {o : Nat}, RdCs A w x a o → ∃ b off vs, a = some ⟨b, off, none⟩ ∧ (x ≠ [] → A b) ∧ RdL A w x vs ∧ ∀ j v, vs[j]? = some v → w.cell? ⟨b, off + o + j, none⟩ = some v
  | [], _, _, h => by
    unfold RdCs at h
    obtain ⟨b, off, e⟩ := h
    exact ⟨b, off, [], e, by simp, rfl, by simp⟩
  | p :: ps, a, o, h => by
    unfold RdCs at h
    obtain ⟨⟨b, off, u, e, hb, hc, hr⟩, h2⟩ := h
    obtain ⟨b', off', vs, e', _, hl, hcs⟩ := RdCs.vals h2
    rw [e] at e'
    simp only [Option.some.injEq, Addr.mk.injEq, and_true] at e'
    obtain ⟨rfl, rfl⟩ := e'
    refine ⟨b, off, u :: vs, e, fun _ => hb, ⟨u, vs, rfl, hr, hl⟩, fun j v hv => ?_⟩
    rcases j with _ | j
    · simp at hv; subst hv; exact hc
    · have := hcs j v (by simpa using hv)
      rw [show off + o + (j + 1) = off + (o + 1) + j by omega]; exact this
theorem RdCs.mk {A : Nat → Prop} {w : World} {b off : Nat} : ∀ {x : List Dat} {o : Nat} {vs : List Value}, (x ≠ [] → A b) → RdL A w x vs → (∀ j v, vs[j]? = some v → w.cell? ⟨b, off + o + j, none⟩ = some v) → RdCs A w x (some ⟨b, off, none⟩) o
  | [], _, _, _, _, _ => by unfold RdCs; exact ⟨b, off, rfl⟩
  | p :: ps, o, _, hb, ⟨v, vs', e, h1, h2⟩, hc => by
    unfold RdCs
    subst e
    refine ⟨⟨b, off, v, rfl, hb (by simp), by simpa using hc 0 v rfl, h1⟩, RdCs.mk (fun _ => hb (by simp)) h2 fun j u hu => ?_⟩
    have := hc (j + 1) u (by simpa using hu)
    rw [show off + (o + 1) + j = off + o + (j + 1) by omega]; exact this

/-- Numbers, truth values and texts: no memory behind them. -/
def Dat.val? : Dat → Option Value
  | .int k n => some (.int k n)
  | .bool b => some (.bool b)
  | .str s => some (.string s)
  | .sl _ _ _ => none
theorem RdV.scalar {A : Nat → Prop} {w : World} {x : Dat} {v u : Value} (h : x.val? = some v) : RdV A w x u ↔ u = v := by
  cases x <;> simp [Dat.val?] at h <;> subst h <;> unfold RdV <;> exact Iff.rfl
end Go.Proofs.Ytcgjlddpbkponaa
