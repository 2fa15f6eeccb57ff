/-
  Contracts of the laws' marks: what marking a datum of the call's own leaves, and that the marks are held.
-/
import Derived.Test.YtcgjlddpbkponaaOwn
namespace Go.Proofs.Ytcgjlddpbkponaa
open Go.ChangeShapes Go.WideShapes Go.ChangeAt Go.RowKit

/-- What marking leaves: the datum x in the same blocks, only these written. -/
def MarkO {α : Type} (O : Od α) (F : List Nat) (cs : List Value) (x : α) (k : Int) (w : World) (e : Ending) (w' : World) : Prop := e = .returned (.int .i64 k) ∧ O w' F cs x ∧ Only F w w'

theorem Blk.only {w w' : World} {g : Nat} {t : TypeId} {cs : Array Value} {S : List Nat} (h : Blk w g t cs) (ho : Only S w w') (hg : g ∉ S) : Blk w' g t cs := (ho.block g h.lt hg).trans h
theorem only_of {α : Type} {O : Od α} (hO : MonoO O) {w w' : World} {F S : List Nat} {cs : List Value} {x : α} (h : O w F cs x) (ho : Only S w w') (hF : ∀ g ∈ F, g < w.heap.size ∧ g ∉ S) : O w' F cs x :=
  hO _ _ _ _ _ (ho.keptOn hF) h
theorem Only.alloc {S : List Nat} {a w : World} (h : Only S a w) (o : Obj) : Only S a (w.alloc o) :=
  h.trans (Only.of_below ((Below.refl _ _).alloc (Nat.le_refl _) o))
theorem disj_of_nodup {F G : List Nat} (h : (F ++ G).Nodup) : ∀ g ∈ G, g ∉ F := fun g hg hf => (List.nodup_append.1 h).2.2 g hf g hg rfl
theorem disj_of_nodup' {F G : List Nat} (h : (F ++ G).Nodup) : ∀ g ∈ F, g ∉ G := fun g hg hf => (List.nodup_append.1 h).2.2 g hg g hf rfl

theorem markIntS_own (v : Value) (l : List Int) (F : List Nat) (k : Int) (w : World) (h : IntsO w F [v] l) (h0 : 0 ≤ k) (hk : k + l.length ≤ 4611686018427387904) :
    Calls Try.prog 72 #[v, .int .i64 k] w (MarkO IntsO F [v] (iota k l.length) (k + l.length) w) := by
  obtain ⟨v', hv, ho, rfl, hf⟩ := h
  simp only [List.cons.injEq, and_true] at hv
  subst hv
  refine (markIntS_any v l.length 0 (vals l) k w ho h0 (by omega)).mono ?_
  rintro e w' ⟨rfl, ho', hg, hs⟩
  exact ⟨rfl, ⟨v, rfl, ho', rfl, iota_fits h0 (by omega)⟩, Only.of_grown hg⟩

theorem heldIntS_own (v : Value) (l : List Int) (k : Int) (w : World) (h : SliceR 1 IntR w [v] (iota k l.length)) (h0 : 0 ≤ k) (hk : k + l.length ≤ 4611686018427387904) :
    Calls Try.prog 76 #[v, .int .i64 k] w fun e w' => e = .returned (.int .i64 (k + l.length)) ∧ Below w.heap.size w w' :=
  (heldIntS_any v l.length k w h h0 (by omega)).mono fun _ _ ⟨he, hw⟩ => ⟨he, hw ▸ Below.refl _ _⟩
end Go.Proofs.Ytcgjlddpbkponaa
