/-
  Marks: what they are.
-/
import Derived.Test.YtepphdhnkaiamaaDa
namespace Go.Proofs.Ytepphdhnkaiamaa
open Go.ChangeShapes Go.WideShapes Go.ChangeAt Go.RowKit
set_option linter.unusedVariables false
set_option linter.unusedSimpArgs false
set_option maxRecDepth 100000
set_option maxHeartbeats 4000000
def mdig (n : Nat) (s : ByteArray) : ByteArray := if h : n = 0 then s else mdig (n / 10) (strOf [IntKind.u8.wrap (48 + Int.tmod (n : Int) 10)] ++ s)
  termination_by n
  decreasing_by omega
def mtext (k : Int) : ByteArray := if k ≤ 0 then ⟨#[109, 48]⟩ else (⟨#[109]⟩ : ByteArray) ++ mdig k.toNat ⟨#[]⟩
theorem mdig_zero (s : ByteArray) : mdig 0 s = s := by rw [mdig]; simp
theorem mdig_pos {n : Nat} (h : 0 < n) (s : ByteArray) : mdig n s = mdig (n / 10) (strOf [IntKind.u8.wrap (48 + Int.tmod (n : Int) 10)] ++ s) := by rw [mdig, dif_neg (by omega)]
theorem strOf_size (l : List Int) : (strOf l).size = l.length := by simp [strOf, ByteArray.size]
def mInt (k : Int) (_ : Int) : Int := k
def sInt (_ : Int) : Nat := 1
theorem sumL_le5 {α : Type} {s c : α → Nat} (h : ∀ x, s x ≤ 4 + 5 * c x) : ∀ l : List α, sumL s l ≤ 5 * cntL c l
  | [] => by simp [sumL, cntL]
  | a :: l => by
    have h1 := h a
    have h2 := sumL_le5 h l
    simp only [sumL, cntL, List.map_cons, List.sum_cons, List.length_cons] at *
    omega
theorem sumL_le4 {α : Type} {s : α → Nat} (h : ∀ x, s x ≤ 4) : ∀ l : List α, sumL s l ≤ 5 * l.length
  | [] => by simp [sumL]
  | a :: l => by
    have h1 := h a
    have h2 := sumL_le4 h l
    simp only [sumL, List.map_cons, List.sum_cons, List.length_cons] at *
    omega
theorem pre5 {α : Type} {s c : α → Nat} (h : ∀ x, s x ≤ 4 + 5 * c x) (l : List α) (k : Nat) (hk : k ≤ l.length) : sumL s (l.take k) ≤ 5 * (k + sumL c (l.take k)) := by
  have := sumL_le5 h (l.take k)
  unfold cntL at this
  rw [List.length_take, Nat.min_eq_left hk] at this
  exact this
theorem pre4 {α : Type} {s : α → Nat} (h : ∀ x, s x ≤ 4) (l : List α) (k : Nat) (hk : k ≤ l.length) : sumL s (l.take k) ≤ 5 * k := by
  have := sumL_le4 h (l.take k)
  rw [List.length_take, Nat.min_eq_left hk] at this
  exact this

def mIntS (k : Int) (l : List Int) : List Int := markL mInt sInt k l
def sIntS (l : List Int) : Nat := sumL sInt l
theorem sIntS_le (l : List Int) : sIntS l ≤ 5 * cIntS l := sumL_le4 (fun _ => by simp [sInt]) l

def mIntSS (k : Int) (l : List (List Int)) : List (List Int) := markL mIntS sIntS k l
def sIntSS (l : List (List Int)) : Nat := sumL sIntS l
theorem sIntSS_le (l : List (List Int)) : sIntSS l ≤ 5 * cIntSS l := sumL_le5 (fun y => by have := sIntS_le y; omega) l

def meRational (k : Int) (x : RationalD) : RationalD := ⟨k, k + 1⟩
def seRational (x : RationalD) : Nat := 1 + 1
theorem seRational_le (x : RationalD) : seRational x ≤ 4 + 5 * cRational x := by
  unfold seRational cRational; omega

def mRationalS (k : Int) (l : List RationalD) : List RationalD := markL meRational seRational k l
def sRationalS (l : List RationalD) : Nat := sumL seRational l
theorem sRationalS_le (l : List RationalD) : sRationalS l ≤ 5 * cRationalS l := sumL_le4 (fun x => by have := seRational_le x; simpa [cRational] using this) l

def mRationalSS (k : Int) (l : List (List RationalD)) : List (List RationalD) := markL mRationalS sRationalS k l
def sRationalSS (l : List (List RationalD)) : Nat := sumL sRationalS l
theorem sRationalSS_le (l : List (List RationalD)) : sRationalSS l ≤ 5 * cRationalSS l := sumL_le5 (fun y => by have := sRationalS_le y; omega) l
end Go.Proofs.Ytepphdhnkaiamaa
