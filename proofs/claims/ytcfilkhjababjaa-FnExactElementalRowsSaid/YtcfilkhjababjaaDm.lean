/-
  Marks: what they are.
-/
import Derived.Test.YtcfilkhjababjaaDa
namespace Go.Proofs.Ytcfilkhjababjaa
open Go.ChangeShapes Go.WideShapes Go.ChangeAt Go.RowKit
set_option linter.unusedVariables false
set_option linter.unusedSimpArgs false
def mdig (n : Nat) (s : ByteArray) : ByteArray := if h : n = 0 then s else mdig (n / 10) (strOf [IntKind.u8.wrap (48 + Int.tmod (n : Int) 10)] ++ s)
  termination_by n
  decreasing_by omega
def mtext (k : Int) : ByteArray := if k ≤ 0 then ⟨#[109, 48]⟩ else (⟨#[109]⟩ : ByteArray) ++ mdig k.toNat ⟨#[]⟩
theorem mdig_zero (s : ByteArray) : mdig 0 s = s := by rw [mdig]; simp
theorem mdig_pos {n : Nat} (h : 0 < n) (s : ByteArray) : mdig n s = mdig (n / 10) (strOf [IntKind.u8.wrap (48 + Int.tmod (n : Int) 10)] ++ s) := by rw [mdig, dif_neg (by omega)]
theorem strOf_size (l : List Int) : (strOf l).size = l.length := by simp [strOf, ByteArray.size]
def mInt (k : Int) (_ : Int) : Int := k
def sInt (_ : Int) : Nat := 1
theorem sumL_le5 {α : Type} {s c : α → Nat} (h : ∀ x, s x ≤ 4 + 5 * c x) : ∀ l : List α, sumL s l ≤ 5 * cntL c l
  | [] => by simp [sumL, cntL]
  | a :: l => by
    have h1 := h a
    have h2 := sumL_le5 h l
    simp only [sumL, cntL, List.map_cons, List.sum_cons, List.length_cons] at *
    omega
theorem sumL_le4 {α : Type} {s : α → Nat} (h : ∀ x, s x ≤ 4) : ∀ l : List α, sumL s l ≤ 5 * l.length
  | [] => by simp [sumL]
  | a :: l => by
    have h1 := h a
    have h2 := sumL_le4 h l
    simp only [sumL, List.map_cons, List.sum_cons, List.length_cons] at *
    omega
theorem pre5 {α : Type} {s c : α → Nat} (h : ∀ x, s x ≤ 4 + 5 * c x) (l : List α) (k : Nat) (hk : k ≤ l.length) : sumL s (l.take k) ≤ 5 * (k + sumL c (l.take k)) := by
  have := sumL_le5 h (l.take k)
  unfold cntL at this
  rw [List.length_take, Nat.min_eq_left hk] at this
  exact this
theorem pre4 {α : Type} {s : α → Nat} (h : ∀ x, s x ≤ 4) (l : List α) (k : Nat) (hk : k ≤ l.length) : sumL s (l.take k) ≤ 5 * k := by
  have := sumL_le4 h (l.take k)
  rw [List.length_take, Nat.min_eq_left hk] at this
  exact this

def mIntS (k : Int) (l : List Int) : List Int := markL mInt sInt k l
def sIntS (l : List Int) : Nat := sumL sInt l
theorem sIntS_le (l : List Int) : sIntS l ≤ 5 * cIntS l := sumL_le4 (fun _ => by simp [sInt]) l

def mIntSS (k : Int) (l : List (List Int)) : List (List Int) := markL mIntS sIntS k l
def sIntSS (l : List (List Int)) : Nat := sumL sIntS l
theorem sIntSS_le (l : List (List Int)) : sIntSS l ≤ 5 * cIntSS l := sumL_le5 (fun y => by have := sIntS_le y; omega) l

def meRational (k : Int) (x : RationalD) : RationalD := ⟨k, k + 1⟩
def seRational (x : RationalD) : Nat := 1 + 1
theorem seRational_le (x : RationalD) : seRational x ≤ 4 + 5 * cRational x := by
  unfold seRational cRational; omega

def mRationalS (k : Int) (l : List RationalD) : List RationalD := markL meRational seRational k l
def sRationalS (l : List RationalD) : Nat := sumL seRational l
theorem sRationalS_le (l : List RationalD) : sRationalS l ≤ 5 * cRationalS l := sumL_le4 (fun x => by have := seRational_le x; simpa [cRational] using this) l

def mRationalSS (k : Int) (l : List (List RationalD)) : List (List RationalD) := markL mRationalS sRationalS k l
def sRationalSS (l : List (List RationalD)) : Nat := sumL sRationalS l
theorem sRationalSS_le (l : List (List RationalD)) : sRationalSS l ≤ 5 * cRationalSS l := sumL_le5 (fun y => by have := sRationalS_le y; omega) l

def meSizeConstraint (k : Int) (x : SizeConstraintD) : SizeConstraintD := ⟨k, k + 1, k + 1 + 1⟩
def seSizeConstraint (x : SizeConstraintD) : Nat := 1 + 1 + 1
theorem seSizeConstraint_le (x : SizeConstraintD) : seSizeConstraint x ≤ 4 + 5 * cSizeConstraint x := by
  unfold seSizeConstraint cSizeConstraint; omega

def mSizeConstraintS (k : Int) (l : List SizeConstraintD) : List SizeConstraintD := markL meSizeConstraint seSizeConstraint k l
def sSizeConstraintS (l : List SizeConstraintD) : Nat := sumL seSizeConstraint l
theorem sSizeConstraintS_le (l : List SizeConstraintD) : sSizeConstraintS l ≤ 5 * cSizeConstraintS l := sumL_le4 (fun x => by have := seSizeConstraint_le x; simpa [cSizeConstraint] using this) l

def mtProgram (k : Int) (x : ProgramD) : ProgramD := ⟨mIntS (k) x.objective, mIntSS (k + ((sIntS x.objective : Nat) : Int)) x.rows, mIntS (k + ((sIntS x.objective : Nat) : Int) + ((sIntSS x.rows : Nat) : Int)) x.limits⟩
def stProgram (x : ProgramD) : Nat := sIntS x.objective + sIntSS x.rows + sIntS x.limits
theorem stProgram_le (x : ProgramD) : stProgram x ≤ 5 * cProgram x := by
  have := sIntS_le x.objective
  have := sIntSS_le x.rows
  have := sIntS_le x.limits
  unfold stProgram cProgram; omega

def mtDictionary (k : Int) (x : DictionaryD) : DictionaryD := ⟨mIntS (k) x.basic, mIntS (k + ((sIntS x.basic : Nat) : Int)) x.others, mRationalSS (k + ((sIntS x.basic : Nat) : Int) + ((sIntS x.others : Nat) : Int)) x.table, mRationalS (k + ((sIntS x.basic : Nat) : Int) + ((sIntS x.others : Nat) : Int) + ((sRationalSS x.table : Nat) : Int)) x.limits, mRationalS (k + ((sIntS x.basic : Nat) : Int) + ((sIntS x.others : Nat) : Int) + ((sRationalSS x.table : Nat) : Int) + ((sRationalS x.limits : Nat) : Int)) x.costs, x.value⟩
def stDictionary (x : DictionaryD) : Nat := sIntS x.basic + sIntS x.others + sRationalSS x.table + sRationalS x.limits + sRationalS x.costs
theorem stDictionary_le (x : DictionaryD) : stDictionary x ≤ 5 * cDictionary x := by
  have := sIntS_le x.basic
  have := sIntS_le x.others
  have := sRationalSS_le x.table
  have := sRationalS_le x.limits
  have := sRationalS_le x.costs
  unfold stDictionary cDictionary; omega

def mtSolution (k : Int) (x : SolutionD) : SolutionD := ⟨x.value, mRationalS (k) x.primal, mRationalS (k + ((sRationalS x.primal : Nat) : Int)) x.dual⟩
def stSolution (x : SolutionD) : Nat := sRationalS x.primal + sRationalS x.dual
theorem stSolution_le (x : SolutionD) : stSolution x ≤ 5 * cSolution x := by
  have := sRationalS_le x.primal
  have := sRationalS_le x.dual
  unfold stSolution cSolution; omega
end Go.Proofs.Ytcfilkhjababjaa
