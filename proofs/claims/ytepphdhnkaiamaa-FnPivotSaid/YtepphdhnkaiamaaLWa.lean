/-
  Products of numbers and rationals, plainly.
-/
import Derived.Test.YtepphdhnkaiamaaLQc
import Derived.Test.YtepphdhnkaiamaaLVa
namespace Go.Proofs.Ytepphdhnkaiamaa
open Go.ChangeShapes Go.WideShapes Go.ChangeAt Go.RowKit
set_option linter.unusedVariables false
set_option linter.unusedSimpArgs false
set_option maxRecDepth 100000
set_option maxHeartbeats 4000000
theorem getD_atP {α : Type} {l : List α} {k : Nat} {x y : α} (h : l[k]? = some x) : l.getD k y = x := by simp [List.getD_eq_getElem?_getD, h]
theorem rangeL_snoc {p : Nat → Bool} {k : Nat} (h : (List.range k).all p = true) (hk : p k = true) : (List.range (k + 1)).all p = true := by
  rw [List.range_succ, List.all_append, h]
  simp [hk]
theorem rangeL_stop {p : Nat → Bool} {n k : Nat} (hk : k < n) (h : p k = false) : (List.range n).all p = false := by
  rw [List.all_eq_false]
  exact ⟨k, List.mem_range.2 hk, by rw [h]; decide⟩
def wholeR (n : Int) : RationalD := ⟨n, 1⟩
def zR : RationalD := ⟨0, 0⟩
def dotS (n : Int) (x s : RationalD) : RationalD × Bool := ((addR s (mulR (wholeR n) x).1).1, (mulR (wholeR n) x).2 && (addR s (mulR (wholeR n) x).1).2)
def dotR : List Int → List RationalD → RationalD → RationalD × Bool
  | n :: l, x :: xs, s => if (dotS n x s).2 = true then dotR l xs (dotS n x s).1 else (zR, false)
  | _, _, s => (s, true)
theorem dotR_at {l : List Int} {xs : List RationalD} {k : Nat} {n : Int} {x s : RationalD} (hl : l[k]? = some n) (hx : xs[k]? = some x) : dotR (l.drop k) (xs.drop k) s = if (dotS n x s).2 = true then dotR (l.drop (k + 1)) (xs.drop (k + 1)) (dotS n x s).1 else (zR, false) := by
  obtain ⟨h1, rfl⟩ := List.getElem?_eq_some_iff.1 hl
  obtain ⟨h2, rfl⟩ := List.getElem?_eq_some_iff.1 hx
  rw [List.drop_eq_getElem_cons h1, List.drop_eq_getElem_cons h2, dotR]
theorem dotR_yes {l : List Int} {xs : List RationalD} {k : Nat} {n : Int} {x s : RationalD} (hl : l[k]? = some n) (hx : xs[k]? = some x) (h1 : (mulR (wholeR n) x).2 = true) (h2 : (addR s (mulR (wholeR n) x).1).2 = true) : dotR (l.drop k) (xs.drop k) s = dotR (l.drop (k + 1)) (xs.drop (k + 1)) (addR s (mulR (wholeR n) x).1).1 := by
  rw [dotR_at hl hx, if_pos (by rw [dotS, h1, h2]; rfl)]; rfl
theorem dotR_no {l : List Int} {xs : List RationalD} {k : Nat} {n : Int} {x s : RationalD} (hl : l[k]? = some n) (hx : xs[k]? = some x) (h : (mulR (wholeR n) x).2 = false ∨ (addR s (mulR (wholeR n) x).1).2 = false) : dotR (l.drop k) (xs.drop k) s = (zR, false) := by
  rw [dotR_at hl hx, if_neg]
  rcases h with h | h
  · rw [dotS, h]; simp
  · rw [dotS, h]; simp
theorem dotR_done {l : List Int} {xs : List RationalD} {k : Nat} {s : RationalD} (h : l.length ≤ k ∨ xs.length ≤ k) : dotR (l.drop k) (xs.drop k) s = (s, true) := by
  rcases h with h | h
  · rw [List.drop_eq_nil_of_le h]; simp [dotR]
  · rw [List.drop_eq_nil_of_le h]
    cases l.drop k <;> simp [dotR]
def prodR (l : List Int) (xs : List RationalD) : RationalD × Bool := if l.length = xs.length then dotR l xs (wholeR 0) else (zR, false)
theorem prodR_yes {l : List Int} {xs : List RationalD} (h : l.length = xs.length) : prodR l xs = dotR l xs (wholeR 0) := by rw [prodR, if_pos h]
theorem prodR_no {l : List Int} {xs : List RationalD} (h : ¬ l.length = xs.length) : prodR l xs = (zR, false) := by rw [prodR, if_neg h]
def limR (p : ProgramD) (ys : List RationalD) : RationalD × Bool := if okProg p = true then prodR p.limits ys else (zR, false)
theorem limR_yes {p : ProgramD} {ys : List RationalD} (h : okProg p = true) : limR p ys = prodR p.limits ys := by rw [limR, if_pos h]
theorem limR_no {p : ProgramD} {ys : List RationalD} (h : okProg p = false) : limR p ys = (zR, false) := by rw [limR, if_neg (by rw [h]; decide)]
def posR (r : RationalD) : Bool := validR r && !decide (r.num < 0)
def notNeg (l : List RationalD) (n : Int) : Bool := decide ((l.length : Int) = n) && l.all posR
theorem notNeg_split (l : List RationalD) (n : Int) : notNeg l n = ((decide ((l.length : Int) = n) && l.all validR) && l.all fun r => !decide (r.num < 0)) := by
  have : l.all posR = (l.all validR && l.all fun r => !decide (r.num < 0)) := by
    induction l with
    | nil => rfl
    | cons a l ih => simp only [List.all_cons, ih, posR]; cases validR a <;> cases (!decide (a.num < 0)) <;> cases l.all validR <;> simp
  rw [notNeg, this, Bool.and_assoc]
def colP (rs : List (List Int)) (k : Nat) : List Int := rs.map fun r => r.getD k 0
theorem colP_snoc {rs : List (List Int)} {i k : Nat} {r : List Int} {v : Int} (hr : rs[i]? = some r) (hv : r[k]? = some v) : colP (rs.take (i + 1)) k = colP (rs.take i) k ++ [v] := by
  rw [take_snoc hr]; simp [colP, hv]
def dualAt (p : ProgramD) (ys : List RationalD) (k : Nat) : Bool := (prodR (colP p.rows k) ys).2 && decide (0 ≤ cmpRat (prodR (colP p.rows k) ys).1 (wholeR (p.objective.getD k 0)))
def dualP (p : ProgramD) (ys : List RationalD) : Bool := okProg p && (notNeg ys p.rows.length && (List.range p.objective.length).all (dualAt p ys))
end Go.Proofs.Ytepphdhnkaiamaa
