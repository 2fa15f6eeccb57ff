/-
  Pivots, the program's: what the walk uses.
-/
import Derived.Test.YtepphdhnkaiamaaLXm
namespace Go.Proofs.Ytepphdhnkaiamaa
open Go.ChangeShapes Go.WideShapes Go.ChangeAt Go.RowKit
set_option linter.unusedVariables false
set_option linter.unusedSimpArgs false
set_option maxRecDepth 100000
set_option maxHeartbeats 4000000
theorem pivM_z {d : DictionaryD} {i j : Nat} (h : (cellD d i j).num = 0) : pivM d i j = (zDic, false) := by rw [pivM, if_neg (fun q => q.1 h)]
theorem pivM_no {d : DictionaryD} {i j : Nat} (h : (!((allOk d i j) && (nwVal d i j).2)) = true) : pivM d i j = (zDic, false) := by
  rw [pivM, if_neg]
  rintro ⟨_, h1, h2⟩
  rw [h1, h2] at h; cases h
theorem pivM_yes {d : DictionaryD} {i j : Nat} (h0 : ¬ (cellD d i j).num = 0) (h : (!((allOk d i j) && (nwVal d i j).2)) = false) : pivM d i j = (newD d i j, true) := by
  rw [pivM, if_pos]
  rw [Bool.not_eq_false', Bool.and_eq_true] at h
  exact ⟨h0, h.1, h.2⟩
theorem flag_all (F R C V : Bool) : ((!(F && R) || !C) || !V) = !(((F && R) && C) && V) := by cases F <;> cases R <;> cases C <;> cases V <;> rfl
theorem flag_row (F R C L : Bool) : ((!(F && R) || !C) || !L) = !(F && (R && (C && L))) := by cases F <;> cases R <;> cases C <;> cases L <;> rfl
theorem nwLims_len (d : DictionaryD) (i j r : Nat) : (nwLims d i j r).length = r := by simp [nwLims]
theorem nw_nei {d : DictionaryD} {i j r : Nat} {p : List RationalD} {x c l : RationalD} {row : List RationalD} (h : ¬ r = i) (hp : p = pivRow d i j d.others.length) (hr : d.table[r]? = some row) (hn : row.length = d.others.length) (hc : row[j]? = some c) (hx : d.limits[r]? = some x) (hl : (pivLim d i j).1 = l) : nwRow d i j r = chRow row p j row.length ∧ nwLim d i j r = (plusR x (negR c) l).1 ∧ nwOk d i j r = (chOk row p j row.length && (plusR x (negR c) l).2) := by
  rw [plusR_neg, hn]; exact nw_ne h hp hr hc hx hl
end Go.Proofs.Ytepphdhnkaiamaa
