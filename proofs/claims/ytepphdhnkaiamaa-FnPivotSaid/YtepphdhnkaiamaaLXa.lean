/-
  Steps of the simplex method, plainly.
-/
import Derived.Test.YtepphdhnkaiamaaLWc
namespace Go.Proofs.Ytepphdhnkaiamaa
open Go.ChangeShapes Go.WideShapes Go.ChangeAt Go.RowKit
set_option linter.unusedVariables false
set_option linter.unusedSimpArgs false
set_option maxRecDepth 100000
set_option maxHeartbeats 4000000
def negR (r : RationalD) : RationalD := ⟨-r.num, r.den⟩
def oneR : RationalD := ⟨1, 1⟩
def nilR : RationalD := ⟨0, 1⟩
def lessR (a b c : RationalD) : RationalD × Bool := if b.num = 0 ∨ c.num = 0 then (a, true) else ((subR a (mulR b c).1).1, (mulR b c).2 && (subR a (mulR b c).1).2)
theorem gcd_negl (n d : Int) : Int.gcd (-n) d = Int.gcd n d := by simp [Int.gcd]
theorem makeQ_negn (n d : Int) : makeQ (-n) d = (-(makeQ n d).1, (makeQ n d).2.1, (makeQ n d).2.2) := by
  rcases Int.lt_trichotomy d 0 with h | h | h
  · rw [mk_neg h, mk_neg h, gcd_negl (-n), Int.neg_tdiv, validQ_neg]
    split <;> rfl
  · subst h; rw [makeQ_zero, makeQ_zero]; rfl
  · rw [mk_pos h, mk_pos h, gcd_negl, Int.neg_tdiv, validQ_neg]
    split <;> rfl
theorem makeQ_negd (n d : Int) : makeQ (-n) (-d) = makeQ n d := by
  rcases Int.lt_trichotomy d 0 with h | h | h
  · rw [mk_neg h, mk_pos (show 0 < -d by omega)]
  · subst h; rw [Int.neg_zero, makeQ_zero, makeQ_zero]
  · rw [mk_pos h, mk_neg (show -d < 0 by omega), Int.neg_neg, Int.neg_neg]
theorem makeQ_ok {n d : Int} (h : (makeQ n d).2.2 = true) : validQ (makeQ n d).1 (makeQ n d).2.1 = true := by
  rcases Int.lt_trichotomy d 0 with q | q | q
  · rw [mk_neg q] at *
    split at h
    · rename_i hv; rw [if_pos hv]; exact hv
    · cases h
  · subst q; rw [makeQ_zero] at h; cases h
  · rw [mk_pos q] at *
    split at h
    · rename_i hv; rw [if_pos hv]; exact hv
    · cases h
theorem makeQ_bad {n d : Int} (h : (makeQ n d).2.2 = false) : makeQ n d = (0, 0, false) := by
  rcases Int.lt_trichotomy d 0 with q | q | q
  · rw [mk_neg q] at *
    split at h
    · cases h
    · rename_i hv; rw [if_neg hv]
  · subst q; exact makeQ_zero _
  · rw [mk_pos q] at *
    split at h
    · cases h
    · rename_i hv; rw [if_neg hv]
theorem makeQ_red {n d : Int} (h : validQ n d = true) : makeQ n d = (n, d, true) := by
  obtain ⟨h1, _, _, _, h2⟩ := validQ_bnd h
  rw [mk_pos (by omega), h2]
  simp only [Int.cast_ofNat_Int, Int.tdiv_one]
  rw [if_pos h]
theorem validQ_00 : validQ 0 0 = false := by decide
theorem mulR_neg (b c : RationalD) : mulR (negR b) c = (negR (mulR b c).1, (mulR b c).2) := by
  simp only [mulR, negR, mulQ, validQ_neg]
  split
  · rw [Int.neg_mul, makeQ_negn]; rfl
  · rfl
theorem addR_neg (a p : RationalD) : addR a (negR p) = subR a p := by
  simp only [addR, subR, negR, addQ_neg]
theorem plus_less (a b c : RationalD) : (if (negR b).num = 0 ∨ c.num = 0 then (a, true) else ((addR a (mulR (negR b) c).1).1, (mulR (negR b) c).2 && (addR a (mulR (negR b) c).1).2)) = lessR a b c := by
  rw [mulR_neg, addR_neg, lessR]
  have e : (negR b).num = 0 ↔ b.num = 0 := by simp only [negR]; omega
  simp only [e]
theorem op_ok {q : Int × Int × Bool} {n d : Int} {p : Prop} [Decidable p] (e : q = if p then makeQ n d else (0, 0, false)) (h : (toR q).2 = true) : validR (toR q).1 = true := by
  subst e
  split at h
  · rename_i hp; rw [if_pos hp]; exact makeQ_ok h
  · cases h
theorem subR_ok {a c : RationalD} (h : (subR a c).2 = true) : validR (subR a c).1 = true := op_ok (q := subQ a.num a.den c.num c.den) rfl h
theorem mulR_ok {a c : RationalD} (h : (mulR a c).2 = true) : validR (mulR a c).1 = true := op_ok (q := mulQ a.num a.den c.num c.den) rfl h
theorem addR_ok {a c : RationalD} (h : (addR a c).2 = true) : validR (addR a c).1 = true := op_ok (q := addQ a.num a.den c.num c.den) rfl h
theorem divR_ok {a c : RationalD} (h : (divR a c).2 = true) : validR (divR a c).1 = true := op_ok (q := divQ a.num a.den c.num c.den) rfl h
theorem divR_bad {a c : RationalD} (h : (divR a c).2 = false) : (divR a c).1 = ⟨0, 0⟩ := by
  unfold divR divQ at *
  split at h
  · rename_i hp; rw [if_pos hp, makeQ_bad h]; rfl
  · rename_i hp; rw [if_neg hp]; rfl
theorem lessR_ok {a b c : RationalD} (ha : validR a = true) (h : (lessR a b c).2 = true) : validR (lessR a b c).1 = true := by
  unfold lessR at *
  split at h
  · rename_i hp; rw [if_pos hp]; exact ha
  · rename_i hp
    rw [if_neg hp]
    simp only [Bool.and_eq_true] at h
    exact subR_ok h.2
theorem one_div {a : RationalD} (h : validR a = true) (h0 : a.num ≠ 0) : divR oneR a = ((if 0 < a.num then ⟨a.den, a.num⟩ else ⟨-a.den, -a.num⟩), true) := by
  obtain ⟨h1, h2, h3, h4, h5⟩ := validR_bnd h
  have v1 : validQ 1 1 = true := by decide
  rw [divR, show divQ oneR.num oneR.den a.num a.den = makeQ (1 * a.den) (1 * a.num) from divQ_yes v1 h, Int.one_mul, Int.one_mul]
  by_cases hp : 0 < a.num
  · rw [if_pos hp, makeQ_red (by simp only [validQ, Int.gcd_comm a.den, h5, Bool.and_eq_true, decide_eq_true_eq, and_true]; exact ⟨inB_mk (by omega) (by omega), inB_mk (by omega) (by omega)⟩)]; rfl
  · rw [if_neg hp, ← makeQ_negd, makeQ_red (by
      have e : Int.gcd (-a.den) (-a.num) = 1 := by rw [gcd_abs3, Int.gcd_comm]; exact h5
      simp only [validQ, e, Bool.and_eq_true, decide_eq_true_eq, and_true]; exact ⟨inB_mk (by omega) (by omega), inB_mk (by omega) (by omega)⟩)]; rfl
theorem mul_inv {c a : RationalD} (hc : validR c = true) (ha : validR a = true) (h0 : a.num ≠ 0) : mulR c (divR oneR a).1 = divR c a := by
  have hi := divR_ok (show (divR oneR a).2 = true by rw [one_div ha h0])
  rw [one_div ha h0] at *
  rw [divR, divQ_yes hc ha]
  split at hi
  · rename_i hp
    rw [if_pos hp, mulR, mulQ_yes hc hi]
  · rename_i hp
    rw [if_neg hp, mulR, mulQ_yes hc hi]
    simp only [Int.mul_neg]
    rw [makeQ_negd]
theorem zero_sub {x : RationalD} (h : validR x = true) : subR nilR x = (negR x, true) := by
  have v : validQ 0 1 = true := by decide
  rw [subR, show subQ nilR.num nilR.den x.num x.den = makeQ (0 * x.den - x.num * 1) (1 * x.den) from subQ_yes v h]
  rw [Int.zero_mul, Int.mul_one, Int.one_mul, Int.zero_sub, makeQ_red (by rw [validQ_neg]; exact h)]; rfl
theorem makeQ_nil {d : Int} (h : d ≠ 0) : makeQ 0 d = (0, 1, true) := by
  have key : ∀ e : Int, 0 < e → makeQ 0 e = (0, 1, true) := fun e he => by
    have hg : ((Int.gcd 0 e : Nat) : Int) = e := by rw [Int.gcd_zero_left]; omega
    rw [mk_pos he, hg, Int.zero_tdiv, Int.tdiv_self (by omega)]; rfl
  rcases Int.lt_or_gt_of_ne h with q | q
  · rw [← makeQ_negd, Int.neg_zero]; exact key _ (by omega)
  · exact key _ q
theorem col_less {c a : RationalD} (hc : validR c = true) (ha : validR a = true) (h0 : a.num ≠ 0) : lessR nilR c (divR oneR a).1 = (negR (divR c a).1, (divR c a).2) := by
  have hb := validR_bnd hc
  have hba := validR_bnd ha
  by_cases hz : c.num = 0
  · have hd : c.den * a.num ≠ 0 := Int.mul_ne_zero (by omega) h0
    rw [lessR, if_pos (.inl hz), divR, divQ_yes hc ha, hz, Int.zero_mul, makeQ_nil hd]; rfl
  · have hn : ¬ (c.num = 0 ∨ (divR oneR a).1.num = 0) := by
      rw [one_div ha h0]
      rintro (q | q)
      · exact hz q
      · revert q; split
        · show ¬ a.den = 0; omega
        · show ¬ -a.den = 0; omega
    rw [lessR, if_neg hn, mul_inv hc ha h0]
    cases e : (divR c a).2 with
    | true => rw [zero_sub (divR_ok e)]; rfl
    | false => rw [divR_bad e]; rfl
end Go.Proofs.Ytepphdhnkaiamaa
