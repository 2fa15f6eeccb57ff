/-
  Pivots: the steps that walks use; less, the reference's.
-/
import Derived.Test.YtepphdhnkaiamaaLXf
namespace Go.Proofs.Ytepphdhnkaiamaa
open Go.ChangeShapes Go.WideShapes Go.ChangeAt Go.RowKit
set_option linter.unusedVariables false
set_option linter.unusedSimpArgs false
set_option maxRecDepth 100000
set_option maxHeartbeats 4000000
theorem pivRow_snoc (d : DictionaryD) (i j k : Nat) : pivRow d i j (k + 1) = pivRow d i j k ++ [(pivX d i j k).1] := by simp [pivRow, List.range_succ]
theorem pivROk_snoc (d : DictionaryD) (i j k : Nat) : pivROk d i j (k + 1) = (pivROk d i j k && (pivX d i j k).2) := by simp [pivROk, List.range_succ]
theorem pivX_k {d : DictionaryD} {i j k : Nat} {x a : RationalD} (ha : cellD d i j = a) (hx : cellD d i k = x) (h : ¬ k = j) : pivX d i j k = divR x a := by rw [pivX, if_neg h, ha, hx]
theorem pivX_j {d : DictionaryD} {i j k : Nat} {a : RationalD} (ha : cellD d i j = a) (h : k = j) : pivX d i j k = divR (wholeR 1) a := by rw [pivX, if_pos h, ha]; rfl
theorem chRow_snoc (l p : List RationalD) (j k : Nat) : chRow l p j (k + 1) = chRow l p j k ++ [(chX l (l.getD j zR) p j k).1] := by simp [chRow, List.range_succ]
theorem chOk_snoc (l p : List RationalD) (j k : Nat) : chOk l p j (k + 1) = (chOk l p j k && (chX l (l.getD j zR) p j k).2) := by simp [chOk, List.range_succ]
theorem chX_k {l p : List RationalD} {j k : Nat} {x c y : RationalD} (h : ¬ k = j) (hx : l[k]? = some x) (hc : l[j]? = some c) (hy : p[k]? = some y) : chX l (l.getD j zR) p j k = lessR x c y := by rw [chX, if_neg h, getD_atP hx, getD_atP hc, getD_atP hy]
theorem chX_j {l p : List RationalD} {j k : Nat} {c y : RationalD} (h : k = j) (hc : l[j]? = some c) (hy : p[k]? = some y) : chX l (l.getD j zR) p j k = lessR (wholeR 0) c y := by rw [chX, if_pos h, getD_atP hc, getD_atP hy]; rfl
theorem nwRows_snoc (d : DictionaryD) (i j k : Nat) : nwRows d i j (k + 1) = nwRows d i j k ++ [nwRow d i j k] := by simp [nwRows, List.range_succ]
theorem nwLims_snoc (d : DictionaryD) (i j k : Nat) : nwLims d i j (k + 1) = nwLims d i j k ++ [nwLim d i j k] := by simp [nwLims, List.range_succ]
theorem nwRsOk_snoc (d : DictionaryD) (i j k : Nat) : nwRsOk d i j (k + 1) = (nwRsOk d i j k && nwOk d i j k) := by simp [nwRsOk, List.range_succ]
theorem flag_step {F R C L f g : Bool} (h1 : f = (F && R)) (h2 : g = (f && C)) : (g && L) = (F && (R && (C && L))) := by subst h1; subst h2; cases F <;> cases R <;> cases C <;> rfl
theorem nw_eq {d : DictionaryD} {i j r : Nat} (h : r = i) : nwRow d i j r = pivRow d i j d.others.length ∧ nwLim d i j r = (pivLim d i j).1 ∧ nwOk d i j r = true := by rw [nwRow, nwLim, nwOk, if_pos h, if_pos h, if_pos h]; exact ⟨rfl, rfl, rfl⟩
theorem nw_ne {d : DictionaryD} {i j r : Nat} {p : List RationalD} {x c l : RationalD} {row : List RationalD} (h : ¬ r = i) (hp : p = pivRow d i j d.others.length) (hr : d.table[r]? = some row) (hc : row[j]? = some c) (hx : d.limits[r]? = some x) (hl : (pivLim d i j).1 = l) : nwRow d i j r = chRow row p j d.others.length ∧ nwLim d i j r = (lessR x c l).1 ∧ nwOk d i j r = (chOk row p j d.others.length && (lessR x c l).2) := by
  rw [nwRow, nwLim, nwOk, if_neg h, if_neg h, if_neg h, chLim, cell_at hr hc, getD_atP hx, getD_atP hr, hl, ← hp]
  exact ⟨rfl, rfl, rfl⟩
theorem pivP_out {d : DictionaryD} {i j : Int} (h : ¬ ((0 ≤ i ∧ i < d.basic.length) ∧ 0 ≤ j ∧ j < d.others.length)) : pivP d i j = (zDic, false) := by rw [pivP, if_neg (fun q => h q.2)]
theorem pivP_no {d : DictionaryD} {i j : Int} (h : okDic d = false) : pivP d i j = (zDic, false) := by rw [pivP, if_neg (by rw [h]; simp)]
theorem pivP_bad {d : DictionaryD} {i j : Int} (h : ¬ ((cellD d i.toNat j.toNat).num ≠ 0 ∧ allOk d i.toNat j.toNat = true ∧ (nwVal d i.toNat j.toNat).2 = true)) : pivP d i j = (zDic, false) := by
  rw [pivP]
  split
  · rw [pivM, if_neg h]
  · rfl
theorem pivP_yes {d : DictionaryD} {i j : Int} (h : okDic d = true) (hi : 0 ≤ i ∧ i < d.basic.length) (hj : 0 ≤ j ∧ j < d.others.length) (h1 : (cellD d i.toNat j.toNat).num ≠ 0) (h2 : allOk d i.toNat j.toNat = true) (h3 : (nwVal d i.toNat j.toNat).2 = true) : pivP d i j = (newD d i.toNat j.toNat, true) := by rw [pivP, if_pos ⟨h, hi, hj⟩, pivM, if_pos ⟨h1, h2, h3⟩]
theorem nwVal_full {d : DictionaryD} {i j : Nat} (h : okDic d = true) (hj : j < d.others.length) (hl : (pivLim d i j).2 = true) : nwVal d i j = ((addR d.value (mulR (d.costs.getD j zR) (pivLim d i j).1).1).1, (mulR (d.costs.getD j zR) (pivLim d i j).1).2 && (addR d.value (mulR (d.costs.getD j zR) (pivLim d i j).1).1).2) := by
  obtain ⟨_, _, _, _, _, _, b7, b8⟩ := okDic_bnd h
  exact plusR_full b8 (valid_getD b7 hj) (divR_ok hl)
theorem set_same0 {α : Type} {l : List α} {i : Nat} {x : α} (h : l[i]? = some x) : l.set i x = l := by
  obtain ⟨hi, rfl⟩ := List.getElem?_eq_some_iff.1 h
  simp
theorem all_less {p : Nat → Bool} {k n : Nat} (hk : k ≤ n) (h : (List.range k).all p = false) : (List.range n).all p = false := by
  cases e : (List.range n).all p with
  | false => rfl
  | true =>
    rw [List.all_eq_true] at e
    have : (List.range k).all p = true := List.all_eq_true.2 fun x hx => e x (List.mem_range.2 (by have := List.mem_range.1 hx; omega))
    rw [this] at h; cases h
theorem allOk_no {d : DictionaryD} {i j r k : Nat} {p : List RationalD} {f g : Bool} (hf : f = ((pivROk d i j d.others.length && (pivLim d i j).2) && nwRsOk d i j r)) (hr : r ≤ d.basic.length) (hp : p = pivRow d i j d.others.length) (hg : g = (f && chOk d.costs p j k)) (hk : k ≤ d.others.length) (h : g = false) : allOk d i j = false := by
  rw [allOk, nwCOk, ← hp]
  subst hf
  rw [hg] at h
  simp only [Bool.and_eq_false_iff] at h ⊢
  rcases h with (h | h) | h
  · exact .inl (.inl h)
  · exact .inl (.inr (all_less hr h))
  · exact .inr (all_less hk h)
theorem allOk_yes {d : DictionaryD} {i j r k : Nat} {p : List RationalD} {f g : Bool} (hf : f = ((pivROk d i j d.others.length && (pivLim d i j).2) && nwRsOk d i j r)) (hr : r = d.basic.length) (hp : p = pivRow d i j d.others.length) (hg : g = (f && chOk d.costs p j k)) (hk : k = d.others.length) (h : g = true) : allOk d i j = true := by
  rw [allOk, nwCOk, ← hp, ← hr, ← hf, ← hk, ← hg, h]
theorem allOk_f {d : DictionaryD} {i j r : Nat} {f : Bool} (hf : f = ((pivROk d i j d.others.length && (pivLim d i j).2) && nwRsOk d i j r)) (hr : r ≤ d.basic.length) (h : f = false) : allOk d i j = false := by
  subst hf
  rw [allOk]
  simp only [Bool.and_eq_false_iff] at h ⊢
  rcases h with h | h
  · exact .inl (.inl h)
  · exact .inl (.inr (all_less hr h))
theorem allOk_p {d : DictionaryD} {i j : Nat} (h : pivROk d i j d.others.length = false) : allOk d i j = false := by
  rw [allOk, h]; rfl
theorem allOk_lim {d : DictionaryD} {i j : Nat} (h : allOk d i j = true) : (pivLim d i j).2 = true := by
  simp only [allOk, Bool.and_eq_true] at h
  exact h.1.1.2
theorem nwRows_set {d : DictionaryD} {i j : Nat} (hi : i < d.basic.length) : (nwRows d i j d.basic.length).set i (pivRow d i j d.others.length) = nwRows d i j d.basic.length := set_same0 (by simp [nwRows, hi, nwRow])

abbrev k_less_spec (a : RationalD) (b : RationalD) (c : RationalD) : AV × List (Nat × Rs) := (.tup [.agg [vI (((lessR a b c).1).num), vI (((lessR a b c).1).den)], vB ((lessR a b c).2)], [])
abbrev K_less_spec (a : RationalD) (b : RationalD) (c : RationalD) : Prop := Con Try.prog 72 [.agg [.int .i64 a.num, .int .i64 a.den], .agg [.int .i64 b.num, .int .i64 b.den], .agg [.int .i64 c.num, .int .i64 c.den]] (k_less_spec a b c).1 (k_less_spec a b c).2
theorem less_spec (a b c : RationalD) : K_less_spec a b c := by
 refine con_y tbOk mixedW Try.func72 (by kernel_rfl) (.br (.fin []) (.lit <| .lit <| .lit <| .br (.fin []) (callP (k_mul_spec b c) <| callP (k_sub_spec a ((mulR b c).1)) <| .br (.fin []) (.fin [])))) (p := ((decide (b.num = (0 : Int))) = true → a.num = (((lessR a b c).1).num) ∧ a.den = (((lessR a b c).1).den) ∧ (true) = ((lessR a b c).2) ∧ True) ∧ ((decide (b.num = (0 : Int))) = false → ((decide (c.num = (0 : Int))) = true → a.num = (((lessR a b c).1).num) ∧ a.den = (((lessR a b c).1).den) ∧ (true) = ((lessR a b c).2) ∧ True) ∧ ((decide (c.num = (0 : Int))) = false → K_mul_spec b c ∧ (K_sub_spec a ((mulR b c).1) ∧ ((((mulR b c).2) = true → (((subR a ((mulR b c).1)).1).num) = (((lessR a b c).1).num) ∧ (((subR a ((mulR b c).1)).1).den) = (((lessR a b c).1).den) ∧ ((subR a ((mulR b c).1)).2) = ((lessR a b c).2) ∧ True) ∧ (((mulR b c).2) = false → (((subR a ((mulR b c).1)).1).num) = (((lessR a b c).1).num) ∧ (((subR a ((mulR b c).1)).1).den) = (((lessR a b c).1).den) ∧ (false) = ((lessR a b c).2) ∧ True)))))) (by kernel_rfl) ?_
 refine ⟨fun g15 => ?_, fun g15 => ?_⟩
 ·replace g15 := yq g15
  refine ⟨?_, ?_, ?_, trivial⟩ <;> (first | (rw [lessR, if_pos (.inl (by first | exact g15 | assumption))] <;> rfl) | (rw [lessR, if_pos (.inr c0)] <;> rfl) | (rw [lessR, if_neg (by rintro (q | q); exact g15 q; exact c0 q)]; simp [*]; done) | (rw [lessR, if_neg (by rintro (q | q); exact g15 q; exact c0 q)] <;> rfl))
 ·replace g15 := nq g15
  refine ⟨fun c0 => ?_, fun c0 => ?_⟩
  ·replace c0 := yq c0
   refine ⟨?_, ?_, ?_, trivial⟩ <;> (first | (rw [lessR, if_pos (.inl (by first | exact g15 | assumption))] <;> rfl) | (rw [lessR, if_pos (.inr c0)] <;> rfl) | (rw [lessR, if_neg (by rintro (q | q); exact g15 q; exact c0 q)]; simp [*]; done) | (rw [lessR, if_neg (by rintro (q | q); exact g15 q; exact c0 q)] <;> rfl))
  ·replace c0 := nq c0
   refine ⟨mul_spec b c, sub_spec a ((mulR b c).1), fun g35 => ?_, fun g35 => ?_⟩
   ·refine ⟨?_, ?_, ?_, trivial⟩ <;> (first | (rw [lessR, if_pos (.inl (by first | exact g15 | assumption))] <;> rfl) | (rw [lessR, if_pos (.inr c0)] <;> rfl) | (rw [lessR, if_neg (by rintro (q | q); exact g15 q; exact c0 q)]; simp [*]; done) | (rw [lessR, if_neg (by rintro (q | q); exact g15 q; exact c0 q)] <;> rfl))
   ·refine ⟨?_, ?_, ?_, trivial⟩ <;> (first | (rw [lessR, if_pos (.inl (by first | exact g15 | assumption))] <;> rfl) | (rw [lessR, if_pos (.inr c0)] <;> rfl) | (rw [lessR, if_neg (by rintro (q | q); exact g15 q; exact c0 q)]; simp [*]; done) | (rw [lessR, if_neg (by rintro (q | q); exact g15 q; exact c0 q)] <;> rfl))
end Go.Proofs.Ytepphdhnkaiamaa
