/-
  A second pivot restores a dictionary.
-/
import Derived.Test.YtepphdhnkaiamaaYg
namespace Go.Proofs.Ytepphdhnkaiamaa
open Go.ChangeShapes Go.WideShapes Go.ChangeAt Go.RowKit
set_option linter.unusedVariables false
set_option linter.unusedSimpArgs false
set_option maxRecDepth 100000
set_option maxHeartbeats 4000000
/- The number that a rational stands for. -/
def ratV (r : RationalD) : Rat := (r.num : Rat) / (r.den : Rat)
theorem cast_ne {d : Int} (h : d ≠ 0) : (d : Rat) ≠ 0 := by
  intro e; exact h (by exact_mod_cast e)
theorem tdiv_gcd {n d : Int} : n.tdiv (Int.gcd n d) * (Int.gcd n d : Int) = n ∧ d.tdiv (Int.gcd n d) * (Int.gcd n d : Int) = d :=
  ⟨Int.tdiv_mul_cancel (Int.gcd_dvd_left ..), Int.tdiv_mul_cancel (Int.gcd_dvd_right ..)⟩
theorem frac_gcd {n d : Int} (h : d ≠ 0) : ((n.tdiv (Int.gcd n d) : Int) : Rat) / ((d.tdiv (Int.gcd n d) : Int) : Rat) = (n : Rat) / (d : Rat) := by
  obtain ⟨e1, e2⟩ := tdiv_gcd (n := n) (d := d)
  have g0 : (Int.gcd n d : Int) ≠ 0 := by have := gcd_pos (n := n) h; omega
  have d0 : d.tdiv (Int.gcd n d) ≠ 0 := by intro e; rw [e, Int.zero_mul] at e2; exact h e2.symm
  generalize n.tdiv (Int.gcd n d) = p at *
  generalize d.tdiv (Int.gcd n d) = q at *
  generalize (Int.gcd n d : Int) = g at *
  have h1 : (p : Rat) * (g : Rat) = (n : Rat) := by exact_mod_cast e1
  have h2 : (q : Rat) * (g : Rat) = (d : Rat) := by exact_mod_cast e2
  have g1 := cast_ne g0
  have q1 := cast_ne d0
  have n1 := cast_ne h
  grind
theorem makeQ_val {n d : Int} (h : (toR (makeQ n d)).2 = true) : d ≠ 0 ∧ validR (toR (makeQ n d)).1 = true ∧ ratV (toR (makeQ n d)).1 = (n : Rat) / (d : Rat) := by
  by_cases h0 : d = 0
  · subst h0; rw [makeQ_zero] at h; cases h
  refine ⟨h0, ?_⟩
  by_cases hp : 0 < d
  · rw [makeQ_pos hp rfl] at h ⊢
    split at h
    · rename_i hv
      rw [if_pos hv]
      exact ⟨hv, frac_gcd h0⟩
    · cases h
  · rw [makeQ_neg (by omega) rfl] at h ⊢
    split at h
    · rename_i hv
      rw [if_pos hv]
      refine ⟨hv, (frac_gcd (by omega)).trans ?_⟩
      have := cast_ne h0
      simp only [Rat.intCast_neg]
      grind
    · cases h
theorem dvd_cop {k n m : Int} (h : Int.gcd k n = 1) (hd : k ∣ n * m) : k ∣ m := by
  have := Int.dvd_gcd_mul_iff_dvd_mul.2 hd
  rwa [h, Int.natCast_one, Int.one_mul] at this
theorem cop_unique {p q n d : Int} (h1 : Int.gcd p q = 1) (h2 : Int.gcd n d = 1) (hq : 0 < q) (hd : 0 < d) (e : p * d = n * q) : p = n ∧ q = d := by
  have d1 : q ∣ d := dvd_cop (n := p) (by rw [Int.gcd_comm]; exact h1) ⟨n, by rw [e, Int.mul_comm]⟩
  have d2 : d ∣ q := dvd_cop (n := n) (by rw [Int.gcd_comm]; exact h2) ⟨p, by rw [← e, Int.mul_comm]⟩
  have hqd : q = d := Int.dvd_antisymm (by omega) (by omega) d1 d2
  subst hqd
  exact ⟨Int.eq_of_mul_eq_mul_right (by omega) e, rfl⟩
theorem gcd_red {n d : Int} (h : d ≠ 0) : Int.gcd (n.tdiv (Int.gcd n d)) (d.tdiv (Int.gcd n d)) = 1 := by
  have g0 : 0 < Int.gcd n d := Int.gcd_pos_of_ne_zero_right n h
  rw [Int.tdiv_eq_ediv_of_dvd (Int.gcd_dvd_left ..), Int.tdiv_eq_ediv_of_dvd (Int.gcd_dvd_right ..)]
  exact Int.gcd_ediv_gcd_ediv_gcd g0
/-- A number that a small fraction stands for is made. -/
theorem makeQ_get {n d p q : Int} (h0 : d ≠ 0) (hv : validQ p q = true) (e : p * d = n * q) : toR (makeQ n d) = (⟨p, q⟩, true) := by
  obtain ⟨b1, b2, b3, b4, b5⟩ := validQ_bnd hv
  by_cases hp : 0 < d
  · obtain ⟨e1, e2⟩ := tdiv_gcd (n := n) (d := d)
    have c := gcd_red (n := n) h0
    have g0 : (0 : Int) < Int.gcd n d := by have := gcd_pos (n := n) h0; omega
    rw [makeQ_pos hp rfl]
    generalize n.tdiv (Int.gcd n d) = x at *
    generalize d.tdiv (Int.gcd n d) = y at *
    generalize (Int.gcd n d : Int) = g at *
    have hy : 0 < y := by
      rcases Int.lt_trichotomy 0 y with h | h | h
      · exact h
      · rw [← h, Int.zero_mul] at e2; omega
      · have := Int.mul_neg_of_neg_of_pos h g0; omega
    obtain ⟨rfl, rfl⟩ := cop_unique b5 c (by omega) hy (by
      rw [← e1, ← e2] at e
      exact Int.eq_of_mul_eq_mul_right (a := g) (by omega) (by rw [Int.mul_assoc, e, Int.mul_assoc, Int.mul_assoc, Int.mul_comm g]))
    rw [if_pos hv]; rfl
  · have h0' : -d ≠ 0 := by omega
    obtain ⟨e1, e2⟩ := tdiv_gcd (n := -n) (d := -d)
    have c := gcd_red (n := -n) h0'
    have g0 : (0 : Int) < Int.gcd (-n) (-d) := by have := gcd_pos (n := -n) h0'; omega
    rw [makeQ_neg (by omega) rfl]
    generalize (-n).tdiv (Int.gcd (-n) (-d)) = x at *
    generalize (-d).tdiv (Int.gcd (-n) (-d)) = y at *
    generalize (Int.gcd (-n) (-d) : Int) = g at *
    have hy : 0 < y := by
      rcases Int.lt_trichotomy 0 y with h | h | h
      · exact h
      · rw [← h, Int.zero_mul] at e2; omega
      · have := Int.mul_neg_of_neg_of_pos h g0; omega
    obtain ⟨rfl, rfl⟩ := cop_unique b5 c (by omega) hy (by
      have e' : p * -d = -n * q := by rw [Int.mul_neg, e, Int.neg_mul]
      rw [← e1, ← e2] at e'
      exact Int.eq_of_mul_eq_mul_right (a := g) (by omega) (by rw [Int.mul_assoc, e', Int.mul_assoc, Int.mul_assoc, Int.mul_comm g]))
    rw [if_pos hv]; rfl
theorem ratV_inj {a b : RationalD} (ha : validR a = true) (hb : validR b = true) (h : ratV a = ratV b) : a = b := by
  obtain ⟨a1, a2, a3, a4, a5⟩ := validR_bnd ha
  obtain ⟨b1, b2, b3, b4, b5⟩ := validR_bnd hb
  have h1 := cast_ne (d := a.den) (by omega)
  have h2 := cast_ne (d := b.den) (by omega)
  have e : (a.num : Rat) * b.den = b.num * a.den := by unfold ratV at h; grind
  have e : a.num * b.den = b.num * a.den := by exact_mod_cast e
  have d1 : a.den ∣ b.den := by
    exact dvd_cop (n := a.num) (by rw [Int.gcd_comm]; exact a5) ⟨b.num, by rw [e, Int.mul_comm]⟩
  have d2 : b.den ∣ a.den := by
    exact dvd_cop (n := b.num) (by rw [Int.gcd_comm]; exact b5) ⟨a.num, by rw [← e, Int.mul_comm]⟩
  have hd : a.den = b.den := Int.dvd_antisymm (by omega) (by omega) d1 d2
  have hn : a.num = b.num := by
    rw [hd] at e
    exact Int.eq_of_mul_eq_mul_right (by omega) e
  cases a; cases b; simp_all
theorem mulV {a b : RationalD} (ha : validR a = true) (hb : validR b = true) (h : (mulR a b).2 = true) : validR (mulR a b).1 = true ∧ ratV (mulR a b).1 = ratV a * ratV b := by
  rw [mulR, mulQ_yes ha hb] at h ⊢
  obtain ⟨h0, h1, h2⟩ := makeQ_val h
  refine ⟨h1, h2.trans ?_⟩
  simp only [ratV, Rat.intCast_mul]
  have := cast_ne (d := a.den) (by have := validR_bnd ha; omega)
  have := cast_ne (d := b.den) (by have := validR_bnd hb; omega)
  grind
theorem addV {a b : RationalD} (ha : validR a = true) (hb : validR b = true) (h : (addR a b).2 = true) : validR (addR a b).1 = true ∧ ratV (addR a b).1 = ratV a + ratV b := by
  rw [addR, addQ_yes ha hb] at h ⊢
  obtain ⟨h0, h1, h2⟩ := makeQ_val h
  refine ⟨h1, h2.trans ?_⟩
  simp only [ratV, Rat.intCast_mul, Rat.intCast_add]
  have := cast_ne (d := a.den) (by have := validR_bnd ha; omega)
  have := cast_ne (d := b.den) (by have := validR_bnd hb; omega)
  grind
theorem subV {a b : RationalD} (ha : validR a = true) (hb : validR b = true) (h : (subR a b).2 = true) : validR (subR a b).1 = true ∧ ratV (subR a b).1 = ratV a - ratV b := by
  rw [subR, subQ_yes ha hb] at h ⊢
  obtain ⟨h0, h1, h2⟩ := makeQ_val h
  refine ⟨h1, h2.trans ?_⟩
  simp only [ratV, Rat.intCast_mul, Rat.intCast_sub]
  have := cast_ne (d := a.den) (by have := validR_bnd ha; omega)
  have := cast_ne (d := b.den) (by have := validR_bnd hb; omega)
  grind
theorem divV {a b : RationalD} (ha : validR a = true) (hb : validR b = true) (h : (divR a b).2 = true) : validR (divR a b).1 = true ∧ ratV b ≠ 0 ∧ ratV (divR a b).1 = ratV a / ratV b := by
  rw [divR, divQ_yes ha hb] at h ⊢
  obtain ⟨h0, h1, h2⟩ := makeQ_val h
  have n0 : b.num ≠ 0 := fun e => h0 (by rw [e, Int.mul_zero])
  have := cast_ne n0
  have := cast_ne (d := a.den) (by have := validR_bnd ha; omega)
  have := cast_ne (d := b.den) (by have := validR_bnd hb; omega)
  refine ⟨h1, ?_, h2.trans ?_⟩
  · unfold ratV; grind
  · simp only [ratV, Rat.intCast_mul]
    grind

theorem lessV {a b c : RationalD} (ha : validR a = true) (hb : validR b = true) (hc : validR c = true) (h : (lessR a b c).2 = true) : validR (lessR a b c).1 = true ∧ ratV (lessR a b c).1 = ratV a - ratV b * ratV c := by
  refine ⟨lessR_ok ha h, ?_⟩
  unfold lessR at *
  split at h
  · rename_i hz
    rw [if_pos hz]
    rcases hz with e | e
    · simp only [ratV, e, Rat.intCast_zero]; grind
    · simp only [ratV, e, Rat.intCast_zero]; grind
  · rename_i hz
    rw [if_neg hz]
    simp only [Bool.and_eq_true] at h
    have m := mulV hb hc h.1
    have s := subV ha m.1 h.2
    rw [s.2, m.2]
theorem plusV {a b c : RationalD} (ha : validR a = true) (hb : validR b = true) (hc : validR c = true) (h : (plusR a b c).2 = true) : validR (plusR a b c).1 = true ∧ ratV (plusR a b c).1 = ratV a + ratV b * ratV c := by
  refine ⟨plusR_ok ha h, ?_⟩
  rw [plusR_full ha hb hc] at h ⊢
  simp only [Bool.and_eq_true] at h
  have m := mulV hb hc h.1
  have s := addV ha m.1 h.2
  rw [s.2, m.2]
theorem one_V : ratV oneR = 1 := by
  have : oneR = ⟨1, 1⟩ := rfl
  simp only [ratV, this, Rat.intCast_one]; grind
theorem nil_V : ratV nilR = 0 := by simp only [ratV, nilR, Rat.intCast_zero]; grind
theorem pivM_get {d : DictionaryD} {i j : Nat} (h : (pivM d i j).2 = true) : pivM d i j = (newD d i j, true) ∧ (cellD d i j).num ≠ 0 ∧ allOk d i j = true ∧ (nwVal d i j).2 = true := by
  unfold pivM at *
  split at h
  · rename_i hp; rw [if_pos hp]; exact ⟨rfl, hp⟩
  · cases h
theorem range_getD {α : Type} (f : Nat → α) {n k : Nat} (h : k < n) (z : α) : ((List.range n).map f).getD k z = f k := by
  rw [List.getD_eq_getElem?_getD, List.getElem?_map, List.getElem?_range h]; rfl
/-- A second pivot at the same place restores the value. -/
theorem piv_back {d : DictionaryD} {i j : Nat} (hd : okDic d = true) (hi : i < d.basic.length) (hj : j < d.others.length) (h1 : (pivM d i j).2 = true) (h2 : (pivM (newD d i j) i j).2 = true) : (newD (newD d i j) i j).value = d.value := by
  obtain ⟨_, n1, a1, v1⟩ := pivM_get h1
  obtain ⟨_, n2, a2, v2⟩ := pivM_get h2
  have hx := newD_ok hd hi hj a1 v1
  have hi' : i < (newD d i j).basic.length := by simpa [newD] using hi
  have hj' : j < (newD d i j).others.length := by simpa [newD] using hj
  have hy := newD_ok hx hi' hj' a2 v2
  obtain ⟨_, _, _, _, _, b6, b7, b8⟩ := okDic_bnd hd
  have vy := (okDic_bnd hy).2.2.2.2.2.2.2
  refine ratV_inj vy b8 ?_
  simp only [allOk, Bool.and_eq_true] at a1 a2
  obtain ⟨⟨⟨p1, p2⟩, p3⟩, p4⟩ := a1
  obtain ⟨⟨⟨q1, q2⟩, q3⟩, q4⟩ := a2
  have vcell := valid_cell hd hi hj
  have vlim : validR (d.limits.getD i zR) = true := valid_getD b6 hi
  have vcost : validR (d.costs.getD j zR) = true := valid_getD b7 hj
  -- the new cell, limit and cost
  have ecell : cellD (newD d i j) i j = (divR oneR (cellD d i j)).1 := by
    rw [cellD]
    simp only [newD, nwRows]
    rw [range_getD _ hi, nwRow, if_pos rfl, pivRow, range_getD _ hj, pivX, if_pos rfl]
  have elim : (newD d i j).limits.getD i zR = (pivLim d i j).1 := by
    simp only [newD, nwLims]
    rw [range_getD _ hi, nwLim, if_pos rfl]
  have ecost : (newD d i j).costs.getD j zR = (lessR nilR (d.costs.getD j zR) (divR oneR (cellD d i j)).1).1 := by
    simp only [newD, nwCost]
    rw [chRow, range_getD _ hj, chX, if_pos rfl, pivRow, range_getD _ hj, pivX, if_pos rfl]
  have f1 : (divR oneR (cellD d i j)).2 = true := by
    have := List.all_eq_true.1 p1 j (List.mem_range.2 hj)
    rwa [pivX, if_pos rfl] at this
  have f2 : (lessR nilR (d.costs.getD j zR) (divR oneR (cellD d i j)).1).2 = true := by
    have := List.all_eq_true.1 p4 j (List.mem_range.2 hj)
    rwa [chX, if_pos rfl, pivRow, range_getD _ hj, pivX, if_pos rfl] at this
  have d1 := divV valid_one vcell f1
  have d2 := divV vlim vcell p2
  have l1 := lessV valid_nil vcost d1.1 f2
  have pv := plusV b8 vcost d2.1 v1
  have d3 : ratV (pivLim (newD d i j) i j).1 = ratV (pivLim d i j).1 / ratV (divR oneR (cellD d i j)).1 ∧ validR (pivLim (newD d i j) i j).1 = true := by
    have e : pivLim (newD d i j) i j = divR (pivLim d i j).1 (divR oneR (cellD d i j)).1 := by rw [pivLim, elim, ecell]
    rw [e] at q2 ⊢
    have := divV d2.1 d1.1 q2
    exact ⟨this.2.2, this.1⟩
  have pv2 : ratV (newD (newD d i j) i j).value = ratV (newD d i j).value + ratV ((newD d i j).costs.getD j zR) * ratV (pivLim (newD d i j) i j).1 := by
    have vx : validR (newD d i j).value = true := pv.1
    have vc2 : validR ((newD d i j).costs.getD j zR) = true := by rw [ecost]; exact l1.1
    exact (plusV vx vc2 d3.2 v2).2
  have ev : ratV (newD d i j).value = ratV d.value + ratV (d.costs.getD j zR) * ratV (pivLim d i j).1 := pv.2
  have dl : ratV (pivLim d i j).1 = ratV (d.limits.getD i zR) / ratV (cellD d i j) := d2.2.2
  rw [pv2, ev, ecost, l1.2, d3.1, d1.2.2, dl, one_V, nil_V]
  have := d1.2.1
  grind
theorem set_back {α : Type} {l : List α} {i : Nat} {y z : α} (h : i < l.length) : (l.set i y).set i (l.getD i z) = l := by
  rw [List.set_set, List.getD_eq_getElem?_getD, List.getElem?_eq_getElem h]
  exact List.set_getElem_self h
theorem set_getD {α : Type} {l : List α} {i : Nat} {y z : α} (h : i < l.length) : (l.set i y).getD i z = y := by
  rw [List.getD_eq_getElem?_getD, List.getElem?_set_self h]; rfl
theorem piv_back_lists {d : DictionaryD} {i j : Nat} (hi : i < d.basic.length) (hj : j < d.others.length) : (newD (newD d i j) i j).basic = d.basic ∧ (newD (newD d i j) i j).others = d.others := by
  simp only [newD]
  rw [set_getD hj, set_getD hi]
  exact ⟨set_back hi, set_back hj⟩

theorem pivP_back {d : DictionaryD} {i j : Int} (h1 : (pivP d i j).2 = true) (h2 : (pivP (pivP d i j).1 i j).2 = true) : (pivP (pivP d i j).1 i j).1.basic = d.basic ∧ (pivP (pivP d i j).1 i j).1.others = d.others ∧ (pivP (pivP d i j).1 i j).1.value = d.value := by
  obtain ⟨a1, a2, a3, a4, a5⟩ := pivP_get h1
  obtain ⟨b1, b2, b3, b4, b5⟩ := pivP_get h2
  rw [b5]
  rw [a5] at b4 ⊢
  have l := piv_back_lists (d := d) (i := i.toNat) (j := j.toNat) (by omega) (by omega)
  exact ⟨l.1, l.2, piv_back a1 (by omega) (by omega) a4 b4⟩
theorem pivP_swap {d : DictionaryD} {i j : Int} (h1 : (pivP d i j).2 = true) : (pivP d i j).1.basic[i.toNat]? = d.others[j.toNat]? ∧ (pivP d i j).1.others[j.toNat]? = d.basic[i.toNat]? := by
  obtain ⟨a1, a2, a3, a4, a5⟩ := pivP_get h1
  rw [a5]
  simp only [newD]
  have hi : i.toNat < d.basic.length := by omega
  have hj : j.toNat < d.others.length := by omega
  refine ⟨?_, ?_⟩
  · rw [List.getElem?_set_self hi, List.getD_eq_getElem?_getD, List.getElem?_eq_getElem hj]; rfl
  · rw [List.getElem?_set_self hj, List.getD_eq_getElem?_getD, List.getElem?_eq_getElem hi]; rfl
theorem pivP_lens {d : DictionaryD} {i j : Int} (h1 : (pivP d i j).2 = true) : (pivP d i j).1.basic.length = d.basic.length ∧ (pivP d i j).1.others.length = d.others.length := by
  obtain ⟨a1, a2, a3, a4, a5⟩ := pivP_get h1
  rw [a5]; simp [newD]
end Go.Proofs.Ytepphdhnkaiamaa
