/-
  Dictionaries, pivots and solutions, plainly.
-/
import Derived.Test.YtepphdhnkaiamaaLXa
import Derived.Test.YtepphdhnkaiamaaSi
import Derived.Test.YtepphdhnkaiamaaLVa
namespace Go.Proofs.Ytepphdhnkaiamaa
open Go.ChangeShapes Go.WideShapes Go.ChangeAt Go.RowKit
set_option linter.unusedVariables false
set_option linter.unusedSimpArgs false
set_option maxRecDepth 100000
set_option maxHeartbeats 4000000
theorem incl_perm : ∀ (r s : List Int), r.Nodup → (∀ x ∈ r, x ∈ s) → s.length ≤ r.length → s.Perm r
  | [], s, _, _, h => by
    have : s = [] := List.length_eq_zero_iff.1 (by simpa using h)
    rw [this]
  | a :: r, s, hn, hs, hl => by
    have ha : a ∈ s := hs a (by simp)
    have p1 : s.Perm (a :: s.erase a) := List.perm_cons_erase ha
    have hn' := List.nodup_cons.1 hn
    have := incl_perm r (s.erase a) hn'.2 (fun x hx => (List.mem_erase_of_ne (fun (e : x = a) => hn'.1 (by rw [← e]; exact hx))).2 (hs x (by simp [hx]))) (by
      rw [List.length_erase_of_mem ha]
      simp only [List.length_cons] at hl
      omega)
    exact p1.trans (this.cons a)
def isD (n x : Int) : Bool := decide (x = n)
def okPerm (l : List Int) : Bool := (List.range l.length).all fun (i : Nat) => l.any (isD i)
abbrev upto (n : Nat) : List Int := (List.range n).map fun (i : Nat) => (i : Int)
theorem okPerm_upto {l : List Int} (h : okPerm l = true) : l.Perm (upto l.length) := by
  refine incl_perm _ _ ?_ ?_ (by simp)
  · rw [List.Nodup, List.pairwise_map]
    exact List.nodup_range.imp fun hne he => hne (by omega)
  · intro x hx
    obtain ⟨j, hj, rfl⟩ := List.mem_map.1 hx
    have := List.all_eq_true.1 h j hj
    obtain ⟨y, hy, e⟩ := List.any_eq_true.1 this
    rw [isD, decide_eq_true_eq] at e
    rwa [← e]
theorem upto_okPerm {l : List Int} (h : l.Perm (upto l.length)) : okPerm l = true := by
  refine List.all_eq_true.2 fun i hi => ?_
  have : (i : Int) ∈ l := h.mem_iff.2 (List.mem_map.2 ⟨i, hi, rfl⟩)
  exact List.any_eq_true.2 ⟨_, this, by simp [isD]⟩
theorem okPerm_mem {l : List Int} (h : okPerm l = true) {x : Int} (hx : x ∈ l) : 0 ≤ x ∧ x < l.length := by
  have := (okPerm_upto h).mem_iff.1 hx
  obtain ⟨j, hj, rfl⟩ := List.mem_map.1 this
  have := List.mem_range.1 hj
  omega
theorem okPerm_sort {l : List Int} (h : okPerm l = true) : sortI l = upto l.length := by
  refine List.Perm.eq_of_pairwise (le := fun x y => decide (x ≤ y) = true) (fun a b _ _ h1 h2 => ?_) (List.pairwise_mergeSort (fun a b c h1 h2 => ?_) (fun a b => ?_) l) ?_ ((List.mergeSort_perm l _).trans (okPerm_upto h))
  · simp only [decide_eq_true_eq] at h1 h2; omega
  · simp only [decide_eq_true_eq] at h1 h2 ⊢; omega
  · simp only [Bool.or_eq_true, decide_eq_true_eq]; omega
  · rw [List.pairwise_map]
    exact List.pairwise_lt_range.imp fun h => by simp only [decide_eq_true_eq]; omega
theorem sort_okPerm {l : List Int} (h : ∀ i, i < l.length → (sortI l)[i]? = some (i : Int)) : okPerm l = true := by
  refine List.all_eq_true.2 fun i hi => ?_
  rw [List.mem_range] at hi
  exact List.any_eq_true.2 ⟨i, List.mem_mergeSort.1 (List.mem_of_getElem? (h i hi)), by simp [isD]⟩
theorem sort_no {l : List Int} {k : Nat} {x : Int} (hx : (sortI l)[k]? = some x) (hne : ¬ x = (k : Int)) : okPerm l = false := by
  cases e : okPerm l with
  | false => rfl
  | true =>
    have hk : k < l.length := by have := (List.getElem?_eq_some_iff.1 hx).1; rwa [sortI_len] at this
    rw [okPerm_sort e, List.getElem?_map, List.getElem?_range hk] at hx
    exact absurd (Option.some.inj hx).symm hne
def okRats (l : List RationalD) (n : Int) : Bool := decide ((l.length : Int) = n) && l.all validR
def okDic (d : DictionaryD) : Bool := decide ((d.basic.length : Int) ≤ 64) && (decide (1 ≤ (d.others.length : Int) ∧ (d.others.length : Int) ≤ 15) && (decide ((d.table.length : Int) = d.basic.length) && (okPerm (d.basic ++ d.others) && (d.table.all (fun r => okRats r d.others.length) && (okRats d.limits d.basic.length && (okRats d.costs d.others.length && validR d.value))))))
theorem okDic_head {d : DictionaryD} (h : ¬ ((d.basic.length : Int) ≤ 64 ∧ (1 ≤ (d.others.length : Int) ∧ (d.others.length : Int) ≤ 15) ∧ (d.table.length : Int) = d.basic.length)) : okDic d = false := by
  cases e : okDic d with
  | false => rfl
  | true =>
    simp only [okDic, Bool.and_eq_true, decide_eq_true_eq] at e
    exact absurd ⟨e.1, e.2.1, e.2.2.1⟩ h
theorem okDic_perm {d : DictionaryD} (h : okPerm (d.basic ++ d.others) = false) : okDic d = false := by simp only [okDic, h, Bool.false_and, Bool.and_false]
theorem okDic_cell {d : DictionaryD} {k : Nat} {r : List RationalD} (h : d.table[k]? = some r) (hr : okRats r d.others.length = false) : okDic d = false := by
  have : d.table.all (fun r => okRats r d.others.length) = false := all_stop h hr
  simp only [okDic, this, Bool.false_and, Bool.and_false]
theorem okDic_lims {d : DictionaryD} (h : okRats d.limits d.basic.length = false) : okDic d = false := by simp only [okDic, h, Bool.false_and, Bool.and_false]
theorem okDic_costs {d : DictionaryD} (h : okRats d.costs d.others.length = false) : okDic d = false := by simp only [okDic, h, Bool.false_and, Bool.and_false]
theorem okDic_val {d : DictionaryD} (h : validR d.value = false) : okDic d = false := by simp only [okDic, h, Bool.and_false]
theorem okDic_mk {d : DictionaryD} (h : (d.basic.length : Int) ≤ 64 ∧ (1 ≤ (d.others.length : Int) ∧ (d.others.length : Int) ≤ 15) ∧ (d.table.length : Int) = d.basic.length) (h1 : okPerm (d.basic ++ d.others) = true) (h2 : d.table.all (fun r => okRats r d.others.length) = true) (h3 : okRats d.limits d.basic.length = true) (h4 : okRats d.costs d.others.length = true) (h5 : validR d.value = true) : okDic d = true := by
  simp only [okDic, h1, h2, h3, h4, h5, Bool.and_true, Bool.and_eq_true, decide_eq_true_eq]
  exact h
theorem okRats_len {l : List RationalD} {n : Int} (h : ¬ (l.length : Int) = n) : okRats l n = false := by simp only [okRats, decide_eq_false h, Bool.false_and]
theorem okRats_all {l : List RationalD} {n : Int} (h : l.all validR = false) : okRats l n = false := by simp only [okRats, h, Bool.and_false]
theorem okRats_mk {l : List RationalD} {n : Int} (h : (l.length : Int) = n) (h1 : l.all validR = true) : okRats l n = true := by simp only [okRats, decide_eq_true h, h1, Bool.and_true]
theorem okRats_iff {l : List RationalD} {n : Nat} : okRats l n = true ↔ l.length = n ∧ ∀ x ∈ l, validR x = true := by
  simp only [okRats, Bool.and_eq_true, decide_eq_true_eq, List.all_eq_true]
  constructor
  · exact fun h => ⟨by omega, h.2⟩
  · exact fun h => ⟨by omega, h.2⟩
theorem okDic_bnd {d : DictionaryD} (h : okDic d = true) : d.basic.length ≤ 64 ∧ (1 ≤ d.others.length ∧ d.others.length ≤ 15) ∧ d.table.length = d.basic.length ∧ okPerm (d.basic ++ d.others) = true ∧ (∀ r ∈ d.table, r.length = d.others.length ∧ ∀ x ∈ r, validR x = true) ∧ (d.limits.length = d.basic.length ∧ ∀ x ∈ d.limits, validR x = true) ∧ (d.costs.length = d.others.length ∧ ∀ x ∈ d.costs, validR x = true) ∧ validR d.value = true := by
  simp only [okDic, Bool.and_eq_true, decide_eq_true_eq, List.all_eq_true (l := d.table)] at h
  obtain ⟨h1, h2, h3, h4, h5, h6, h7, h8⟩ := h
  exact ⟨by omega, by omega, by omega, h4, fun r hr => okRats_iff.1 (h5 r hr), okRats_iff.1 h6, okRats_iff.1 h7, h8⟩
theorem okDic_fit {d : DictionaryD} (h : okDic d = true) : (∀ x ∈ d.basic, 0 ≤ x ∧ x < d.basic.length + d.others.length) ∧ ∀ x ∈ d.others, 0 ≤ x ∧ x < d.basic.length + d.others.length := by
  obtain ⟨_, _, _, hp, _⟩ := okDic_bnd h
  have key : ∀ x ∈ d.basic ++ d.others, 0 ≤ x ∧ x < d.basic.length + d.others.length := fun x hx => by
    have := okPerm_mem hp hx
    rw [List.length_append] at this
    omega
  exact ⟨fun x hx => key x (List.mem_append_left _ hx), fun x hx => key x (List.mem_append_right _ hx)⟩

def entBet (d : DictionaryD) (b : Int) (k : Nat) : Bool := decide (0 < (d.costs.getD k zR).num) && (decide (b < 0) || decide (d.others.getD k 0 < d.others.getD b.toNat 0))
def entB (d : DictionaryD) : Nat → Int
  | 0 => -1
  | k + 1 => if entBet d (entB d k) k = true then (k : Int) else entB d k
def entD (d : DictionaryD) : Int := entB d d.others.length
theorem entB_bnd (d : DictionaryD) : ∀ k : Nat, -1 ≤ entB d k ∧ entB d k < k
  | 0 => by simp [entB]
  | k + 1 => by
    have := entB_bnd d k
    rw [entB]
    split <;> omega
theorem entB_yes {d : DictionaryD} {k : Nat} {b : Int} (hb : b = entB d k) (h : entBet d b k = true) : (k : Int) = entB d (k + 1) := by rw [entB, ← hb, if_pos h]
theorem entB_no {d : DictionaryD} {k : Nat} {b : Int} (hb : b = entB d k) (h : entBet d b k = false) : b = entB d (k + 1) := by rw [entB, ← hb, if_neg (by rw [h]; decide)]
def entC (d : DictionaryD) : Int := if okDic d = true then entD d else -1
def cellD (d : DictionaryD) (i j : Nat) : RationalD := (d.table.getD i []).getD j zR
def levBet (d : DictionaryD) (b : Int) (c : Int) (k : Nat) : Bool := decide (b < 0) || (decide (c < 0) || (decide (c = 0) && decide (d.basic.getD k 0 < d.basic.getD b.toNat 0)))
def levGo (d : DictionaryD) (j : Nat) : Nat → Nat → Int → RationalD → Int
  | 0, _, b, _ => b
  | f + 1, k, b, l => if (cellD d k j).num ≤ 0 then levGo d j f (k + 1) b l else if (divR (d.limits.getD k zR) (cellD d k j)).2 = false then -1 else if levBet d b (cmpRat (divR (d.limits.getD k zR) (cellD d k j)).1 l) k = true then levGo d j f (k + 1) (k : Int) (divR (d.limits.getD k zR) (cellD d k j)).1 else levGo d j f (k + 1) b l
def levD (d : DictionaryD) (j : Nat) : Int := levGo d j d.basic.length 0 (-1) zR
theorem levGo_skip {d : DictionaryD} {j n k : Nat} {b : Int} {l : RationalD} (hk : k < n) (h : (cellD d k j).num ≤ 0) : levGo d j (n - k) k b l = levGo d j (n - (k + 1)) (k + 1) b l := by
  rw [show n - k = (n - (k + 1)) + 1 by omega, levGo, if_pos h]
theorem levGo_bad {d : DictionaryD} {j n k : Nat} {b : Int} {l : RationalD} (hk : k < n) (h : ¬ (cellD d k j).num ≤ 0) (h2 : (divR (d.limits.getD k zR) (cellD d k j)).2 = false) : levGo d j (n - k) k b l = -1 := by
  rw [show n - k = (n - (k + 1)) + 1 by omega, levGo, if_neg h, if_pos h2]
theorem levGo_yes {d : DictionaryD} {j n k : Nat} {b : Int} {l : RationalD} (hk : k < n) (h : ¬ (cellD d k j).num ≤ 0) (h2 : (divR (d.limits.getD k zR) (cellD d k j)).2 = true) (h3 : levBet d b (cmpRat (divR (d.limits.getD k zR) (cellD d k j)).1 l) k = true) : levGo d j (n - k) k b l = levGo d j (n - (k + 1)) (k + 1) (k : Int) (divR (d.limits.getD k zR) (cellD d k j)).1 := by
  rw [show n - k = (n - (k + 1)) + 1 by omega, levGo, if_neg h, if_neg (by rw [h2]; decide), if_pos h3]
theorem levGo_no {d : DictionaryD} {j n k : Nat} {b : Int} {l : RationalD} (hk : k < n) (h : ¬ (cellD d k j).num ≤ 0) (h2 : (divR (d.limits.getD k zR) (cellD d k j)).2 = true) (h3 : levBet d b (cmpRat (divR (d.limits.getD k zR) (cellD d k j)).1 l) k = false) : levGo d j (n - k) k b l = levGo d j (n - (k + 1)) (k + 1) b l := by
  rw [show n - k = (n - (k + 1)) + 1 by omega, levGo, if_neg h, if_neg (by rw [h2]; decide), if_neg (by rw [h3]; decide)]
theorem levGo_bnd (d : DictionaryD) (j : Nat) : ∀ (f k : Nat) (b : Int) (l : RationalD), -1 ≤ b ∧ b < k → -1 ≤ levGo d j f k b l ∧ levGo d j f k b l < (k + f : Nat)
  | 0, k, b, l, h => by rw [levGo]; omega
  | f + 1, k, b, l, h => by
    have h1 := levGo_bnd d j f (k + 1) b l (by omega)
    have h2 := levGo_bnd d j f (k + 1) (k : Int) (divR (d.limits.getD k zR) (cellD d k j)).1 (by omega)
    rw [levGo]
    split
    · omega
    · split
      · omega
      · split <;> omega
theorem levD_bnd (d : DictionaryD) (j : Nat) : -1 ≤ levD d j ∧ levD d j < d.basic.length := by
  have := levGo_bnd d j d.basic.length 0 (-1) zR (by omega)
  rw [levD]; omega
def levP (d : DictionaryD) (j : Int) : Int := if okDic d = true ∧ 0 ≤ j ∧ j < d.others.length then levD d j.toNat else -1

def pivX (d : DictionaryD) (i j k : Nat) : RationalD × Bool := divR (if k = j then oneR else cellD d i k) (cellD d i j)
def pivRow (d : DictionaryD) (i j n : Nat) : List RationalD := (List.range n).map fun k => (pivX d i j k).1
def pivROk (d : DictionaryD) (i j n : Nat) : Bool := (List.range n).all fun k => (pivX d i j k).2
def pivLim (d : DictionaryD) (i j : Nat) : RationalD × Bool := divR (d.limits.getD i zR) (cellD d i j)
def chX (l : List RationalD) (c : RationalD) (p : List RationalD) (j k : Nat) : RationalD × Bool := lessR (if k = j then nilR else l.getD k zR) c (p.getD k zR)
def chRow (l : List RationalD) (p : List RationalD) (j n : Nat) : List RationalD := (List.range n).map fun k => (chX l (l.getD j zR) p j k).1
def chOk (l : List RationalD) (p : List RationalD) (j n : Nat) : Bool := (List.range n).all fun k => (chX l (l.getD j zR) p j k).2
def chLim (d : DictionaryD) (i j r : Nat) : RationalD × Bool := lessR (d.limits.getD r zR) (cellD d r j) (pivLim d i j).1
def nwRow (d : DictionaryD) (i j r : Nat) : List RationalD := if r = i then pivRow d i j d.others.length else chRow (d.table.getD r []) (pivRow d i j d.others.length) j d.others.length
def nwLim (d : DictionaryD) (i j r : Nat) : RationalD := if r = i then (pivLim d i j).1 else (chLim d i j r).1
def nwOk (d : DictionaryD) (i j r : Nat) : Bool := if r = i then true else chOk (d.table.getD r []) (pivRow d i j d.others.length) j d.others.length && (chLim d i j r).2
def nwRows (d : DictionaryD) (i j n : Nat) : List (List RationalD) := (List.range n).map (nwRow d i j)
def nwLims (d : DictionaryD) (i j n : Nat) : List RationalD := (List.range n).map (nwLim d i j)
def nwRsOk (d : DictionaryD) (i j n : Nat) : Bool := (List.range n).all (nwOk d i j)
def nwCost (d : DictionaryD) (i j : Nat) : List RationalD := chRow d.costs (pivRow d i j d.others.length) j d.others.length
def nwCOk (d : DictionaryD) (i j : Nat) : Bool := chOk d.costs (pivRow d i j d.others.length) j d.others.length
def plusR (a b c : RationalD) : RationalD × Bool := if b.num = 0 ∨ c.num = 0 then (a, true) else ((addR a (mulR b c).1).1, (mulR b c).2 && (addR a (mulR b c).1).2)
def nwVal (d : DictionaryD) (i j : Nat) : RationalD × Bool := plusR d.value (d.costs.getD j zR) (pivLim d i j).1
def allOk (d : DictionaryD) (i j : Nat) : Bool := ((pivROk d i j d.others.length && (pivLim d i j).2) && nwRsOk d i j d.basic.length) && nwCOk d i j
def zDic : DictionaryD := ⟨[], [], [], [], [], ⟨0, 0⟩⟩
def newD (d : DictionaryD) (i j : Nat) : DictionaryD := ⟨d.basic.set i (d.others.getD j 0), d.others.set j (d.basic.getD i 0), nwRows d i j d.basic.length, nwLims d i j d.basic.length, nwCost d i j, (nwVal d i j).1⟩
def pivM (d : DictionaryD) (i j : Nat) : DictionaryD × Bool := if (cellD d i j).num ≠ 0 ∧ allOk d i j = true ∧ (nwVal d i j).2 = true then (newD d i j, true) else (zDic, false)
def pivP (d : DictionaryD) (i j : Int) : DictionaryD × Bool := if okDic d = true ∧ (0 ≤ i ∧ i < d.basic.length) ∧ 0 ≤ j ∧ j < d.others.length then pivM d i.toNat j.toNat else (zDic, false)
theorem plusR_neg (a b c : RationalD) : plusR a (negR b) c = lessR a b c := plus_less a b c
theorem plusR_ok {a b c : RationalD} (ha : validR a = true) (h : (plusR a b c).2 = true) : validR (plusR a b c).1 = true := by
  unfold plusR at *
  split at h
  · rename_i hp; rw [if_pos hp]; exact ha
  · rename_i hp
    rw [if_neg hp]
    simp only [Bool.and_eq_true] at h
    exact addR_ok h.2
theorem add_nil {a : RationalD} (h : validR a = true) : addR a nilR = (a, true) := by
  have v : validQ 0 1 = true := by decide
  rw [addR, show addQ a.num a.den nilR.num nilR.den = makeQ (a.num * 1 + 0 * a.den) (a.den * 1) from addQ_yes h v]
  rw [Int.zero_mul, Int.mul_one, Int.mul_one, Int.add_zero, makeQ_red h]; rfl
theorem mul_nil {b c : RationalD} (hb : validR b = true) (hc : validR c = true) (h : b.num = 0 ∨ c.num = 0) : mulR b c = (nilR, true) := by
  have h1 := validR_bnd hb
  have h2 := validR_bnd hc
  rw [mulR, mulQ_yes hb hc, show b.num * c.num = 0 from Int.mul_eq_zero.2 h, makeQ_nil (Int.mul_ne_zero (by omega) (by omega))]; rfl
theorem plusR_full {a b c : RationalD} (ha : validR a = true) (hb : validR b = true) (hc : validR c = true) : plusR a b c = ((addR a (mulR b c).1).1, (mulR b c).2 && (addR a (mulR b c).1).2) := by
  unfold plusR
  split
  · rename_i h
    rw [mul_nil hb hc h, add_nil ha]; rfl
  · rfl
theorem valid_nil : validR nilR = true := by decide
theorem valid_one : validR oneR = true := by decide
theorem valid_getD {l : List RationalD} {n k : Nat} (h : l.length = n ∧ ∀ x ∈ l, validR x = true) (hk : k < n) : validR (l.getD k zR) = true := by
  have hk' : k < l.length := by omega
  rw [List.getD_eq_getElem?_getD, List.getElem?_eq_getElem hk']
  exact h.2 _ (List.getElem_mem hk')
theorem valid_cell {d : DictionaryD} (h : okDic d = true) {i j : Nat} (hi : i < d.basic.length) (hj : j < d.others.length) : validR (cellD d i j) = true := by
  obtain ⟨_, _, b3, _, b5, _⟩ := okDic_bnd h
  have hi' : i < d.table.length := by omega
  have hc : d.table.getD i [] = d.table[i] := by rw [List.getD_eq_getElem?_getD, List.getElem?_eq_getElem hi']; rfl
  rw [cellD, hc]
  exact valid_getD (b5 _ (List.getElem_mem hi')) hj
theorem pivRow_len (d : DictionaryD) (i j n : Nat) : (pivRow d i j n).length = n := by simp [pivRow]
theorem pivRow_ok {d : DictionaryD} {i j n : Nat} (h : pivROk d i j n = true) : ∀ x ∈ pivRow d i j n, validR x = true := by
  intro x hx
  obtain ⟨k, hk, rfl⟩ := List.mem_map.1 hx
  exact divR_ok (List.all_eq_true.1 h k hk)
theorem chRow_ok {l p : List RationalD} {j n : Nat} (hl : l.length = n ∧ ∀ x ∈ l, validR x = true) (h : chOk l p j n = true) : ∀ x ∈ chRow l p j n, validR x = true := by
  intro x hx
  obtain ⟨k, hk, rfl⟩ := List.mem_map.1 hx
  refine lessR_ok ?_ (List.all_eq_true.1 h k hk)
  split
  · exact valid_nil
  · exact valid_getD hl (List.mem_range.1 hk)
theorem set_perm {a b : List Int} {i j : Nat} {x y : Int} (hx : a[i]? = some x) (hy : b[j]? = some y) : (a.set i y ++ b.set j x).Perm (a ++ b) := by
  obtain ⟨hi, rfl⟩ := List.getElem?_eq_some_iff.1 hx
  obtain ⟨hj, rfl⟩ := List.getElem?_eq_some_iff.1 hy
  have ea : a.set i b[j] = a.take i ++ b[j] :: a.drop (i + 1) := List.set_eq_take_append_cons_drop .. |>.trans (if_pos hi)
  have eb : b.set j a[i] = b.take j ++ a[i] :: b.drop (j + 1) := List.set_eq_take_append_cons_drop .. |>.trans (if_pos hj)
  have fa : a = a.take i ++ a[i] :: a.drop (i + 1) := by rw [← List.drop_eq_getElem_cons hi, List.take_append_drop]
  have fb : b = b.take j ++ b[j] :: b.drop (j + 1) := by rw [← List.drop_eq_getElem_cons hj, List.take_append_drop]
  rw [ea, eb]
  conv => rhs; rw [fa, fb]
  rw [List.perm_iff_count]
  intro z
  simp only [List.count_append, List.count_cons]
  omega
theorem newD_ok {d : DictionaryD} {i j : Nat} (h : okDic d = true) (hi : i < d.basic.length) (hj : j < d.others.length) (h1 : allOk d i j = true) (h2 : (nwVal d i j).2 = true) : okDic (newD d i j) = true := by
  obtain ⟨b1, b2, b3, b4, b5, b6, b7, b8⟩ := okDic_bnd h
  simp only [allOk, Bool.and_eq_true] at h1
  obtain ⟨⟨⟨q1, q2⟩, q3⟩, q4⟩ := h1
  have hb : d.basic[i]? = some (d.basic.getD i 0) := by rw [List.getD_eq_getElem?_getD, List.getElem?_eq_getElem hi]; rfl
  have hf : d.others[j]? = some (d.others.getD j 0) := by rw [List.getD_eq_getElem?_getD, List.getElem?_eq_getElem hj]; rfl
  refine okDic_mk ?_ ?_ ?_ ?_ ?_ ?_
  · simp only [newD, List.length_set, nwRows, List.length_map, List.length_range]; exact ⟨by omega, by omega, trivial⟩
  · refine upto_okPerm ?_
    have := set_perm hb hf
    exact (this.trans (okPerm_upto b4)).trans (by simp only [newD, List.length_append, List.length_set]; exact .refl _)
  · refine List.all_eq_true.2 fun r hr => ?_
    simp only [newD, List.length_set] at hr ⊢
    obtain ⟨k, hk, rfl⟩ := List.mem_map.1 hr
    rw [List.mem_range] at hk
    have ok := List.all_eq_true.1 q3 k (List.mem_range.2 hk)
    refine okRats_iff.2 ?_
    unfold nwRow
    split
    · exact ⟨pivRow_len _ _ _ _, pivRow_ok q1⟩
    · rename_i hne
      rw [nwOk, if_neg hne, Bool.and_eq_true] at ok
      have hk' : k < d.table.length := by omega
      have hc : d.table.getD k [] = d.table[k] := by rw [List.getD_eq_getElem?_getD, List.getElem?_eq_getElem hk']; rfl
      exact ⟨by simp [chRow], chRow_ok (by rw [hc]; exact b5 _ (List.getElem_mem hk')) ok.1⟩
  · refine okRats_iff.2 ⟨by simp [newD, nwLims], fun x hx => ?_⟩
    obtain ⟨k, hk, rfl⟩ := List.mem_map.1 hx
    rw [List.mem_range] at hk
    have ok := List.all_eq_true.1 q3 k (List.mem_range.2 hk)
    unfold nwLim
    split
    · exact divR_ok q2
    · rename_i hne
      rw [nwOk, if_neg hne, Bool.and_eq_true] at ok
      exact lessR_ok (valid_getD b6 hk) ok.2
  · refine okRats_iff.2 ⟨by simp [newD, nwCost, chRow], ?_⟩
    exact chRow_ok b7 q4
  · exact plusR_ok b8 h2
theorem pivM_ok {d : DictionaryD} {i j : Nat} (h : okDic d = true) (hi : i < d.basic.length) (hj : j < d.others.length) (h1 : (pivM d i j).2 = true) : okDic (pivM d i j).1 = true ∧ (pivM d i j).1.basic.length = d.basic.length ∧ (pivM d i j).1.others.length = d.others.length := by
  unfold pivM at *
  split at h1
  · rename_i hp
    rw [if_pos hp]
    exact ⟨newD_ok h hi hj hp.2.1 hp.2.2, by simp [newD], by simp [newD]⟩
  · cases h1

def initD (p : ProgramD) : DictionaryD := ⟨(List.range p.rows.length).map (fun (i : Nat) => ((p.objective.length + i : Nat) : Int)), upto p.objective.length, p.rows.map (List.map wholeR), p.limits.map wholeR, p.objective.map wholeR, wholeR 0⟩
theorem valid_whole {n : Int} (h : -99 ≤ n ∧ n ≤ 99) : validR (wholeR n) = true := by
  have e : Int.gcd n 1 = 1 := by simp
  simp only [validR, wholeR, validQ, e, Bool.and_eq_true, decide_eq_true_eq, and_true]
  exact ⟨by decide, inB_mk (by omega) (by omega)⟩
theorem initD_ok {p : ProgramD} (h : okProg p = true) : okDic (initD p) = true := by
  obtain ⟨b1, b2, b3, b4, b5⟩ := okProg_bnd h
  refine okDic_mk ?_ ?_ ?_ ?_ ?_ ?_
  · simp only [initD, List.length_map, List.length_range]; exact ⟨by omega, by omega, trivial⟩
  · refine List.all_eq_true.2 fun i hi => ?_
    rw [List.mem_range] at hi
    simp only [initD, List.length_append, List.length_map, List.length_range] at hi
    refine List.any_eq_true.2 ⟨(i : Int), ?_, by simp [isD]⟩
    simp only [initD, List.mem_append, List.mem_map, List.mem_range]
    by_cases hn : i < p.objective.length
    · exact .inr ⟨i, hn, rfl⟩
    · exact .inl ⟨i - p.objective.length, by omega, by omega⟩
  · refine List.all_eq_true.2 fun r hr => ?_
    obtain ⟨l, hl, rfl⟩ := List.mem_map.1 hr
    have hb := b4 l (List.mem_append_left _ hl)
    refine okRats_iff.2 ⟨by simp [initD, hb.1], fun x hx => ?_⟩
    obtain ⟨n, hn, rfl⟩ := List.mem_map.1 hx
    have := hb.2 n hn
    exact valid_whole (by omega)
  · refine okRats_iff.2 ⟨by simp [initD, b3], fun x hx => ?_⟩
    obtain ⟨n, hn, rfl⟩ := List.mem_map.1 hx
    have := b5 n hn
    exact valid_whole (by omega)
  · refine okRats_iff.2 ⟨by simp [initD], fun x hx => ?_⟩
    obtain ⟨n, hn, rfl⟩ := List.mem_map.1 hx
    have := (b4 p.objective (by simp)).2 n hn
    exact valid_whole (by omega)
  · exact valid_whole (by omega)
theorem initD_len (p : ProgramD) : (initD p).basic.length = p.rows.length ∧ (initD p).others.length = p.objective.length := by simp [initD]
def iniP (p : ProgramD) : DictionaryD × Bool := if okProg p = true then (initD p, true) else (zDic, false)
theorem iniP_yes {p : ProgramD} (h : okProg p = true) : iniP p = (initD p, true) := by rw [iniP, if_pos h]
theorem iniP_no {p : ProgramD} (h : okProg p = false) : iniP p = (zDic, false) := by rw [iniP, if_neg (by rw [h]; decide)]
def solGo : Nat → DictionaryD → DictionaryD × Bool
  | 0, _ => (zDic, false)
  | f + 1, d => if entD d < 0 then (d, true) else if levD d (entD d).toNat < 0 then (zDic, false) else if (pivM d (levD d (entD d).toNat).toNat (entD d).toNat).2 = true then solGo f (pivM d (levD d (entD d).toNat).toNat (entD d).toNat).1 else (zDic, false)
theorem solGo_done {d : DictionaryD} {n s : Nat} (hs : s < n) (h : entD d < 0) : solGo (n - s) d = (d, true) := by
  rw [show n - s = (n - (s + 1)) + 1 by omega, solGo, if_pos h]
theorem solGo_row {d : DictionaryD} {n s : Nat} (hs : s < n) (h : ¬ entD d < 0) (h2 : levD d (entD d).toNat < 0) : solGo (n - s) d = (zDic, false) := by
  rw [show n - s = (n - (s + 1)) + 1 by omega, solGo, if_neg h, if_pos h2]
theorem solGo_piv {d : DictionaryD} {n s : Nat} (hs : s < n) (h : ¬ entD d < 0) (h2 : ¬ levD d (entD d).toNat < 0) (h3 : (pivM d (levD d (entD d).toNat).toNat (entD d).toNat).2 = false) : solGo (n - s) d = (zDic, false) := by
  rw [show n - s = (n - (s + 1)) + 1 by omega, solGo, if_neg h, if_neg h2, if_neg (by rw [h3]; decide)]
theorem solGo_step {d : DictionaryD} {n s : Nat} (hs : s < n) (h : ¬ entD d < 0) (h2 : ¬ levD d (entD d).toNat < 0) (h3 : (pivM d (levD d (entD d).toNat).toNat (entD d).toNat).2 = true) : solGo (n - s) d = solGo (n - (s + 1)) (pivM d (levD d (entD d).toNat).toNat (entD d).toNat).1 := by
  rw [show n - s = (n - (s + 1)) + 1 by omega, solGo, if_neg h, if_neg h2, if_pos h3]
theorem solGo_last {d : DictionaryD} {n s : Nat} (hs : s + 1 = n) (h : ¬ entD d < 0) : solGo (n - s) d = (zDic, false) := by
  rw [show n - s = 0 + 1 by omega, solGo, if_neg h]
  split
  · rfl
  · split <;> rfl
def primN (d : DictionaryD) (n : Nat) : Nat → List RationalD
  | 0 => List.replicate n (wholeR 0)
  | i + 1 => if d.basic.getD i 0 < n then (primN d n i).set (d.basic.getD i 0).toNat (d.limits.getD i zR) else primN d n i
def dualN (d : DictionaryD) (n m : Nat) : Nat → List RationalD
  | 0 => List.replicate m (wholeR 0)
  | k + 1 => if (n : Int) ≤ d.others.getD k 0 then (dualN d n m k).set (d.others.getD k 0 - n).toNat (negR (d.costs.getD k zR)) else dualN d n m k
theorem primN_len (d : DictionaryD) (n : Nat) : ∀ k, (primN d n k).length = n
  | 0 => by simp [primN]
  | k + 1 => by rw [primN]; split <;> simp [primN_len d n k]
theorem dualN_len (d : DictionaryD) (n m : Nat) : ∀ k, (dualN d n m k).length = m
  | 0 => by simp [dualN]
  | k + 1 => by rw [dualN]; split <;> simp [dualN_len d n m k]
def zSol : SolutionD := ⟨⟨0, 0⟩, [], []⟩
def solD (d : DictionaryD) (n m : Nat) : SolutionD := ⟨d.value, primN d n d.basic.length, dualN d n m d.others.length⟩
def solP (p : ProgramD) : SolutionD × Bool := if okProg p = true ∧ (solGo 300 (initD p)).2 = true then (solD (solGo 300 (initD p)).1 p.objective.length p.rows.length, true) else (zSol, false)
theorem solP_no {p : ProgramD} (h : okProg p = false) : solP p = (zSol, false) := by rw [solP, if_neg (by rw [h]; simp)]
theorem solP_bad {p : ProgramD} (h : solGo 300 (initD p) = (zDic, false)) : solP p = (zSol, false) := by rw [solP, h, if_neg (by simp)]
theorem solP_yes {p : ProgramD} {d : DictionaryD} (h : okProg p = true) (h2 : solGo 300 (initD p) = (d, true)) : solP p = (solD d p.objective.length p.rows.length, true) := by rw [solP, h2, if_pos ⟨h, rfl⟩]
end Go.Proofs.Ytepphdhnkaiamaa
