/-
  Statistics and their tables, plainly.
-/
import Derived.Test.YtjlagjhmlmfjeaaGreatGe
import Derived.Test.YtjlagjhmlmfjeaaGreatGg
import Derived.Test.YtjlagjhmlmfjeaaGreatHa
namespace Go.Proofs.YtjlagjhmlmfjeaaGreat
open Go.ChangeShapes Go.WideShapes Go.ChangeAt Go.RowKit
set_option linter.unusedVariables false
set_option linter.unusedSimpArgs false
theorem cIntSS_cons (a : List Int) (l : List (List Int)) : cIntSS (a :: l) = cIntSS l + 1 + a.length := by
  simp only [cIntSS, cntL, cIntS, List.map_cons, List.sum_cons, List.length_cons]
  omega
theorem cIntSS_take (l : List (List Int)) : ∀ k, cIntSS (l.take k) ≤ cIntSS l := by
  induction l with
  | nil => intro k; simp
  | cons a l ih =>
    intro k
    cases k with
    | zero => rw [List.take_zero]; exact Nat.zero_le _
    | succ k => rw [List.take_succ_cons, cIntSS_cons, cIntSS_cons]; have := ih k; omega
theorem putR_cnt {row : List Int} : ∀ {xs : List (List Int)}, cIntSS (putR row xs) ≤ cIntSS xs + 1 + row.length
  | [] => by rw [putR_nil, cIntSS_cons]; exact Nat.le_refl _
  | x :: xs => by
    by_cases h : 0 < cmpR x row
    · rw [putR_in h, cIntSS_cons]; omega
    · by_cases h' : cmpR x row = 0
      · rw [putR_eq h']; omega
      · rw [putR_lt h h', cIntSS_cons, cIntSS_cons]
        have := putR_cnt (row := row) (xs := xs)
        omega
theorem putR_ge {row : List Int} : ∀ {xs : List (List Int)}, xs.length ≤ (putR row xs).length
  | [] => by simp
  | x :: xs => by
    by_cases h : 0 < cmpR x row
    · rw [putR_in h]; simp
    · by_cases h' : cmpR x row = 0
      · rw [putR_eq h']; simp
      · rw [putR_lt h h']
        have := putR_ge (row := row) (xs := xs)
        simp only [List.length_cons]; omega
theorem fold_cnt (l : List (List Int)) : ∀ acc, cIntSS (l.foldl (fun acc x => putR x acc) acc) ≤ cIntSS acc + cIntSS l ∧ acc.length ≤ (l.foldl (fun acc x => putR x acc) acc).length := by
  induction l with
  | nil => intro acc; simp
  | cons x l ih =>
    intro acc
    obtain ⟨h1, h2⟩ := ih (putR x acc)
    have h3 := putR_cnt (row := x) (xs := acc)
    have h4 := putR_ge (row := x) (xs := acc)
    rw [List.foldl_cons, cIntSS_cons]
    exact ⟨by omega, by omega⟩
theorem foldPut_cnt (l : List (List Int)) (k : Nat) : cIntSS (foldPut (l.take k)) ≤ cIntSS l := by
  have h1 := (fold_cnt (l.take k) []).1
  have h2 := cIntSS_take l k
  have h3 : cIntSS ([] : List (List Int)) = 0 := rfl
  unfold foldPut
  omega
theorem foldPut_grow (l : List (List Int)) (k : Nat) : (foldPut (l.take k)).length ≤ (foldPut l).length := by
  have h := (fold_cnt (l.drop k) (foldPut (l.take k))).2
  have e : foldPut l = (l.drop k).foldl (fun acc x => putR x acc) (foldPut (l.take k)) := by
    unfold foldPut
    rw [← List.foldl_append, List.take_append_drop]
  rw [e]; exact h
theorem foldPut_len (l : List (List Int)) (k : Nat) : (foldPut (l.take k)).length ≤ k := by
  have h := (foldPut_all (l.take k) [] List.Pairwise.nil).2.2
  have : (l.take k).length ≤ k := by simp; omega
  unfold foldPut
  simp only [List.length_nil] at h
  omega
def newT (name : ByteArray) (arity : Int) (rows : List (List Int)) : TableD × Bool := if okTable ⟨name, arity, foldPut rows⟩ = true then (⟨name, arity, foldPut rows⟩, true) else (zTable, false)
theorem newT_yes {name : ByteArray} {arity : Int} {rows : List (List Int)} (h : okTable ⟨name, arity, foldPut rows⟩ = true) : newT name arity rows = (⟨name, arity, foldPut rows⟩, true) := by rw [newT, if_pos h]
theorem newT_no {name : ByteArray} {arity : Int} {rows : List (List Int)} (h : okTable ⟨name, arity, foldPut rows⟩ = false) : newT name arity rows = (zTable, false) := by rw [newT, if_neg (by rw [h]; decide)]
theorem okTable_big {t : TableD} (h : 8 < t.rows.length) : okTable t = false := by
  cases e : okTable t with
  | false => rfl
  | true => have := okTable_arity e; omega
theorem newT_end {name : ByteArray} {arity : Int} {rows : List (List Int)} {k : Nat} {acc : List (List Int)} (ha : acc = foldPut (rows.take k)) (h : rows.length ≤ k ∨ 8 < acc.length) : okTable ⟨name, arity, acc⟩ = okTable ⟨name, arity, foldPut rows⟩ ∧ (okTable ⟨name, arity, acc⟩ = true → acc = foldPut rows) := by
  by_cases h1 : 8 < acc.length
  · have h2 := foldPut_grow rows k
    rw [← ha] at h2
    have q1 := okTable_big (t := ⟨name, arity, acc⟩) h1
    rw [q1, okTable_big (t := ⟨name, arity, foldPut rows⟩) (show 8 < (foldPut rows).length by omega)]
    exact ⟨rfl, fun q => by cases q⟩
  · have e : acc = foldPut rows := by rw [ha, List.take_of_length_le (by omega)]
    rw [e]; exact ⟨rfl, fun _ => rfl⟩
theorem asc_of : ∀ {l : List (List Int)}, (∀ i, i + 1 < l.length → cmpR (l.getD i []) (l.getD (i + 1) []) < 0) → Asc l
  | [], _ => List.Pairwise.nil
  | [a], _ => List.pairwise_singleton _ _
  | a :: b :: l, h => by
    have ih := asc_of (l := b :: l) fun i hi => by
      have := h (i + 1) (by simpa using hi)
      simpa using this
    have h0 : cmpR a b < 0 := by
      have := h 0 (by simp)
      simpa using this
    refine List.pairwise_cons.2 ⟨fun y hy => ?_, ih⟩
    rcases List.mem_cons.1 hy with rfl | q
    · exact h0
    · exact cmpR_trans h0 ((List.pairwise_cons.1 ih).1 y q)
theorem ascR_asc {l : List (List Int)} (h : ascR l = true) : Asc l := asc_of fun i hi => by
  have := List.all_eq_true.1 h i (List.mem_range.2 (by omega))
  simpa [ascAt] using this
theorem asc_ascR {l : List (List Int)} (h : Asc l) : ascR l = true := by
  refine List.all_eq_true.2 fun i hi => ?_
  have hi := List.mem_range.1 hi
  have := List.pairwise_iff_getElem.1 h i (i + 1) (by omega) (by omega) (by omega)
  simpa [ascAt, List.getD_eq_getElem?_getD, show i < l.length by omega, show i + 1 < l.length by omega] using this
theorem okTable_parts {t : TableD} (h : okTable t = true) : t.rows.all (okRow t.arity) = true ∧ okName t.name = true ∧ ascR t.rows = true := by
  simp only [okTable, Bool.and_eq_true] at h
  exact ⟨h.1, h.2.1, h.2.2.2.2⟩
theorem foldPut_asc {l : List (List Int)} (h : Asc l) : foldPut l = l := by
  obtain ⟨h1, h2, _⟩ := foldPut_all l [] List.Pairwise.nil
  exact asc_ext h1 h fun x => by have := h2 x; simpa [foldPut] using this
theorem row_len {t : TableD} (h : okTable t = true) {r : List Int} (hr : r ∈ t.rows) : (r.length : Int) = t.arity := by
  have := List.all_eq_true.1 (okTable_parts h).1 r hr
  simp only [okRow, Bool.and_eq_true, decide_eq_true_eq] at this
  exact this.2
def allC (n : Int) : List Int := bitsZ ((2 : Int) ^ n.toNat - 1)
theorem sel_all {n : Int} (hn : 1 ≤ n ∧ n ≤ 3) {r : List Int} (h : (r.length : Int) = n) : (selR r (allC n)).1 = r := by
  have h1 : n = 1 ∨ n = 2 ∨ n = 3 := by omega
  rcases h1 with rfl | rfl | rfl
  · match r, h with
    | [a], _ => rfl
    | [], h => simp at h
    | _ :: _ :: _, h => simp at h; omega
  · match r, h with
    | [a, b], _ => rfl
    | [], h => simp at h
    | [_], h => simp at h
    | _ :: _ :: _ :: _, h => simp at h; omega
  · match r, h with
    | [a, b, c], _ => rfl
    | [], h => simp at h
    | [_], h => simp at h
    | [_, _], h => simp at h
    | _ :: _ :: _ :: _ :: _, h => simp at h; omega
theorem all_cols {n : Int} (hn : 1 ≤ n ∧ n ≤ 3) : colsOk (n - 1) (allC n) = true := by
  have h1 : n = 1 ∨ n = 2 ∨ n = 3 := by omega
  rcases h1 with rfl | rfl | rfl <;> decide
theorem colSubs_last {n : Int} (hn : 1 ≤ n ∧ n ≤ 3) : 0 < (colSubs n).length ∧ (colSubs n)[(colSubs n).length - 1]? = some (allC n) := by
  have h1 : n = 1 ∨ n = 2 ∨ n = 3 := by omega
  rcases h1 with rfl | rfl | rfl <;> decide
theorem grpV_all {t : TableD} (h : okTable t = true) : (grpR t (allC t.arity)).1 = t.rows := by
  have hT := okTable_arity h
  have hc := all_cols (n := t.arity) ⟨hT.1, hT.2.1⟩
  rw [grpR_yes (by rw [h, hc]; rfl)]
  have e : selA t (allC t.arity) = t.rows := by
    rw [selA]
    conv => rhs; rw [← List.map_id t.rows]
    exact List.map_congr_left fun r hr => sel_all ⟨hT.1, hT.2.1⟩ (row_len h hr)
  show dedR (sortR (selA t (allC t.arity))) = t.rows
  rw [e, ← foldPut_ded, foldPut_asc (ascR_asc (okTable_parts h).2.2)]
theorem lastV_stats {t : TableD} (h : okTable t = true) : lastV (statsOf t) = t.rows ∧ (statsOf t).groups ≠ [] := by
  have hT := okTable_arity h
  obtain ⟨h0, h1⟩ := colSubs_last (n := t.arity) ⟨hT.1, hT.2.1⟩
  rw [statsOf_yes h]
  constructor
  · rw [lastV]
    show (((colSubs t.arity).map (grpS t)).getD (((colSubs t.arity).map (grpS t)).length - 1) zGroupStats).values = t.rows
    rw [List.length_map, getD_at (x := grpS t (allC t.arity)) (by rw [List.getElem?_map, h1]; rfl)]
    exact grpV_all h
  · intro e
    have : ((colSubs t.arity).map (grpS t)).length = 0 := congrArg List.length e
    rw [List.length_map] at this
    omega
def tabS (x : TableStatsD) : TableD × Bool := if x.groups.length = 0 then (zTable, false) else newT x.name x.arity (lastV x)
theorem zTable_bad : okTable zTable = false := by decide
theorem tabS_ok {x : TableStatsD} (h : okStats x = true) : tabS x = (tabOf x, true) := by
  simp only [okStats, Bool.and_eq_true, decide_eq_true_eq] at h
  have h2 := (lastV_stats h.1).2
  rw [h.2] at h2
  rw [tabS, if_neg (fun e => h2 (List.eq_nil_of_length_eq_zero e))]
  have e := foldPut_asc (ascR_asc (okTable_parts h.1).2.2)
  rw [show (tabOf x).rows = lastV x from rfl] at e
  rw [newT_yes (by rw [e]; exact h.1), e]; rfl
theorem tabS_same (x : TableStatsD) : ((tabS x).2 && decide (statsOf (tabS x).1 = x)) = okStats x := by
  cases h : okStats x with
  | true =>
    rw [tabS_ok h]
    simp only [okStats, Bool.and_eq_true, decide_eq_true_eq] at h
    simp [h.2]
  | false =>
    rw [tabS]
    split
    · rfl
    · cases e : okTable ⟨x.name, x.arity, foldPut (lastV x)⟩ with
      | false => rw [newT_no e]; rfl
      | true =>
        rw [newT_yes e]
        simp only [Bool.true_and]
        by_cases q : statsOf ⟨x.name, x.arity, foldPut (lastV x)⟩ = x
        · exfalso
          have h3 := (lastV_stats e).1
          rw [q] at h3
          have h4 : tabOf x = ⟨x.name, x.arity, foldPut (lastV x)⟩ := by
            rw [tabOf]
            congr 1
          rw [okStats, h4, e, q] at h
          simp at h
        · simp [q]
theorem okS_parts {x : TableStatsD} (h : okStats x = true) : okTable (tabOf x) = true ∧ statsOf (tabOf x) = x := by
  simpa only [okStats, Bool.and_eq_true, decide_eq_true_eq] using h
theorem okS_groups {x : TableStatsD} (h : okStats x = true) : x.groups = (colSubs x.arity).map (grpS (tabOf x)) := by
  obtain ⟨h1, h2⟩ := okS_parts h
  rw [statsOf_yes h1] at h2
  exact (congrArg TableStatsD.groups h2).symm
theorem okS_count {x : TableStatsD} (h : okStats x = true) : x.rowCount = ((lastV x).length : Nat) := by
  obtain ⟨h1, h2⟩ := okS_parts h
  rw [statsOf_yes h1] at h2
  exact (congrArg TableStatsD.rowCount h2).symm
theorem okS_arity {x : TableStatsD} (h : okStats x = true) : 1 ≤ x.arity ∧ x.arity ≤ 3 := by
  have := okTable_arity (okS_parts h).1
  exact ⟨this.1, this.2.1⟩
theorem find_at {α : Type} {p : α → Bool} {l : List α} {k : Nat} {x : α} (h : l[k]? = some x) (ha : (l.take k).all (fun y => !p y) = true) (hx : p x = true) : l.find? p = some x := by
  rw [List.find?_eq_some_iff_getElem]
  obtain ⟨hk, rfl⟩ := List.getElem?_eq_some_iff.1 h
  refine ⟨hx, k, hk, rfl, fun j hj => ?_⟩
  have := List.all_eq_true.1 ha l[j] (List.mem_iff_getElem.2 ⟨j, by simp; omega, by simp⟩)
  exact this
theorem find_no {α : Type} {p : α → Bool} {l : List α} (ha : l.all (fun y => !p y) = true) : l.find? p = none := by
  rw [List.find?_eq_none]
  intro x hx
  have := List.all_eq_true.1 ha x hx
  simpa using this
end Go.Proofs.YtjlagjhmlmfjeaaGreat
