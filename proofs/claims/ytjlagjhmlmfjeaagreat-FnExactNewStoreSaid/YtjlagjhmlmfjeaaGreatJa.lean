/-
  Rows in tables, both sides.
-/
import Derived.Test.YtjlagjhmlmfjeaaGreatHb
import Derived.Test.YtjlagjhmlmfjeaaGreatGj
namespace Go.Proofs.YtjlagjhmlmfjeaaGreat
open Go.ChangeShapes Go.WideShapes Go.ChangeAt Go.RowKit
set_option linter.unusedVariables false
set_option linter.unusedSimpArgs false
def idxF {α : Type} (p : α → Bool) (l : List α) : Int := match l.findIdx? p with | some k => (k : Int) | none => -1
theorem idxF_at {α : Type} {p : α → Bool} {l : List α} {k : Nat} {x : α} (h : l[k]? = some x) (ha : (l.take k).all (fun y => !p y) = true) (hx : p x = true) : idxF p l = (k : Int) := by
  obtain ⟨hk, rfl⟩ := List.getElem?_eq_some_iff.1 h
  have : l.findIdx? p = some k := by
    rw [List.findIdx?_eq_some_iff_getElem]
    refine ⟨hk, hx, fun j hj => ?_⟩
    have := List.all_eq_true.1 ha l[j] (List.mem_iff_getElem.2 ⟨j, by rw [List.length_take]; omega, by rw [List.getElem_take]⟩)
    simpa using this
  rw [idxF, this]
theorem idxF_no {α : Type} {p : α → Bool} {l : List α} (ha : l.all (fun y => !p y) = true) : idxF p l = -1 := by
  have : l.findIdx? p = none := by
    rw [List.findIdx?_eq_none_iff]
    intro x hx
    have := List.all_eq_true.1 ha x hx
    simpa using this
  rw [idxF, this]
theorem idxF_get {α : Type} {p : α → Bool} {l : List α} (h : 0 ≤ idxF p l) : ∃ (k : Nat) (x : α), idxF p l = (k : Int) ∧ l[k]? = some x ∧ p x = true ∧ k < l.length := by
  unfold idxF at *
  cases e : l.findIdx? p with
  | none => rw [e] at h; exact absurd h (by decide)
  | some k =>
    rw [List.findIdx?_eq_some_iff_getElem] at e
    obtain ⟨hk, hx, _⟩ := e
    exact ⟨k, l[k], rfl, List.getElem?_eq_getElem hk, hx, hk⟩
theorem idxF_ge {α : Type} (p : α → Bool) (l : List α) : -1 ≤ idxF p l ∧ idxF p l < (l.length : Int) := by
  by_cases h : 0 ≤ idxF p l
  · obtain ⟨k, x, h1, _, _, h4⟩ := idxF_get h
    omega
  · unfold idxF at *
    cases e : l.findIdx? p with
    | none => simp only; omega
    | some k => rw [e] at h; simp only at h; omega
abbrev isR (row : List Int) : List Int → Bool := fun x => decide (x = row)

set_option maxRecDepth 100000 in
set_option maxHeartbeats 4000000 in
theorem rowIdx1 (x row : List Int) : Con Tryz.prog 179 [.one (.sl 3 1 (x.map intD)), .ref [.sl 3 1 (row.map intD)]] (vB (decide (x = row))) [] := by
  refine con_x tbOk mixedW Tryz.func179 (by kernel_rfl) (.call (vB (decide (x = row))) [] <| .fin []) ?_
  refine Eq.mpr (by kernel_rfl : _ = ((x.map intD).length ≤ 9223372036854775807 → (row.map intD).length ≤ 9223372036854775807 → Con Tryz.prog 180 [.one (.sl 3 1 (x.map intD)), .one (.sl 3 1 (row.map intD))] (vB (decide (x = row))) [] ∧ (decide (x = row)) = (decide (x = row)) ∧ True)) ?_
  intro n0 n1
  simp only [List.length_map] at n0 n1
  refine ⟨eqs_Int _ _, ?_⟩
  refine ⟨?_, trivial⟩
  · rfl

set_option maxRecDepth 100000 in
set_option maxHeartbeats 4000000 in
theorem rowIdxF (l : List (List Int)) (row : List Int) : Con Tryz.prog 178 [.one (.sl 25 1 (l.map eIntS)), .fn 179 [[.sl 3 1 (row.map intD)]]] (vI (idxF (isR row) l)) [] := by
  refine con_x tbOk mixedW Tryz.func178 (by kernel_rfl) (.len l.length <| .loop Nat (Q1 Nat) [5, 8, 9, 10, 11, 12, 13, 14, 15, 16, 18] [] (fun k => [(8, vI (k : Int))]) (fun k => []) (fun k => k ≤ l.length ∧ (l.take k).all (fun y => !isR row y) = true) (fun k => l.length - k) (fun k => .br (.elem (List Int) eIntS l (fun e14 => .call (vB (decide (e14 = row))) [] <| .br (.fin []) (.back []))) (.fin []))) ?_
  refine Eq.mpr (by kernel_rfl : _ = ((l.map eIntS).length ≤ 9223372036854775807 → (l.map eIntS).length = l.length ∧ ((∃ (k : Nat), (0 : Int) = (k : Int) ∧ k ≤ l.length ∧ (l.take k).all (fun y => !isR row y) = true) ∧ ∀ (k : Nat), (k ≤ l.length ∧ (l.take k).all (fun y => !isR row y) = true) → ((decide ((k : Int) < ((l.length : Nat) : Int))) = true → 0 ≤ (k : Int) ∧ (l.map eIntS = l.map eIntS ∧ k < l.length ∧ ∀ e14, l[k]? = some e14 → Con Tryz.prog 179 [.one (.sl 3 1 (e14.map intD)), .ref [.sl 3 1 (row.map intD)]] (vB (decide (e14 = row))) [] ∧ (((decide (e14 = row)) = true → (k : Int) = (idxF (isR row) l) ∧ True) ∧ ((decide (e14 = row)) = false → inR ((k : Int) + (1 : Int)) ∧ ∃ (k' : Nat), ((k : Int) + (1 : Int)) = (k' : Int) ∧ (k' ≤ l.length ∧ (l.take k').all (fun y => !isR row y) = true) ∧ l.length - k' < l.length - k)))) ∧ ((decide ((k : Int) < ((l.length : Nat) : Int))) = false → (-1 : Int) = (idxF (isR row) l) ∧ True)))) ?_
  intro n0
  simp only [List.length_map] at n0
  refine ⟨List.length_map _, ?_⟩
  refine ⟨⟨0, rfl, Nat.zero_le _, rfl⟩, fun k ⟨hk, ha⟩ => ?_⟩
  refine ⟨fun c0 => ?_, fun c0 => ?_⟩
  · replace c0 := of_decide_eq_true c0
    refine ⟨by omega, ?_⟩
    refine ⟨rfl, by omega, fun e14 h14 => ?_⟩
    refine ⟨rowIdx1 _ _, ?_⟩
    refine ⟨fun c1 => ?_, fun c1 => ?_⟩
    · replace c1 := of_decide_eq_true c1
      have hE := idxF_at (p := isR row) h14 ha (by simpa [isR] using c1)
      refine ⟨?_, trivial⟩
      · rw [hE]
    · replace c1 := of_decide_eq_false c1
      refine ⟨⟨by omega, by omega⟩, ?_⟩
      exact ⟨k + 1, rfl, ⟨by omega, all_snoc h14 ha (by simpa [isR] using c1)⟩, by omega⟩
  · replace c0 := of_decide_eq_false c0
    have hE := idxF_no (p := isR row) (all_done (by omega) ha)
    refine ⟨?_, trivial⟩
    · rw [hE]

set_option maxRecDepth 100000 in
set_option maxHeartbeats 4000000 in
theorem rowIdx (t : TableD) (row : List Int) : Con Tryz.prog 136 [.agg [.str t.name, .int .i64 t.arity, .sl 25 1 (t.rows.map eIntS)], .one (.sl 3 1 (row.map intD))] (vI (idxF (isR row) t.rows)) [] := by
  refine con_x tbOk mixedW Tryz.func136 (by kernel_rfl) (.call (vI (idxF (isR row) t.rows)) [] <| .fin []) ?_
  refine Eq.mpr (by kernel_rfl : _ = ((t.rows.map eIntS).length ≤ 9223372036854775807 → (row.map intD).length ≤ 9223372036854775807 → Con Tryz.prog 178 [.one (.sl 25 1 (t.rows.map eIntS)), .fn 179 [[.sl 3 1 (row.map intD)]]] (vI (idxF (isR row) t.rows)) [] ∧ (idxF (isR row) t.rows) = (idxF (isR row) t.rows) ∧ True)) ?_
  intro n0 n1
  simp only [List.length_map] at n0 n1
  refine ⟨rowIdxF _ _, ?_⟩
  exact ⟨rfl, trivial⟩

def hasR (t : TableD) (row : List Int) : Bool := okTable t && decide (0 ≤ idxF (isR row) t.rows)
def insOk (t : TableD) (row : List Int) : Bool := okTable t && (okRow t.arity row && (decide (idxF (isR row) t.rows < 0) && decide ((t.rows.length : Int) < 8)))
def insT (t : TableD) (row : List Int) : TableD × Bool := if insOk t row = true then (⟨t.name, t.arity, putR row t.rows⟩, true) else (t, false)
def delT (t : TableD) (row : List Int) : TableD × Bool := if hasR t row = true then (⟨t.name, t.arity, t.rows.eraseIdx (idxF (isR row) t.rows).toNat⟩, true) else (t, false)
theorem insT_yes {t : TableD} {row : List Int} (h : insOk t row = true) : insT t row = (⟨t.name, t.arity, putR row t.rows⟩, true) := by rw [insT, if_pos h]
theorem insT_no {t : TableD} {row : List Int} (h : insOk t row = false) : insT t row = (t, false) := by rw [insT, if_neg (by rw [h]; decide)]
theorem delT_yes {t : TableD} {row : List Int} (h : hasR t row = true) : delT t row = (⟨t.name, t.arity, t.rows.eraseIdx (idxF (isR row) t.rows).toNat⟩, true) := by rw [delT, if_pos h]
theorem delT_no {t : TableD} {row : List Int} (h : hasR t row = false) : delT t row = (t, false) := by rw [delT, if_neg (by rw [h]; decide)]
theorem hasR_parts {t : TableD} {row : List Int} (h : hasR t row = true) : okTable t = true ∧ 0 ≤ idxF (isR row) t.rows := by
  simpa only [hasR, Bool.and_eq_true, decide_eq_true_eq] using h
theorem insOk_parts {t : TableD} {row : List Int} (h : insOk t row = true) : okTable t = true ∧ okRow t.arity row = true ∧ idxF (isR row) t.rows < 0 ∧ (t.rows.length : Int) < 8 := by
  simpa only [insOk, Bool.and_eq_true, decide_eq_true_eq] using h
theorem rows_small {t : TableD} (h : okTable t = true) : cIntSS t.rows ≤ 32 := by
  have hT := okTable_arity h
  have := cIntSS_bound (l := t.rows) (m := 3) fun r hr => by have := row_len h hr; omega
  omega
theorem okTable_small {t : TableD} (h : okTable t = true) : cTable t ≤ 64 := by
  have h1 := rows_small h
  have h2 := okTable_name h
  have h3 : cTable t = t.name.size + cIntSS t.rows := rfl
  omega
theorem cIntSS_snoc (l : List (List Int)) (r : List Int) : cIntSS (l ++ [r]) = cIntSS l + 1 + r.length := by
  induction l with
  | nil => rw [List.nil_append, cIntSS_cons]
  | cons a l ih => rw [List.cons_append, cIntSS_cons, cIntSS_cons, ih]; omega
theorem ins_small {t : TableD} {row : List Int} (h : insOk t row = true) : cIntSS (t.rows ++ [row]) ≤ 64 := by
  obtain ⟨h1, h2, _, _⟩ := insOk_parts h
  have hT := okTable_arity h1
  have h3 := rows_small h1
  simp only [okRow, Bool.and_eq_true, decide_eq_true_eq] at h2
  rw [cIntSS_snoc]
  omega
theorem ins_rows {t : TableD} {row : List Int} (h : okTable t = true) : dedR (sortR (t.rows ++ [row])) = putR row t.rows := by
  rw [← foldPut_ded, foldPut_snoc, foldPut_asc (ascR_asc (okTable_parts h).2.2)]
theorem del_rows : ∀ {l : List (List Int)} {k : Nat} {row : List Int}, Asc l → l[k]? = some row → l.filter (fun x => !isR row x) = l.eraseIdx k
  | [], k, row, _, hk => by simp at hk
  | a :: l, 0, row, ha, hk => by
    simp at hk
    subst hk
    rw [List.eraseIdx_cons_zero, List.filter_cons_of_neg (by simp [isR])]
    refine List.filter_eq_self.2 fun y hy => ?_
    have := (List.pairwise_cons.1 ha).1 y hy
    have hne : ¬ y = a := fun e => by rw [e, cmpR_self] at this; omega
    simp [isR, hne]
  | a :: l, k + 1, row, ha, hk => by
    have hk' : l[k]? = some row := by simpa using hk
    have := (List.pairwise_cons.1 ha).1 row (List.mem_of_getElem? hk')
    have hne : ¬ a = row := fun e => by rw [e, cmpR_self] at this; omega
    rw [List.eraseIdx_cons_succ, List.filter_cons_of_pos (by simp [isR, hne]), del_rows (List.pairwise_cons.1 ha).2 hk']
theorem del_same {t : TableD} {row : List Int} (h : hasR t row = true) : t.rows.filter (fun x => !isR row x) = t.rows.eraseIdx (idxF (isR row) t.rows).toNat := by
  obtain ⟨h1, h2⟩ := hasR_parts h
  obtain ⟨k, x, e, hx, hp, _⟩ := idxF_get h2
  have hxr : x = row := by simpa [isR] using hp
  subst hxr
  rw [e, Int.toNat_natCast]
  exact del_rows (ascR_asc (okTable_parts h1).2.2) hx

set_option maxRecDepth 100000 in
set_option maxHeartbeats 4000000 in
theorem has_impl (t : TableD) (row : List Int) : Con Tryz.prog 138 [.agg [.str t.name, .int .i64 t.arity, .sl 25 1 (t.rows.map eIntS)], .one (.sl 3 1 (row.map intD))] (vB (hasR t row)) [] := by
  refine con_x tbOk mixedW Tryz.func138 (by kernel_rfl) (.call (vB (okTable t)) [] <| .br (.call (vI (idxF (isR row) t.rows)) [] <| .fin []) (.fin [])) ?_
  refine Eq.mpr (by kernel_rfl : _ = ((t.rows.map eIntS).length ≤ 9223372036854775807 → (row.map intD).length ≤ 9223372036854775807 → Con Tryz.prog 131 [.agg [.str t.name, .int .i64 t.arity, .sl 25 1 (t.rows.map eIntS)]] (vB (okTable t)) [] ∧ (((okTable t) = true → Con Tryz.prog 136 [.agg [.str t.name, .int .i64 t.arity, .sl 25 1 (t.rows.map eIntS)], .one (.sl 3 1 (row.map intD))] (vI (idxF (isR row) t.rows)) [] ∧ (decide ((0 : Int) ≤ (idxF (isR row) t.rows))) = (hasR t row) ∧ True) ∧ ((okTable t) = false → (false) = (hasR t row) ∧ True)))) ?_
  intro n0 n1
  simp only [List.length_map] at n0 n1
  refine ⟨tab_impl t, ?_⟩
  refine ⟨fun g7 => ?_, fun g7 => ?_⟩
  · refine ⟨rowIdx _ _, ?_⟩
    refine ⟨?_, trivial⟩
    · first | (simp [hasR, *]; done) | (simp [hasR, g7]; done)
  · refine ⟨?_, trivial⟩
    · first | (simp [hasR, *]; done) | (simp [hasR, g7]; done)

set_option maxRecDepth 100000 in
set_option maxHeartbeats 4000000 in
theorem has_spec (t : TableD) (row : List Int) : Con Tryz.prog 124 [.agg [.str t.name, .int .i64 t.arity, .sl 25 1 (t.rows.map eIntS)], .one (.sl 3 1 (row.map intD))] (vB (hasR t row)) [] := by
  refine con_x tbOk mixedW Tryz.func124 (by kernel_rfl) (.loop Nat (Q1 Nat) [5, 6, 7, 8, 9, 10, 11, 12, 13, 14, 15, 16, 17, 18, 19, 20, 21, 22, 23, 24] [] (fun k => [(5, vI (k : Int))]) (fun k => []) (fun k => k ≤ t.rows.length ∧ (t.rows.take k).all (fun y => !isR row y) = true) (fun k => t.rows.length - k) (fun k => .len t.rows.length <| .br (.call (vB (okTable t)) [] <| .lit <| .br (.elem (List Int) eIntS t.rows (fun e20 => .call (vI (cmpR e20 row)) [] <| .br (.fin []) (.back []))) (.fin [])) (.fin []))) ?_
  refine Eq.mpr (by kernel_rfl : _ = ((t.rows.map eIntS).length ≤ 9223372036854775807 → (row.map intD).length ≤ 9223372036854775807 → (∃ (k : Nat), (0 : Int) = (k : Int) ∧ k ≤ t.rows.length ∧ (t.rows.take k).all (fun y => !isR row y) = true) ∧ ∀ (k : Nat), (k ≤ t.rows.length ∧ (t.rows.take k).all (fun y => !isR row y) = true) → (t.rows.map eIntS).length = t.rows.length ∧ (((decide ((k : Int) < ((t.rows.length : Nat) : Int))) = true → Con Tryz.prog 122 [.agg [.str t.name, .int .i64 t.arity, .sl 25 1 (t.rows.map eIntS)]] (vB (okTable t)) [] ∧ (((okTable t) = true → 0 ≤ (k : Int) ∧ (t.rows.map eIntS = t.rows.map eIntS ∧ k < t.rows.length ∧ ∀ e20, t.rows[k]? = some e20 → Con Tryz.prog 126 [.one (.sl 3 1 (e20.map intD)), .one (.sl 3 1 (row.map intD))] (vI (cmpR e20 row)) [] ∧ (((decide ((cmpR e20 row) = (0 : Int))) = true → (true) = (hasR t row) ∧ True) ∧ ((decide ((cmpR e20 row) = (0 : Int))) = false → inR ((k : Int) + (1 : Int)) ∧ ∃ (k' : Nat), ((k : Int) + (1 : Int)) = (k' : Int) ∧ (k' ≤ t.rows.length ∧ (t.rows.take k').all (fun y => !isR row y) = true) ∧ t.rows.length - k' < t.rows.length - k)))) ∧ ((okTable t) = false → (false) = (hasR t row) ∧ True))) ∧ ((decide ((k : Int) < ((t.rows.length : Nat) : Int))) = false → (false) = (hasR t row) ∧ True)))) ?_
  intro n0 n1
  simp only [List.length_map] at n0 n1
  refine ⟨⟨0, rfl, Nat.zero_le _, rfl⟩, fun k ⟨hk, ha⟩ => ?_⟩
  refine ⟨List.length_map _, ?_⟩
  refine ⟨fun g11 => ?_, fun g11 => ?_⟩
  · replace g11 := of_decide_eq_true g11
    refine ⟨tab_spec t, ?_⟩
    refine ⟨fun c0 => ?_, fun c0 => ?_⟩
    · refine ⟨by omega, ?_⟩
      refine ⟨rfl, by omega, fun e20 h20 => ?_⟩
      refine ⟨cmpRows_spec _ _, ?_⟩
      refine ⟨fun c1 => ?_, fun c1 => ?_⟩
      · replace c1 := of_decide_eq_true c1
        have hE := idxF_at (p := isR row) h20 ha (by simpa [isR] using cmpR_zero.1 c1)
        refine ⟨?_, trivial⟩
        · first | (rw [hE]; done) | (rw [hasR, hE, c0]; simp)
      · replace c1 := of_decide_eq_false c1
        refine ⟨⟨by omega, by omega⟩, ?_⟩
        exact ⟨k + 1, rfl, ⟨by omega, all_snoc h20 ha (by simpa [isR] using fun q => c1 (cmpR_zero.2 q))⟩, by omega⟩
    · have hE : hasR t row = false := by first | (rw [hasR, idxF_no (all_done (by omega) ha)]; simp; done) | (rw [hasR, c0]; rfl)
      refine ⟨?_, trivial⟩
      · first | (rw [hE]; done) | (rw [hasR, hE, c0]; simp)
  · replace g11 := of_decide_eq_false g11
    have hE : hasR t row = false := by first | (rw [hasR, idxF_no (all_done (by omega) ha)]; simp; done) | (rw [hasR, c0]; rfl)
    refine ⟨?_, trivial⟩
    · first | (rw [hE]; done) | (rw [hasR, hE, c0]; simp)
end Go.Proofs.YtjlagjhmlmfjeaaGreat
