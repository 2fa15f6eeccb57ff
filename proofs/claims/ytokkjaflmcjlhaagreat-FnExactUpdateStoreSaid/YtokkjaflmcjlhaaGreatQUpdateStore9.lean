/-
  Contracts and plain laws, joined: part 10.
-/
import Derived.Test.YtokkjaflmcjlhaaGreatQUpdateStore8
import Derived.Test.YtokkjaflmcjlhaaGreatQUpdateStore5
import Derived.Test.YtokkjaflmcjlhaaGreatQUpdateStore7
import Derived.IntWalk
namespace Go.Proofs.YtokkjaflmcjlhaaGreat
open Go.ChangeShapes Go.WideShapes Go.ChangeAt Go.RowKit
set_option linter.unusedVariables false
set_option linter.unusedSimpArgs false
set_option maxRecDepth 100000
set_option maxHeartbeats 4000000
def catOf (d : DatabaseD) (v : Int) : CatalogueD × Bool := if (okDb d && inB v 1 999) = true then (⟨v, d.tables.map statsOf⟩, true) else (zCatalogue, false)
theorem catOf_yes {d : DatabaseD} {v : Int} (h : (okDb d && inB v 1 999) = true) : catOf d v = (⟨v, d.tables.map statsOf⟩, true) := by rw [catOf, if_pos h]
theorem catOf_no {d : DatabaseD} {v : Int} (h : (okDb d && inB v 1 999) = false) : catOf d v = (zCatalogue, false) := by rw [catOf, if_neg (by rw [h]; decide)]
theorem okDb_len {d : DatabaseD} (h : okDb d = true) : d.tables.length ≤ 6 := by
  simp only [okDb, Bool.and_eq_true, decide_eq_true_eq] at h
  omega
abbrev k_cat_impl (d : DatabaseD) (v : Int) : AV × List (Nat × Rs) := (.tup [.agg [vI (((catOf d v).1).version), .own 0], vB ((catOf d v).2)], [(0, .arr 121 4 true ((((catOf d v).1).tables).map eTableStats))])
abbrev K_cat_impl (d : DatabaseD) (v : Int) : Prop := Con Tryz.prog 76 [.agg [.sl 162 3 (d.tables.map eTable)], .one (.int .i64 v)] (k_cat_impl d v).1 (k_cat_impl d v).2
theorem cat_impl (d : DatabaseD) (v : Int) : K_cat_impl d v := by
 refine con_x tbOk mixedW Tryz.func76 (by kernel_rfl) (.call (vB (okDb d)) [] <| .br (.fin []) (.call (vB (inB v (1 : Int) (999 : Int))) [] <| .lit <| .lit <| .br (.fin []) (.len d.tables.length <| .loop (Nat × (List TableStatsD)) (Q2 Nat (List TableStatsD)) [8, 23, 24, 25, 26, 27, 28, 29, 30, 31, 32, 33, 34] [600, 800, 3000, 3100, 3200, 9000] (fun yy0 => [(23, vI (yy0.1 : Int))]) (fun yy0 => [(600, some (.box 42 [vI v, .own 9000])), (9000, some (.arr 121 4 true (yy0.2.map eTableStats)))]) (fun yy0 => yy0.1 ≤ d.tables.length ∧ yy0.2 = (d.tables.take yy0.1).map statsOf) (fun yy0 => d.tables.length - yy0.1) (fun yy0 => .br (.elem _ eTable d.tables (fun e25 => callP (k_st_impl e25) <| .appx TableStatsD eTableStats yy0.2 (statsOf e25) <| .back [(600, 600), (9000, 3200)])) (.fin [(0, 9000)]))))) ?_
 refine Eq.mpr (by kernel_rfl : _ = ((d.tables.map eTable).length ≤ 9223372036854775807 → K_db_impl d ∧ (((!(okDb d)) = true → (0 : Int) = (((catOf d v).1).version) ∧ (false) = ((catOf d v).2) ∧ [] = (((catOf d v).1).tables).map eTableStats ∧ True) ∧ ((!(okDb d)) = false → K_in_impl v (1 : Int) (999 : Int) ∧ (((!(inB v (1 : Int) (999 : Int))) = true → (0 : Int) = (((catOf d v).1).version) ∧ (false) = ((catOf d v).2) ∧ [] = (((catOf d v).1).tables).map eTableStats ∧ True) ∧ ((!(inB v (1 : Int) (999 : Int))) = false → Lm eTable d.tables ∧ ((∃ (k : Nat) (out : List TableStatsD), (0 : Int) = (k : Int) ∧ v = v ∧ [] = out.map eTableStats ∧ k ≤ d.tables.length ∧ out = (d.tables.take k).map statsOf) ∧ ∀ (k : Nat) (out : List TableStatsD), (k ≤ d.tables.length ∧ out = (d.tables.take k).map statsOf) → ((decide ((k : Int) < ((d.tables.length : Nat) : Int))) = true → 0 ≤ (k : Int) ∧ Em eTable d.tables k fun e25 => K_st_impl e25 ∧ out.map eTableStats = out.map eTableStats ∧ ((statsOf e25).name) = ((statsOf e25).name) ∧ ((statsOf e25).arity) = ((statsOf e25).arity) ∧ ((statsOf e25).rowCount) = ((statsOf e25).rowCount) ∧ ((statsOf e25).groups).map eGroupStats = ((statsOf e25).groups).map eGroupStats ∧ (out.length + 1) * 56 ≤ 140737488355328 ∧ inR ((k : Int) + (1 : Int)) ∧ ∃ (k' : Nat) (out' : List TableStatsD), ((k : Int) + (1 : Int)) = (k' : Int) ∧ v = v ∧ (out ++ [(statsOf e25)]).map eTableStats = out'.map eTableStats ∧ (k' ≤ d.tables.length ∧ out' = (d.tables.take k').map statsOf) ∧ d.tables.length - k' < d.tables.length - k) ∧ ((decide ((k : Int) < ((d.tables.length : Nat) : Int))) = false → v = (((catOf d v).1).version) ∧ (true) = ((catOf d v).2) ∧ out.map eTableStats = (((catOf d v).1).tables).map eTableStats ∧ True)))))))) ?_
 intro n0
 simp only [List.length_map] at n0
 refine ⟨db_impl d, fun g12 => ?_, fun g12 => ?_⟩
 ·replace g12 := nt g12
  have hbad : (okDb d && inB v 1 999) = false := by simp_all
  refine ⟨?_, ?_, ?_, trivial⟩
  ·first | (rw [catOf_no hbad] <;> rfl) | (rw [catOf_yes hok] <;> rfl) | (rw [catOf_yes hok, ho, List.take_of_length_le (by omega)])
  ·first | (rw [catOf_no hbad] <;> rfl) | (rw [catOf_yes hok] <;> rfl) | (rw [catOf_yes hok, ho, List.take_of_length_le (by omega)])
  ·first | (rw [catOf_no hbad] <;> rfl) | (rw [catOf_yes hok] <;> rfl) | (rw [catOf_yes hok, ho, List.take_of_length_le (by omega)])
 ·replace g12 := nf g12
  refine ⟨in_impl _ _ _, fun c0 => ?_, fun c0 => ?_⟩
  ·replace c0 := nt c0
   have hbad : (okDb d && inB v 1 999) = false := by simp_all
   refine ⟨?_, ?_, ?_, trivial⟩
   ·first | (rw [catOf_no hbad] <;> rfl) | (rw [catOf_yes hok] <;> rfl) | (rw [catOf_yes hok, ho, List.take_of_length_le (by omega)])
   ·first | (rw [catOf_no hbad] <;> rfl) | (rw [catOf_yes hok] <;> rfl) | (rw [catOf_yes hok, ho, List.take_of_length_le (by omega)])
   ·first | (rw [catOf_no hbad] <;> rfl) | (rw [catOf_yes hok] <;> rfl) | (rw [catOf_yes hok, ho, List.take_of_length_le (by omega)])
  ·replace c0 := nf c0
   have hok : (okDb d && inB v 1 999) = true := by simp_all
   have h6 := okDb_len (by simp_all : okDb d = true)
   refine ⟨List.length_map _, ⟨0, ([] : List TableStatsD), rfl, rfl, rfl, Nat.zero_le _, rfl⟩, fun k out ⟨hk, ho⟩ => ?_⟩
   refine ⟨fun c1 => ?_, fun c1 => ?_⟩
   ·replace c1 := yq c1
    refine ⟨by omega, rfl, by omega, fun e25 h25 => ?_⟩
    refine ⟨st_impl e25, rfl, rfl, rfl, rfl, rfl, by first | omega | (simp [ho]; omega), ⟨by omega, by omega⟩, ?_⟩
    exact ⟨k + 1, _, rfl, rfl, rfl, ⟨by omega, by rw [ho, take_snoc h25, List.map_append]; rfl⟩, by omega⟩
   ·replace c1 := nq c1
    refine ⟨?_, ?_, ?_, trivial⟩
    ·first | (rw [catOf_no hbad] <;> rfl) | (rw [catOf_yes hok] <;> rfl) | (rw [catOf_yes hok, ho, List.take_of_length_le (by omega)])
    ·first | (rw [catOf_no hbad] <;> rfl) | (rw [catOf_yes hok] <;> rfl) | (rw [catOf_yes hok, ho, List.take_of_length_le (by omega)])
    ·first | (rw [catOf_no hbad] <;> rfl) | (rw [catOf_yes hok] <;> rfl) | (rw [catOf_yes hok, ho, List.take_of_length_le (by omega)])
abbrev k_cat_spec (d : DatabaseD) (v : Int) : AV × List (Nat × Rs) := (.tup [.agg [vI (((catOf d v).1).version), .own 0], vB ((catOf d v).2)], [(0, .arr 121 4 true ((((catOf d v).1).tables).map eTableStats))])
abbrev K_cat_spec (d : DatabaseD) (v : Int) : Prop := Con Tryz.prog 66 [.agg [.sl 162 3 (d.tables.map eTable)], .one (.int .i64 v)] (k_cat_spec d v).1 (k_cat_spec d v).2
theorem cat_spec (d : DatabaseD) (v : Int) : K_cat_spec d v := by
 refine con_x tbOk mixedW Tryz.func66 (by kernel_rfl) (.call (vB (okDb d)) [] <| .br (.fin []) (.call (vB (inB v (1 : Int) (999 : Int))) [] <| .lit <| .lit <| .br (.fin []) (.loop (Nat × (List TableStatsD)) (Q2 Nat (List TableStatsD)) [7, 8, 20, 21, 22, 23, 24, 25, 26, 27, 28, 29, 30, 31, 32, 33, 34, 35, 36, 37, 38] [600, 800, 3200, 3600, 3700, 9000] (fun yy0 => [(7, vI (yy0.1 : Int))]) (fun yy0 => [(600, some (.box 42 [vI v, .own 9000])), (9000, some (.arr 121 4 true (yy0.2.map eTableStats)))]) (fun yy0 => yy0.1 ≤ d.tables.length ∧ yy0.2 = (d.tables.take yy0.1).map statsOf) (fun yy0 => d.tables.length - yy0.1) (fun yy0 => .len d.tables.length <| .br (.elem _ eTable d.tables (fun e30 => callP (k_st_spec e30) <| .appx TableStatsD eTableStats yy0.2 (statsOf e30) <| .back [(600, 600), (9000, 3700)])) (.fin [(0, 9000)]))))) ?_
 refine Eq.mpr (by kernel_rfl : _ = ((d.tables.map eTable).length ≤ 9223372036854775807 → K_db_spec d ∧ (((!(okDb d)) = true → (0 : Int) = (((catOf d v).1).version) ∧ (false) = ((catOf d v).2) ∧ [] = (((catOf d v).1).tables).map eTableStats ∧ True) ∧ ((!(okDb d)) = false → K_in_spec v (1 : Int) (999 : Int) ∧ (((!(inB v (1 : Int) (999 : Int))) = true → (0 : Int) = (((catOf d v).1).version) ∧ (false) = ((catOf d v).2) ∧ [] = (((catOf d v).1).tables).map eTableStats ∧ True) ∧ ((!(inB v (1 : Int) (999 : Int))) = false → (∃ (k : Nat) (out : List TableStatsD), (0 : Int) = (k : Int) ∧ v = v ∧ [] = out.map eTableStats ∧ k ≤ d.tables.length ∧ out = (d.tables.take k).map statsOf) ∧ ∀ (k : Nat) (out : List TableStatsD), (k ≤ d.tables.length ∧ out = (d.tables.take k).map statsOf) → Lm eTable d.tables ∧ (((decide ((k : Int) < ((d.tables.length : Nat) : Int))) = true → 0 ≤ (k : Int) ∧ Em eTable d.tables k fun e30 => K_st_spec e30 ∧ out.map eTableStats = out.map eTableStats ∧ ((statsOf e30).name) = ((statsOf e30).name) ∧ ((statsOf e30).arity) = ((statsOf e30).arity) ∧ ((statsOf e30).rowCount) = ((statsOf e30).rowCount) ∧ ((statsOf e30).groups).map eGroupStats = ((statsOf e30).groups).map eGroupStats ∧ (out.length + 1) * 56 ≤ 140737488355328 ∧ inR ((k : Int) + (1 : Int)) ∧ ∃ (k' : Nat) (out' : List TableStatsD), ((k : Int) + (1 : Int)) = (k' : Int) ∧ v = v ∧ (out ++ [(statsOf e30)]).map eTableStats = out'.map eTableStats ∧ (k' ≤ d.tables.length ∧ out' = (d.tables.take k').map statsOf) ∧ d.tables.length - k' < d.tables.length - k) ∧ ((decide ((k : Int) < ((d.tables.length : Nat) : Int))) = false → v = (((catOf d v).1).version) ∧ (true) = ((catOf d v).2) ∧ out.map eTableStats = (((catOf d v).1).tables).map eTableStats ∧ True)))))))) ?_
 intro n0
 simp only [List.length_map] at n0
 refine ⟨db_spec d, fun g12 => ?_, fun g12 => ?_⟩
 ·replace g12 := nt g12
  have hbad : (okDb d && inB v 1 999) = false := by simp_all
  refine ⟨?_, ?_, ?_, trivial⟩
  ·first | (rw [catOf_no hbad] <;> rfl) | (rw [catOf_yes hok] <;> rfl) | (rw [catOf_yes hok, ho, List.take_of_length_le (by omega)])
  ·first | (rw [catOf_no hbad] <;> rfl) | (rw [catOf_yes hok] <;> rfl) | (rw [catOf_yes hok, ho, List.take_of_length_le (by omega)])
  ·first | (rw [catOf_no hbad] <;> rfl) | (rw [catOf_yes hok] <;> rfl) | (rw [catOf_yes hok, ho, List.take_of_length_le (by omega)])
 ·replace g12 := nf g12
  refine ⟨in_spec _ _ _, fun c0 => ?_, fun c0 => ?_⟩
  ·replace c0 := nt c0
   have hbad : (okDb d && inB v 1 999) = false := by simp_all
   refine ⟨?_, ?_, ?_, trivial⟩
   ·first | (rw [catOf_no hbad] <;> rfl) | (rw [catOf_yes hok] <;> rfl) | (rw [catOf_yes hok, ho, List.take_of_length_le (by omega)])
   ·first | (rw [catOf_no hbad] <;> rfl) | (rw [catOf_yes hok] <;> rfl) | (rw [catOf_yes hok, ho, List.take_of_length_le (by omega)])
   ·first | (rw [catOf_no hbad] <;> rfl) | (rw [catOf_yes hok] <;> rfl) | (rw [catOf_yes hok, ho, List.take_of_length_le (by omega)])
  ·replace c0 := nf c0
   have hok : (okDb d && inB v 1 999) = true := by simp_all
   have h6 := okDb_len (by simp_all : okDb d = true)
   refine ⟨⟨0, ([] : List TableStatsD), rfl, rfl, rfl, Nat.zero_le _, rfl⟩, fun k out ⟨hk, ho⟩ => ?_⟩
   refine ⟨List.length_map _, fun c1 => ?_, fun c1 => ?_⟩
   ·replace c1 := yq c1
    refine ⟨by omega, rfl, by omega, fun e30 h30 => ?_⟩
    refine ⟨st_spec e30, rfl, rfl, rfl, rfl, rfl, by first | omega | (simp [ho]; omega), ⟨by omega, by omega⟩, ?_⟩
    exact ⟨k + 1, _, rfl, rfl, rfl, ⟨by omega, by rw [ho, take_snoc h30, List.map_append]; rfl⟩, by omega⟩
   ·replace c1 := nq c1
    refine ⟨?_, ?_, ?_, trivial⟩
    ·first | (rw [catOf_no hbad] <;> rfl) | (rw [catOf_yes hok] <;> rfl) | (rw [catOf_yes hok, ho, List.take_of_length_le (by omega)])
    ·first | (rw [catOf_no hbad] <;> rfl) | (rw [catOf_yes hok] <;> rfl) | (rw [catOf_yes hok, ho, List.take_of_length_le (by omega)])
    ·first | (rw [catOf_no hbad] <;> rfl) | (rw [catOf_yes hok] <;> rfl) | (rw [catOf_yes hok, ho, List.take_of_length_le (by omega)])
theorem cntL_bound {α : Type} {c : α → Nat} {m : Nat} {l : List α} (h : ∀ x ∈ l, c x ≤ m) : cntL c l ≤ l.length + l.length * m := by
  have h1 := sumL_bound (ct := c) (m := m) (l := l) h
  have h2 : cntL c l = l.length + sumL c l := rfl
  omega
theorem grp_small (t : TableD) (cols : List Int) : cIntSS (grpR t cols).1 ≤ 64 ∧ (grpR t cols).2.length ≤ 8 := by
  cases h : (okTable t && colsOk (t.arity - 1) cols) with
  | false => rw [grpR_no h]; exact ⟨by decide, by decide⟩
  | true =>
    have := sel_put (k := (selA t cols).length) h
    rw [List.take_length, foldPut_ded] at this
    rw [grpR_yes h]
    exact ⟨this.2, by simp only [grpC, List.length_map, grpV]; exact this.1⟩
theorem okTable_name {t : TableD} (h : okTable t = true) : t.name.size = 1 := by
  simp only [okTable, okName, Bool.and_eq_true, decide_eq_true_eq] at h
  omega
theorem stats_small (t : TableD) : cTableStats (statsOf t) ≤ 2000 := by
  cases h : okTable t with
  | false => rw [statsOf_no h]; decide
  | true =>
    have hT := okTable_arity h
    have hn := okTable_name h
    have hl := colSubs_len (n := t.arity) ⟨hT.1, hT.2.1⟩
    rw [statsOf_yes h]
    have h1 := cntL_bound (c := cGroupStats) (m := 75) (l := (colSubs t.arity).map (grpS t)) fun x hx => by
      obtain ⟨c, hc, rfl⟩ := List.mem_map.1 hx
      obtain ⟨k, hk, hc⟩ := List.mem_iff_getElem.1 hc
      have h3 := colSubs_at (List.getElem?_eq_some_iff.2 ⟨hk, hc⟩)
      have h4 := grp_small t c
      have h5 : cGroupStats (grpS t c) = c.length + cIntSS (grpR t c).1 + (grpR t c).2.length := rfl
      omega
    rw [List.length_map] at h1
    have h2 : cTableStats ⟨t.name, t.arity, (t.rows.length : Nat), (colSubs t.arity).map (grpS t)⟩ = t.name.size + cntL cGroupStats ((colSubs t.arity).map (grpS t)) := rfl
    omega
theorem cat_small (d : DatabaseD) (v : Int) : cCatalogue (catOf d v).1 ≤ 20000 := by
  cases h : (okDb d && inB v 1 999) with
  | false => rw [catOf_no h]; decide
  | true =>
    have h6 := okDb_len (by simp_all : okDb d = true)
    rw [catOf_yes h]
    have h1 := cntL_bound (c := cTableStats) (m := 2000) (l := d.tables.map statsOf) fun x hx => by
      obtain ⟨t, _, rfl⟩ := List.mem_map.1 hx
      exact stats_small t
    rw [List.length_map] at h1
    have h2 : cCatalogue ⟨v, d.tables.map statsOf⟩ = cntL cTableStats (d.tables.map statsOf) := rfl
    show cCatalogue ⟨v, d.tables.map statsOf⟩ ≤ 20000
    omega
def idxF {α : Type} (p : α → Bool) (l : List α) : Int := match l.findIdx? p with | some k => (k : Int) | none => -1
theorem idxF_at {α : Type} {p : α → Bool} {l : List α} {k : Nat} {x : α} (h : l[k]? = some x) (ha : (l.take k).all (fun y => !p y) = true) (hx : p x = true) : idxF p l = (k : Int) := by
  obtain ⟨hk, rfl⟩ := List.getElem?_eq_some_iff.1 h
  have : l.findIdx? p = some k := by
    rw [List.findIdx?_eq_some_iff_getElem]
    refine ⟨hk, hx, fun j hj => ?_⟩
    have := List.all_eq_true.1 ha l[j] (List.mem_iff_getElem.2 ⟨j, by rw [List.length_take]; omega, by rw [List.getElem_take]⟩)
    simpa using this
  rw [idxF, this]
theorem idxF_no {α : Type} {p : α → Bool} {l : List α} (ha : l.all (fun y => !p y) = true) : idxF p l = -1 := by
  have : l.findIdx? p = none := by
    rw [List.findIdx?_eq_none_iff]
    intro x hx
    have := List.all_eq_true.1 ha x hx
    simpa using this
  rw [idxF, this]
theorem idxF_get {α : Type} {p : α → Bool} {l : List α} (h : 0 ≤ idxF p l) : ∃ (k : Nat) (x : α), idxF p l = (k : Int) ∧ l[k]? = some x ∧ p x = true ∧ k < l.length := by
  unfold idxF at *
  cases e : l.findIdx? p with
  | none => rw [e] at h; exact absurd h (by decide)
  | some k =>
    rw [List.findIdx?_eq_some_iff_getElem] at e
    obtain ⟨hk, hx, _⟩ := e
    exact ⟨k, l[k], rfl, List.getElem?_eq_getElem hk, hx, hk⟩
theorem idxF_ge {α : Type} (p : α → Bool) (l : List α) : -1 ≤ idxF p l ∧ idxF p l < (l.length : Int) := by
  by_cases h : 0 ≤ idxF p l
  · obtain ⟨k, x, h1, _, _, h4⟩ := idxF_get h
    omega
  · unfold idxF at *
    cases e : l.findIdx? p with
    | none => simp only; omega
    | some k => rw [e] at h; simp only at h; omega
abbrev isR (row : List Int) : List Int → Bool := fun x => decide (x = row)
abbrev K_rowIdx1 (x : List Int) (row : List Int) : Prop := Con Tryz.prog 266 [.one (.sl 3 1 (x.map intD)), .ref [.sl 3 1 (row.map intD)]] (vB (decide (x = row))) []
theorem rowIdx1 (x row : List Int) : K_rowIdx1 x row := by
 refine con_x tbOk mixedW Tryz.func266 (by kernel_rfl) (.call (vB (decide (x = row))) [] <| .fin []) ?_
 refine Eq.mpr (by kernel_rfl : _ = ((x.map intD).length ≤ 9223372036854775807 → (row.map intD).length ≤ 9223372036854775807 → K_eqs_Int x row ∧ (decide (x = row)) = (decide (x = row)) ∧ True)) ?_
 intro n0 n1
 simp only [List.length_map] at n0 n1
 refine ⟨eqs_Int _ _, ?_, trivial⟩
 ·rfl
abbrev K_rowIdxF (l : List (List Int)) (row : List Int) : Prop := Con Tryz.prog 265 [.one (.sl 32 1 (l.map eIntS)), .fn 266 [[.sl 3 1 (row.map intD)]]] (vI (idxF (isR row) l)) []
theorem rowIdxF (l : List (List Int)) (row : List Int) : K_rowIdxF l row := by
 refine con_x tbOk mixedW Tryz.func265 (by kernel_rfl) (.len l.length <| .loop Nat (Q1 Nat) [5, 8, 9, 10, 11, 12, 13, 14, 15, 16, 18] [] (fun k => [(8, vI (k : Int))]) (fun k => []) (fun k => k ≤ l.length ∧ (l.take k).all (fun y => !isR row y) = true) (fun k => l.length - k) (fun k => .br (.elem _ eIntS l (fun e14 => .call (vB (decide (e14 = row))) [] <| .br (.fin []) (.back []))) (.fin []))) ?_
 refine Eq.mpr (by kernel_rfl : _ = ((l.map eIntS).length ≤ 9223372036854775807 → Lm eIntS l ∧ ((∃ (k : Nat), (0 : Int) = (k : Int) ∧ k ≤ l.length ∧ (l.take k).all (fun y => !isR row y) = true) ∧ ∀ (k : Nat), (k ≤ l.length ∧ (l.take k).all (fun y => !isR row y) = true) → ((decide ((k : Int) < ((l.length : Nat) : Int))) = true → 0 ≤ (k : Int) ∧ Em eIntS l k fun e14 => K_rowIdx1 e14 row ∧ (((decide (e14 = row)) = true → (k : Int) = (idxF (isR row) l) ∧ True) ∧ ((decide (e14 = row)) = false → inR ((k : Int) + (1 : Int)) ∧ ∃ (k' : Nat), ((k : Int) + (1 : Int)) = (k' : Int) ∧ (k' ≤ l.length ∧ (l.take k').all (fun y => !isR row y) = true) ∧ l.length - k' < l.length - k))) ∧ ((decide ((k : Int) < ((l.length : Nat) : Int))) = false → (-1 : Int) = (idxF (isR row) l) ∧ True)))) ?_
 intro n0
 simp only [List.length_map] at n0
 refine ⟨List.length_map _, ⟨0, rfl, Nat.zero_le _, rfl⟩, fun k ⟨hk, ha⟩ => ?_⟩
 refine ⟨fun c0 => ?_, fun c0 => ?_⟩
 ·replace c0 := yq c0
  refine ⟨by omega, rfl, by omega, fun e14 h14 => ?_⟩
  refine ⟨rowIdx1 _ _, fun c1 => ?_, fun c1 => ?_⟩
  ·replace c1 := yq c1
   have hE := idxF_at (p := isR row) h14 ha (by simpa [isR] using c1)
   refine ⟨?_, trivial⟩
   ·rw [hE]
  ·replace c1 := nq c1
   refine ⟨⟨by omega, by omega⟩, ?_⟩
   exact ⟨k + 1, rfl, ⟨by omega, all_snoc h14 ha (by simpa [isR] using c1)⟩, by omega⟩
 ·replace c0 := nq c0
  have hE := idxF_no (p := isR row) (all_done (by omega) ha)
  refine ⟨?_, trivial⟩
  ·rw [hE]
abbrev K_rowIdx (t : TableD) (row : List Int) : Prop := Con Tryz.prog 227 [.agg [.str t.name, .int .i64 t.arity, .sl 32 1 (t.rows.map eIntS)], .one (.sl 3 1 (row.map intD))] (vI (idxF (isR row) t.rows)) []
theorem rowIdx (t : TableD) (row : List Int) : K_rowIdx t row := by
 refine con_x tbOk mixedW Tryz.func227 (by kernel_rfl) (.call (vI (idxF (isR row) t.rows)) [] <| .fin []) ?_
 refine Eq.mpr (by kernel_rfl : _ = ((t.rows.map eIntS).length ≤ 9223372036854775807 → (row.map intD).length ≤ 9223372036854775807 → K_rowIdxF t.rows row ∧ (idxF (isR row) t.rows) = (idxF (isR row) t.rows) ∧ True)) ?_
 intro n0 n1
 simp only [List.length_map] at n0 n1
 refine ⟨rowIdxF _ _, ?_⟩
 exact ⟨rfl, trivial⟩
def hasR (t : TableD) (row : List Int) : Bool := okTable t && decide (0 ≤ idxF (isR row) t.rows)
def insOk (t : TableD) (row : List Int) : Bool := okTable t && (okRow t.arity row && (decide (idxF (isR row) t.rows < 0) && decide ((t.rows.length : Int) < 8)))
def insT (t : TableD) (row : List Int) : TableD × Bool := if insOk t row = true then (⟨t.name, t.arity, putR row t.rows⟩, true) else (t, false)
def delT (t : TableD) (row : List Int) : TableD × Bool := if hasR t row = true then (⟨t.name, t.arity, t.rows.eraseIdx (idxF (isR row) t.rows).toNat⟩, true) else (t, false)
theorem insT_yes {t : TableD} {row : List Int} (h : insOk t row = true) : insT t row = (⟨t.name, t.arity, putR row t.rows⟩, true) := by rw [insT, if_pos h]
theorem insT_no {t : TableD} {row : List Int} (h : insOk t row = false) : insT t row = (t, false) := by rw [insT, if_neg (by rw [h]; decide)]
theorem delT_yes {t : TableD} {row : List Int} (h : hasR t row = true) : delT t row = (⟨t.name, t.arity, t.rows.eraseIdx (idxF (isR row) t.rows).toNat⟩, true) := by rw [delT, if_pos h]
theorem delT_no {t : TableD} {row : List Int} (h : hasR t row = false) : delT t row = (t, false) := by rw [delT, if_neg (by rw [h]; decide)]
theorem hasR_parts {t : TableD} {row : List Int} (h : hasR t row = true) : okTable t = true ∧ 0 ≤ idxF (isR row) t.rows := by
  simpa only [hasR, Bool.and_eq_true, decide_eq_true_eq] using h
theorem insOk_parts {t : TableD} {row : List Int} (h : insOk t row = true) : okTable t = true ∧ okRow t.arity row = true ∧ idxF (isR row) t.rows < 0 ∧ (t.rows.length : Int) < 8 := by
  simpa only [insOk, Bool.and_eq_true, decide_eq_true_eq] using h
theorem rows_small {t : TableD} (h : okTable t = true) : cIntSS t.rows ≤ 32 := by
  have hT := okTable_arity h
  have := cIntSS_bound (l := t.rows) (m := 3) fun r hr => by have := row_len h hr; omega
  omega
theorem okTable_small {t : TableD} (h : okTable t = true) : cTable t ≤ 64 := by
  have h1 := rows_small h
  have h2 := okTable_name h
  have h3 : cTable t = t.name.size + cIntSS t.rows := rfl
  omega
theorem cIntSS_snoc (l : List (List Int)) (r : List Int) : cIntSS (l ++ [r]) = cIntSS l + 1 + r.length := by
  induction l with
  | nil => rw [List.nil_append, cIntSS_cons]
  | cons a l ih => rw [List.cons_append, cIntSS_cons, cIntSS_cons, ih]; omega
theorem ins_small {t : TableD} {row : List Int} (h : insOk t row = true) : cIntSS (t.rows ++ [row]) ≤ 64 := by
  obtain ⟨h1, h2, _, _⟩ := insOk_parts h
  have hT := okTable_arity h1
  have h3 := rows_small h1
  simp only [okRow, Bool.and_eq_true, decide_eq_true_eq] at h2
  rw [cIntSS_snoc]
  omega
theorem ins_rows {t : TableD} {row : List Int} (h : okTable t = true) : dedR (sortR (t.rows ++ [row])) = putR row t.rows := by
  rw [← foldPut_ded, foldPut_snoc, foldPut_asc (ascR_asc (okTable_parts h).2.2)]
theorem del_rows : ∀ {l : List (List Int)} {k : Nat} {row : List Int}, Asc l → l[k]? = some row → l.filter (fun x => !isR row x) = l.eraseIdx k
  | [], k, row, _, hk => by simp at hk
  | a :: l, 0, row, ha, hk => by
    simp at hk
    subst hk
    rw [List.eraseIdx_cons_zero, List.filter_cons_of_neg (by simp [isR])]
    refine List.filter_eq_self.2 fun y hy => ?_
    have := (List.pairwise_cons.1 ha).1 y hy
    have hne : ¬ y = a := fun e => by rw [e, cmpR_self] at this; omega
    simp [isR, hne]
  | a :: l, k + 1, row, ha, hk => by
    have hk' : l[k]? = some row := by simpa using hk
    have := (List.pairwise_cons.1 ha).1 row (List.mem_of_getElem? hk')
    have hne : ¬ a = row := fun e => by rw [e, cmpR_self] at this; omega
    rw [List.eraseIdx_cons_succ, List.filter_cons_of_pos (by simp [isR, hne]), del_rows (List.pairwise_cons.1 ha).2 hk']
theorem del_same {t : TableD} {row : List Int} (h : hasR t row = true) : t.rows.filter (fun x => !isR row x) = t.rows.eraseIdx (idxF (isR row) t.rows).toNat := by
  obtain ⟨h1, h2⟩ := hasR_parts h
  obtain ⟨k, x, e, hx, hp, _⟩ := idxF_get h2
  have hxr : x = row := by simpa [isR] using hp
  subst hxr
  rw [e, Int.toNat_natCast]
  exact del_rows (ascR_asc (okTable_parts h1).2.2) hx
abbrev K_has_impl (t : TableD) (row : List Int) : Prop := Con Tryz.prog 229 [.agg [.str t.name, .int .i64 t.arity, .sl 32 1 (t.rows.map eIntS)], .one (.sl 3 1 (row.map intD))] (vB (hasR t row)) []
theorem has_impl (t : TableD) (row : List Int) : K_has_impl t row := by
 refine con_x tbOk mixedW Tryz.func229 (by kernel_rfl) (.call (vB (okTable t)) [] <| .br (.call (vI (idxF (isR row) t.rows)) [] <| .fin []) (.fin [])) ?_
 refine Eq.mpr (by kernel_rfl : _ = ((t.rows.map eIntS).length ≤ 9223372036854775807 → (row.map intD).length ≤ 9223372036854775807 → K_tab_impl t ∧ (((okTable t) = true → K_rowIdx t row ∧ (decide ((0 : Int) ≤ (idxF (isR row) t.rows))) = (hasR t row) ∧ True) ∧ ((okTable t) = false → (false) = (hasR t row) ∧ True)))) ?_
 intro n0 n1
 simp only [List.length_map] at n0 n1
 refine ⟨tab_impl t, fun g7 => ?_, fun g7 => ?_⟩
 ·refine ⟨rowIdx _ _, ?_, trivial⟩
  ·first | (simp [hasR, *]; done) | (simp [hasR, g7]; done)
 ·refine ⟨?_, trivial⟩
  ·first | (simp [hasR, *]; done) | (simp [hasR, g7]; done)
abbrev K_has_spec (t : TableD) (row : List Int) : Prop := Con Tryz.prog 209 [.agg [.str t.name, .int .i64 t.arity, .sl 32 1 (t.rows.map eIntS)], .one (.sl 3 1 (row.map intD))] (vB (hasR t row)) []
theorem has_spec (t : TableD) (row : List Int) : K_has_spec t row := by
 refine con_x tbOk mixedW Tryz.func209 (by kernel_rfl) (.loop Nat (Q1 Nat) [5, 6, 7, 8, 9, 10, 11, 12, 13, 14, 15, 16, 17, 18, 19, 20, 21, 22, 23, 24] [] (fun k => [(5, vI (k : Int))]) (fun k => []) (fun k => k ≤ t.rows.length ∧ (t.rows.take k).all (fun y => !isR row y) = true) (fun k => t.rows.length - k) (fun k => .len t.rows.length <| .br (.call (vB (okTable t)) [] <| .lit <| .br (.elem _ eIntS t.rows (fun e20 => .call (vI (cmpR e20 row)) [] <| .br (.fin []) (.back []))) (.fin [])) (.fin []))) ?_
 refine Eq.mpr (by kernel_rfl : _ = ((t.rows.map eIntS).length ≤ 9223372036854775807 → (row.map intD).length ≤ 9223372036854775807 → (∃ (k : Nat), (0 : Int) = (k : Int) ∧ k ≤ t.rows.length ∧ (t.rows.take k).all (fun y => !isR row y) = true) ∧ ∀ (k : Nat), (k ≤ t.rows.length ∧ (t.rows.take k).all (fun y => !isR row y) = true) → Lm eIntS t.rows ∧ (((decide ((k : Int) < ((t.rows.length : Nat) : Int))) = true → K_tab_spec t ∧ (((okTable t) = true → 0 ≤ (k : Int) ∧ Em eIntS t.rows k fun e20 => K_cmpRows_spec e20 row ∧ (((decide ((cmpR e20 row) = (0 : Int))) = true → (true) = (hasR t row) ∧ True) ∧ ((decide ((cmpR e20 row) = (0 : Int))) = false → inR ((k : Int) + (1 : Int)) ∧ ∃ (k' : Nat), ((k : Int) + (1 : Int)) = (k' : Int) ∧ (k' ≤ t.rows.length ∧ (t.rows.take k').all (fun y => !isR row y) = true) ∧ t.rows.length - k' < t.rows.length - k))) ∧ ((okTable t) = false → (false) = (hasR t row) ∧ True))) ∧ ((decide ((k : Int) < ((t.rows.length : Nat) : Int))) = false → (false) = (hasR t row) ∧ True)))) ?_
 intro n0 n1
 simp only [List.length_map] at n0 n1
 refine ⟨⟨0, rfl, Nat.zero_le _, rfl⟩, fun k ⟨hk, ha⟩ => ?_⟩
 refine ⟨List.length_map _, fun g11 => ?_, fun g11 => ?_⟩
 ·replace g11 := yq g11
  refine ⟨tab_spec t, fun c0 => ?_, fun c0 => ?_⟩
  ·refine ⟨by omega, rfl, by omega, fun e20 h20 => ?_⟩
   refine ⟨cmpRows_spec _ _, fun c1 => ?_, fun c1 => ?_⟩
   ·replace c1 := yq c1
    have hE := idxF_at (p := isR row) h20 ha (by simpa [isR] using cmpR_zero.1 c1)
    refine ⟨?_, trivial⟩
    ·first | (rw [hE]; done) | (rw [hasR, hE, c0]; simp)
   ·replace c1 := nq c1
    refine ⟨⟨by omega, by omega⟩, ?_⟩
    exact ⟨k + 1, rfl, ⟨by omega, all_snoc h20 ha (by simpa [isR] using fun q => c1 (cmpR_zero.2 q))⟩, by omega⟩
  ·have hE : hasR t row = false := by first | (rw [hasR, idxF_no (all_done (by omega) ha)]; simp; done) | (rw [hasR, c0]; rfl)
   refine ⟨?_, trivial⟩
   ·first | (rw [hE]; done) | (rw [hasR, hE, c0]; simp)
 ·replace g11 := nq g11
  have hE : hasR t row = false := by first | (rw [hasR, idxF_no (all_done (by omega) ha)]; simp; done) | (rw [hasR, c0]; rfl)
  refine ⟨?_, trivial⟩
  ·first | (rw [hE]; done) | (rw [hasR, hE, c0]; simp)
abbrev isN (n : ByteArray) : TableD → Bool := fun t => t.name.toList == n.toList
abbrev isI (v : Int) : Int → Bool := fun y => decide (v = y)
theorem idxF_find {α : Type} {p : α → Bool} {l : List α} : (idxF p l < 0 → l.find? p = none) ∧ (0 ≤ idxF p l → ∃ (k : Nat) (x : α), idxF p l = (k : Int) ∧ l[k]? = some x ∧ l.find? p = some x) := by
  unfold idxF
  cases e : l.findIdx? p with
  | none =>
    rw [List.findIdx?_eq_none_iff] at e
    refine ⟨fun _ => List.find?_eq_none.2 fun x hx => by rw [e x hx]; decide, fun h => absurd h (by decide)⟩
  | some k =>
    rw [List.findIdx?_eq_some_iff_getElem] at e
    obtain ⟨hk, hx, hj⟩ := e
    refine ⟨fun h => absurd h (by simp only; omega), fun _ => ⟨k, l[k], rfl, List.getElem?_eq_getElem hk, ?_⟩⟩
    rw [List.find?_eq_some_iff_getElem]
    exact ⟨hx, k, hk, rfl, fun j hjk => by have := hj j hjk; simpa using this⟩
theorem idxF_mem {l : List Int} {v : Int} : decide (0 ≤ idxF (isI v) l) = decide (v ∈ l) := by
  apply Bool.eq_iff_iff.2
  rw [decide_eq_true_eq, decide_eq_true_eq]
  constructor
  · intro h
    obtain ⟨k, x, _, hx, hf⟩ := idxF_find.2 h
    have h1 := List.find?_some hf
    have : v = x := by simpa [isI] using h1
    rw [this]; exact List.mem_of_getElem? hx
  · intro h
    rcases Int.lt_or_le (idxF (isI v) l) 0 with q | q
    · have := idxF_find.1 q
      rw [List.find?_eq_none] at this
      exact absurd (this v h) (by simp [isI])
    · exact q
def lookT (d : DatabaseD) (n : ByteArray) : TableD × Bool := if okDb d = true then (match d.tables.find? (isN n) with | some t => (t, true) | none => (zTable, false)) else (zTable, false)
theorem lookT_no {d : DatabaseD} {n : ByteArray} (h : okDb d = false ∨ d.tables.find? (isN n) = none) : lookT d n = (zTable, false) := by
  unfold lookT
  rcases h with h | h
  · rw [if_neg (by rw [h]; decide)]
  · rw [h]; split <;> rfl
theorem lookT_yes {d : DatabaseD} {n : ByteArray} {t : TableD} (h : okDb d = true) (hf : d.tables.find? (isN n) = some t) : lookT d n = (t, true) := by rw [lookT, if_pos h, hf]
theorem okDb_all {d : DatabaseD} (h : okDb d = true) : d.tables.all okTable = true := by
  simp only [okDb, Bool.and_eq_true] at h
  exact h.1
theorem lookT_ok {d : DatabaseD} {n : ByteArray} (h : (lookT d n).2 = true) : okTable (lookT d n).1 = true ∧ okDb d = true := by
  unfold lookT at *
  split at h
  · rename_i hd
    rw [if_pos hd]
    cases e : d.tables.find? (isN n) with
    | none => rw [e] at h; cases h
    | some t => exact ⟨List.all_eq_true.1 (okDb_all hd) t (List.mem_of_find?_eq_some e), hd⟩
  · cases h
abbrev K_lkT1 (t : TableD) (n : ByteArray) : Prop := Con Tryz.prog 224 [.agg [.str t.name, .int .i64 t.arity, .sl 32 1 (t.rows.map eIntS)], .ref [.str n]] (vB (isN n t)) []
theorem lkT1 (t : TableD) (n : ByteArray) : K_lkT1 t n := by
 refine con_x tbOk mixedW Tryz.func224 (by kernel_rfl) (.fin []) ?_
 refine Eq.mpr (by kernel_rfl : _ = ((t.rows.map eIntS).length ≤ 9223372036854775807 → (t.name.toList == n.toList) = (isN n t) ∧ True)) ?_
 intro n0
 simp only [List.length_map] at n0
 refine ⟨?_, trivial⟩
 ·rfl
abbrev K_lkTF (l : List TableD) (n : ByteArray) : Prop := Con Tryz.prog 223 [.one (.sl 162 3 (l.map eTable)), .fn 224 [[.str n]]] (vI (idxF (isN n) l)) []
theorem lkTF (l : List TableD) (n : ByteArray) : K_lkTF l n := by
 refine con_x tbOk mixedW Tryz.func223 (by kernel_rfl) (.len l.length <| .loop Nat (Q1 Nat) [5, 8, 9, 10, 11, 12, 13, 14, 15, 16, 18] [] (fun k => [(8, vI (k : Int))]) (fun k => []) (fun k => k ≤ l.length ∧ (l.take k).all (fun y => !isN n y) = true) (fun k => l.length - k) (fun k => .br (.elem _ eTable l (fun e14 => .call (vB (isN n e14)) [] <| .br (.fin []) (.back []))) (.fin []))) ?_
 refine Eq.mpr (by kernel_rfl : _ = ((l.map eTable).length ≤ 9223372036854775807 → Lm eTable l ∧ ((∃ (k : Nat), (0 : Int) = (k : Int) ∧ k ≤ l.length ∧ (l.take k).all (fun y => !isN n y) = true) ∧ ∀ (k : Nat), (k ≤ l.length ∧ (l.take k).all (fun y => !isN n y) = true) → ((decide ((k : Int) < ((l.length : Nat) : Int))) = true → 0 ≤ (k : Int) ∧ Em eTable l k fun e14 => K_lkT1 e14 n ∧ (((isN n e14) = true → (k : Int) = (idxF (isN n) l) ∧ True) ∧ ((isN n e14) = false → inR ((k : Int) + (1 : Int)) ∧ ∃ (k' : Nat), ((k : Int) + (1 : Int)) = (k' : Int) ∧ (k' ≤ l.length ∧ (l.take k').all (fun y => !isN n y) = true) ∧ l.length - k' < l.length - k))) ∧ ((decide ((k : Int) < ((l.length : Nat) : Int))) = false → (-1 : Int) = (idxF (isN n) l) ∧ True)))) ?_
 intro n0
 simp only [List.length_map] at n0
 refine ⟨List.length_map _, ⟨0, rfl, Nat.zero_le _, rfl⟩, fun k ⟨hk, ha⟩ => ?_⟩
 refine ⟨fun c0 => ?_, fun c0 => ?_⟩
 ·replace c0 := yq c0
  refine ⟨by omega, rfl, by omega, fun e14 h14 => ?_⟩
  refine ⟨lkT1 _ _, fun c1 => ?_, fun c1 => ?_⟩
  ·have hE := idxF_at (p := isN n) h14 ha c1
   refine ⟨?_, trivial⟩
   ·rw [hE]
  ·refine ⟨⟨by omega, by omega⟩, ?_⟩
   exact ⟨k + 1, rfl, ⟨by omega, all_snoc h14 ha (by simp [c1])⟩, by omega⟩
 ·replace c0 := nq c0
  have hE := idxF_no (p := isN n) (all_done (by omega) ha)
  refine ⟨?_, trivial⟩
  ·rw [hE]
abbrev k_lkT_impl (d : DatabaseD) (n : ByteArray) : AV × List (Nat × Rs) := (.tup [.agg [.p none (.str (((lookT d n).1).name)), vI (((lookT d n).1).arity), .own 0], vB ((lookT d n).2)], [(0, .arr 32 1 true ((((lookT d n).1).rows).map eIntS))])
abbrev K_lkT_impl (d : DatabaseD) (n : ByteArray) : Prop := Con Tryz.prog 148 [.agg [.sl 162 3 (d.tables.map eTable)], .one (.str n)] (k_lkT_impl d n).1 (k_lkT_impl d n).2
theorem lkT_impl (d : DatabaseD) (n : ByteArray) (hc : cDatabase d ≤ 1048576) : K_lkT_impl d n := by
 refine con_x tbOk mixedW Tryz.func148 (by kernel_rfl) (.call (vI (idxF (isN n) d.tables)) [] <| .br (.fin []) (.call (vB (okDb d)) [] <| .lit <| .lit <| .br (.fin []) (.elem _ eTable d.tables (fun e22 => callP (k_cpT_impl e22) <| .fin [(0, 2400)])))) ?_
 refine Eq.mpr (by kernel_rfl : _ = ((d.tables.map eTable).length ≤ 9223372036854775807 → K_lkTF d.tables n ∧ (((decide ((idxF (isN n) d.tables) < (0 : Int))) = true → ByteArray.empty = (((lookT d n).1).name) ∧ (0 : Int) = (((lookT d n).1).arity) ∧ (false) = ((lookT d n).2) ∧ [] = (((lookT d n).1).rows).map eIntS ∧ True) ∧ ((decide ((idxF (isN n) d.tables) < (0 : Int))) = false → K_db_impl d ∧ (((!(okDb d)) = true → ByteArray.empty = (((lookT d n).1).name) ∧ (0 : Int) = (((lookT d n).1).arity) ∧ (false) = ((lookT d n).2) ∧ [] = (((lookT d n).1).rows).map eIntS ∧ True) ∧ ((!(okDb d)) = false → 0 ≤ (idxF (isN n) d.tables) ∧ Em eTable d.tables ((idxF (isN n) d.tables).toNat) fun e22 => K_cpT_impl e22 ∧ e22.name = (((lookT d n).1).name) ∧ e22.arity = (((lookT d n).1).arity) ∧ (true) = ((lookT d n).2) ∧ e22.rows.map eIntS = (((lookT d n).1).rows).map eIntS ∧ True)))))) ?_
 intro n0
 simp only [List.length_map] at n0
 have q1 : cDatabase d = cTableS d.tables := rfl
 have hg := idxF_ge (isN n) d.tables
 refine ⟨lkTF _ _, fun g13 => ?_, fun g13 => ?_⟩
 ·replace g13 := yq g13
  have hbad : lookT d n = (zTable, false) := lookT_no (by first | (left; simpa using g15; done) | (left; simpa using c0; done) | (right; exact idxF_find.1 (by omega)))
  refine ⟨?_, ?_, ?_, ?_, trivial⟩
  ·first | (rw [hbad] <;> rfl) | (rw [hok] <;> rfl)
  ·first | (rw [hbad] <;> rfl) | (rw [hok] <;> rfl)
  ·first | (rw [hbad] <;> rfl) | (rw [hok] <;> rfl)
  ·first | (rw [hbad] <;> rfl) | (rw [hok] <;> rfl)
 ·replace g13 := nq g13
  refine ⟨db_impl d, fun c0 => ?_, fun c0 => ?_⟩
  ·replace c0 := nt c0
   have hbad : lookT d n = (zTable, false) := lookT_no (by first | (left; simpa using g15; done) | (left; simpa using c0; done) | (right; exact idxF_find.1 (by omega)))
   refine ⟨?_, ?_, ?_, ?_, trivial⟩
   ·first | (rw [hbad] <;> rfl) | (rw [hok] <;> rfl)
   ·first | (rw [hbad] <;> rfl) | (rw [hok] <;> rfl)
   ·first | (rw [hbad] <;> rfl) | (rw [hok] <;> rfl)
   ·first | (rw [hbad] <;> rfl) | (rw [hok] <;> rfl)
  ·replace c0 := nf c0
   have hd : okDb d = true := by simpa using c0
   obtain ⟨k, y, hk, hy, hf⟩ := idxF_find.2 (show 0 ≤ idxF (isN n) d.tables by omega)
   have hok := lookT_yes hd hf
   refine ⟨by omega, rfl, by omega, fun e22 h22 => ?_⟩
   have hyx : y = e22 := by rw [hk] at h22; exact (same_at (by simpa using h22) hy)
   have q2 := cTableS_el h22
   rw [hyx] at hok
   refine ⟨cpT_impl _ (by omega), ?_, ?_, ?_, ?_, trivial⟩
   ·first | (rw [hbad] <;> rfl) | (rw [hok] <;> rfl)
   ·first | (rw [hbad] <;> rfl) | (rw [hok] <;> rfl)
   ·first | (rw [hbad] <;> rfl) | (rw [hok] <;> rfl)
   ·first | (rw [hbad] <;> rfl) | (rw [hok] <;> rfl)
abbrev k_lkT_spec (d : DatabaseD) (n : ByteArray) : AV × List (Nat × Rs) := (.tup [.agg [.p none (.str (((lookT d n).1).name)), vI (((lookT d n).1).arity), .own 0], vB ((lookT d n).2)], [(0, .arr 32 1 true ((((lookT d n).1).rows).map eIntS))])
abbrev K_lkT_spec (d : DatabaseD) (n : ByteArray) : Prop := Con Tryz.prog 132 [.agg [.sl 162 3 (d.tables.map eTable)], .one (.str n)] (k_lkT_spec d n).1 (k_lkT_spec d n).2
theorem lkT_spec (d : DatabaseD) (n : ByteArray) (hc : cDatabase d ≤ 1048576) : K_lkT_spec d n := by
 refine con_x tbOk mixedW Tryz.func132 (by kernel_rfl) (.loop Nat (Q1 Nat) [6, 7, 8, 9, 10, 11, 12, 13, 14, 15, 16, 17, 18, 19, 20, 21, 22, 23, 24, 25] [] (fun k => [(6, vI (k : Int))]) (fun k => []) (fun k => k ≤ d.tables.length ∧ (d.tables.take k).all (fun y => !isN n y) = true) (fun k => d.tables.length - k) (fun k => .len d.tables.length <| .br (.call (vB (okDb d)) [] <| .lit <| .br (.elem _ eTable d.tables (fun e21 => .br (.elem _ eTable d.tables (fun e29 => callP (k_cpT_spec e29) <| .fin [(0, 3100)])) (.back []))) (.fin [])) (.fin []))) ?_
 refine Eq.mpr (by kernel_rfl : _ = ((d.tables.map eTable).length ≤ 9223372036854775807 → (∃ (k : Nat), (0 : Int) = (k : Int) ∧ k ≤ d.tables.length ∧ (d.tables.take k).all (fun y => !isN n y) = true) ∧ ∀ (k : Nat), (k ≤ d.tables.length ∧ (d.tables.take k).all (fun y => !isN n y) = true) → Lm eTable d.tables ∧ (((decide ((k : Int) < ((d.tables.length : Nat) : Int))) = true → K_db_spec d ∧ (((okDb d) = true → 0 ≤ (k : Int) ∧ Em eTable d.tables k fun e21 => ((e21.name.toList == n.toList) = true → 0 ≤ (k : Int) ∧ Em eTable d.tables k fun e29 => K_cpT_spec e29 ∧ e29.name = (((lookT d n).1).name) ∧ e29.arity = (((lookT d n).1).arity) ∧ (true) = ((lookT d n).2) ∧ e29.rows.map eIntS = (((lookT d n).1).rows).map eIntS ∧ True) ∧ ((e21.name.toList == n.toList) = false → inR ((k : Int) + (1 : Int)) ∧ ∃ (k' : Nat), ((k : Int) + (1 : Int)) = (k' : Int) ∧ (k' ≤ d.tables.length ∧ (d.tables.take k').all (fun y => !isN n y) = true) ∧ d.tables.length - k' < d.tables.length - k)) ∧ ((okDb d) = false → ByteArray.empty = (((lookT d n).1).name) ∧ (0 : Int) = (((lookT d n).1).arity) ∧ (false) = ((lookT d n).2) ∧ [] = (((lookT d n).1).rows).map eIntS ∧ True))) ∧ ((decide ((k : Int) < ((d.tables.length : Nat) : Int))) = false → ByteArray.empty = (((lookT d n).1).name) ∧ (0 : Int) = (((lookT d n).1).arity) ∧ (false) = ((lookT d n).2) ∧ [] = (((lookT d n).1).rows).map eIntS ∧ True)))) ?_
 intro n0
 simp only [List.length_map] at n0
 have q1 : cDatabase d = cTableS d.tables := rfl
 refine ⟨⟨0, rfl, Nat.zero_le _, rfl⟩, fun k ⟨hk, ha⟩ => ?_⟩
 refine ⟨List.length_map _, fun g12 => ?_, fun g12 => ?_⟩
 ·replace g12 := yq g12
  refine ⟨db_spec d, fun c0 => ?_, fun c0 => ?_⟩
  ·refine ⟨by omega, rfl, by omega, fun e21 h21 => ?_⟩
   try (obtain rfl := (same_at h21 h21).symm)
   have q2 := cTableS_el h21
   refine ⟨fun c1 => ?_, fun c1 => ?_⟩
   ·have hok := lookT_yes (n := n) c0 (find_at (p := isN n) h21 ha c1)
    refine ⟨by omega, rfl, by omega, fun e29 h29 => ?_⟩
    try (obtain rfl := (same_at h21 h29).symm)
    refine ⟨cpT_spec _ (by omega), ?_, ?_, ?_, ?_, trivial⟩
    ·first | (rw [hbad] <;> rfl) | (rw [hok] <;> rfl)
    ·first | (rw [hbad] <;> rfl) | (rw [hok] <;> rfl)
    ·first | (rw [hbad] <;> rfl) | (rw [hok] <;> rfl)
    ·first | (rw [hbad] <;> rfl) | (rw [hok] <;> rfl)
   ·refine ⟨⟨by omega, by omega⟩, ?_⟩
    exact ⟨k + 1, rfl, ⟨by omega, all_snoc h21 ha (by simp [isN, c1])⟩, by omega⟩
  ·have hbad : lookT d n = (zTable, false) := lookT_no (by first | (left; exact c0) | (right; exact find_no (all_done (by omega) ha)))
   refine ⟨?_, ?_, ?_, ?_, trivial⟩
   ·first | (rw [hbad] <;> rfl) | (rw [hok] <;> rfl)
   ·first | (rw [hbad] <;> rfl) | (rw [hok] <;> rfl)
   ·first | (rw [hbad] <;> rfl) | (rw [hok] <;> rfl)
   ·first | (rw [hbad] <;> rfl) | (rw [hok] <;> rfl)
 ·replace g12 := nq g12
  have hbad : lookT d n = (zTable, false) := lookT_no (by first | (left; exact c0) | (right; exact find_no (all_done (by omega) ha)))
  refine ⟨?_, ?_, ?_, ?_, trivial⟩
  ·first | (rw [hbad] <;> rfl) | (rw [hok] <;> rfl)
  ·first | (rw [hbad] <;> rfl) | (rw [hok] <;> rfl)
  ·first | (rw [hbad] <;> rfl) | (rw [hok] <;> rfl)
  ·first | (rw [hbad] <;> rfl) | (rw [hok] <;> rfl)
abbrev K_ixI (l : List Int) (v : Int) : Prop := Con Tryz.prog 187 [.one (.sl 3 1 (l.map intD)), .one (.int .i64 v)] (vI (idxF (isI v) l)) []
theorem ixI (l : List Int) (v : Int) : K_ixI l v := by
 refine con_x tbOk mixedW Tryz.func187 (by kernel_rfl) (.len l.length <| .loop Nat (Q1 Nat) [5, 8, 9, 10, 11, 12, 13, 14, 15, 16, 18] [] (fun k => [(8, vI (k : Int))]) (fun k => []) (fun k => k ≤ l.length ∧ (l.take k).all (fun y => !isI v y) = true) (fun k => l.length - k) (fun k => .br (.elem _ intD l (fun e14 => .br (.fin []) (.back []))) (.fin []))) ?_
 refine Eq.mpr (by kernel_rfl : _ = ((l.map intD).length ≤ 9223372036854775807 → Lm intD l ∧ ((∃ (k : Nat), (0 : Int) = (k : Int) ∧ k ≤ l.length ∧ (l.take k).all (fun y => !isI v y) = true) ∧ ∀ (k : Nat), (k ≤ l.length ∧ (l.take k).all (fun y => !isI v y) = true) → ((decide ((k : Int) < ((l.length : Nat) : Int))) = true → 0 ≤ (k : Int) ∧ Em intD l k fun e14 => ((decide (v = e14)) = true → (k : Int) = (idxF (isI v) l) ∧ True) ∧ ((decide (v = e14)) = false → inR ((k : Int) + (1 : Int)) ∧ ∃ (k' : Nat), ((k : Int) + (1 : Int)) = (k' : Int) ∧ (k' ≤ l.length ∧ (l.take k').all (fun y => !isI v y) = true) ∧ l.length - k' < l.length - k)) ∧ ((decide ((k : Int) < ((l.length : Nat) : Int))) = false → (-1 : Int) = (idxF (isI v) l) ∧ True)))) ?_
 intro n0
 simp only [List.length_map] at n0
 refine ⟨List.length_map _, ⟨0, rfl, Nat.zero_le _, rfl⟩, fun k ⟨hk, ha⟩ => ?_⟩
 refine ⟨fun c0 => ?_, fun c0 => ?_⟩
 ·replace c0 := yq c0
  refine ⟨by omega, rfl, by omega, fun e14 h14 => ?_⟩
  refine ⟨fun c1 => ?_, fun c1 => ?_⟩
  ·replace c1 := yq c1
   have hE := idxF_at (p := isI v) h14 ha (by simpa [isI] using c1)
   refine ⟨?_, trivial⟩
   ·rw [hE]
  ·replace c1 := nq c1
   refine ⟨⟨by omega, by omega⟩, ?_⟩
   exact ⟨k + 1, rfl, ⟨by omega, all_snoc h14 ha (by simpa [isI] using c1)⟩, by omega⟩
 ·replace c0 := nq c0
  have hE := idxF_no (p := isI v) (all_done (by omega) ha)
  refine ⟨?_, trivial⟩
  ·rw [hE]
abbrev K_ctI (l : List Int) (v : Int) : Prop := Con Tryz.prog 115 [.one (.sl 3 1 (l.map intD)), .one (.int .i64 v)] (vB (decide (v ∈ l))) []
theorem ctI (l : List Int) (v : Int) : K_ctI l v := by
 refine con_x tbOk mixedW Tryz.func115 (by kernel_rfl) (.call (vI (idxF (isI v) l)) [] <| .fin []) ?_
 refine Eq.mpr (by kernel_rfl : _ = ((l.map intD).length ≤ 9223372036854775807 → K_ixI l v ∧ (decide ((0 : Int) ≤ (idxF (isI v) l))) = (decide (v ∈ l)) ∧ True)) ?_
 intro n0
 simp only [List.length_map] at n0
 refine ⟨ixI _ _, ?_, trivial⟩
 ·exact idxF_mem
abbrev K_hsI (l : List Int) (v : Int) : Prop := Con Tryz.prog 170 [.one (.sl 3 1 (l.map intD)), .one (.int .i64 v)] (vB (decide (v ∈ l))) []
theorem hsI (l : List Int) (v : Int) : K_hsI l v := by
 refine con_x tbOk mixedW Tryz.func170 (by kernel_rfl) (.loop Nat (Q1 Nat) [5, 6, 7, 8, 9, 10, 11, 12, 13, 14, 15, 16, 17] [] (fun k => [(5, vI (k : Int))]) (fun k => []) (fun k => k ≤ l.length ∧ (l.take k).all (fun y => !isI v y) = true) (fun k => l.length - k) (fun k => .len l.length <| .br (.elem _ intD l (fun e14 => .br (.fin []) (.back []))) (.fin []))) ?_
 refine Eq.mpr (by kernel_rfl : _ = ((l.map intD).length ≤ 9223372036854775807 → (∃ (k : Nat), (0 : Int) = (k : Int) ∧ k ≤ l.length ∧ (l.take k).all (fun y => !isI v y) = true) ∧ ∀ (k : Nat), (k ≤ l.length ∧ (l.take k).all (fun y => !isI v y) = true) → Lm intD l ∧ (((decide ((k : Int) < ((l.length : Nat) : Int))) = true → 0 ≤ (k : Int) ∧ Em intD l k fun e14 => ((decide (e14 = v)) = true → (true) = (decide (v ∈ l)) ∧ True) ∧ ((decide (e14 = v)) = false → inR ((k : Int) + (1 : Int)) ∧ ∃ (k' : Nat), ((k : Int) + (1 : Int)) = (k' : Int) ∧ (k' ≤ l.length ∧ (l.take k').all (fun y => !isI v y) = true) ∧ l.length - k' < l.length - k)) ∧ ((decide ((k : Int) < ((l.length : Nat) : Int))) = false → (false) = (decide (v ∈ l)) ∧ True)))) ?_
 intro n0
 simp only [List.length_map] at n0
 refine ⟨⟨0, rfl, Nat.zero_le _, rfl⟩, fun k ⟨hk, ha⟩ => ?_⟩
 refine ⟨List.length_map _, fun c0 => ?_, fun c0 => ?_⟩
 ·replace c0 := yq c0
  refine ⟨by omega, rfl, by omega, fun e14 h14 => ?_⟩
  refine ⟨fun c1 => ?_, fun c1 => ?_⟩
  ·replace c1 := yq c1
   have hE : decide (v ∈ l) = true := by rw [← c1]; exact decide_eq_true (List.mem_of_getElem? h14)
   refine ⟨?_, trivial⟩
   ·rw [hE]
  ·replace c1 := nq c1
   refine ⟨⟨by omega, by omega⟩, ?_⟩
   exact ⟨k + 1, rfl, ⟨by omega, all_snoc h14 ha (by simpa [isI] using fun q => c1 (Eq.symm q))⟩, by omega⟩
 ·replace c0 := nq c0
  have hE : decide (v ∈ l) = false := by rw [← idxF_mem, idxF_no (p := isI v) (all_done (by omega) ha)]; rfl
  refine ⟨?_, trivial⟩
  ·rw [hE]
def okDep (d : DatabaseD) (f : DependencyD) : Bool := (lookT d f.name).2 && (colsOk ((lookT d f.name).1.arity - 1) f.src && (inB f.dst 0 ((lookT d f.name).1.arity - 1) && !decide (f.dst ∈ f.src)))
def badP (rows : List (List Int)) (cols : List Int) (c : Int) (i k : Nat) : Bool := decide ((selR (rows.getD i []) cols).1 = (selR (rows.getD k []) cols).1) && !decide ((rows.getD i []).getD c.toNat 0 = (rows.getD k []).getD c.toNat 0)
def violI (rows : List (List Int)) (cols : List Int) (c : Int) (k : Nat) : Nat → List Int
  | 0 => []
  | i + 1 => if violI rows cols c k i = [] ∧ badP rows cols c i k = true then [(i : Int), (k : Int)] else violI rows cols c k i
def violK (rows : List (List Int)) (cols : List Int) (c : Int) : Nat → List Int
  | 0 => []
  | k + 1 => if violK rows cols c k = [] then violI rows cols c k k else violK rows cols c k
def violL (d : DatabaseD) (f : DependencyD) : List Int := if okDep d f = true then violK (lookT d f.name).1.rows f.src f.dst (lookT d f.name).1.rows.length else []
theorem violI_no {rows : List (List Int)} {cols : List Int} {c : Int} {k i : Nat} (h : violI rows cols c k i = []) (hb : badP rows cols c i k = false) : violI rows cols c k (i + 1) = [] := by rw [violI, if_neg (by simp [hb]), h]
theorem violI_stay {rows : List (List Int)} {cols : List Int} {c : Int} {k i : Nat} (h : ¬ violI rows cols c k i = []) : ∀ j, violI rows cols c k (i + j) = violI rows cols c k i
  | 0 => rfl
  | j + 1 => by rw [Nat.add_succ, violI, violI_stay h j, if_neg (by simp [h])]
theorem violK_stay {rows : List (List Int)} {cols : List Int} {c : Int} {k : Nat} (h : ¬ violK rows cols c k = []) : ∀ j, violK rows cols c (k + j) = violK rows cols c k
  | 0 => rfl
  | j + 1 => by rw [Nat.add_succ, violK, violK_stay h j, if_neg h]
theorem viol_found {rows : List (List Int)} {cols : List Int} {c : Int} {k i n : Nat} (hk : violK rows cols c k = []) (hi : violI rows cols c k i = []) (hb : badP rows cols c i k = true) (hik : i < k) (hkn : k < n) : violK rows cols c n = [(i : Int), (k : Int)] := by
  have h1 : violI rows cols c k (i + 1) = [(i : Int), (k : Int)] := by rw [violI, if_pos ⟨hi, hb⟩]
  have h2 : violI rows cols c k k = [(i : Int), (k : Int)] := by
    have := violI_stay (rows := rows) (cols := cols) (c := c) (k := k) (i := i + 1) (by rw [h1]; simp) (k - (i + 1))
    rw [show i + 1 + (k - (i + 1)) = k by omega, h1] at this
    exact this
  have h3 : violK rows cols c (k + 1) = [(i : Int), (k : Int)] := by rw [violK, if_pos hk, h2]
  have := violK_stay (rows := rows) (cols := cols) (c := c) (k := k + 1) (by rw [h3]; simp) (n - (k + 1))
  rw [show k + 1 + (n - (k + 1)) = n by omega, h3] at this
  exact this
theorem violK_next {rows : List (List Int)} {cols : List Int} {c : Int} {k : Nat} (hk : violK rows cols c k = []) (hi : violI rows cols c k k = []) : violK rows cols c (k + 1) = [] := by rw [violK, if_pos hk, hi]
theorem okDep_parts {d : DatabaseD} {f : DependencyD} (h : okDep d f = true) : okTable (lookT d f.name).1 = true ∧ 0 ≤ f.dst ∧ f.dst ≤ (lookT d f.name).1.arity - 1 ∧ f.src.length ≤ 3 := by
  simp only [okDep, Bool.and_eq_true] at h
  obtain ⟨h1, h2, h3, _⟩ := h
  have hT := (lookT_ok h1).1
  have ha := okTable_arity hT
  have := inB_true h3
  exact ⟨hT, this.1, this.2, cols_len h2 (by omega)⟩
theorem badP_at {rows : List (List Int)} {cols : List Int} {c : Int} {i k : Nat} {x y : List Int} (hx : rows[i]? = some x) (hy : rows[k]? = some y) : badP rows cols c i k = (decide ((selR x cols).1 = (selR y cols).1) && !decide (x.getD c.toNat 0 = y.getD c.toNat 0)) := by
  rw [badP, getD_at hx, getD_at hy]
def depOk (d : DatabaseD) (f : DependencyD) : Bool := okDep d f && decide (violL d f = [])
theorem len_zero {α : Type} [DecidableEq α] (l : List α) : decide (((l.length : Nat) : Int) = 0) = decide (l = []) := by
  cases l with
  | nil => rfl
  | cons a l => simp; omega
abbrev K_okDep_impl (d : DatabaseD) (f : DependencyD) : Prop := Con Tryz.prog 231 [.agg [.sl 162 3 (d.tables.map eTable)], .agg [.str f.name, .sl 3 1 (f.src.map intD), .int .i64 f.dst]] (vB (okDep d f)) []
theorem okDep_impl (d : DatabaseD) (f : DependencyD) (hc : cDatabase d ≤ 1048576) : K_okDep_impl d f := by
 refine con_x tbOk mixedW Tryz.func231 (by kernel_rfl) (.call (.tup [.agg [.p none (.str (((lookT d f.name).1).name)), vI (((lookT d f.name).1).arity), .p none (.sl 32 1 ((((lookT d f.name).1).rows).map eIntS))], vB ((lookT d f.name).2)]) [] <| .br (.call (vB (colsOk ((((lookT d f.name).1).arity) - 1) f.src)) [] <| .lit <| .br (.raw <| .call (vB (inB f.dst (0 : Int) (IntKind.i64.wrap ((((lookT d f.name).1).arity) - (1 : Int))))) [] <| .lit <| .br (.call (vB (decide (f.dst ∈ f.src))) [] <| .fin []) (.fin [])) (.fin [])) (.fin [])) ?_
 refine Eq.mpr (by kernel_rfl : _ = ((d.tables.map eTable).length ≤ 9223372036854775807 → (f.src.map intD).length ≤ 9223372036854775807 → Con Tryz.prog 148 [.agg [.sl 162 3 (d.tables.map eTable)], .one (.str f.name)] (.tup [.agg [.p none (.str (((lookT d f.name).1).name)), vI (((lookT d f.name).1).arity), .p none (.sl 32 1 ((((lookT d f.name).1).rows).map eIntS))], vB ((lookT d f.name).2)]) [] ∧ ((((lookT d f.name).2) = true → K_cols_impl f.src (((lookT d f.name).1).arity) ∧ (((colsOk ((((lookT d f.name).1).arity) - 1) f.src) = true → K_in_impl f.dst (0 : Int) (IntKind.i64.wrap ((((lookT d f.name).1).arity) - (1 : Int))) ∧ (((inB f.dst (0 : Int) (IntKind.i64.wrap ((((lookT d f.name).1).arity) - (1 : Int)))) = true → K_ctI f.src f.dst ∧ (!(decide (f.dst ∈ f.src))) = (okDep d f) ∧ True) ∧ ((inB f.dst (0 : Int) (IntKind.i64.wrap ((((lookT d f.name).1).arity) - (1 : Int)))) = false → (false) = (okDep d f) ∧ True))) ∧ ((colsOk ((((lookT d f.name).1).arity) - 1) f.src) = false → (false) = (okDep d f) ∧ True))) ∧ (((lookT d f.name).2) = false → (false) = (okDep d f) ∧ True)))) ?_
 intro n0 n1
 simp only [List.length_map] at n0 n1
 refine ⟨con_stl (lkT_impl _ f.name (by omega)) rfl, fun g15 => ?_, fun g15 => ?_⟩
 ·have hT := (lookT_ok g15).1
  have hA := okTable_arity hT
  have hw : IntKind.i64.wrap ((lookT d f.name).1.arity - 1) = (lookT d f.name).1.arity - 1 := IntWalk.i64_in _ ⟨by omega, by omega⟩
  try rw [hw]
  refine ⟨cols_impl _ _ (by omega), fun g22 => ?_, fun g22 => ?_⟩
  ·refine ⟨in_impl _ _ _, fun g30 => ?_, fun g30 => ?_⟩
   ·refine ⟨ctI _ _, ?_, trivial⟩
    ·first | (simp [okDep, *]; done) | (simp [okDep, *] at *; simp [*]; done) | (simp_all [okDep]; done)
   ·refine ⟨?_, trivial⟩
    ·first | (simp [okDep, *]; done) | (simp [okDep, *] at *; simp [*]; done) | (simp_all [okDep]; done)
  ·refine ⟨?_, trivial⟩
   ·first | (simp [okDep, *]; done) | (simp [okDep, *] at *; simp [*]; done) | (simp_all [okDep]; done)
 ·refine ⟨?_, trivial⟩
  ·first | (simp [okDep, *]; done) | (simp [okDep, *] at *; simp [*]; done) | (simp_all [okDep]; done)
abbrev K_okDep_spec (d : DatabaseD) (f : DependencyD) : Prop := Con Tryz.prog 212 [.agg [.sl 162 3 (d.tables.map eTable)], .agg [.str f.name, .sl 3 1 (f.src.map intD), .int .i64 f.dst]] (vB (okDep d f)) []
theorem okDep_spec (d : DatabaseD) (f : DependencyD) (hc : cDatabase d ≤ 1048576) : K_okDep_spec d f := by
 refine con_x tbOk mixedW Tryz.func212 (by kernel_rfl) (.call (.tup [.agg [.p none (.str (((lookT d f.name).1).name)), vI (((lookT d f.name).1).arity), .p none (.sl 32 1 ((((lookT d f.name).1).rows).map eIntS))], vB ((lookT d f.name).2)]) [] <| .br (.call (vB (okTable ((lookT d f.name).1) && colsOk (((lookT d f.name).1).arity - 1) f.src)) [] <| .lit <| .br (.raw <| .call (vB (inB f.dst (0 : Int) (IntKind.i64.wrap ((((lookT d f.name).1).arity) - (1 : Int))))) [] <| .lit <| .br (.call (vB (decide (f.dst ∈ f.src))) [] <| .fin []) (.fin [])) (.fin [])) (.fin [])) ?_
 refine Eq.mpr (by kernel_rfl : _ = ((d.tables.map eTable).length ≤ 9223372036854775807 → (f.src.map intD).length ≤ 9223372036854775807 → Con Tryz.prog 132 [.agg [.sl 162 3 (d.tables.map eTable)], .one (.str f.name)] (.tup [.agg [.p none (.str (((lookT d f.name).1).name)), vI (((lookT d f.name).1).arity), .p none (.sl 32 1 ((((lookT d f.name).1).rows).map eIntS))], vB ((lookT d f.name).2)]) [] ∧ ((((lookT d f.name).2) = true → K_cols_spec ((lookT d f.name).1) f.src ∧ (((okTable ((lookT d f.name).1) && colsOk (((lookT d f.name).1).arity - 1) f.src) = true → K_in_spec f.dst (0 : Int) (IntKind.i64.wrap ((((lookT d f.name).1).arity) - (1 : Int))) ∧ (((inB f.dst (0 : Int) (IntKind.i64.wrap ((((lookT d f.name).1).arity) - (1 : Int)))) = true → K_hsI f.src f.dst ∧ (!(decide (f.dst ∈ f.src))) = (okDep d f) ∧ True) ∧ ((inB f.dst (0 : Int) (IntKind.i64.wrap ((((lookT d f.name).1).arity) - (1 : Int)))) = false → (false) = (okDep d f) ∧ True))) ∧ ((okTable ((lookT d f.name).1) && colsOk (((lookT d f.name).1).arity - 1) f.src) = false → (false) = (okDep d f) ∧ True))) ∧ (((lookT d f.name).2) = false → (false) = (okDep d f) ∧ True)))) ?_
 intro n0 n1
 simp only [List.length_map] at n0 n1
 refine ⟨con_stl (lkT_spec _ f.name (by omega)) rfl, fun g15 => ?_, fun g15 => ?_⟩
 ·have hT := (lookT_ok g15).1
  have hA := okTable_arity hT
  have hw : IntKind.i64.wrap ((lookT d f.name).1.arity - 1) = (lookT d f.name).1.arity - 1 := IntWalk.i64_in _ ⟨by omega, by omega⟩
  try rw [hw]
  refine ⟨cols_spec ((lookT d f.name).1) _, fun g21 => ?_, fun g21 => ?_⟩
  ·refine ⟨in_spec _ _ _, fun g29 => ?_, fun g29 => ?_⟩
   ·refine ⟨hsI _ _, ?_, trivial⟩
    ·first | (simp [okDep, *]; done) | (simp [okDep, *] at *; simp [*]; done) | (simp_all [okDep]; done)
   ·refine ⟨?_, trivial⟩
    ·first | (simp [okDep, *]; done) | (simp [okDep, *] at *; simp [*]; done) | (simp_all [okDep]; done)
  ·refine ⟨?_, trivial⟩
   ·first | (simp [okDep, *]; done) | (simp [okDep, *] at *; simp [*]; done) | (simp_all [okDep]; done)
 ·refine ⟨?_, trivial⟩
  ·first | (simp [okDep, *]; done) | (simp [okDep, *] at *; simp [*]; done) | (simp_all [okDep]; done)
end Go.Proofs.YtokkjaflmcjlhaaGreat
