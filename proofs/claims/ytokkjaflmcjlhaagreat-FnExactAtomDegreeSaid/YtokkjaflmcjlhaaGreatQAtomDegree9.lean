/-
  Contracts and plain laws, joined: part 10.
-/
import Derived.Test.YtokkjaflmcjlhaaGreatQAtomDegree8
import Derived.Test.YtokkjaflmcjlhaaGreatQAtomDegree7
import Derived.Test.YtokkjaflmcjlhaaGreatQAtomDegree5
import Derived.IntWalk
import Derived.Test.YtokkjaflmcjlhaaGreatQAtomDegree3
import Derived.Shelf.Sort.Plain
import Derived.Shelf.Slices.In.SortNone
import Derived.Sort.OwnSortedInts
namespace Go.Proofs.YtokkjaflmcjlhaaGreat
open Go.ChangeShapes Go.WideShapes Go.ChangeAt Go.RowKit
set_option linter.unusedVariables false
set_option linter.unusedSimpArgs false
set_option maxRecDepth 100000
set_option maxHeartbeats 4000000
def catOf (d : DatabaseD) (v : Int) : CatalogueD × Bool := if (okDb d && inB v 1 999) = true then (⟨v, d.tables.map statsOf⟩, true) else (zCatalogue, false)
theorem catOf_yes {d : DatabaseD} {v : Int} (h : (okDb d && inB v 1 999) = true) : catOf d v = (⟨v, d.tables.map statsOf⟩, true) := by rw [catOf, if_pos h]
theorem catOf_no {d : DatabaseD} {v : Int} (h : (okDb d && inB v 1 999) = false) : catOf d v = (zCatalogue, false) := by rw [catOf, if_neg (by rw [h]; decide)]
theorem okDb_len {d : DatabaseD} (h : okDb d = true) : d.tables.length ≤ 6 := by
  simp only [okDb, Bool.and_eq_true, decide_eq_true_eq] at h
  omega
abbrev k_cat_impl (d : DatabaseD) (v : Int) : AV × List (Nat × Rs) := (.tup [.agg [vI (((catOf d v).1).version), .own 0], vB ((catOf d v).2)], [(0, .arr 121 4 true ((((catOf d v).1).tables).map eTableStats))])
abbrev K_cat_impl (d : DatabaseD) (v : Int) : Prop := Con Tryz.prog 76 [.agg [.sl 162 3 (d.tables.map eTable)], .one (.int .i64 v)] (k_cat_impl d v).1 (k_cat_impl d v).2
theorem cat_impl (d : DatabaseD) (v : Int) : K_cat_impl d v := by
 refine con_x tbOk mixedW Tryz.func76 (by kernel_rfl) (.call (vB (okDb d)) [] <| .br (.fin []) (.call (vB (inB v (1 : Int) (999 : Int))) [] <| .lit <| .lit <| .br (.fin []) (.len d.tables.length <| .loop (Nat × (List TableStatsD)) (Q2 Nat (List TableStatsD)) [8, 23, 24, 25, 26, 27, 28, 29, 30, 31, 32, 33, 34] [600, 800, 3000, 3100, 3200, 9000] (fun yy0 => [(23, vI (yy0.1 : Int))]) (fun yy0 => [(600, some (.box 42 [vI v, .own 9000])), (9000, some (.arr 121 4 true (yy0.2.map eTableStats)))]) (fun yy0 => yy0.1 ≤ d.tables.length ∧ yy0.2 = (d.tables.take yy0.1).map statsOf) (fun yy0 => d.tables.length - yy0.1) (fun yy0 => .br (.elem _ eTable d.tables (fun e25 => callP (k_st_impl e25) <| .appx TableStatsD eTableStats yy0.2 (statsOf e25) <| .back [(600, 600), (9000, 3200)])) (.fin [(0, 9000)]))))) ?_
 refine Eq.mpr (by kernel_rfl : _ = ((d.tables.map eTable).length ≤ 9223372036854775807 → K_db_impl d ∧ (((!(okDb d)) = true → (0 : Int) = (((catOf d v).1).version) ∧ (false) = ((catOf d v).2) ∧ [] = (((catOf d v).1).tables).map eTableStats ∧ True) ∧ ((!(okDb d)) = false → K_in_impl v (1 : Int) (999 : Int) ∧ (((!(inB v (1 : Int) (999 : Int))) = true → (0 : Int) = (((catOf d v).1).version) ∧ (false) = ((catOf d v).2) ∧ [] = (((catOf d v).1).tables).map eTableStats ∧ True) ∧ ((!(inB v (1 : Int) (999 : Int))) = false → Lm eTable d.tables ∧ ((∃ (k : Nat) (out : List TableStatsD), (0 : Int) = (k : Int) ∧ v = v ∧ [] = out.map eTableStats ∧ k ≤ d.tables.length ∧ out = (d.tables.take k).map statsOf) ∧ ∀ (k : Nat) (out : List TableStatsD), (k ≤ d.tables.length ∧ out = (d.tables.take k).map statsOf) → ((decide ((k : Int) < ((d.tables.length : Nat) : Int))) = true → 0 ≤ (k : Int) ∧ Em eTable d.tables k fun e25 => K_st_impl e25 ∧ out.map eTableStats = out.map eTableStats ∧ ((statsOf e25).name) = ((statsOf e25).name) ∧ ((statsOf e25).arity) = ((statsOf e25).arity) ∧ ((statsOf e25).rowCount) = ((statsOf e25).rowCount) ∧ ((statsOf e25).groups).map eGroupStats = ((statsOf e25).groups).map eGroupStats ∧ (out.length + 1) * 56 ≤ 140737488355328 ∧ inR ((k : Int) + (1 : Int)) ∧ ∃ (k' : Nat) (out' : List TableStatsD), ((k : Int) + (1 : Int)) = (k' : Int) ∧ v = v ∧ (out ++ [(statsOf e25)]).map eTableStats = out'.map eTableStats ∧ (k' ≤ d.tables.length ∧ out' = (d.tables.take k').map statsOf) ∧ d.tables.length - k' < d.tables.length - k) ∧ ((decide ((k : Int) < ((d.tables.length : Nat) : Int))) = false → v = (((catOf d v).1).version) ∧ (true) = ((catOf d v).2) ∧ out.map eTableStats = (((catOf d v).1).tables).map eTableStats ∧ True)))))))) ?_
 intro n0
 simp only [List.length_map] at n0
 refine ⟨db_impl d, fun g12 => ?_, fun g12 => ?_⟩
 ·replace g12 := nt g12
  have hbad : (okDb d && inB v 1 999) = false := by simp_all
  refine ⟨?_, ?_, ?_, trivial⟩
  ·first | (rw [catOf_no hbad] <;> rfl) | (rw [catOf_yes hok] <;> rfl) | (rw [catOf_yes hok, ho, List.take_of_length_le (by omega)])
  ·first | (rw [catOf_no hbad] <;> rfl) | (rw [catOf_yes hok] <;> rfl) | (rw [catOf_yes hok, ho, List.take_of_length_le (by omega)])
  ·first | (rw [catOf_no hbad] <;> rfl) | (rw [catOf_yes hok] <;> rfl) | (rw [catOf_yes hok, ho, List.take_of_length_le (by omega)])
 ·replace g12 := nf g12
  refine ⟨in_impl _ _ _, fun c0 => ?_, fun c0 => ?_⟩
  ·replace c0 := nt c0
   have hbad : (okDb d && inB v 1 999) = false := by simp_all
   refine ⟨?_, ?_, ?_, trivial⟩
   ·first | (rw [catOf_no hbad] <;> rfl) | (rw [catOf_yes hok] <;> rfl) | (rw [catOf_yes hok, ho, List.take_of_length_le (by omega)])
   ·first | (rw [catOf_no hbad] <;> rfl) | (rw [catOf_yes hok] <;> rfl) | (rw [catOf_yes hok, ho, List.take_of_length_le (by omega)])
   ·first | (rw [catOf_no hbad] <;> rfl) | (rw [catOf_yes hok] <;> rfl) | (rw [catOf_yes hok, ho, List.take_of_length_le (by omega)])
  ·replace c0 := nf c0
   have hok : (okDb d && inB v 1 999) = true := by simp_all
   have h6 := okDb_len (by simp_all : okDb d = true)
   refine ⟨List.length_map _, ⟨0, ([] : List TableStatsD), rfl, rfl, rfl, Nat.zero_le _, rfl⟩, fun k out ⟨hk, ho⟩ => ?_⟩
   refine ⟨fun c1 => ?_, fun c1 => ?_⟩
   ·replace c1 := yq c1
    refine ⟨by omega, rfl, by omega, fun e25 h25 => ?_⟩
    refine ⟨st_impl e25, rfl, rfl, rfl, rfl, rfl, by first | omega | (simp [ho]; omega), ⟨by omega, by omega⟩, ?_⟩
    exact ⟨k + 1, _, rfl, rfl, rfl, ⟨by omega, by rw [ho, take_snoc h25, List.map_append]; rfl⟩, by omega⟩
   ·replace c1 := nq c1
    refine ⟨?_, ?_, ?_, trivial⟩
    ·first | (rw [catOf_no hbad] <;> rfl) | (rw [catOf_yes hok] <;> rfl) | (rw [catOf_yes hok, ho, List.take_of_length_le (by omega)])
    ·first | (rw [catOf_no hbad] <;> rfl) | (rw [catOf_yes hok] <;> rfl) | (rw [catOf_yes hok, ho, List.take_of_length_le (by omega)])
    ·first | (rw [catOf_no hbad] <;> rfl) | (rw [catOf_yes hok] <;> rfl) | (rw [catOf_yes hok, ho, List.take_of_length_le (by omega)])
abbrev k_cat_spec (d : DatabaseD) (v : Int) : AV × List (Nat × Rs) := (.tup [.agg [vI (((catOf d v).1).version), .own 0], vB ((catOf d v).2)], [(0, .arr 121 4 true ((((catOf d v).1).tables).map eTableStats))])
abbrev K_cat_spec (d : DatabaseD) (v : Int) : Prop := Con Tryz.prog 66 [.agg [.sl 162 3 (d.tables.map eTable)], .one (.int .i64 v)] (k_cat_spec d v).1 (k_cat_spec d v).2
theorem cat_spec (d : DatabaseD) (v : Int) : K_cat_spec d v := by
 refine con_x tbOk mixedW Tryz.func66 (by kernel_rfl) (.call (vB (okDb d)) [] <| .br (.fin []) (.call (vB (inB v (1 : Int) (999 : Int))) [] <| .lit <| .lit <| .br (.fin []) (.loop (Nat × (List TableStatsD)) (Q2 Nat (List TableStatsD)) [7, 8, 20, 21, 22, 23, 24, 25, 26, 27, 28, 29, 30, 31, 32, 33, 34, 35, 36, 37, 38] [600, 800, 3200, 3600, 3700, 9000] (fun yy0 => [(7, vI (yy0.1 : Int))]) (fun yy0 => [(600, some (.box 42 [vI v, .own 9000])), (9000, some (.arr 121 4 true (yy0.2.map eTableStats)))]) (fun yy0 => yy0.1 ≤ d.tables.length ∧ yy0.2 = (d.tables.take yy0.1).map statsOf) (fun yy0 => d.tables.length - yy0.1) (fun yy0 => .len d.tables.length <| .br (.elem _ eTable d.tables (fun e30 => callP (k_st_spec e30) <| .appx TableStatsD eTableStats yy0.2 (statsOf e30) <| .back [(600, 600), (9000, 3700)])) (.fin [(0, 9000)]))))) ?_
 refine Eq.mpr (by kernel_rfl : _ = ((d.tables.map eTable).length ≤ 9223372036854775807 → K_db_spec d ∧ (((!(okDb d)) = true → (0 : Int) = (((catOf d v).1).version) ∧ (false) = ((catOf d v).2) ∧ [] = (((catOf d v).1).tables).map eTableStats ∧ True) ∧ ((!(okDb d)) = false → K_in_spec v (1 : Int) (999 : Int) ∧ (((!(inB v (1 : Int) (999 : Int))) = true → (0 : Int) = (((catOf d v).1).version) ∧ (false) = ((catOf d v).2) ∧ [] = (((catOf d v).1).tables).map eTableStats ∧ True) ∧ ((!(inB v (1 : Int) (999 : Int))) = false → (∃ (k : Nat) (out : List TableStatsD), (0 : Int) = (k : Int) ∧ v = v ∧ [] = out.map eTableStats ∧ k ≤ d.tables.length ∧ out = (d.tables.take k).map statsOf) ∧ ∀ (k : Nat) (out : List TableStatsD), (k ≤ d.tables.length ∧ out = (d.tables.take k).map statsOf) → Lm eTable d.tables ∧ (((decide ((k : Int) < ((d.tables.length : Nat) : Int))) = true → 0 ≤ (k : Int) ∧ Em eTable d.tables k fun e30 => K_st_spec e30 ∧ out.map eTableStats = out.map eTableStats ∧ ((statsOf e30).name) = ((statsOf e30).name) ∧ ((statsOf e30).arity) = ((statsOf e30).arity) ∧ ((statsOf e30).rowCount) = ((statsOf e30).rowCount) ∧ ((statsOf e30).groups).map eGroupStats = ((statsOf e30).groups).map eGroupStats ∧ (out.length + 1) * 56 ≤ 140737488355328 ∧ inR ((k : Int) + (1 : Int)) ∧ ∃ (k' : Nat) (out' : List TableStatsD), ((k : Int) + (1 : Int)) = (k' : Int) ∧ v = v ∧ (out ++ [(statsOf e30)]).map eTableStats = out'.map eTableStats ∧ (k' ≤ d.tables.length ∧ out' = (d.tables.take k').map statsOf) ∧ d.tables.length - k' < d.tables.length - k) ∧ ((decide ((k : Int) < ((d.tables.length : Nat) : Int))) = false → v = (((catOf d v).1).version) ∧ (true) = ((catOf d v).2) ∧ out.map eTableStats = (((catOf d v).1).tables).map eTableStats ∧ True)))))))) ?_
 intro n0
 simp only [List.length_map] at n0
 refine ⟨db_spec d, fun g12 => ?_, fun g12 => ?_⟩
 ·replace g12 := nt g12
  have hbad : (okDb d && inB v 1 999) = false := by simp_all
  refine ⟨?_, ?_, ?_, trivial⟩
  ·first | (rw [catOf_no hbad] <;> rfl) | (rw [catOf_yes hok] <;> rfl) | (rw [catOf_yes hok, ho, List.take_of_length_le (by omega)])
  ·first | (rw [catOf_no hbad] <;> rfl) | (rw [catOf_yes hok] <;> rfl) | (rw [catOf_yes hok, ho, List.take_of_length_le (by omega)])
  ·first | (rw [catOf_no hbad] <;> rfl) | (rw [catOf_yes hok] <;> rfl) | (rw [catOf_yes hok, ho, List.take_of_length_le (by omega)])
 ·replace g12 := nf g12
  refine ⟨in_spec _ _ _, fun c0 => ?_, fun c0 => ?_⟩
  ·replace c0 := nt c0
   have hbad : (okDb d && inB v 1 999) = false := by simp_all
   refine ⟨?_, ?_, ?_, trivial⟩
   ·first | (rw [catOf_no hbad] <;> rfl) | (rw [catOf_yes hok] <;> rfl) | (rw [catOf_yes hok, ho, List.take_of_length_le (by omega)])
   ·first | (rw [catOf_no hbad] <;> rfl) | (rw [catOf_yes hok] <;> rfl) | (rw [catOf_yes hok, ho, List.take_of_length_le (by omega)])
   ·first | (rw [catOf_no hbad] <;> rfl) | (rw [catOf_yes hok] <;> rfl) | (rw [catOf_yes hok, ho, List.take_of_length_le (by omega)])
  ·replace c0 := nf c0
   have hok : (okDb d && inB v 1 999) = true := by simp_all
   have h6 := okDb_len (by simp_all : okDb d = true)
   refine ⟨⟨0, ([] : List TableStatsD), rfl, rfl, rfl, Nat.zero_le _, rfl⟩, fun k out ⟨hk, ho⟩ => ?_⟩
   refine ⟨List.length_map _, fun c1 => ?_, fun c1 => ?_⟩
   ·replace c1 := yq c1
    refine ⟨by omega, rfl, by omega, fun e30 h30 => ?_⟩
    refine ⟨st_spec e30, rfl, rfl, rfl, rfl, rfl, by first | omega | (simp [ho]; omega), ⟨by omega, by omega⟩, ?_⟩
    exact ⟨k + 1, _, rfl, rfl, rfl, ⟨by omega, by rw [ho, take_snoc h30, List.map_append]; rfl⟩, by omega⟩
   ·replace c1 := nq c1
    refine ⟨?_, ?_, ?_, trivial⟩
    ·first | (rw [catOf_no hbad] <;> rfl) | (rw [catOf_yes hok] <;> rfl) | (rw [catOf_yes hok, ho, List.take_of_length_le (by omega)])
    ·first | (rw [catOf_no hbad] <;> rfl) | (rw [catOf_yes hok] <;> rfl) | (rw [catOf_yes hok, ho, List.take_of_length_le (by omega)])
    ·first | (rw [catOf_no hbad] <;> rfl) | (rw [catOf_yes hok] <;> rfl) | (rw [catOf_yes hok, ho, List.take_of_length_le (by omega)])
theorem cntL_bound {α : Type} {c : α → Nat} {m : Nat} {l : List α} (h : ∀ x ∈ l, c x ≤ m) : cntL c l ≤ l.length + l.length * m := by
  have h1 := sumL_bound (ct := c) (m := m) (l := l) h
  have h2 : cntL c l = l.length + sumL c l := rfl
  omega
theorem grp_small (t : TableD) (cols : List Int) : cIntSS (grpR t cols).1 ≤ 64 ∧ (grpR t cols).2.length ≤ 8 := by
  cases h : (okTable t && colsOk (t.arity - 1) cols) with
  | false => rw [grpR_no h]; exact ⟨by decide, by decide⟩
  | true =>
    have := sel_put (k := (selA t cols).length) h
    rw [List.take_length, foldPut_ded] at this
    rw [grpR_yes h]
    exact ⟨this.2, by simp only [grpC, List.length_map, grpV]; exact this.1⟩
theorem okTable_name {t : TableD} (h : okTable t = true) : t.name.size = 1 := by
  simp only [okTable, okName, Bool.and_eq_true, decide_eq_true_eq] at h
  omega
theorem stats_small (t : TableD) : cTableStats (statsOf t) ≤ 2000 := by
  cases h : okTable t with
  | false => rw [statsOf_no h]; decide
  | true =>
    have hT := okTable_arity h
    have hn := okTable_name h
    have hl := colSubs_len (n := t.arity) ⟨hT.1, hT.2.1⟩
    rw [statsOf_yes h]
    have h1 := cntL_bound (c := cGroupStats) (m := 75) (l := (colSubs t.arity).map (grpS t)) fun x hx => by
      obtain ⟨c, hc, rfl⟩ := List.mem_map.1 hx
      obtain ⟨k, hk, hc⟩ := List.mem_iff_getElem.1 hc
      have h3 := colSubs_at (List.getElem?_eq_some_iff.2 ⟨hk, hc⟩)
      have h4 := grp_small t c
      have h5 : cGroupStats (grpS t c) = c.length + cIntSS (grpR t c).1 + (grpR t c).2.length := rfl
      omega
    rw [List.length_map] at h1
    have h2 : cTableStats ⟨t.name, t.arity, (t.rows.length : Nat), (colSubs t.arity).map (grpS t)⟩ = t.name.size + cntL cGroupStats ((colSubs t.arity).map (grpS t)) := rfl
    omega
theorem cat_small (d : DatabaseD) (v : Int) : cCatalogue (catOf d v).1 ≤ 20000 := by
  cases h : (okDb d && inB v 1 999) with
  | false => rw [catOf_no h]; decide
  | true =>
    have h6 := okDb_len (by simp_all : okDb d = true)
    rw [catOf_yes h]
    have h1 := cntL_bound (c := cTableStats) (m := 2000) (l := d.tables.map statsOf) fun x hx => by
      obtain ⟨t, _, rfl⟩ := List.mem_map.1 hx
      exact stats_small t
    rw [List.length_map] at h1
    have h2 : cCatalogue ⟨v, d.tables.map statsOf⟩ = cntL cTableStats (d.tables.map statsOf) := rfl
    show cCatalogue ⟨v, d.tables.map statsOf⟩ ≤ 20000
    omega
def idxF {α : Type} (p : α → Bool) (l : List α) : Int := match l.findIdx? p with | some k => (k : Int) | none => -1
theorem idxF_at {α : Type} {p : α → Bool} {l : List α} {k : Nat} {x : α} (h : l[k]? = some x) (ha : (l.take k).all (fun y => !p y) = true) (hx : p x = true) : idxF p l = (k : Int) := by
  obtain ⟨hk, rfl⟩ := List.getElem?_eq_some_iff.1 h
  have : l.findIdx? p = some k := by
    rw [List.findIdx?_eq_some_iff_getElem]
    refine ⟨hk, hx, fun j hj => ?_⟩
    have := List.all_eq_true.1 ha l[j] (List.mem_iff_getElem.2 ⟨j, by rw [List.length_take]; omega, by rw [List.getElem_take]⟩)
    simpa using this
  rw [idxF, this]
theorem idxF_no {α : Type} {p : α → Bool} {l : List α} (ha : l.all (fun y => !p y) = true) : idxF p l = -1 := by
  have : l.findIdx? p = none := by
    rw [List.findIdx?_eq_none_iff]
    intro x hx
    have := List.all_eq_true.1 ha x hx
    simpa using this
  rw [idxF, this]
theorem idxF_get {α : Type} {p : α → Bool} {l : List α} (h : 0 ≤ idxF p l) : ∃ (k : Nat) (x : α), idxF p l = (k : Int) ∧ l[k]? = some x ∧ p x = true ∧ k < l.length := by
  unfold idxF at *
  cases e : l.findIdx? p with
  | none => rw [e] at h; exact absurd h (by decide)
  | some k =>
    rw [List.findIdx?_eq_some_iff_getElem] at e
    obtain ⟨hk, hx, _⟩ := e
    exact ⟨k, l[k], rfl, List.getElem?_eq_getElem hk, hx, hk⟩
theorem idxF_ge {α : Type} (p : α → Bool) (l : List α) : -1 ≤ idxF p l ∧ idxF p l < (l.length : Int) := by
  by_cases h : 0 ≤ idxF p l
  · obtain ⟨k, x, h1, _, _, h4⟩ := idxF_get h
    omega
  · unfold idxF at *
    cases e : l.findIdx? p with
    | none => simp only; omega
    | some k => rw [e] at h; simp only at h; omega
abbrev k_cpT_impl (t : TableD) : AV × List (Nat × Rs) := (.agg [.p none (.str t.name), vI t.arity, .own 0], [(0, .arr 32 1 true (t.rows.map eIntS))])
abbrev K_cpT_impl (t : TableD) : Prop := Con Tryz.prog 220 [.agg [.str t.name, .int .i64 t.arity, .sl 32 1 (t.rows.map eIntS)]] (k_cpT_impl t).1 (k_cpT_impl t).2
theorem cpT_impl (t : TableD) (hc : cTable t ≤ 1048576) : K_cpT_impl t := by
 refine con_x tbOk mixedW Tryz.func220 (by kernel_rfl) (callP (k_cpR t.rows) <| .fin [(0, 500)]) ?_
 refine Eq.mpr (by kernel_rfl : _ = ((t.rows.map eIntS).length ≤ 9223372036854775807 → K_cpR t.rows ∧ t.name = t.name ∧ t.arity = t.arity ∧ t.rows.map eIntS = t.rows.map eIntS ∧ True)) ?_
 intro n0
 simp only [List.length_map] at n0
 have q1 : cTable t = t.name.size + cIntSS t.rows := rfl
 have q2 := cIntSS_len t.rows
 refine ⟨cpR _ (by omega), ?_⟩
 exact ⟨rfl, rfl, rfl, trivial⟩
abbrev k_cpT_spec (t : TableD) : AV × List (Nat × Rs) := (.agg [.p none (.str t.name), vI t.arity, .own 0], [(0, .arr 32 1 true (t.rows.map eIntS))])
abbrev K_cpT_spec (t : TableD) : Prop := Con Tryz.prog 205 [.agg [.str t.name, .int .i64 t.arity, .sl 32 1 (t.rows.map eIntS)]] (k_cpT_spec t).1 (k_cpT_spec t).2
theorem cpT_spec (t : TableD) (hc : cTable t ≤ 1048576) : K_cpT_spec t := by
 refine con_x tbOk mixedW Tryz.func205 (by kernel_rfl) (.loop (Nat × (List (List Int))) (Q2 Nat (List (List Int))) [4, 10, 11, 12, 13, 14, 15, 16, 17, 18, 19, 20, 21, 22, 23, 24, 25, 26, 27, 28] [300, 1900, 2500, 2600, 2700, 9000] (fun yy0 => [(4, vI (yy0.1 : Int))]) (fun yy0 => [(300, some (.box 162 [.p none (.str t.name), vI t.arity, .own 9000])), (9000, some (.arr 32 1 true (yy0.2.map eIntS)))]) (fun yy0 => yy0.1 ≤ t.rows.length ∧ yy0.2 = t.rows.take yy0.1) (fun yy0 => t.rows.length - yy0.1) (fun yy0 => .len t.rows.length <| .br (.elem _ eIntS t.rows (fun e23 => .app Int intD ([] : List Int) e23 <| .appx (List Int) eIntS yy0.2 (([] : List Int) ++ e23) <| .back [(300, 300), (9000, 2700)])) (.fin [(0, 9000)]))) ?_
 refine Eq.mpr (by kernel_rfl : _ = ((t.rows.map eIntS).length ≤ 9223372036854775807 → (∃ (k : Nat) (out : List (List Int)), (0 : Int) = (k : Int) ∧ t.name = t.name ∧ t.arity = t.arity ∧ [] = out.map eIntS ∧ k ≤ t.rows.length ∧ out = t.rows.take k) ∧ ∀ (k : Nat) (out : List (List Int)), (k ≤ t.rows.length ∧ out = t.rows.take k) → Lm eIntS t.rows ∧ (((decide ((k : Int) < ((t.rows.length : Nat) : Int))) = true → 0 ≤ (k : Int) ∧ Em eIntS t.rows k fun e23 => [] = ([] : List Int).map intD ∧ e23.map intD = e23.map intD ∧ (∀ x, flatB (intD x) = true) ∧ (([] : List Int).length + e23.length) * 8 ≤ 140737488355328 ∧ out.map eIntS = out.map eIntS ∧ (([] : List Int) ++ e23).map intD = (([] : List Int) ++ e23).map intD ∧ (out.length + 1) * 24 ≤ 140737488355328 ∧ inR ((k : Int) + (1 : Int)) ∧ ∃ (k' : Nat) (out' : List (List Int)), ((k : Int) + (1 : Int)) = (k' : Int) ∧ t.name = t.name ∧ t.arity = t.arity ∧ (out ++ [([] : List Int) ++ e23]).map eIntS = out'.map eIntS ∧ (k' ≤ t.rows.length ∧ out' = t.rows.take k') ∧ t.rows.length - k' < t.rows.length - k) ∧ ((decide ((k : Int) < ((t.rows.length : Nat) : Int))) = false → t.name = t.name ∧ t.arity = t.arity ∧ out.map eIntS = t.rows.map eIntS ∧ True)))) ?_
 intro n0
 simp only [List.length_map] at n0
 have q1 : cTable t = t.name.size + cIntSS t.rows := rfl
 have q2 := cIntSS_len t.rows
 refine ⟨⟨0, ([] : List (List Int)), rfl, rfl, rfl, rfl, Nat.zero_le _, rfl⟩, fun k out ⟨hk, ho⟩ => ?_⟩
 refine ⟨List.length_map _, fun c0 => ?_, fun c0 => ?_⟩
 ·replace c0 := yq c0
  refine ⟨by omega, rfl, by omega, fun e23 h23 => ?_⟩
  have hp3 := cIntSS_at h23
  refine ⟨rfl, rfl, fun _ => rfl, by first | omega | (simp; omega) | (simp [ho]; omega), ?_⟩
  refine ⟨rfl, rfl, by first | omega | (simp; omega) | (simp [ho]; omega), ⟨by omega, by omega⟩, ?_⟩
  exact ⟨k + 1, _, rfl, rfl, rfl, rfl, ⟨by omega, by rw [ho, take_snoc h23]; rfl⟩, by omega⟩
 ·replace c0 := nq c0
  refine ⟨rfl, rfl, ?_, trivial⟩
  ·first | rfl | (rw [ho, List.take_of_length_le (by omega)])
abbrev isN (n : ByteArray) : TableD → Bool := fun t => t.name.toList == n.toList
abbrev isI (v : Int) : Int → Bool := fun y => decide (v = y)
theorem idxF_find {α : Type} {p : α → Bool} {l : List α} : (idxF p l < 0 → l.find? p = none) ∧ (0 ≤ idxF p l → ∃ (k : Nat) (x : α), idxF p l = (k : Int) ∧ l[k]? = some x ∧ l.find? p = some x) := by
  unfold idxF
  cases e : l.findIdx? p with
  | none =>
    rw [List.findIdx?_eq_none_iff] at e
    refine ⟨fun _ => List.find?_eq_none.2 fun x hx => by rw [e x hx]; decide, fun h => absurd h (by decide)⟩
  | some k =>
    rw [List.findIdx?_eq_some_iff_getElem] at e
    obtain ⟨hk, hx, hj⟩ := e
    refine ⟨fun h => absurd h (by simp only; omega), fun _ => ⟨k, l[k], rfl, List.getElem?_eq_getElem hk, ?_⟩⟩
    rw [List.find?_eq_some_iff_getElem]
    exact ⟨hx, k, hk, rfl, fun j hjk => by have := hj j hjk; simpa using this⟩
theorem idxF_mem {l : List Int} {v : Int} : decide (0 ≤ idxF (isI v) l) = decide (v ∈ l) := by
  apply Bool.eq_iff_iff.2
  rw [decide_eq_true_eq, decide_eq_true_eq]
  constructor
  · intro h
    obtain ⟨k, x, _, hx, hf⟩ := idxF_find.2 h
    have h1 := List.find?_some hf
    have : v = x := by simpa [isI] using h1
    rw [this]; exact List.mem_of_getElem? hx
  · intro h
    rcases Int.lt_or_le (idxF (isI v) l) 0 with q | q
    · have := idxF_find.1 q
      rw [List.find?_eq_none] at this
      exact absurd (this v h) (by simp [isI])
    · exact q
def lookT (d : DatabaseD) (n : ByteArray) : TableD × Bool := if okDb d = true then (match d.tables.find? (isN n) with | some t => (t, true) | none => (zTable, false)) else (zTable, false)
theorem lookT_no {d : DatabaseD} {n : ByteArray} (h : okDb d = false ∨ d.tables.find? (isN n) = none) : lookT d n = (zTable, false) := by
  unfold lookT
  rcases h with h | h
  · rw [if_neg (by rw [h]; decide)]
  · rw [h]; split <;> rfl
theorem lookT_yes {d : DatabaseD} {n : ByteArray} {t : TableD} (h : okDb d = true) (hf : d.tables.find? (isN n) = some t) : lookT d n = (t, true) := by rw [lookT, if_pos h, hf]
theorem okDb_all {d : DatabaseD} (h : okDb d = true) : d.tables.all okTable = true := by
  simp only [okDb, Bool.and_eq_true] at h
  exact h.1
theorem lookT_ok {d : DatabaseD} {n : ByteArray} (h : (lookT d n).2 = true) : okTable (lookT d n).1 = true ∧ okDb d = true := by
  unfold lookT at *
  split at h
  · rename_i hd
    rw [if_pos hd]
    cases e : d.tables.find? (isN n) with
    | none => rw [e] at h; cases h
    | some t => exact ⟨List.all_eq_true.1 (okDb_all hd) t (List.mem_of_find?_eq_some e), hd⟩
  · cases h
abbrev K_lkT1 (t : TableD) (n : ByteArray) : Prop := Con Tryz.prog 224 [.agg [.str t.name, .int .i64 t.arity, .sl 32 1 (t.rows.map eIntS)], .ref [.str n]] (vB (isN n t)) []
theorem lkT1 (t : TableD) (n : ByteArray) : K_lkT1 t n := by
 refine con_x tbOk mixedW Tryz.func224 (by kernel_rfl) (.fin []) ?_
 refine Eq.mpr (by kernel_rfl : _ = ((t.rows.map eIntS).length ≤ 9223372036854775807 → (t.name.toList == n.toList) = (isN n t) ∧ True)) ?_
 intro n0
 simp only [List.length_map] at n0
 refine ⟨?_, trivial⟩
 ·rfl
abbrev K_lkTF (l : List TableD) (n : ByteArray) : Prop := Con Tryz.prog 223 [.one (.sl 162 3 (l.map eTable)), .fn 224 [[.str n]]] (vI (idxF (isN n) l)) []
theorem lkTF (l : List TableD) (n : ByteArray) : K_lkTF l n := by
 refine con_x tbOk mixedW Tryz.func223 (by kernel_rfl) (.len l.length <| .loop Nat (Q1 Nat) [5, 8, 9, 10, 11, 12, 13, 14, 15, 16, 18] [] (fun k => [(8, vI (k : Int))]) (fun k => []) (fun k => k ≤ l.length ∧ (l.take k).all (fun y => !isN n y) = true) (fun k => l.length - k) (fun k => .br (.elem _ eTable l (fun e14 => .call (vB (isN n e14)) [] <| .br (.fin []) (.back []))) (.fin []))) ?_
 refine Eq.mpr (by kernel_rfl : _ = ((l.map eTable).length ≤ 9223372036854775807 → Lm eTable l ∧ ((∃ (k : Nat), (0 : Int) = (k : Int) ∧ k ≤ l.length ∧ (l.take k).all (fun y => !isN n y) = true) ∧ ∀ (k : Nat), (k ≤ l.length ∧ (l.take k).all (fun y => !isN n y) = true) → ((decide ((k : Int) < ((l.length : Nat) : Int))) = true → 0 ≤ (k : Int) ∧ Em eTable l k fun e14 => K_lkT1 e14 n ∧ (((isN n e14) = true → (k : Int) = (idxF (isN n) l) ∧ True) ∧ ((isN n e14) = false → inR ((k : Int) + (1 : Int)) ∧ ∃ (k' : Nat), ((k : Int) + (1 : Int)) = (k' : Int) ∧ (k' ≤ l.length ∧ (l.take k').all (fun y => !isN n y) = true) ∧ l.length - k' < l.length - k))) ∧ ((decide ((k : Int) < ((l.length : Nat) : Int))) = false → (-1 : Int) = (idxF (isN n) l) ∧ True)))) ?_
 intro n0
 simp only [List.length_map] at n0
 refine ⟨List.length_map _, ⟨0, rfl, Nat.zero_le _, rfl⟩, fun k ⟨hk, ha⟩ => ?_⟩
 refine ⟨fun c0 => ?_, fun c0 => ?_⟩
 ·replace c0 := yq c0
  refine ⟨by omega, rfl, by omega, fun e14 h14 => ?_⟩
  refine ⟨lkT1 _ _, fun c1 => ?_, fun c1 => ?_⟩
  ·have hE := idxF_at (p := isN n) h14 ha c1
   refine ⟨?_, trivial⟩
   ·rw [hE]
  ·refine ⟨⟨by omega, by omega⟩, ?_⟩
   exact ⟨k + 1, rfl, ⟨by omega, all_snoc h14 ha (by simp [c1])⟩, by omega⟩
 ·replace c0 := nq c0
  have hE := idxF_no (p := isN n) (all_done (by omega) ha)
  refine ⟨?_, trivial⟩
  ·rw [hE]
abbrev k_lkT_impl (d : DatabaseD) (n : ByteArray) : AV × List (Nat × Rs) := (.tup [.agg [.p none (.str (((lookT d n).1).name)), vI (((lookT d n).1).arity), .own 0], vB ((lookT d n).2)], [(0, .arr 32 1 true ((((lookT d n).1).rows).map eIntS))])
abbrev K_lkT_impl (d : DatabaseD) (n : ByteArray) : Prop := Con Tryz.prog 148 [.agg [.sl 162 3 (d.tables.map eTable)], .one (.str n)] (k_lkT_impl d n).1 (k_lkT_impl d n).2
theorem lkT_impl (d : DatabaseD) (n : ByteArray) (hc : cDatabase d ≤ 1048576) : K_lkT_impl d n := by
 refine con_x tbOk mixedW Tryz.func148 (by kernel_rfl) (.call (vI (idxF (isN n) d.tables)) [] <| .br (.fin []) (.call (vB (okDb d)) [] <| .lit <| .lit <| .br (.fin []) (.elem _ eTable d.tables (fun e22 => callP (k_cpT_impl e22) <| .fin [(0, 2400)])))) ?_
 refine Eq.mpr (by kernel_rfl : _ = ((d.tables.map eTable).length ≤ 9223372036854775807 → K_lkTF d.tables n ∧ (((decide ((idxF (isN n) d.tables) < (0 : Int))) = true → ByteArray.empty = (((lookT d n).1).name) ∧ (0 : Int) = (((lookT d n).1).arity) ∧ (false) = ((lookT d n).2) ∧ [] = (((lookT d n).1).rows).map eIntS ∧ True) ∧ ((decide ((idxF (isN n) d.tables) < (0 : Int))) = false → K_db_impl d ∧ (((!(okDb d)) = true → ByteArray.empty = (((lookT d n).1).name) ∧ (0 : Int) = (((lookT d n).1).arity) ∧ (false) = ((lookT d n).2) ∧ [] = (((lookT d n).1).rows).map eIntS ∧ True) ∧ ((!(okDb d)) = false → 0 ≤ (idxF (isN n) d.tables) ∧ Em eTable d.tables ((idxF (isN n) d.tables).toNat) fun e22 => K_cpT_impl e22 ∧ e22.name = (((lookT d n).1).name) ∧ e22.arity = (((lookT d n).1).arity) ∧ (true) = ((lookT d n).2) ∧ e22.rows.map eIntS = (((lookT d n).1).rows).map eIntS ∧ True)))))) ?_
 intro n0
 simp only [List.length_map] at n0
 have q1 : cDatabase d = cTableS d.tables := rfl
 have hg := idxF_ge (isN n) d.tables
 refine ⟨lkTF _ _, fun g13 => ?_, fun g13 => ?_⟩
 ·replace g13 := yq g13
  have hbad : lookT d n = (zTable, false) := lookT_no (by first | (left; simpa using g15; done) | (left; simpa using c0; done) | (right; exact idxF_find.1 (by omega)))
  refine ⟨?_, ?_, ?_, ?_, trivial⟩
  ·first | (rw [hbad] <;> rfl) | (rw [hok] <;> rfl)
  ·first | (rw [hbad] <;> rfl) | (rw [hok] <;> rfl)
  ·first | (rw [hbad] <;> rfl) | (rw [hok] <;> rfl)
  ·first | (rw [hbad] <;> rfl) | (rw [hok] <;> rfl)
 ·replace g13 := nq g13
  refine ⟨db_impl d, fun c0 => ?_, fun c0 => ?_⟩
  ·replace c0 := nt c0
   have hbad : lookT d n = (zTable, false) := lookT_no (by first | (left; simpa using g15; done) | (left; simpa using c0; done) | (right; exact idxF_find.1 (by omega)))
   refine ⟨?_, ?_, ?_, ?_, trivial⟩
   ·first | (rw [hbad] <;> rfl) | (rw [hok] <;> rfl)
   ·first | (rw [hbad] <;> rfl) | (rw [hok] <;> rfl)
   ·first | (rw [hbad] <;> rfl) | (rw [hok] <;> rfl)
   ·first | (rw [hbad] <;> rfl) | (rw [hok] <;> rfl)
  ·replace c0 := nf c0
   have hd : okDb d = true := by simpa using c0
   obtain ⟨k, y, hk, hy, hf⟩ := idxF_find.2 (show 0 ≤ idxF (isN n) d.tables by omega)
   have hok := lookT_yes hd hf
   refine ⟨by omega, rfl, by omega, fun e22 h22 => ?_⟩
   have hyx : y = e22 := by rw [hk] at h22; exact (same_at (by simpa using h22) hy)
   have q2 := cTableS_el h22
   rw [hyx] at hok
   refine ⟨cpT_impl _ (by omega), ?_, ?_, ?_, ?_, trivial⟩
   ·first | (rw [hbad] <;> rfl) | (rw [hok] <;> rfl)
   ·first | (rw [hbad] <;> rfl) | (rw [hok] <;> rfl)
   ·first | (rw [hbad] <;> rfl) | (rw [hok] <;> rfl)
   ·first | (rw [hbad] <;> rfl) | (rw [hok] <;> rfl)
abbrev k_lkT_spec (d : DatabaseD) (n : ByteArray) : AV × List (Nat × Rs) := (.tup [.agg [.p none (.str (((lookT d n).1).name)), vI (((lookT d n).1).arity), .own 0], vB ((lookT d n).2)], [(0, .arr 32 1 true ((((lookT d n).1).rows).map eIntS))])
abbrev K_lkT_spec (d : DatabaseD) (n : ByteArray) : Prop := Con Tryz.prog 132 [.agg [.sl 162 3 (d.tables.map eTable)], .one (.str n)] (k_lkT_spec d n).1 (k_lkT_spec d n).2
theorem lkT_spec (d : DatabaseD) (n : ByteArray) (hc : cDatabase d ≤ 1048576) : K_lkT_spec d n := by
 refine con_x tbOk mixedW Tryz.func132 (by kernel_rfl) (.loop Nat (Q1 Nat) [6, 7, 8, 9, 10, 11, 12, 13, 14, 15, 16, 17, 18, 19, 20, 21, 22, 23, 24, 25] [] (fun k => [(6, vI (k : Int))]) (fun k => []) (fun k => k ≤ d.tables.length ∧ (d.tables.take k).all (fun y => !isN n y) = true) (fun k => d.tables.length - k) (fun k => .len d.tables.length <| .br (.call (vB (okDb d)) [] <| .lit <| .br (.elem _ eTable d.tables (fun e21 => .br (.elem _ eTable d.tables (fun e29 => callP (k_cpT_spec e29) <| .fin [(0, 3100)])) (.back []))) (.fin [])) (.fin []))) ?_
 refine Eq.mpr (by kernel_rfl : _ = ((d.tables.map eTable).length ≤ 9223372036854775807 → (∃ (k : Nat), (0 : Int) = (k : Int) ∧ k ≤ d.tables.length ∧ (d.tables.take k).all (fun y => !isN n y) = true) ∧ ∀ (k : Nat), (k ≤ d.tables.length ∧ (d.tables.take k).all (fun y => !isN n y) = true) → Lm eTable d.tables ∧ (((decide ((k : Int) < ((d.tables.length : Nat) : Int))) = true → K_db_spec d ∧ (((okDb d) = true → 0 ≤ (k : Int) ∧ Em eTable d.tables k fun e21 => ((e21.name.toList == n.toList) = true → 0 ≤ (k : Int) ∧ Em eTable d.tables k fun e29 => K_cpT_spec e29 ∧ e29.name = (((lookT d n).1).name) ∧ e29.arity = (((lookT d n).1).arity) ∧ (true) = ((lookT d n).2) ∧ e29.rows.map eIntS = (((lookT d n).1).rows).map eIntS ∧ True) ∧ ((e21.name.toList == n.toList) = false → inR ((k : Int) + (1 : Int)) ∧ ∃ (k' : Nat), ((k : Int) + (1 : Int)) = (k' : Int) ∧ (k' ≤ d.tables.length ∧ (d.tables.take k').all (fun y => !isN n y) = true) ∧ d.tables.length - k' < d.tables.length - k)) ∧ ((okDb d) = false → ByteArray.empty = (((lookT d n).1).name) ∧ (0 : Int) = (((lookT d n).1).arity) ∧ (false) = ((lookT d n).2) ∧ [] = (((lookT d n).1).rows).map eIntS ∧ True))) ∧ ((decide ((k : Int) < ((d.tables.length : Nat) : Int))) = false → ByteArray.empty = (((lookT d n).1).name) ∧ (0 : Int) = (((lookT d n).1).arity) ∧ (false) = ((lookT d n).2) ∧ [] = (((lookT d n).1).rows).map eIntS ∧ True)))) ?_
 intro n0
 simp only [List.length_map] at n0
 have q1 : cDatabase d = cTableS d.tables := rfl
 refine ⟨⟨0, rfl, Nat.zero_le _, rfl⟩, fun k ⟨hk, ha⟩ => ?_⟩
 refine ⟨List.length_map _, fun g12 => ?_, fun g12 => ?_⟩
 ·replace g12 := yq g12
  refine ⟨db_spec d, fun c0 => ?_, fun c0 => ?_⟩
  ·refine ⟨by omega, rfl, by omega, fun e21 h21 => ?_⟩
   try (obtain rfl := (same_at h21 h21).symm)
   have q2 := cTableS_el h21
   refine ⟨fun c1 => ?_, fun c1 => ?_⟩
   ·have hok := lookT_yes (n := n) c0 (find_at (p := isN n) h21 ha c1)
    refine ⟨by omega, rfl, by omega, fun e29 h29 => ?_⟩
    try (obtain rfl := (same_at h21 h29).symm)
    refine ⟨cpT_spec _ (by omega), ?_, ?_, ?_, ?_, trivial⟩
    ·first | (rw [hbad] <;> rfl) | (rw [hok] <;> rfl)
    ·first | (rw [hbad] <;> rfl) | (rw [hok] <;> rfl)
    ·first | (rw [hbad] <;> rfl) | (rw [hok] <;> rfl)
    ·first | (rw [hbad] <;> rfl) | (rw [hok] <;> rfl)
   ·refine ⟨⟨by omega, by omega⟩, ?_⟩
    exact ⟨k + 1, rfl, ⟨by omega, all_snoc h21 ha (by simp [isN, c1])⟩, by omega⟩
  ·have hbad : lookT d n = (zTable, false) := lookT_no (by first | (left; exact c0) | (right; exact find_no (all_done (by omega) ha)))
   refine ⟨?_, ?_, ?_, ?_, trivial⟩
   ·first | (rw [hbad] <;> rfl) | (rw [hok] <;> rfl)
   ·first | (rw [hbad] <;> rfl) | (rw [hok] <;> rfl)
   ·first | (rw [hbad] <;> rfl) | (rw [hok] <;> rfl)
   ·first | (rw [hbad] <;> rfl) | (rw [hok] <;> rfl)
 ·replace g12 := nq g12
  have hbad : lookT d n = (zTable, false) := lookT_no (by first | (left; exact c0) | (right; exact find_no (all_done (by omega) ha)))
  refine ⟨?_, ?_, ?_, ?_, trivial⟩
  ·first | (rw [hbad] <;> rfl) | (rw [hok] <;> rfl)
  ·first | (rw [hbad] <;> rfl) | (rw [hok] <;> rfl)
  ·first | (rw [hbad] <;> rfl) | (rw [hok] <;> rfl)
  ·first | (rw [hbad] <;> rfl) | (rw [hok] <;> rfl)
abbrev K_ixI (l : List Int) (v : Int) : Prop := Con Tryz.prog 187 [.one (.sl 3 1 (l.map intD)), .one (.int .i64 v)] (vI (idxF (isI v) l)) []
theorem ixI (l : List Int) (v : Int) : K_ixI l v := by
 refine con_x tbOk mixedW Tryz.func187 (by kernel_rfl) (.len l.length <| .loop Nat (Q1 Nat) [5, 8, 9, 10, 11, 12, 13, 14, 15, 16, 18] [] (fun k => [(8, vI (k : Int))]) (fun k => []) (fun k => k ≤ l.length ∧ (l.take k).all (fun y => !isI v y) = true) (fun k => l.length - k) (fun k => .br (.elem _ intD l (fun e14 => .br (.fin []) (.back []))) (.fin []))) ?_
 refine Eq.mpr (by kernel_rfl : _ = ((l.map intD).length ≤ 9223372036854775807 → Lm intD l ∧ ((∃ (k : Nat), (0 : Int) = (k : Int) ∧ k ≤ l.length ∧ (l.take k).all (fun y => !isI v y) = true) ∧ ∀ (k : Nat), (k ≤ l.length ∧ (l.take k).all (fun y => !isI v y) = true) → ((decide ((k : Int) < ((l.length : Nat) : Int))) = true → 0 ≤ (k : Int) ∧ Em intD l k fun e14 => ((decide (v = e14)) = true → (k : Int) = (idxF (isI v) l) ∧ True) ∧ ((decide (v = e14)) = false → inR ((k : Int) + (1 : Int)) ∧ ∃ (k' : Nat), ((k : Int) + (1 : Int)) = (k' : Int) ∧ (k' ≤ l.length ∧ (l.take k').all (fun y => !isI v y) = true) ∧ l.length - k' < l.length - k)) ∧ ((decide ((k : Int) < ((l.length : Nat) : Int))) = false → (-1 : Int) = (idxF (isI v) l) ∧ True)))) ?_
 intro n0
 simp only [List.length_map] at n0
 refine ⟨List.length_map _, ⟨0, rfl, Nat.zero_le _, rfl⟩, fun k ⟨hk, ha⟩ => ?_⟩
 refine ⟨fun c0 => ?_, fun c0 => ?_⟩
 ·replace c0 := yq c0
  refine ⟨by omega, rfl, by omega, fun e14 h14 => ?_⟩
  refine ⟨fun c1 => ?_, fun c1 => ?_⟩
  ·replace c1 := yq c1
   have hE := idxF_at (p := isI v) h14 ha (by simpa [isI] using c1)
   refine ⟨?_, trivial⟩
   ·rw [hE]
  ·replace c1 := nq c1
   refine ⟨⟨by omega, by omega⟩, ?_⟩
   exact ⟨k + 1, rfl, ⟨by omega, all_snoc h14 ha (by simpa [isI] using c1)⟩, by omega⟩
 ·replace c0 := nq c0
  have hE := idxF_no (p := isI v) (all_done (by omega) ha)
  refine ⟨?_, trivial⟩
  ·rw [hE]
abbrev K_ctI (l : List Int) (v : Int) : Prop := Con Tryz.prog 115 [.one (.sl 3 1 (l.map intD)), .one (.int .i64 v)] (vB (decide (v ∈ l))) []
theorem ctI (l : List Int) (v : Int) : K_ctI l v := by
 refine con_x tbOk mixedW Tryz.func115 (by kernel_rfl) (.call (vI (idxF (isI v) l)) [] <| .fin []) ?_
 refine Eq.mpr (by kernel_rfl : _ = ((l.map intD).length ≤ 9223372036854775807 → K_ixI l v ∧ (decide ((0 : Int) ≤ (idxF (isI v) l))) = (decide (v ∈ l)) ∧ True)) ?_
 intro n0
 simp only [List.length_map] at n0
 refine ⟨ixI _ _, ?_, trivial⟩
 ·exact idxF_mem
abbrev K_hsI (l : List Int) (v : Int) : Prop := Con Tryz.prog 170 [.one (.sl 3 1 (l.map intD)), .one (.int .i64 v)] (vB (decide (v ∈ l))) []
theorem hsI (l : List Int) (v : Int) : K_hsI l v := by
 refine con_x tbOk mixedW Tryz.func170 (by kernel_rfl) (.loop Nat (Q1 Nat) [5, 6, 7, 8, 9, 10, 11, 12, 13, 14, 15, 16, 17] [] (fun k => [(5, vI (k : Int))]) (fun k => []) (fun k => k ≤ l.length ∧ (l.take k).all (fun y => !isI v y) = true) (fun k => l.length - k) (fun k => .len l.length <| .br (.elem _ intD l (fun e14 => .br (.fin []) (.back []))) (.fin []))) ?_
 refine Eq.mpr (by kernel_rfl : _ = ((l.map intD).length ≤ 9223372036854775807 → (∃ (k : Nat), (0 : Int) = (k : Int) ∧ k ≤ l.length ∧ (l.take k).all (fun y => !isI v y) = true) ∧ ∀ (k : Nat), (k ≤ l.length ∧ (l.take k).all (fun y => !isI v y) = true) → Lm intD l ∧ (((decide ((k : Int) < ((l.length : Nat) : Int))) = true → 0 ≤ (k : Int) ∧ Em intD l k fun e14 => ((decide (e14 = v)) = true → (true) = (decide (v ∈ l)) ∧ True) ∧ ((decide (e14 = v)) = false → inR ((k : Int) + (1 : Int)) ∧ ∃ (k' : Nat), ((k : Int) + (1 : Int)) = (k' : Int) ∧ (k' ≤ l.length ∧ (l.take k').all (fun y => !isI v y) = true) ∧ l.length - k' < l.length - k)) ∧ ((decide ((k : Int) < ((l.length : Nat) : Int))) = false → (false) = (decide (v ∈ l)) ∧ True)))) ?_
 intro n0
 simp only [List.length_map] at n0
 refine ⟨⟨0, rfl, Nat.zero_le _, rfl⟩, fun k ⟨hk, ha⟩ => ?_⟩
 refine ⟨List.length_map _, fun c0 => ?_, fun c0 => ?_⟩
 ·replace c0 := yq c0
  refine ⟨by omega, rfl, by omega, fun e14 h14 => ?_⟩
  refine ⟨fun c1 => ?_, fun c1 => ?_⟩
  ·replace c1 := yq c1
   have hE : decide (v ∈ l) = true := by rw [← c1]; exact decide_eq_true (List.mem_of_getElem? h14)
   refine ⟨?_, trivial⟩
   ·rw [hE]
  ·replace c1 := nq c1
   refine ⟨⟨by omega, by omega⟩, ?_⟩
   exact ⟨k + 1, rfl, ⟨by omega, all_snoc h14 ha (by simpa [isI] using fun q => c1 (Eq.symm q))⟩, by omega⟩
 ·replace c0 := nq c0
  have hE : decide (v ∈ l) = false := by rw [← idxF_mem, idxF_no (p := isI v) (all_done (by omega) ha)]; rfl
  refine ⟨?_, trivial⟩
  ·rw [hE]
def okDep (d : DatabaseD) (f : DependencyD) : Bool := (lookT d f.name).2 && (colsOk ((lookT d f.name).1.arity - 1) f.src && (inB f.dst 0 ((lookT d f.name).1.arity - 1) && !decide (f.dst ∈ f.src)))
def badP (rows : List (List Int)) (cols : List Int) (c : Int) (i k : Nat) : Bool := decide ((selR (rows.getD i []) cols).1 = (selR (rows.getD k []) cols).1) && !decide ((rows.getD i []).getD c.toNat 0 = (rows.getD k []).getD c.toNat 0)
def violI (rows : List (List Int)) (cols : List Int) (c : Int) (k : Nat) : Nat → List Int
  | 0 => []
  | i + 1 => if violI rows cols c k i = [] ∧ badP rows cols c i k = true then [(i : Int), (k : Int)] else violI rows cols c k i
def violK (rows : List (List Int)) (cols : List Int) (c : Int) : Nat → List Int
  | 0 => []
  | k + 1 => if violK rows cols c k = [] then violI rows cols c k k else violK rows cols c k
def violL (d : DatabaseD) (f : DependencyD) : List Int := if okDep d f = true then violK (lookT d f.name).1.rows f.src f.dst (lookT d f.name).1.rows.length else []
theorem violI_no {rows : List (List Int)} {cols : List Int} {c : Int} {k i : Nat} (h : violI rows cols c k i = []) (hb : badP rows cols c i k = false) : violI rows cols c k (i + 1) = [] := by rw [violI, if_neg (by simp [hb]), h]
theorem violI_stay {rows : List (List Int)} {cols : List Int} {c : Int} {k i : Nat} (h : ¬ violI rows cols c k i = []) : ∀ j, violI rows cols c k (i + j) = violI rows cols c k i
  | 0 => rfl
  | j + 1 => by rw [Nat.add_succ, violI, violI_stay h j, if_neg (by simp [h])]
theorem violK_stay {rows : List (List Int)} {cols : List Int} {c : Int} {k : Nat} (h : ¬ violK rows cols c k = []) : ∀ j, violK rows cols c (k + j) = violK rows cols c k
  | 0 => rfl
  | j + 1 => by rw [Nat.add_succ, violK, violK_stay h j, if_neg h]
theorem viol_found {rows : List (List Int)} {cols : List Int} {c : Int} {k i n : Nat} (hk : violK rows cols c k = []) (hi : violI rows cols c k i = []) (hb : badP rows cols c i k = true) (hik : i < k) (hkn : k < n) : violK rows cols c n = [(i : Int), (k : Int)] := by
  have h1 : violI rows cols c k (i + 1) = [(i : Int), (k : Int)] := by rw [violI, if_pos ⟨hi, hb⟩]
  have h2 : violI rows cols c k k = [(i : Int), (k : Int)] := by
    have := violI_stay (rows := rows) (cols := cols) (c := c) (k := k) (i := i + 1) (by rw [h1]; simp) (k - (i + 1))
    rw [show i + 1 + (k - (i + 1)) = k by omega, h1] at this
    exact this
  have h3 : violK rows cols c (k + 1) = [(i : Int), (k : Int)] := by rw [violK, if_pos hk, h2]
  have := violK_stay (rows := rows) (cols := cols) (c := c) (k := k + 1) (by rw [h3]; simp) (n - (k + 1))
  rw [show k + 1 + (n - (k + 1)) = n by omega, h3] at this
  exact this
theorem violK_next {rows : List (List Int)} {cols : List Int} {c : Int} {k : Nat} (hk : violK rows cols c k = []) (hi : violI rows cols c k k = []) : violK rows cols c (k + 1) = [] := by rw [violK, if_pos hk, hi]
theorem okDep_parts {d : DatabaseD} {f : DependencyD} (h : okDep d f = true) : okTable (lookT d f.name).1 = true ∧ 0 ≤ f.dst ∧ f.dst ≤ (lookT d f.name).1.arity - 1 ∧ f.src.length ≤ 3 := by
  simp only [okDep, Bool.and_eq_true] at h
  obtain ⟨h1, h2, h3, _⟩ := h
  have hT := (lookT_ok h1).1
  have ha := okTable_arity hT
  have := inB_true h3
  exact ⟨hT, this.1, this.2, cols_len h2 (by omega)⟩
theorem badP_at {rows : List (List Int)} {cols : List Int} {c : Int} {i k : Nat} {x y : List Int} (hx : rows[i]? = some x) (hy : rows[k]? = some y) : badP rows cols c i k = (decide ((selR x cols).1 = (selR y cols).1) && !decide (x.getD c.toNat 0 = y.getD c.toNat 0)) := by
  rw [badP, getD_at hx, getD_at hy]
def depOk (d : DatabaseD) (f : DependencyD) : Bool := okDep d f && decide (violL d f = [])
theorem len_zero {α : Type} [DecidableEq α] (l : List α) : decide (((l.length : Nat) : Int) = 0) = decide (l = []) := by
  cases l with
  | nil => rfl
  | cons a l => simp; omega
abbrev K_okDep_impl (d : DatabaseD) (f : DependencyD) : Prop := Con Tryz.prog 231 [.agg [.sl 162 3 (d.tables.map eTable)], .agg [.str f.name, .sl 3 1 (f.src.map intD), .int .i64 f.dst]] (vB (okDep d f)) []
theorem okDep_impl (d : DatabaseD) (f : DependencyD) (hc : cDatabase d ≤ 1048576) : K_okDep_impl d f := by
 refine con_x tbOk mixedW Tryz.func231 (by kernel_rfl) (.call (.tup [.agg [.p none (.str (((lookT d f.name).1).name)), vI (((lookT d f.name).1).arity), .p none (.sl 32 1 ((((lookT d f.name).1).rows).map eIntS))], vB ((lookT d f.name).2)]) [] <| .br (.call (vB (colsOk ((((lookT d f.name).1).arity) - 1) f.src)) [] <| .lit <| .br (.raw <| .call (vB (inB f.dst (0 : Int) (IntKind.i64.wrap ((((lookT d f.name).1).arity) - (1 : Int))))) [] <| .lit <| .br (.call (vB (decide (f.dst ∈ f.src))) [] <| .fin []) (.fin [])) (.fin [])) (.fin [])) ?_
 refine Eq.mpr (by kernel_rfl : _ = ((d.tables.map eTable).length ≤ 9223372036854775807 → (f.src.map intD).length ≤ 9223372036854775807 → Con Tryz.prog 148 [.agg [.sl 162 3 (d.tables.map eTable)], .one (.str f.name)] (.tup [.agg [.p none (.str (((lookT d f.name).1).name)), vI (((lookT d f.name).1).arity), .p none (.sl 32 1 ((((lookT d f.name).1).rows).map eIntS))], vB ((lookT d f.name).2)]) [] ∧ ((((lookT d f.name).2) = true → K_cols_impl f.src (((lookT d f.name).1).arity) ∧ (((colsOk ((((lookT d f.name).1).arity) - 1) f.src) = true → K_in_impl f.dst (0 : Int) (IntKind.i64.wrap ((((lookT d f.name).1).arity) - (1 : Int))) ∧ (((inB f.dst (0 : Int) (IntKind.i64.wrap ((((lookT d f.name).1).arity) - (1 : Int)))) = true → K_ctI f.src f.dst ∧ (!(decide (f.dst ∈ f.src))) = (okDep d f) ∧ True) ∧ ((inB f.dst (0 : Int) (IntKind.i64.wrap ((((lookT d f.name).1).arity) - (1 : Int)))) = false → (false) = (okDep d f) ∧ True))) ∧ ((colsOk ((((lookT d f.name).1).arity) - 1) f.src) = false → (false) = (okDep d f) ∧ True))) ∧ (((lookT d f.name).2) = false → (false) = (okDep d f) ∧ True)))) ?_
 intro n0 n1
 simp only [List.length_map] at n0 n1
 refine ⟨con_stl (lkT_impl _ f.name (by omega)) rfl, fun g15 => ?_, fun g15 => ?_⟩
 ·have hT := (lookT_ok g15).1
  have hA := okTable_arity hT
  have hw : IntKind.i64.wrap ((lookT d f.name).1.arity - 1) = (lookT d f.name).1.arity - 1 := IntWalk.i64_in _ ⟨by omega, by omega⟩
  try rw [hw]
  refine ⟨cols_impl _ _ (by omega), fun g22 => ?_, fun g22 => ?_⟩
  ·refine ⟨in_impl _ _ _, fun g30 => ?_, fun g30 => ?_⟩
   ·refine ⟨ctI _ _, ?_, trivial⟩
    ·first | (simp [okDep, *]; done) | (simp [okDep, *] at *; simp [*]; done) | (simp_all [okDep]; done)
   ·refine ⟨?_, trivial⟩
    ·first | (simp [okDep, *]; done) | (simp [okDep, *] at *; simp [*]; done) | (simp_all [okDep]; done)
  ·refine ⟨?_, trivial⟩
   ·first | (simp [okDep, *]; done) | (simp [okDep, *] at *; simp [*]; done) | (simp_all [okDep]; done)
 ·refine ⟨?_, trivial⟩
  ·first | (simp [okDep, *]; done) | (simp [okDep, *] at *; simp [*]; done) | (simp_all [okDep]; done)
abbrev K_okDep_spec (d : DatabaseD) (f : DependencyD) : Prop := Con Tryz.prog 212 [.agg [.sl 162 3 (d.tables.map eTable)], .agg [.str f.name, .sl 3 1 (f.src.map intD), .int .i64 f.dst]] (vB (okDep d f)) []
theorem okDep_spec (d : DatabaseD) (f : DependencyD) (hc : cDatabase d ≤ 1048576) : K_okDep_spec d f := by
 refine con_x tbOk mixedW Tryz.func212 (by kernel_rfl) (.call (.tup [.agg [.p none (.str (((lookT d f.name).1).name)), vI (((lookT d f.name).1).arity), .p none (.sl 32 1 ((((lookT d f.name).1).rows).map eIntS))], vB ((lookT d f.name).2)]) [] <| .br (.call (vB (okTable ((lookT d f.name).1) && colsOk (((lookT d f.name).1).arity - 1) f.src)) [] <| .lit <| .br (.raw <| .call (vB (inB f.dst (0 : Int) (IntKind.i64.wrap ((((lookT d f.name).1).arity) - (1 : Int))))) [] <| .lit <| .br (.call (vB (decide (f.dst ∈ f.src))) [] <| .fin []) (.fin [])) (.fin [])) (.fin [])) ?_
 refine Eq.mpr (by kernel_rfl : _ = ((d.tables.map eTable).length ≤ 9223372036854775807 → (f.src.map intD).length ≤ 9223372036854775807 → Con Tryz.prog 132 [.agg [.sl 162 3 (d.tables.map eTable)], .one (.str f.name)] (.tup [.agg [.p none (.str (((lookT d f.name).1).name)), vI (((lookT d f.name).1).arity), .p none (.sl 32 1 ((((lookT d f.name).1).rows).map eIntS))], vB ((lookT d f.name).2)]) [] ∧ ((((lookT d f.name).2) = true → K_cols_spec ((lookT d f.name).1) f.src ∧ (((okTable ((lookT d f.name).1) && colsOk (((lookT d f.name).1).arity - 1) f.src) = true → K_in_spec f.dst (0 : Int) (IntKind.i64.wrap ((((lookT d f.name).1).arity) - (1 : Int))) ∧ (((inB f.dst (0 : Int) (IntKind.i64.wrap ((((lookT d f.name).1).arity) - (1 : Int)))) = true → K_hsI f.src f.dst ∧ (!(decide (f.dst ∈ f.src))) = (okDep d f) ∧ True) ∧ ((inB f.dst (0 : Int) (IntKind.i64.wrap ((((lookT d f.name).1).arity) - (1 : Int)))) = false → (false) = (okDep d f) ∧ True))) ∧ ((okTable ((lookT d f.name).1) && colsOk (((lookT d f.name).1).arity - 1) f.src) = false → (false) = (okDep d f) ∧ True))) ∧ (((lookT d f.name).2) = false → (false) = (okDep d f) ∧ True)))) ?_
 intro n0 n1
 simp only [List.length_map] at n0 n1
 refine ⟨con_stl (lkT_spec _ f.name (by omega)) rfl, fun g15 => ?_, fun g15 => ?_⟩
 ·have hT := (lookT_ok g15).1
  have hA := okTable_arity hT
  have hw : IntKind.i64.wrap ((lookT d f.name).1.arity - 1) = (lookT d f.name).1.arity - 1 := IntWalk.i64_in _ ⟨by omega, by omega⟩
  try rw [hw]
  refine ⟨cols_spec ((lookT d f.name).1) _, fun g21 => ?_, fun g21 => ?_⟩
  ·refine ⟨in_spec _ _ _, fun g29 => ?_, fun g29 => ?_⟩
   ·refine ⟨hsI _ _, ?_, trivial⟩
    ·first | (simp [okDep, *]; done) | (simp [okDep, *] at *; simp [*]; done) | (simp_all [okDep]; done)
   ·refine ⟨?_, trivial⟩
    ·first | (simp [okDep, *]; done) | (simp [okDep, *] at *; simp [*]; done) | (simp_all [okDep]; done)
  ·refine ⟨?_, trivial⟩
   ·first | (simp [okDep, *]; done) | (simp [okDep, *] at *; simp [*]; done) | (simp_all [okDep]; done)
 ·refine ⟨?_, trivial⟩
  ·first | (simp [okDep, *]; done) | (simp [okDep, *] at *; simp [*]; done) | (simp_all [okDep]; done)
end Go.Proofs.YtokkjaflmcjlhaaGreat
namespace Go.Proofs
open Go.Shelf
namespace YtokkjaflmcjlhaaGreat
def Tryz.lays189_ren : Go.Shelf.Ren := ⟨fun | 189 => 248 | 125 => 278 | 257 => 277 | 128 => 296 | 129 => 297 | 294 => 287 | 295 => 288 | 296 => 289 | 297 => 290 | 298 => 291 | 299 => 292 | 216 => 293 | 300 => 294 | 301 => 295 | 328 => 309 | 329 => 310 | 330 => 311 | 331 => 312 | 332 => 313 | 215 => 314 | 343 => 318 | n => n, fun | 28 => 32 | 3 => 3 | 46 => 247 | 0 => 0 | 51 => 264 | 53 => 266 | 4 => 4 | 183 => 256 | 182 => 255 | 131 => 261 | 5 => 5 | 9 => 9 | 218 => 274 | 222 => 278 | 228 => 283 | 229 => 284 | n => n, fun | n => n⟩
theorem Tryz.lays189 : Go.Proofs.Lays.n189 Tryz.prog Tryz.lays189_ren := {
  mixed := by kernel_rfl
  f125 := Tryz.func278.trans (congrArg some (by kernel_rfl))
  f128 := Tryz.func296.trans (congrArg some (by kernel_rfl))
  f129 := Tryz.func297.trans (congrArg some (by kernel_rfl))
  f189 := Tryz.func248.trans (congrArg some (by kernel_rfl))
  f215 := Tryz.func314.trans (congrArg some (by kernel_rfl))
  f216 := Tryz.func293.trans (congrArg some (by kernel_rfl))
  f257 := Tryz.func277.trans (congrArg some (by kernel_rfl))
  f294 := Tryz.func287.trans (congrArg some (by kernel_rfl))
  f295 := Tryz.func288.trans (congrArg some (by kernel_rfl))
  f296 := Tryz.func289.trans (congrArg some (by kernel_rfl))
  f297 := Tryz.func290.trans (congrArg some (by kernel_rfl))
  f298 := Tryz.func291.trans (congrArg some (by kernel_rfl))
  f299 := Tryz.func292.trans (congrArg some (by kernel_rfl))
  f300 := Tryz.func294.trans (congrArg some (by kernel_rfl))
  f301 := Tryz.func295.trans (congrArg some (by kernel_rfl))
  f328 := Tryz.func309.trans (congrArg some (by kernel_rfl))
  f329 := Tryz.func310.trans (congrArg some (by kernel_rfl))
  f330 := Tryz.func311.trans (congrArg some (by kernel_rfl))
  f331 := Tryz.func312.trans (congrArg some (by kernel_rfl))
  f332 := Tryz.func313.trans (congrArg some (by kernel_rfl))
  f343 := Tryz.func318.trans (congrArg some (by kernel_rfl))
  t0 := Tryz.underlying0
  a0 := Tryz.isAgg0
  z0 := Tryz.sizeOf0
  v0 := Tryz.zeroValue0
  t3 := Tryz.underlying3
  a3 := Tryz.isAgg3
  z3 := Tryz.sizeOf3
  v3 := Tryz.zeroValue3
  t4 := Tryz.underlying4
  a4 := Tryz.isAgg4
  z4 := Tryz.sizeOf4
  v4 := Tryz.zeroValue4
  t5 := Tryz.underlying5
  a5 := Tryz.isAgg5
  z5 := Tryz.sizeOf5
  v5 := Tryz.zeroValue5
  t9 := Tryz.underlying9
  a9 := Tryz.isAgg9
  z9 := Tryz.sizeOf9
  v9 := Tryz.zeroValue9
  t28 := Tryz.underlying32
  a28 := Tryz.isAgg32
  z28 := Tryz.sizeOf32
  v28 := Tryz.zeroValue32
  t46 := Tryz.underlying247
  a46 := Tryz.isAgg247
  z46 := Tryz.sizeOf247
  v46 := Tryz.zeroValue247
  t51 := Tryz.underlying264
  a51 := Tryz.isAgg264
  z51 := Tryz.sizeOf264
  v51 := Tryz.zeroValue264
  t53 := Tryz.underlying266
  a53 := Tryz.isAgg266
  z53 := Tryz.sizeOf266
  v53 := Tryz.zeroValue266
  t131 := Tryz.underlying261
  a131 := Tryz.isAgg261
  z131 := Tryz.sizeOf261
  v131 := Tryz.zeroValue261
  t182 := Tryz.underlying255
  a182 := Tryz.isAgg255
  z182 := Tryz.sizeOf255
  v182 := Tryz.zeroValue255
  t183 := Tryz.underlying256
  a183 := Tryz.isAgg256
  z183 := Tryz.sizeOf256
  v183 := Tryz.zeroValue256
  t218 := Tryz.underlying274
  a218 := Tryz.isAgg274
  z218 := Tryz.sizeOf274
  v218 := Tryz.zeroValue274
  t222 := Tryz.underlying278
  a222 := Tryz.isAgg278
  z222 := Tryz.sizeOf278
  v222 := Tryz.zeroValue278
  t228 := Tryz.underlying283
  a228 := Tryz.isAgg283
  z228 := Tryz.sizeOf283
  v228 := Tryz.zeroValue283
  t229 := Tryz.underlying284
  a229 := Tryz.isAgg284
  z229 := Tryz.sizeOf284
  v229 := Tryz.zeroValue284 }
end YtokkjaflmcjlhaaGreat
end Go.Proofs
namespace Go.Proofs.YtokkjaflmcjlhaaGreat
open Go.ChangeShapes Go.WideShapes Go.ChangeAt Go.RowKit
set_option linter.unusedVariables false
set_option linter.unusedSimpArgs false
theorem owRs_ints {w : World} : ∀ {l : List Int} {css : List (List Value)} {Fs : List (List Nat)}, OwRs w 1 (l.map intD) css Fs → css.flatten = l.map (Value.int .i64) ∧ Fs.flatten = []
  | [], css, Fs, h => by
    simp only [List.map_nil] at h
    unfold OwRs at h
    rw [h.1, h.2]; simp
  | n :: l, css, Fs, h => by
    simp only [List.map_cons] at h
    unfold OwRs at h
    obtain ⟨c, css', F, Fs', rfl, rfl, _, h1, h2⟩ := h
    obtain ⟨q1, q2⟩ := owRs_ints h2
    unfold intD OwCs at h1
    obtain ⟨v, cs', F1, F2, rfl, rfl, h3, h4⟩ := h1
    unfold OwCs at h4
    unfold OwV at h3
    simp [q1, q2, h4.1, h4.2, h3.1, h3.2]
theorem owRs_of_ints (w : World) : ∀ (l : List Int), OwRs w 1 (l.map intD) (l.map fun n => [Value.int .i64 n]) (l.map fun _ => [])
  | [] => by simp only [List.map_nil]; unfold OwRs; exact ⟨rfl, rfl⟩
  | n :: l => by
    simp only [List.map_cons]
    unfold OwRs
    refine ⟨_, _, _, _, rfl, rfl, rfl, ?_, owRs_of_ints w l⟩
    unfold intD OwCs
    refine ⟨_, _, [], [], rfl, rfl, ?_, ?_⟩
    · unfold OwV; exact ⟨rfl, rfl⟩
    · unfold OwCs; exact ⟨rfl, rfl⟩
theorem flat_ints : ∀ (m : List Int), (m.map fun n => [Value.int .i64 n]).flatten = m.map (Value.int .i64)
  | [] => rfl
  | a :: l => by simp only [List.map_cons, List.flatten_cons, flat_ints l]; rfl
theorem con2_ints {P : Program} {f : FuncId} {e : Nat} (l m : List Int) (hc : callable P f = true) (hm : m.length = l.length)
    (hn0 : l = [] → ∀ w, Calls P f #[.slice none 0 0] w (fun ex w' => ex = .returned (.tuple #[]) ∧ w' = w))
    (hs : ∀ (blk cap : Nat) (w : World), Go.Sort.Holds (Value.int .i64) w blk 0 l.toArray → blk < w.heap.size → l.length ≤ cap → Calls P f #[.slice (some ⟨blk, 0, none⟩) l.length cap] w (fun ex w' => ex = .returned (.tuple #[]) ∧ ∃ n os, w' = Go.Sort.grow (Go.Sort.putRow (Value.int .i64) (Go.Sort.ahead w n) blk 0 m.toArray) os)) :
    Con2 P f [.own 0] [(0, .arr e 1 true (l.map intD))] (.tup []) [(0, .arr e 1 true (m.map intD))] := by
  refine ⟨hc, by simp, fun A φ w vs hI hM => ?_⟩
  obtain ⟨pl, hp, css, Fs, q1, q2, q3, q4⟩ := hI.dom 0 _ rfl
  unfold MatchL at hM
  obtain ⟨v, us, e1, m1, hM⟩ := hM
  unfold MatchL at hM
  unfold MatchV at m1
  have hv := m1 pl hp
  have ev : vs = #[pl.val] := by apply Array.ext'; rw [e1, hM, hv]
  rw [ev]
  obtain ⟨c1, c2⟩ := owRs_ints q4
  rw [c1, List.length_map] at q1
  have hge := hI.ge 0 pl hp
  have hsub : pl.sub = [] := by rw [q3, c2]
  have hfoot : ∀ b ∈ pl.F, AllF φ b := fun b hb => ⟨0, pl, trivial, hp, hb⟩
  have hend : ∀ (w' : World), Only pl.F w w' → w'.ownsRow 0 e 1 pl.val l.length (m.map (Value.int .i64)) →
      ∃ v K φ', Ending.returned (.tuple #[]) = .returned v ∧ Out2 A φ w [(0, .arr e 1 true (m.map intD))] K φ' w' ∧ MatchV K φ' w' (.tup []) v := by
    intro w' hon howns
    refine ⟨_, A, fun h => if h = 0 then some pl else none, rfl, ⟨⟨hon.os, hon.tape, hon.output, hon.size, fun b hb hn => hon.block b hb (fun hm => hn (hfoot b hm))⟩, fun _ h => h, fun b hb => ⟨Nat.lt_of_lt_of_le (hI.lt b hb) hon.size, .inl hb⟩, fun b hb h pl1 e' hm' => ?_, fun h r hr => ?_, fun h hr => ?_, fun h h' pl1 pl2 hne ea eb => ?_, fun h pl1 e' => ?_, fun h pl1 e' g hg => ?_, fun h pl1 pl0 e' e0 => ?_⟩, ?_⟩
    · split at e'
      · injection e' with e'; subst e'
        exact hI.out b hb 0 pl hp hm'
      · cases e'
    · simp only [findH] at hr
      split at hr
      · rename_i eh
        subst eh
        injection hr with hr
        subst hr
        refine ⟨pl, by simp, m.map fun n => [Value.int .i64 n], m.map fun _ => [], ?_, q2, ?_, owRs_of_ints _ m⟩
        · rw [flat_ints, List.length_map, hm]; exact howns
        · rw [hsub]; simp
      · cases hr
    · simp only [findH] at hr
      split at hr
      · cases hr
      · rename_i eh; exact if_neg eh
    · split at ea
      · split at eb
        · rename_i x y; exact absurd (x.trans y.symm) hne
        · cases eb
      · cases ea
    · split at e'
      · injection e' with e'; subst e'; exact hI.nodup 0 pl hp
      · cases e'
    · split at e'
      · injection e' with e'; subst e'
        exact ⟨.inr (hfoot g hg), Nat.lt_of_lt_of_le (hge g hg) hon.size⟩
      · cases e'
    · split at e'
      · rename_i eh
        subst eh
        rw [hp] at e0
        injection e0 with e0; injection e' with e'
        subst e0; subst e'
        exact ⟨rfl, rfl⟩
      · cases e'
    · unfold MatchV
      exact ⟨#[], rfl, by unfold MatchL; rfl⟩
  rcases q1.2 with ⟨hvn, hz⟩ | ⟨g, cap, cur, hvv, hg0, hb, hn, hcap, hsz, htk⟩
  · have hz' : l = [] := List.eq_nil_of_length_eq_zero hz
    rw [hvn]
    refine (hn0 hz' w).mono ?_
    rintro en w' ⟨rfl, rfl⟩
    have hm0 : m = [] := List.eq_nil_of_length_eq_zero (by rw [hm, hz])
    refine hend w' (Only.refl _ _) ?_
    rw [hvn, hm0, hz]
    exact ⟨by simp, .inl ⟨rfl, rfl⟩⟩
  · have hlt : g < w.heap.size := (Array.getElem?_eq_some_iff.1 hb).1
    have hH : Go.Sort.Holds (Value.int .i64) w g 0 l.toArray := holds_of_blockI hb (by rw [Nat.mul_one] at htk; exact htk)
    rw [hvv]
    refine (hs g cap w hH hlt hn).mono ?_
    rintro en w' ⟨rfl, n, os, rfl⟩
    have hgb := grownBy_sortedI (w := w) (g := g) (n := n) (os := os) m.toArray
    have hown := ownsRow_sortedI (n := n) (os := os) hm hg0 hb hn hcap hsz
    refine hend _ ⟨hgb.os, hgb.tape, hgb.output, hgb.size, fun k hk hne => hgb.block k hk (fun e => hne (by injection e with e; subst e; unfold Pl.F; rw [q2, hvv]; simp [Value.ownBlock]))⟩ ?_
    rw [hvv]; exact hown
def sortI (l : List Int) : List Int := l.mergeSort fun x y => decide (x ≤ y)
theorem sortI_perm (l : List Int) : (sortI l).Perm l := List.mergeSort_perm l _
theorem sortI_len (l : List Int) : (sortI l).length = l.length := (sortI_perm l).length_eq
theorem sortI_pair (l : List Int) : (sortI l).Pairwise (· ≤ ·) := by
  have := List.pairwise_mergeSort (le := fun x y : Int => decide (x ≤ y)) (fun a b c h1 h2 => by simp at *; omega) (fun a b => by simp; omega) l
  exact this.imp (fun h => by simpa using h)
theorem con_sortI (l : List Int) (hl : l.length < 4611686018427387904) : Con2 Tryz.prog 248 [.own 0] [(0, .arr 3 1 true (l.map intD))] (.tup []) [(0, .arr 3 1 true ((sortI l).map intD))] :=
  con2_ints l (sortI l) (by kernel_rfl) (sortI_len l)
    (fun h w => Any.slices_Sort_int_none Tryz.lays189 none 0 w)
    (fun blk cap w hH hblk _ => Any.slices_Sort_int Tryz.lays189 blk 0 cap l w hH hblk hl)
end Go.Proofs.YtokkjaflmcjlhaaGreat

