/-
  Catalogues are small.
-/
import Derived.Test.YtjlagjhmlmfjeaaGreatGh
namespace Go.Proofs.YtjlagjhmlmfjeaaGreat
open Go.ChangeShapes Go.WideShapes Go.ChangeAt Go.RowKit
set_option linter.unusedVariables false
set_option linter.unusedSimpArgs false
theorem cntL_bound {α : Type} {c : α → Nat} {m : Nat} {l : List α} (h : ∀ x ∈ l, c x ≤ m) : cntL c l ≤ l.length + l.length * m := by
  have h1 := sumL_bound (ct := c) (m := m) (l := l) h
  have h2 : cntL c l = l.length + sumL c l := rfl
  omega
theorem grp_small (t : TableD) (cols : List Int) : cIntSS (grpR t cols).1 ≤ 64 ∧ (grpR t cols).2.length ≤ 8 := by
  cases h : (okTable t && colsOk (t.arity - 1) cols) with
  | false => rw [grpR_no h]; exact ⟨by decide, by decide⟩
  | true =>
    have := sel_put (k := (selA t cols).length) h
    rw [List.take_length, foldPut_ded] at this
    rw [grpR_yes h]
    exact ⟨this.2, by simp only [grpC, List.length_map, grpV]; exact this.1⟩
theorem okTable_name {t : TableD} (h : okTable t = true) : t.name.size = 1 := by
  simp only [okTable, okName, Bool.and_eq_true, decide_eq_true_eq] at h
  omega
theorem stats_small (t : TableD) : cTableStats (statsOf t) ≤ 2000 := by
  cases h : okTable t with
  | false => rw [statsOf_no h]; decide
  | true =>
    have hT := okTable_arity h
    have hn := okTable_name h
    have hl := colSubs_len (n := t.arity) ⟨hT.1, hT.2.1⟩
    rw [statsOf_yes h]
    have h1 := cntL_bound (c := cGroupStats) (m := 75) (l := (colSubs t.arity).map (grpS t)) fun x hx => by
      obtain ⟨c, hc, rfl⟩ := List.mem_map.1 hx
      obtain ⟨k, hk, hc⟩ := List.mem_iff_getElem.1 hc
      have h3 := colSubs_at (List.getElem?_eq_some_iff.2 ⟨hk, hc⟩)
      have h4 := grp_small t c
      have h5 : cGroupStats (grpS t c) = c.length + cIntSS (grpR t c).1 + (grpR t c).2.length := rfl
      omega
    rw [List.length_map] at h1
    have h2 : cTableStats ⟨t.name, t.arity, (t.rows.length : Nat), (colSubs t.arity).map (grpS t)⟩ = t.name.size + cntL cGroupStats ((colSubs t.arity).map (grpS t)) := rfl
    omega
theorem cat_small (d : DatabaseD) (v : Int) : cCatalogue (catOf d v).1 ≤ 20000 := by
  cases h : (okDb d && inB v 1 999) with
  | false => rw [catOf_no h]; decide
  | true =>
    have h6 := okDb_len (by simp_all : okDb d = true)
    rw [catOf_yes h]
    have h1 := cntL_bound (c := cTableStats) (m := 2000) (l := d.tables.map statsOf) fun x hx => by
      obtain ⟨t, _, rfl⟩ := List.mem_map.1 hx
      exact stats_small t
    rw [List.length_map] at h1
    have h2 : cCatalogue ⟨v, d.tables.map statsOf⟩ = cntL cTableStats (d.tables.map statsOf) := rfl
    show cCatalogue ⟨v, d.tables.map statsOf⟩ ≤ 20000
    omega
end Go.Proofs.YtjlagjhmlmfjeaaGreat
