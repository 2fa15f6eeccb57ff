/-
  Sequences of degrees, the program's side.
-/
import Derived.Test.YtjlagjhmlmfjeaaGreatHb
import Derived.Test.YtjlagjhmlmfjeaaGreatGj
import Derived.Test.YtjlagjhmlmfjeaaGreatSv
namespace Go.Proofs.YtjlagjhmlmfjeaaGreat
open Go.ChangeShapes Go.WideShapes Go.ChangeAt Go.RowKit
set_option linter.unusedVariables false
set_option linter.unusedSimpArgs false
abbrev DescL (l : List Int) : Prop := l.Pairwise fun a b => b ≤ a
def downL (l : List Int) : List Int := (sortI l).reverse
theorem downL_perm (l : List Int) : (downL l).Perm l := (List.reverse_perm _).trans (sortI_perm l)
theorem downL_len (l : List Int) : (downL l).length = l.length := (downL_perm l).length_eq
theorem downL_desc (l : List Int) : DescL (downL l) := List.pairwise_reverse.2 (sortI_pair l)
theorem desc_unique {l m : List Int} (hp : l.Perm m) (h1 : DescL l) (h2 : DescL m) : l = m :=
  List.Perm.eq_of_pairwise (le := fun a b : Int => b ≤ a) (fun a b _ _ h1 h2 => by omega) h1 h2 hp
theorem ins_perm {l out : List Int} {k j : Nat} {x : Int} (hp : out.Perm (l.take k)) (hx : l[k]? = some x) : ((([] : List Int) ++ out.take j) ++ [x] ++ out.drop j).Perm (l.take (k + 1)) := by
  rw [take_snoc hx, List.nil_append]
  have h1 : (out.take j ++ [x] ++ out.drop j).Perm (out.take j ++ out.drop j ++ [x]) := by
    rw [List.append_assoc, List.append_assoc]
    exact List.Perm.append_left _ List.perm_append_comm
  rw [List.take_append_drop] at h1
  exact h1.trans (hp.append_right _)
theorem ins_desc {out : List Int} {j : Nat} {x : Int} (hd : DescL out) (hj : j ≤ out.length) (hs : ∀ i, j ≤ i → i < out.length → out.getD i 0 < x) (hx : j = 0 ∨ ¬ out.getD (j - 1) 0 < x) : DescL ((([] : List Int) ++ out.take j) ++ [x] ++ out.drop j) := by
  rw [List.nil_append, List.append_assoc]
  have hd' := hd
  rw [← List.take_append_drop j out] at hd'
  obtain ⟨d1, d2, d3⟩ := List.pairwise_append.1 hd'
  have hlo : ∀ a ∈ out.drop j, a ≤ x := fun a ha => by
    obtain ⟨i, hi, rfl⟩ := List.mem_iff_getElem.1 ha
    have hi' : i < out.length - j := by simpa using hi
    have := hs (j + i) (by omega) (by omega)
    rw [List.getElem_drop]
    rw [List.getD_eq_getElem?_getD, List.getElem?_eq_getElem (by omega)] at this
    simp only [Option.getD_some] at this
    omega
  have hhi : ∀ a ∈ out.take j, x ≤ a := fun a ha => by
    obtain ⟨i, hi, rfl⟩ := List.mem_iff_getElem.1 ha
    have hi' : i < j := by
      have := hi
      rw [List.length_take] at this
      omega
    rcases hx with h | h
    · omega
    · have hp := List.pairwise_iff_getElem.1 hd
      rw [List.getD_eq_getElem?_getD, List.getElem?_eq_getElem (by omega)] at h
      simp only [Option.getD_some] at h
      rw [List.getElem_take]
      by_cases e : i = j - 1
      · subst e; omega
      · have := hp i (j - 1) (by omega) (by omega) (by omega)
        omega
  refine List.pairwise_append.2 ⟨d1, List.pairwise_append.2 ⟨List.pairwise_singleton _ _, d2, fun a ha b hb => ?_⟩, fun a ha b hb => ?_⟩
  · rw [List.mem_singleton] at ha
    subst ha; exact hlo b hb
  · rcases List.mem_append.1 hb with q | q
    · rw [List.mem_singleton] at q
      subst q; exact hhi a ha
    · exact d3 a ha b q
theorem desc_down {out : List Int} {j : Nat} {x e : Int} (h : out[j - 1]? = some e) (hc : e < x) (hs : ∀ i, j ≤ i → i < out.length → out.getD i 0 < x) : ∀ i, j - 1 ≤ i → i < out.length → out.getD i 0 < x := fun i h1 h2 => by
  by_cases q : i = j - 1
  · rw [q, getD_at h]; exact hc
  · exact hs i (by omega) h2

set_option maxRecDepth 100000 in
set_option maxHeartbeats 4000000 in
theorem deg_impl (t : TableD) (cols : List Int) (hl : cols.length ≤ 1048576) : Con Tryz.prog 79 [.agg [.str t.name, .int .i64 t.arity, .sl 25 1 (t.rows.map eIntS)], .one (.sl 3 1 (cols.map intD))] (.own 0) [(0, .arr 3 1 true ((downL (grpR t cols).2).map intD))] := by
  refine con_x tbOk mixedW Tryz.func79 (by kernel_rfl) (.call (.tup [.own 0, .own 1]) [(0, .arr 25 1 true (((grpR t cols).1).map eIntS)), (1, .arr 3 1 true (((grpR t cols).2).map intD))] <| .call (.own 0) [(0, .arr 3 1 true (((grpR t cols).2).map intD))] <| .callx [.own 0] [(0, .arr 3 1 true (((grpR t cols).2).map intD))] [(0, 1500)] (.tup []) [(0, .arr 3 1 true ((sortI ((grpR t cols).2)).map intD))] <| .callx [.own 0] [(0, .arr 3 1 true ((sortI ((grpR t cols).2)).map intD))] [(0, 1500)] (.tup []) [(0, .arr 3 1 true (((sortI ((grpR t cols).2)).reverse).map intD))] <| .fin [(0, 1500)]) ?_
  refine Eq.mpr (by kernel_rfl : _ = ((t.rows.map eIntS).length ≤ 9223372036854775807 → (cols.map intD).length ≤ 9223372036854775807 → Con Tryz.prog 141 [.agg [.str t.name, .int .i64 t.arity, .sl 25 1 (t.rows.map eIntS)], .one (.sl 3 1 (cols.map intD))] (.tup [.own 0, .own 1]) [(0, .arr 25 1 true (((grpR t cols).1).map eIntS)), (1, .arr 3 1 true (((grpR t cols).2).map intD))] ∧ Con Tryz.prog 133 [.one (.sl 3 1 (((grpR t cols).2).map intD))] (.own 0) [(0, .arr 3 1 true (((grpR t cols).2).map intD))] ∧ Con2 Tryz.prog 146 [.own 0] [(0, .arr 3 1 true (((grpR t cols).2).map intD))] (.tup []) [(0, .arr 3 1 true ((sortI ((grpR t cols).2)).map intD))] ∧ ((grpR t cols).2).map intD = ((grpR t cols).2).map intD ∧ Con2 Tryz.prog 147 [.own 0] [(0, .arr 3 1 true ((sortI ((grpR t cols).2)).map intD))] (.tup []) [(0, .arr 3 1 true (((sortI ((grpR t cols).2)).reverse).map intD))] ∧ (sortI ((grpR t cols).2)).map intD = (sortI ((grpR t cols).2)).map intD ∧ ((sortI ((grpR t cols).2)).reverse).map intD = (downL (grpR t cols).2).map intD ∧ True)) ?_
  intro n0 n1
  simp only [List.length_map] at n0 n1
  have hg := grp_small t cols
  refine ⟨grp_impl t cols (by omega), ?_⟩
  refine ⟨cpI _ (by omega), ?_⟩
  refine ⟨con_sortI ((grpR t cols).2) (by omega), rfl, ?_⟩
  refine ⟨con_revI (sortI ((grpR t cols).2)) (by first | omega | (rw [sortI_len]; omega)), rfl, ?_⟩
  refine ⟨?_, trivial⟩
  · rfl
end Go.Proofs.YtjlagjhmlmfjeaaGreat
