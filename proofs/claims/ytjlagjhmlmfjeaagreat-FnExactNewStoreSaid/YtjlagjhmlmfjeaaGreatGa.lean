/-
  Rows in order, each once.
-/
import Derived.Test.YtjlagjhmlmfjeaaGreatFe
import Derived.Test.YtjlagjhmlmfjeaaGreatSq
import Derived.Test.YtjlagjhmlmfjeaaGreatSd
namespace Go.Proofs.YtjlagjhmlmfjeaaGreat
open Go.ChangeShapes Go.WideShapes Go.ChangeAt Go.RowKit
set_option linter.unusedVariables false
set_option linter.unusedSimpArgs false
set_option maxRecDepth 100000 in
set_option maxHeartbeats 4000000 in
theorem sorted_impl (l : List (List Int)) (hc : cIntSS l ≤ 1048576) : Con Tryz.prog 137 [.one (.sl 25 1 (l.map eIntS))] (.own 0) [(0, .arr 25 1 true ((dedR (sortR l)).map eIntS))] := by
  refine con_x tbOk mixedW Tryz.func137 (by kernel_rfl) (.call (.own 0) [(0, .arr 25 1 true (l.map eIntS))] <| .callx [.own 0, .fn 182 []] [(0, .arr 25 1 true (l.map eIntS))] [(0, 500)] (.tup []) [(0, .arr 25 1 true ((sortR l).map eIntS))] <| .callx [.own 0, .fn 184 []] [(0, .arr 25 1 true ((sortR l).map eIntS))] [(0, 500)] (.own 1) [(1, .arr 25 1 true ((dedR (sortR l)).map eIntS))] <| .fin [(0, 901)]) ?_
  refine Eq.mpr (by kernel_rfl : _ = ((l.map eIntS).length ≤ 9223372036854775807 → Con Tryz.prog 130 [.one (.sl 25 1 (l.map eIntS))] (.own 0) [(0, .arr 25 1 true (l.map eIntS))] ∧ Con2 Tryz.prog 181 [.own 0, .fn 182 []] [(0, .arr 25 1 true (l.map eIntS))] (.tup []) [(0, .arr 25 1 true ((sortR l).map eIntS))] ∧ l.map eIntS = l.map eIntS ∧ Con2 Tryz.prog 183 [.own 0, .fn 184 []] [(0, .arr 25 1 true ((sortR l).map eIntS))] (.own 1) [(1, .arr 25 1 true ((dedR (sortR l)).map eIntS))] ∧ (sortR l).map eIntS = (sortR l).map eIntS ∧ (dedR (sortR l)).map eIntS = (dedR (sortR l)).map eIntS ∧ True)) ?_
  intro n0
  simp only [List.length_map] at n0
  have hlen := cIntSS_len l
  refine ⟨cpR _ (by omega), ?_⟩
  refine ⟨con_sort l (by omega), rfl, ?_⟩
  refine ⟨con_compact (sortR l) (by first | omega | (rw [sortR_len]; omega)), rfl, ?_⟩
  exact ⟨rfl, trivial⟩
end Go.Proofs.YtjlagjhmlmfjeaaGreat
