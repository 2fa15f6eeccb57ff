/-
  The law FnExactElementalRows.
-/
import Derived.Test.YtcfilkhjababjaaEc
import Derived.Test.YtcfilkhjababjaaEd
import Derived.Test.YtcfilkhjababjaaDn
import Derived.Test.YtcfilkhjababjaaDo
import Derived.Test.YtcfilkhjababjaaDc
import Derived.Test.YtcfilkhjababjaaDd
import Derived.Test.YtcfilkhjababjaaDe
namespace Go.Proofs.Ytcfilkhjababjaa
open Go.ChangeShapes Go.WideShapes Go.ChangeAt Go.RowKit
set_option linter.unusedVariables false
set_option linter.unusedSimpArgs false
theorem elem_small (n : Int) : cIntSS (elemI n) ≤ 1000 := by
  by_cases h : 1 ≤ n ∧ n ≤ 4
  · have : n = 1 ∨ n = 2 ∨ n = 3 ∨ n = 4 := by omega
    rcases this with rfl | rfl | rfl | rfl <;> decide +kernel
  · rw [elemI, if_neg h]; decide

set_option maxRecDepth 100000 in
set_option maxHeartbeats 4000000 in
theorem lawElementalRows (a0 : Int) (h0 : Fits a0) : Con Try.prog 4 [.one (.int .i64 a0)] (vB true) [] := by
  refine con_x tbOk mixedW Try.func4 (by kernel_rfl) (.call (.own 0) [(0, .arr 34 1 true ((elemS a0).map eIntS))] <| .call (.own 0) [(0, .arr 34 1 true ((elemI a0).map eIntS))] <| .call (vB true) [] <| .callx [.own 0, vI (1 : Int)] [(0, .arr 34 1 true ((elemI a0).map eIntS))] [(0, 1100)] (vI ((1 : Int) + ((sIntSS (elemI a0) : Nat) : Int))) [(0, .arr 34 1 true ((mIntSS (1 : Int) (elemI a0)).map eIntS))] <| .call (vI ((1 : Int) + ((sIntSS (elemI a0) : Nat) : Int))) [] <| .no <| .no <| .call (.own 0) [(0, .arr 34 1 true ((elemI a0).map eIntS))] <| .call (vB true) [] <| .call (vI ((1 : Int) + ((sIntSS (elemI a0) : Nat) : Int))) [] <| .no <| .no <| .fin []) ?_
  refine Eq.mpr (by kernel_rfl : _ = (Con Try.prog 17 [.one (.int .i64 a0)] (.own 0) [(0, .arr 34 1 true ((elemS a0).map eIntS))] ∧ Con Try.prog 18 [.one (.int .i64 a0)] (.own 0) [(0, .arr 34 1 true ((elemI a0).map eIntS))] ∧ Con Try.prog 19 [.one (.sl 34 1 ((elemI a0).map eIntS)), .one (.sl 34 1 ((elemS a0).map eIntS))] (vB true) [] ∧ Con2 Try.prog 20 [.own 0, vI (1 : Int)] [(0, .arr 34 1 true ((elemI a0).map eIntS))] (vI ((1 : Int) + ((sIntSS (elemI a0) : Nat) : Int))) [(0, .arr 34 1 true ((mIntSS (1 : Int) (elemI a0)).map eIntS))] ∧ (1 : Int) = (1 : Int) ∧ (elemI a0).map eIntS = (elemI a0).map eIntS ∧ Con Try.prog 21 [.one (.sl 34 1 ((mIntSS (1 : Int) (elemI a0)).map eIntS)), .one (.int .i64 (1 : Int))] (vI ((1 : Int) + ((sIntSS (elemI a0) : Nat) : Int))) [] ∧ (decide (((1 : Int) + ((sIntSS (elemI a0) : Nat) : Int)) < (0 : Int))) = false ∧ (!(decide (((1 : Int) + ((sIntSS (elemI a0) : Nat) : Int)) = ((1 : Int) + ((sIntSS (elemI a0) : Nat) : Int))))) = false ∧ Con Try.prog 18 [.one (.int .i64 a0)] (.own 0) [(0, .arr 34 1 true ((elemI a0).map eIntS))] ∧ Con Try.prog 19 [.one (.sl 34 1 ((elemI a0).map eIntS)), .one (.sl 34 1 ((elemS a0).map eIntS))] (vB true) [] ∧ Con Try.prog 21 [.one (.sl 34 1 ((mIntSS (1 : Int) (elemI a0)).map eIntS)), .one (.int .i64 (1 : Int))] (vI ((1 : Int) + ((sIntSS (elemI a0) : Nat) : Int))) [] ∧ (decide (((1 : Int) + ((sIntSS (elemI a0) : Nat) : Int)) < (0 : Int))) = false ∧ (!(decide (((1 : Int) + ((sIntSS (elemI a0) : Nat) : Int)) = ((1 : Int) + ((sIntSS (elemI a0) : Nat) : Int))))) = false ∧ (true) = true ∧ True)) ?_
  have e1 := elem_eq a0
  have e2 := elem_small a0
  have e3 := sIntSS_le (elemI a0)
  refine ⟨elem_spec a0, ?_⟩
  refine ⟨elem_impl _, ?_⟩
  refine ⟨by rw [elem_eq]; exact eq_IntSS _, ?_⟩
  refine ⟨mk_IntSS _ _ (by omega) (by first | omega | (dsimp only; omega)), rfl, rfl, ?_⟩
  refine ⟨hd_IntSS _ _ (by omega) (by first | omega | (dsimp only; omega)), ?_⟩
  refine ⟨by first | (simp; done) | (simp; omega) | (simp [*]; done), ?_⟩
  refine ⟨by first | (simp; done) | (simp; omega) | (simp [*]; done), ?_⟩
  refine ⟨elem_impl _, ?_⟩
  refine ⟨by rw [elem_eq]; exact eq_IntSS _, ?_⟩
  refine ⟨hd_IntSS _ _ (by omega) (by first | omega | (dsimp only; omega)), ?_⟩
  refine ⟨by first | (simp; done) | (simp; omega) | (simp [*]; done), ?_⟩
  refine ⟨by first | (simp; done) | (simp; omega) | (simp [*]; done), ?_⟩
  refine ⟨?_, trivial⟩
  · rfl
end Go.Proofs.Ytcfilkhjababjaa
