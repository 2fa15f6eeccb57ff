/-
  The law FnExactRenumberConstraints.
-/
import Derived.Test.YtcfilkhjababjaaRa
import Derived.Test.YtcfilkhjababjaaDn
import Derived.Test.YtcfilkhjababjaaDo
import Derived.Test.YtcfilkhjababjaaDc
import Derived.Test.YtcfilkhjababjaaDd
import Derived.Test.YtcfilkhjababjaaDe
namespace Go.Proofs.Ytcfilkhjababjaa
open Go.ChangeShapes Go.WideShapes Go.ChangeAt Go.RowKit
set_option linter.unusedVariables false
set_option linter.unusedSimpArgs false
set_option maxRecDepth 100000 in
set_option maxHeartbeats 4000000 in
theorem lawRenumberConstraints (a0 : List SizeConstraintD) (a1 : List Int) (h0 : FSizeConstraintS a0) (h1 : FIntS a1) : Con Try.prog 5 [.one (.sl 111 3 (a0.map eSizeConstraint)), .one (.sl 3 1 (a1.map intD))] (vB true) [] := by
  refine con_x tbOk mixedW Try.func5 (by kernel_rfl) (.len a1.length <| .br (.fin []) (.call (vI (szStep (cSizeConstraintS a0) (1048576 : Int))) [] <| .br (.fin []) (.call (.own 0) [(0, .arr 111 3 true (a0.map eSizeConstraint))] <| .call (.own 0) [(0, .arr 3 1 true (a1.map intD))] <| .call (.own 0) [(0, .arr 111 3 true ((a0.map (renC a1)).map eSizeConstraint))] <| .call (.own 0) [(0, .arr 111 3 true (a0.map eSizeConstraint))] <| .call (.own 0) [(0, .arr 3 1 true (a1.map intD))] <| .call (.own 0) [(0, .arr 111 3 true ((a0.map (renC a1)).map eSizeConstraint))] <| .call (vB true) [] <| .call (.own 0) [(0, .arr 111 3 true (a0.map eSizeConstraint))] <| .call (vB true) [] <| .call (.own 0) [(0, .arr 3 1 true (a1.map intD))] <| .call (vB true) [] <| .callx [.own 0, vI (1 : Int)] [(0, .arr 111 3 true (a0.map eSizeConstraint))] [(0, 2800)] (vI ((1 : Int) + ((sSizeConstraintS a0 : Nat) : Int))) [(0, .arr 111 3 true ((mSizeConstraintS (1 : Int) a0).map eSizeConstraint))] <| .callx [.own 0, vI ((1 : Int) + ((sSizeConstraintS a0 : Nat) : Int))] [(0, .arr 3 1 true (a1.map intD))] [(0, 3000)] (vI (((1 : Int) + ((sSizeConstraintS a0 : Nat) : Int)) + ((sIntS a1 : Nat) : Int))) [(0, .arr 3 1 true ((mIntS ((1 : Int) + ((sSizeConstraintS a0 : Nat) : Int)) a1).map intD))] <| .no <| .call (vB true) [] <| .callx [.own 0, vI (1 : Int)] [(0, .arr 111 3 true ((a0.map (renC a1)).map eSizeConstraint))] [(0, 3300)] (vI ((1 : Int) + ((sSizeConstraintS (a0.map (renC a1)) : Nat) : Int))) [(0, .arr 111 3 true ((mSizeConstraintS (1 : Int) (a0.map (renC a1))).map eSizeConstraint))] <| .call (vI ((1 : Int) + ((sSizeConstraintS (a0.map (renC a1)) : Nat) : Int))) [] <| .no <| .no <| .call (.own 0) [(0, .arr 111 3 true (a0.map eSizeConstraint))] <| .call (.own 0) [(0, .arr 3 1 true (a1.map intD))] <| .call (.own 0) [(0, .arr 111 3 true ((a0.map (renC a1)).map eSizeConstraint))] <| .call (vB true) [] <| .call (vI ((1 : Int) + ((sSizeConstraintS (a0.map (renC a1)) : Nat) : Int))) [] <| .no <| .no <| .fin []))) ?_
  refine Eq.mpr (by kernel_rfl : _ = ((a0.map eSizeConstraint).length ≤ 9223372036854775807 → (a1.map intD).length ≤ 9223372036854775807 → (a1.map intD).length = a1.length ∧ (((decide ((1048576 : Int) < ((a1.length : Nat) : Int))) = true → (true) = true ∧ True) ∧ ((decide ((1048576 : Int) < ((a1.length : Nat) : Int))) = false → Con Try.prog 22 [.one (.sl 111 3 (a0.map eSizeConstraint)), .one (.int .i64 (1048576 : Int))] (vI (szStep (cSizeConstraintS a0) (1048576 : Int))) [] ∧ (((decide ((szStep (cSizeConstraintS a0) (1048576 : Int)) < (0 : Int))) = true → (true) = true ∧ True) ∧ ((decide ((szStep (cSizeConstraintS a0) (1048576 : Int)) < (0 : Int))) = false → Con Try.prog 24 [.one (.sl 111 3 (a0.map eSizeConstraint))] (.own 0) [(0, .arr 111 3 true (a0.map eSizeConstraint))] ∧ Con Try.prog 25 [.one (.sl 3 1 (a1.map intD))] (.own 0) [(0, .arr 3 1 true (a1.map intD))] ∧ Con Try.prog 23 [.one (.sl 111 3 (a0.map eSizeConstraint)), .one (.sl 3 1 (a1.map intD))] (.own 0) [(0, .arr 111 3 true ((a0.map (renC a1)).map eSizeConstraint))] ∧ Con Try.prog 24 [.one (.sl 111 3 (a0.map eSizeConstraint))] (.own 0) [(0, .arr 111 3 true (a0.map eSizeConstraint))] ∧ Con Try.prog 25 [.one (.sl 3 1 (a1.map intD))] (.own 0) [(0, .arr 3 1 true (a1.map intD))] ∧ Con Try.prog 26 [.one (.sl 111 3 (a0.map eSizeConstraint)), .one (.sl 3 1 (a1.map intD))] (.own 0) [(0, .arr 111 3 true ((a0.map (renC a1)).map eSizeConstraint))] ∧ Con Try.prog 27 [.one (.sl 111 3 ((a0.map (renC a1)).map eSizeConstraint)), .one (.sl 111 3 ((a0.map (renC a1)).map eSizeConstraint))] (vB true) [] ∧ Con Try.prog 24 [.one (.sl 111 3 (a0.map eSizeConstraint))] (.own 0) [(0, .arr 111 3 true (a0.map eSizeConstraint))] ∧ Con Try.prog 27 [.one (.sl 111 3 (a0.map eSizeConstraint)), .one (.sl 111 3 (a0.map eSizeConstraint))] (vB true) [] ∧ Con Try.prog 25 [.one (.sl 3 1 (a1.map intD))] (.own 0) [(0, .arr 3 1 true (a1.map intD))] ∧ Con Try.prog 28 [.one (.sl 3 1 (a1.map intD)), .one (.sl 3 1 (a1.map intD))] (vB true) [] ∧ Con2 Try.prog 29 [.own 0, vI (1 : Int)] [(0, .arr 111 3 true (a0.map eSizeConstraint))] (vI ((1 : Int) + ((sSizeConstraintS a0 : Nat) : Int))) [(0, .arr 111 3 true ((mSizeConstraintS (1 : Int) a0).map eSizeConstraint))] ∧ (1 : Int) = (1 : Int) ∧ a0.map eSizeConstraint = a0.map eSizeConstraint ∧ Con2 Try.prog 30 [.own 0, vI ((1 : Int) + ((sSizeConstraintS a0 : Nat) : Int))] [(0, .arr 3 1 true (a1.map intD))] (vI (((1 : Int) + ((sSizeConstraintS a0 : Nat) : Int)) + ((sIntS a1 : Nat) : Int))) [(0, .arr 3 1 true ((mIntS ((1 : Int) + ((sSizeConstraintS a0 : Nat) : Int)) a1).map intD))] ∧ ((1 : Int) + ((sSizeConstraintS a0 : Nat) : Int)) = ((1 : Int) + ((sSizeConstraintS a0 : Nat) : Int)) ∧ a1.map intD = a1.map intD ∧ (decide ((((1 : Int) + ((sSizeConstraintS a0 : Nat) : Int)) + ((sIntS a1 : Nat) : Int)) < (0 : Int))) = false ∧ Con Try.prog 27 [.one (.sl 111 3 ((a0.map (renC a1)).map eSizeConstraint)), .one (.sl 111 3 ((a0.map (renC a1)).map eSizeConstraint))] (vB true) [] ∧ Con2 Try.prog 29 [.own 0, vI (1 : Int)] [(0, .arr 111 3 true ((a0.map (renC a1)).map eSizeConstraint))] (vI ((1 : Int) + ((sSizeConstraintS (a0.map (renC a1)) : Nat) : Int))) [(0, .arr 111 3 true ((mSizeConstraintS (1 : Int) (a0.map (renC a1))).map eSizeConstraint))] ∧ (1 : Int) = (1 : Int) ∧ (a0.map (renC a1)).map eSizeConstraint = (a0.map (renC a1)).map eSizeConstraint ∧ Con Try.prog 31 [.one (.sl 111 3 ((mSizeConstraintS (1 : Int) (a0.map (renC a1))).map eSizeConstraint)), .one (.int .i64 (1 : Int))] (vI ((1 : Int) + ((sSizeConstraintS (a0.map (renC a1)) : Nat) : Int))) [] ∧ (decide (((1 : Int) + ((sSizeConstraintS (a0.map (renC a1)) : Nat) : Int)) < (0 : Int))) = false ∧ (!(decide (((1 : Int) + ((sSizeConstraintS (a0.map (renC a1)) : Nat) : Int)) = ((1 : Int) + ((sSizeConstraintS (a0.map (renC a1)) : Nat) : Int))))) = false ∧ Con Try.prog 24 [.one (.sl 111 3 (a0.map eSizeConstraint))] (.own 0) [(0, .arr 111 3 true (a0.map eSizeConstraint))] ∧ Con Try.prog 25 [.one (.sl 3 1 (a1.map intD))] (.own 0) [(0, .arr 3 1 true (a1.map intD))] ∧ Con Try.prog 26 [.one (.sl 111 3 (a0.map eSizeConstraint)), .one (.sl 3 1 (a1.map intD))] (.own 0) [(0, .arr 111 3 true ((a0.map (renC a1)).map eSizeConstraint))] ∧ Con Try.prog 27 [.one (.sl 111 3 ((a0.map (renC a1)).map eSizeConstraint)), .one (.sl 111 3 ((a0.map (renC a1)).map eSizeConstraint))] (vB true) [] ∧ Con Try.prog 31 [.one (.sl 111 3 ((mSizeConstraintS (1 : Int) (a0.map (renC a1))).map eSizeConstraint)), .one (.int .i64 (1 : Int))] (vI ((1 : Int) + ((sSizeConstraintS (a0.map (renC a1)) : Nat) : Int))) [] ∧ (decide (((1 : Int) + ((sSizeConstraintS (a0.map (renC a1)) : Nat) : Int)) < (0 : Int))) = false ∧ (!(decide (((1 : Int) + ((sSizeConstraintS (a0.map (renC a1)) : Nat) : Int)) = ((1 : Int) + ((sSizeConstraintS (a0.map (renC a1)) : Nat) : Int))))) = false ∧ (true) = true ∧ True)))))) ?_
  intro n0 n1
  simp only [List.length_map] at n0 n1
  refine ⟨List.length_map _, ?_⟩
  refine ⟨fun c0 => ?_, fun c0 => ?_⟩
  · replace c0 := of_decide_eq_true c0
    refine ⟨?_, trivial⟩
    · rfl
  · replace c0 := of_decide_eq_false c0
    try (have y0 := sz_ok c0; try rw [szStep_yes y0] at *)
    refine ⟨sz_SizeConstraintS a0 _ (by first | assumption | exact hf) (by omega) (by omega), ?_⟩
    refine ⟨fun c1 => ?_, fun c1 => ?_⟩
    · replace c1 := of_decide_eq_true c1
      refine ⟨?_, trivial⟩
      · rfl
    · replace c1 := of_decide_eq_false c1
      try (have y1 := sz_ok c1; try rw [szStep_yes y1] at *)
      have f1 : cSizeConstraintS a0 = a0.length := rfl
      have f2 : cIntS a1 = a1.length := rfl
      have f3 : cSizeConstraintS (a0.map (renC a1)) = a0.length := List.length_map _
      have f4 := sSizeConstraintS_le a0
      have f5 := sIntS_le a1
      have f6 := sSizeConstraintS_le (a0.map (renC a1))
      refine ⟨to_SizeConstraintS a0 (by first | omega | (have := cSizeConstraintSS_el ‹x[k]? = some _›; omega)), ?_⟩
      refine ⟨to_IntS a1 (by first | omega | (have := cIntSS_el ‹x[k]? = some _›; omega)), ?_⟩
      refine ⟨ren_spec _ _ (by omega), ?_⟩
      refine ⟨to_SizeConstraintS a0 (by first | omega | (have := cSizeConstraintSS_el ‹x[k]? = some _›; omega)), ?_⟩
      refine ⟨to_IntS a1 (by first | omega | (have := cIntSS_el ‹x[k]? = some _›; omega)), ?_⟩
      refine ⟨ren_impl _ _ (by omega), ?_⟩
      refine ⟨by first | exact eq_SizeConstraintS (a0.map (renC a1)) | exact eq_SizeConstraintS _, ?_⟩
      refine ⟨to_SizeConstraintS a0 (by first | omega | (have := cSizeConstraintSS_el ‹x[k]? = some _›; omega)), ?_⟩
      refine ⟨by first | exact eq_SizeConstraintS a0 | exact eq_SizeConstraintS _, ?_⟩
      refine ⟨to_IntS a1 (by first | omega | (have := cIntSS_el ‹x[k]? = some _›; omega)), ?_⟩
      refine ⟨by first | exact eq_IntS a1 | exact eq_IntS _, ?_⟩
      refine ⟨mk_SizeConstraintS _ _ (by omega) (by first | omega | (dsimp only; omega)), rfl, rfl, ?_⟩
      refine ⟨mk_IntS _ _ (by omega) (by first | omega | (dsimp only; omega)), rfl, rfl, ?_⟩
      refine ⟨by first | (simp; done) | (simp; omega) | (simp [*]; done), ?_⟩
      refine ⟨by first | exact eq_SizeConstraintS (a0.map (renC a1)) | exact eq_SizeConstraintS _, ?_⟩
      refine ⟨mk_SizeConstraintS _ _ (by omega) (by first | omega | (dsimp only; omega)), rfl, rfl, ?_⟩
      refine ⟨hd_SizeConstraintS _ _ (by omega) (by first | omega | (dsimp only; omega)), ?_⟩
      refine ⟨by first | (simp; done) | (simp; omega) | (simp [*]; done), ?_⟩
      refine ⟨by first | (simp; done) | (simp; omega) | (simp [*]; done), ?_⟩
      refine ⟨to_SizeConstraintS a0 (by first | omega | (have := cSizeConstraintSS_el ‹x[k]? = some _›; omega)), ?_⟩
      refine ⟨to_IntS a1 (by first | omega | (have := cIntSS_el ‹x[k]? = some _›; omega)), ?_⟩
      refine ⟨ren_impl _ _ (by omega), ?_⟩
      refine ⟨by first | exact eq_SizeConstraintS (a0.map (renC a1)) | exact eq_SizeConstraintS _, ?_⟩
      refine ⟨hd_SizeConstraintS _ _ (by omega) (by first | omega | (dsimp only; omega)), ?_⟩
      refine ⟨by first | (simp; done) | (simp; omega) | (simp [*]; done), ?_⟩
      refine ⟨by first | (simp; done) | (simp; omega) | (simp [*]; done), ?_⟩
      refine ⟨?_, trivial⟩
      · rfl
end Go.Proofs.Ytcfilkhjababjaa
