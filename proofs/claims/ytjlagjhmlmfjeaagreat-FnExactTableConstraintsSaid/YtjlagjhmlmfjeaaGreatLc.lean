/-
  The law FnExactTableConstraints.
-/
import Derived.Test.YtjlagjhmlmfjeaaGreatLb
import Derived.Test.YtjlagjhmlmfjeaaGreatDn
import Derived.Test.YtjlagjhmlmfjeaaGreatDo
import Derived.Test.YtjlagjhmlmfjeaaGreatDc
import Derived.Test.YtjlagjhmlmfjeaaGreatDd
import Derived.Test.YtjlagjhmlmfjeaaGreatDe
namespace Go.Proofs.YtjlagjhmlmfjeaaGreat
open Go.ChangeShapes Go.WideShapes Go.ChangeAt Go.RowKit
set_option linter.unusedVariables false
set_option linter.unusedSimpArgs false
set_option maxRecDepth 100000 in
set_option maxHeartbeats 4000000 in
theorem lawTableConstraints (a0 : TableStatsD) (a1 : AtomD) (h0 : FTableStats a0) (h1 : FAtom a1) : Con Tryz.prog 6 [.agg [.str a0.name, .int .i64 a0.arity, .int .i64 a0.rowCount, .sl 157 3 (a0.groups.map eGroupStats)], .agg [.str a1.name, .sl 3 1 (a1.vars.map intD)]] (vB true) [] := by
  refine con_x tbOk mixedW Tryz.func6 (by kernel_rfl) (.call (vI (szStep (cTableStats a0) (1048576 : Int))) [] <| .br (.fin []) (.call (vI (szStep (cAtom a1) (szStep (cTableStats a0) (1048576 : Int)))) [] <| .br (.fin []) (.call (.agg [.p none (.str a0.name), vI a0.arity, vI a0.rowCount, .own 0]) [(0, .arr 157 3 true (a0.groups.map eGroupStats))] <| .call (.agg [.p none (.str a1.name), .own 0]) [(0, .arr 3 1 true (a1.vars.map intD))] <| .call (.own 0) [(0, .arr 122 3 true ((tabC a0 a1).map eSizeConstraint))] <| .call (.agg [.p none (.str a0.name), vI a0.arity, vI a0.rowCount, .own 0]) [(0, .arr 157 3 true (a0.groups.map eGroupStats))] <| .call (.agg [.p none (.str a1.name), .own 0]) [(0, .arr 3 1 true (a1.vars.map intD))] <| .call (.own 0) [(0, .arr 122 3 true ((tabC a0 a1).map eSizeConstraint))] <| .call (vB true) [] <| .call (.agg [.p none (.str a0.name), vI a0.arity, vI a0.rowCount, .own 0]) [(0, .arr 157 3 true (a0.groups.map eGroupStats))] <| .call (vB true) [] <| .call (.agg [.p none (.str a1.name), .own 0]) [(0, .arr 3 1 true (a1.vars.map intD))] <| .call (vB true) [] <| .callx [.agg [.p none (.str a0.name), vI a0.arity, vI a0.rowCount, .own 0], vI (1 : Int)] [(0, .arr 157 3 true (a0.groups.map eGroupStats))] [(0, 3000)] (vI ((1 : Int) + ((stTableStats a0 : Nat) : Int))) [(0, .arr 157 3 true (((mtTableStats (1 : Int) a0).groups).map eGroupStats))] <| .callx [.agg [.p none (.str a1.name), .own 0], vI ((1 : Int) + ((stTableStats a0 : Nat) : Int))] [(0, .arr 3 1 true (a1.vars.map intD))] [(0, 3200)] (vI (((1 : Int) + ((stTableStats a0 : Nat) : Int)) + ((stAtom a1 : Nat) : Int))) [(0, .arr 3 1 true (((mtAtom ((1 : Int) + ((stTableStats a0 : Nat) : Int)) a1).vars).map intD))] <| .no <| .call (vB true) [] <| .callx [.own 0, vI (1 : Int)] [(0, .arr 122 3 true ((tabC a0 a1).map eSizeConstraint))] [(0, 3500)] (vI ((1 : Int) + ((sSizeConstraintS (tabC a0 a1) : Nat) : Int))) [(0, .arr 122 3 true ((mSizeConstraintS (1 : Int) (tabC a0 a1)).map eSizeConstraint))] <| .call (vI ((1 : Int) + ((sSizeConstraintS (tabC a0 a1) : Nat) : Int))) [] <| .no <| .no <| .call (.agg [.p none (.str a0.name), vI a0.arity, vI a0.rowCount, .own 0]) [(0, .arr 157 3 true (a0.groups.map eGroupStats))] <| .call (.agg [.p none (.str a1.name), .own 0]) [(0, .arr 3 1 true (a1.vars.map intD))] <| .call (.own 0) [(0, .arr 122 3 true ((tabC a0 a1).map eSizeConstraint))] <| .call (vB true) [] <| .call (vI ((1 : Int) + ((sSizeConstraintS (tabC a0 a1) : Nat) : Int))) [] <| .no <| .no <| .fin []))) ?_
  refine Eq.mpr (by kernel_rfl : _ = ((a0.groups.map eGroupStats).length ≤ 9223372036854775807 → (a1.vars.map intD).length ≤ 9223372036854775807 → Con Tryz.prog 10 [.agg [.str a0.name, .int .i64 a0.arity, .int .i64 a0.rowCount, .sl 157 3 (a0.groups.map eGroupStats)], .one (.int .i64 (1048576 : Int))] (vI (szStep (cTableStats a0) (1048576 : Int))) [] ∧ (((decide ((szStep (cTableStats a0) (1048576 : Int)) < (0 : Int))) = true → (true) = true ∧ True) ∧ ((decide ((szStep (cTableStats a0) (1048576 : Int)) < (0 : Int))) = false → Con Tryz.prog 29 [.agg [.str a1.name, .sl 3 1 (a1.vars.map intD)], .one (.int .i64 (szStep (cTableStats a0) (1048576 : Int)))] (vI (szStep (cAtom a1) (szStep (cTableStats a0) (1048576 : Int)))) [] ∧ (((decide ((szStep (cAtom a1) (szStep (cTableStats a0) (1048576 : Int))) < (0 : Int))) = true → (true) = true ∧ True) ∧ ((decide ((szStep (cAtom a1) (szStep (cTableStats a0) (1048576 : Int))) < (0 : Int))) = false → Con Tryz.prog 13 [.agg [.str a0.name, .int .i64 a0.arity, .int .i64 a0.rowCount, .sl 157 3 (a0.groups.map eGroupStats)]] (.agg [.p none (.str a0.name), vI a0.arity, vI a0.rowCount, .own 0]) [(0, .arr 157 3 true (a0.groups.map eGroupStats))] ∧ Con Tryz.prog 31 [.agg [.str a1.name, .sl 3 1 (a1.vars.map intD)]] (.agg [.p none (.str a1.name), .own 0]) [(0, .arr 3 1 true (a1.vars.map intD))] ∧ Con Tryz.prog 30 [.agg [.str a0.name, .int .i64 a0.arity, .int .i64 a0.rowCount, .sl 157 3 (a0.groups.map eGroupStats)], .agg [.str a1.name, .sl 3 1 (a1.vars.map intD)]] (.own 0) [(0, .arr 122 3 true ((tabC a0 a1).map eSizeConstraint))] ∧ Con Tryz.prog 13 [.agg [.str a0.name, .int .i64 a0.arity, .int .i64 a0.rowCount, .sl 157 3 (a0.groups.map eGroupStats)]] (.agg [.p none (.str a0.name), vI a0.arity, vI a0.rowCount, .own 0]) [(0, .arr 157 3 true (a0.groups.map eGroupStats))] ∧ Con Tryz.prog 31 [.agg [.str a1.name, .sl 3 1 (a1.vars.map intD)]] (.agg [.p none (.str a1.name), .own 0]) [(0, .arr 3 1 true (a1.vars.map intD))] ∧ Con Tryz.prog 32 [.agg [.str a0.name, .int .i64 a0.arity, .int .i64 a0.rowCount, .sl 157 3 (a0.groups.map eGroupStats)], .agg [.str a1.name, .sl 3 1 (a1.vars.map intD)]] (.own 0) [(0, .arr 122 3 true ((tabC a0 a1).map eSizeConstraint))] ∧ Con Tryz.prog 33 [.one (.sl 122 3 ((tabC a0 a1).map eSizeConstraint)), .one (.sl 122 3 ((tabC a0 a1).map eSizeConstraint))] (vB true) [] ∧ Con Tryz.prog 13 [.agg [.str a0.name, .int .i64 a0.arity, .int .i64 a0.rowCount, .sl 157 3 (a0.groups.map eGroupStats)]] (.agg [.p none (.str a0.name), vI a0.arity, vI a0.rowCount, .own 0]) [(0, .arr 157 3 true (a0.groups.map eGroupStats))] ∧ Con Tryz.prog 16 [.agg [.str a0.name, .int .i64 a0.arity, .int .i64 a0.rowCount, .sl 157 3 (a0.groups.map eGroupStats)], .agg [.str a0.name, .int .i64 a0.arity, .int .i64 a0.rowCount, .sl 157 3 (a0.groups.map eGroupStats)]] (vB true) [] ∧ Con Tryz.prog 31 [.agg [.str a1.name, .sl 3 1 (a1.vars.map intD)]] (.agg [.p none (.str a1.name), .own 0]) [(0, .arr 3 1 true (a1.vars.map intD))] ∧ Con Tryz.prog 34 [.agg [.str a1.name, .sl 3 1 (a1.vars.map intD)], .agg [.str a1.name, .sl 3 1 (a1.vars.map intD)]] (vB true) [] ∧ Con2 Tryz.prog 18 [.agg [.p none (.str a0.name), vI a0.arity, vI a0.rowCount, .own 0], vI (1 : Int)] [(0, .arr 157 3 true (a0.groups.map eGroupStats))] (vI ((1 : Int) + ((stTableStats a0 : Nat) : Int))) [(0, .arr 157 3 true (((mtTableStats (1 : Int) a0).groups).map eGroupStats))] ∧ a0.name = a0.name ∧ a0.arity = a0.arity ∧ a0.rowCount = a0.rowCount ∧ (1 : Int) = (1 : Int) ∧ a0.groups.map eGroupStats = a0.groups.map eGroupStats ∧ Con2 Tryz.prog 35 [.agg [.p none (.str a1.name), .own 0], vI ((1 : Int) + ((stTableStats a0 : Nat) : Int))] [(0, .arr 3 1 true (a1.vars.map intD))] (vI (((1 : Int) + ((stTableStats a0 : Nat) : Int)) + ((stAtom a1 : Nat) : Int))) [(0, .arr 3 1 true (((mtAtom ((1 : Int) + ((stTableStats a0 : Nat) : Int)) a1).vars).map intD))] ∧ a1.name = a1.name ∧ ((1 : Int) + ((stTableStats a0 : Nat) : Int)) = ((1 : Int) + ((stTableStats a0 : Nat) : Int)) ∧ a1.vars.map intD = a1.vars.map intD ∧ (decide ((((1 : Int) + ((stTableStats a0 : Nat) : Int)) + ((stAtom a1 : Nat) : Int)) < (0 : Int))) = false ∧ Con Tryz.prog 33 [.one (.sl 122 3 ((tabC a0 a1).map eSizeConstraint)), .one (.sl 122 3 ((tabC a0 a1).map eSizeConstraint))] (vB true) [] ∧ Con2 Tryz.prog 36 [.own 0, vI (1 : Int)] [(0, .arr 122 3 true ((tabC a0 a1).map eSizeConstraint))] (vI ((1 : Int) + ((sSizeConstraintS (tabC a0 a1) : Nat) : Int))) [(0, .arr 122 3 true ((mSizeConstraintS (1 : Int) (tabC a0 a1)).map eSizeConstraint))] ∧ (1 : Int) = (1 : Int) ∧ (tabC a0 a1).map eSizeConstraint = (tabC a0 a1).map eSizeConstraint ∧ Con Tryz.prog 37 [.one (.sl 122 3 ((mSizeConstraintS (1 : Int) (tabC a0 a1)).map eSizeConstraint)), .one (.int .i64 (1 : Int))] (vI ((1 : Int) + ((sSizeConstraintS (tabC a0 a1) : Nat) : Int))) [] ∧ (decide (((1 : Int) + ((sSizeConstraintS (tabC a0 a1) : Nat) : Int)) < (0 : Int))) = false ∧ (!(decide (((1 : Int) + ((sSizeConstraintS (tabC a0 a1) : Nat) : Int)) = ((1 : Int) + ((sSizeConstraintS (tabC a0 a1) : Nat) : Int))))) = false ∧ Con Tryz.prog 13 [.agg [.str a0.name, .int .i64 a0.arity, .int .i64 a0.rowCount, .sl 157 3 (a0.groups.map eGroupStats)]] (.agg [.p none (.str a0.name), vI a0.arity, vI a0.rowCount, .own 0]) [(0, .arr 157 3 true (a0.groups.map eGroupStats))] ∧ Con Tryz.prog 31 [.agg [.str a1.name, .sl 3 1 (a1.vars.map intD)]] (.agg [.p none (.str a1.name), .own 0]) [(0, .arr 3 1 true (a1.vars.map intD))] ∧ Con Tryz.prog 32 [.agg [.str a0.name, .int .i64 a0.arity, .int .i64 a0.rowCount, .sl 157 3 (a0.groups.map eGroupStats)], .agg [.str a1.name, .sl 3 1 (a1.vars.map intD)]] (.own 0) [(0, .arr 122 3 true ((tabC a0 a1).map eSizeConstraint))] ∧ Con Tryz.prog 33 [.one (.sl 122 3 ((tabC a0 a1).map eSizeConstraint)), .one (.sl 122 3 ((tabC a0 a1).map eSizeConstraint))] (vB true) [] ∧ Con Tryz.prog 37 [.one (.sl 122 3 ((mSizeConstraintS (1 : Int) (tabC a0 a1)).map eSizeConstraint)), .one (.int .i64 (1 : Int))] (vI ((1 : Int) + ((sSizeConstraintS (tabC a0 a1) : Nat) : Int))) [] ∧ (decide (((1 : Int) + ((sSizeConstraintS (tabC a0 a1) : Nat) : Int)) < (0 : Int))) = false ∧ (!(decide (((1 : Int) + ((sSizeConstraintS (tabC a0 a1) : Nat) : Int)) = ((1 : Int) + ((sSizeConstraintS (tabC a0 a1) : Nat) : Int))))) = false ∧ (true) = true ∧ True)))))) ?_
  intro n0 n1
  simp only [List.length_map] at n0 n1
  refine ⟨sz_TableStats a0 _ (by first | assumption | exact hf) (by omega) (by omega), ?_⟩
  refine ⟨fun c0 => ?_, fun c0 => ?_⟩
  · replace c0 := of_decide_eq_true c0
    refine ⟨?_, trivial⟩
    · rfl
  · replace c0 := of_decide_eq_false c0
    try (have y0 := sz_ok c0; try rw [szStep_yes y0] at *)
    refine ⟨sz_Atom a1 _ (by first | assumption | exact hf) (by omega) (by omega), ?_⟩
    refine ⟨fun c1 => ?_, fun c1 => ?_⟩
    · replace c1 := of_decide_eq_true c1
      refine ⟨?_, trivial⟩
      · rfl
    · replace c1 := of_decide_eq_false c1
      try (have y1 := sz_ok c1; try rw [szStep_yes y1] at *)
      have f1 := tabC_len a0 a1
      have f2 := sSizeConstraintS_le (tabC a0 a1)
      have f3 : cSizeConstraintS (tabC a0 a1) = (tabC a0 a1).length := rfl
      have sa0 := stTableStats_le a0
      have sa1 := stAtom_le a1
      refine ⟨to_TableStats a0 (by first | omega | (have := cTableStatsS_el ‹x[k]? = some _›; omega)), ?_⟩
      refine ⟨to_Atom a1 (by first | omega | (have := cAtomS_el ‹x[k]? = some _›; omega)), ?_⟩
      refine ⟨tabC_spec _ _ (by omega) (by omega), ?_⟩
      refine ⟨to_TableStats a0 (by first | omega | (have := cTableStatsS_el ‹x[k]? = some _›; omega)), ?_⟩
      refine ⟨to_Atom a1 (by first | omega | (have := cAtomS_el ‹x[k]? = some _›; omega)), ?_⟩
      refine ⟨tabC_impl _ _ (by omega) (by omega), ?_⟩
      refine ⟨by first | exact eq_SizeConstraintS (tabC a0 a1) | exact eq_SizeConstraintS _, ?_⟩
      refine ⟨to_TableStats a0 (by first | omega | (have := cTableStatsS_el ‹x[k]? = some _›; omega)), ?_⟩
      refine ⟨by first | exact eq_TableStats a0 | exact eq_TableStats _, ?_⟩
      refine ⟨to_Atom a1 (by first | omega | (have := cAtomS_el ‹x[k]? = some _›; omega)), ?_⟩
      refine ⟨by first | exact eq_Atom a1 | exact eq_Atom _, ?_⟩
      refine ⟨mk_TableStats _ _ (by omega) (by first | omega | (dsimp only; omega)), rfl, rfl, rfl, rfl, rfl, ?_⟩
      refine ⟨mk_Atom _ _ (by omega) (by first | omega | (dsimp only; omega)), rfl, rfl, rfl, ?_⟩
      refine ⟨by first | (simp; done) | (simp; omega) | (simp [*]; done), ?_⟩
      refine ⟨by first | exact eq_SizeConstraintS (tabC a0 a1) | exact eq_SizeConstraintS _, ?_⟩
      refine ⟨mk_SizeConstraintS _ _ (by omega) (by first | omega | (dsimp only; omega)), rfl, rfl, ?_⟩
      refine ⟨hd_SizeConstraintS _ _ (by omega) (by first | omega | (dsimp only; omega)), ?_⟩
      refine ⟨by first | (simp; done) | (simp; omega) | (simp [*]; done), ?_⟩
      refine ⟨by first | (simp; done) | (simp; omega) | (simp [*]; done), ?_⟩
      refine ⟨to_TableStats a0 (by first | omega | (have := cTableStatsS_el ‹x[k]? = some _›; omega)), ?_⟩
      refine ⟨to_Atom a1 (by first | omega | (have := cAtomS_el ‹x[k]? = some _›; omega)), ?_⟩
      refine ⟨tabC_impl _ _ (by omega) (by omega), ?_⟩
      refine ⟨by first | exact eq_SizeConstraintS (tabC a0 a1) | exact eq_SizeConstraintS _, ?_⟩
      refine ⟨hd_SizeConstraintS _ _ (by omega) (by first | omega | (dsimp only; omega)), ?_⟩
      refine ⟨by first | (simp; done) | (simp; omega) | (simp [*]; done), ?_⟩
      refine ⟨by first | (simp; done) | (simp; omega) | (simp [*]; done), ?_⟩
      refine ⟨?_, trivial⟩
      · rfl
end Go.Proofs.YtjlagjhmlmfjeaaGreat
