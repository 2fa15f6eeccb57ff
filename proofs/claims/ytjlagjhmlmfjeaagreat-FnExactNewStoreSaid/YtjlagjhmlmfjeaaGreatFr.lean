/-
  Facts on the whole program that every claim asks.
-/
import Derived.Test.YtjlagjhmlmfjeaaGreatKA
namespace Go.Proofs.YtjlagjhmlmfjeaaGreat
open Go.ChangeShapes Go.WideShapes Go.ChangeAt Go.RowKit
set_option linter.unusedVariables false
set_option linter.unusedSimpArgs false
theorem fr_own : ownKnob Tryz.prog.godebug = none := by kernel_rfl
theorem fr_laid : laidOutB Tryz.prog = true := by kernel_rfl
theorem fr_maps : mapsRowed Tryz.prog = true := by kernel_rfl
theorem fr_stops : (Tryz.prog.stops == []) = true := by kernel_rfl
theorem fr_sk : (Tryz.prog.stopKnobs == []) = true := by kernel_rfl
theorem fr_heard : Tryz.prog.stopsHeard = true := by kernel_rfl
theorem fr_enter : Tryz.prog.mayEnter = true := by kernel_rfl
theorem fr_keys : (Rows.fnExactUpdateStatsRow.plainKeys == Tryz.prog.plainKeys) = true := by kernel_rfl
theorem fr_lifts : (Rows.fnExactUpdateStatsRow.lifted == Tryz.prog.liftsFinal) = true := by kernel_rfl
theorem fr_make : (Tryz.prog.make == some Rows.fnExactUpdateStatsRow.make) = true := by kernel_rfl
end Go.Proofs.YtjlagjhmlmfjeaaGreat
