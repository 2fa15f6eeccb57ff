/-
  Facts on the whole program that every claim asks.
-/
import Derived.Test.YtepphdhnkaiamaaKA
namespace Go.Proofs.Ytepphdhnkaiamaa
open Go.ChangeShapes Go.WideShapes Go.ChangeAt Go.RowKit
set_option linter.unusedVariables false
set_option linter.unusedSimpArgs false
set_option maxRecDepth 100000
set_option maxHeartbeats 4000000
theorem fr_own : ownKnob Try.prog.godebug = none := by kernel_rfl
theorem fr_laid : laidOutB Try.prog = true := by kernel_rfl
theorem fr_maps : mapsRowed Try.prog = true := by kernel_rfl
theorem fr_stops : (Try.prog.stops == []) = true := by kernel_rfl
theorem fr_sk : (Try.prog.stopKnobs == []) = true := by kernel_rfl
theorem fr_heard : Try.prog.stopsHeard = true := by kernel_rfl
theorem fr_enter : Try.prog.mayEnter = true := by kernel_rfl
theorem fr_keys : (Rows.fnProgramRow.plainKeys == Try.prog.plainKeys) = true := by kernel_rfl
theorem fr_lifts : (Rows.fnProgramRow.lifted == Try.prog.liftsFinal) = true := by kernel_rfl
theorem fr_make : (Try.prog.make == some Rows.fnProgramRow.make) = true := by kernel_rfl
end Go.Proofs.Ytepphdhnkaiamaa
