/-
  DERIVED. GIVEN WITH THE SEED: THE CARDS: each row of YtgamjlgfnmpcjaaGreatDoorRows.lean that lists a variable, with what it lists TIED to the program's text (the seventh form; the later family's looks); each row that meets fmt, with fmt's text TOLD by the authors' own Lean function (tested against real Go, not proved from fmt's source: count such statements apart). THE CARD IS WHAT COUNTS. Prove the row's statement (the work); the ties are given (YtgamjlgfnmpcjaaGreatDoorTie.lean); close each card by the builder's one call (the guide's Derived/Test/ToyasCard.lean, 'card_holds'). Laid BY PROGRAM, IN A SANDBOX (cutbox-door.mjs). By AI agents, Wed Nov 11 2026. No macro, syntax, notation, axiom, sorry.
-/
import Derived.Test.YtgamjlgfnmpcjaaGreatDoorRows
import GoSem.ClaimSeven
namespace Go.Proofs.YtgamjlgfnmpcjaaGreatDoor
namespace Rows

/-- THE TIED CARD OF 'laws.FnExactFormatStats'. -/
def fnExactFormatStatsCard : Claim7 := { stood := { row := fnExactFormatStatsRow, standIns := [], harness := (true, "a06d07ee1e8a35b8f4d9d0c8245859f6260afb67538842690d874e46f24185f4"), looks := false }, kinds := [], alts := [], laidByText := true, laidKinds := [.data, .data, .data], laidTests := true, laidLooks := .later }
def FnExactFormatStatsCardSaid : Prop := Claim7.holds Tryz.pinned (.plain (OpenSpec.ofChange fnExactFormatStatsSpec)) fnExactFormatStatsCard

/-- THE TIED CARD OF 'laws.FnStatistics'. -/
def fnStatisticsCard : Claim7 := { stood := { row := fnStatisticsRow, standIns := [], harness := (true, "a06d07ee1e8a35b8f4d9d0c8245859f6260afb67538842690d874e46f24185f4"), looks := false }, kinds := [], alts := [], laidByText := true, laidKinds := [.data, .data, .data], laidTests := true, laidLooks := .later }
def FnStatisticsCardSaid : Prop := Claim7.holds Tryz.pinned (.plain (OpenSpec.ofChange fnStatisticsSpec)) fnStatisticsCard

/-- THE SECOND FORM's CARD OF 'laws.FnExactFormatStats'. -/
def fnExactFormatStatsUptoCard : Claim7 := { stood := { row := fnExactFormatStatsUptoRow, standIns := [], harness := (true, "a06d07ee1e8a35b8f4d9d0c8245859f6260afb67538842690d874e46f24185f4"), looks := false }, kinds := [], alts := [], laidByText := true, laidKinds := [.data, .data, .data], laidTests := true, laidLooks := .later }
def FnExactFormatStatsUptoCardSaid : Prop := Claim7.holds Tryz.pinned (.plain (OpenSpec.upto fnExactFormatStatsSpec)) fnExactFormatStatsUptoCard

/-- THE SECOND FORM's CARD OF 'laws.FnStatistics'. -/
def fnStatisticsUptoCard : Claim7 := { stood := { row := fnStatisticsUptoRow, standIns := [], harness := (true, "a06d07ee1e8a35b8f4d9d0c8245859f6260afb67538842690d874e46f24185f4"), looks := false }, kinds := [], alts := [], laidByText := true, laidKinds := [.data, .data, .data], laidTests := true, laidLooks := .later }
def FnStatisticsUptoCardSaid : Prop := Claim7.holds Tryz.pinned (.plain (OpenSpec.upto fnStatisticsSpec)) fnStatisticsUptoCard
end Rows
end Go.Proofs.YtgamjlgfnmpcjaaGreatDoor
