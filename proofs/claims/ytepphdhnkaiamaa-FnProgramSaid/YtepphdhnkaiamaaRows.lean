/-
  No cell of these rows narrows 'for every input' (looked for: loops, veiled, ifaces, maps, wideKeys, modest, calm, conditions, laid).
  DERIVED. THE GIVEN ROWS OF THIS SEAT. 3 by the template 'for every input the law returns true; each argument reads behind the call as it read before'; 0 by the template 'total and deterministic' (their statements: YtepphdhnkaiamaaTotals.lean).
  GIVEN WITH THE SEED: the statements are not yours to turn. If you find one false, say at which input.
  Laid BY PROGRAM, IN A SANDBOX (cutbox-rows.mjs): the forced cells as the released guide's own fill.sh prints them over the translation 0e14fe99e9edaea1… (all of the seat's roots in one cut). By AI agents, Wed Nov 11 2026. No macro, syntax, notation, axiom, sorry.
-/
import Derived.Test.YtepphdhnkaiamaaChecked
import GoSem.Claim
import GoSem.ClaimJoined
import GoSem.ClaimMapViews
import Derived.JoinedTies
import Derived.KernelRfl
namespace Go.Proofs.Ytepphdhnkaiamaa
/- THE CELL 'sum', in the pinned program and in every row, IS THE sha256 OF THE DUMP (.gsa) THAT YtepphdhnkaiamaaProg.lean LOADS. Nothing in Lean hashes anything: it is a label: what it is worth is what the hold of that sum in a sandbox is worth. -/
noncomputable def Try.pinned : Pinned := { name := "ytepphdhnkaiamaa", sum := "0e14fe99e9edaea158871f7af896883eb1fed18e1699ef2d7578938240f65fea", checked := Try.checked }
namespace Rows
def none {H : Type} : Left H := { results := [], args := [] }

/-- 'laws.FnProgram': WHATEVER THE INPUT: true; the input reads as it did. -/
def fnProgramSpec : ChangeSpec := { name := "fnProgram", fn := fun _ => fun
  | [d] => { results := [.lit (.bool true)], args := [d] }
  | _ => none }
def fnProgramRow : OpenClaim := { program := "ytepphdhnkaiamaa", sum := "0e14fe99e9edaea158871f7af896883eb1fed18e1699ef2d7578938240f65fea", func := "loop.example/g01921/laws.FnProgram", spec := "fnProgram", unfollowed := true, recurses := true, apart := false }
def FnProgramSaid : Prop := fnProgramRow.holds Try.pinned (OpenSpec.ofChange fnProgramSpec)

/-- ITS FALSE NEIGHBOUR: 'it returns false'. Refute it at one input. -/
def fnProgramWrong : ChangeSpec := { name := "fnProgram", fn := fun _ => fun
  | [d] => { results := [.lit (.bool false)], args := [d] }
  | _ => none }
def FnProgramWrongFalsely : Prop := fnProgramRow.holds Try.pinned (OpenSpec.ofChange fnProgramWrong)

/-- 'laws.FnPowerFloor': WHATEVER THE INPUT: true; the input reads as it did. -/
def fnPowerFloorSpec : ChangeSpec := { name := "fnPowerFloor", fn := fun _ => fun
  | [d] => { results := [.lit (.bool true)], args := [d] }
  | _ => none }
def fnPowerFloorRow : OpenClaim := { program := "ytepphdhnkaiamaa", sum := "0e14fe99e9edaea158871f7af896883eb1fed18e1699ef2d7578938240f65fea", func := "loop.example/g01921/laws.FnPowerFloor", spec := "fnPowerFloor", apart := false }
def FnPowerFloorSaid : Prop := fnPowerFloorRow.holds Try.pinned (OpenSpec.ofChange fnPowerFloorSpec)

/-- ITS FALSE NEIGHBOUR: 'it returns false'. Refute it at one input. -/
def fnPowerFloorWrong : ChangeSpec := { name := "fnPowerFloor", fn := fun _ => fun
  | [d] => { results := [.lit (.bool false)], args := [d] }
  | _ => none }
def FnPowerFloorWrongFalsely : Prop := fnPowerFloorRow.holds Try.pinned (OpenSpec.ofChange fnPowerFloorWrong)

/-- 'laws.FnPivot': WHATEVER THE INPUT: true; the input reads as it did. -/
def fnPivotSpec : ChangeSpec := { name := "fnPivot", fn := fun _ => fun
  | [d] => { results := [.lit (.bool true)], args := [d] }
  | _ => none }
def fnPivotRow : OpenClaim := { program := "ytepphdhnkaiamaa", sum := "0e14fe99e9edaea158871f7af896883eb1fed18e1699ef2d7578938240f65fea", func := "loop.example/g01921/laws.FnPivot", spec := "fnPivot", unfollowed := true, recurses := true, apart := false }
def FnPivotSaid : Prop := fnPivotRow.holds Try.pinned (OpenSpec.ofChange fnPivotSpec)

/-- ITS FALSE NEIGHBOUR: 'it returns false'. Refute it at one input. -/
def fnPivotWrong : ChangeSpec := { name := "fnPivot", fn := fun _ => fun
  | [d] => { results := [.lit (.bool false)], args := [d] }
  | _ => none }
def FnPivotWrongFalsely : Prop := fnPivotRow.holds Try.pinned (OpenSpec.ofChange fnPivotWrong)

/- THE SECOND FORM. 'bulk': how many values and letters a reading holds, each counted each time it is reached (what is shared counts as often as it is met; a slice's spare places count too). A statement '..UptoSaid' is the law's where the arguments, and the package variables that the reading takes, are together of bulk at most 1048576: NARROWER than '..Said'. Prove '..Said' where nothing that the law and all that it calls make is longer than what came in: it says more and counts as full. Else prove '..UptoSaid'. A law counts once. -/
mutual
def uptoBulk {H : Type} : DataW H → Nat
  | .lit (.string bytes) => bytes.length + 1
  | .lit _ => 1
  | .nil => 1
  | .ptr d => uptoBulk d + 1
  | .slice elems spare => uptoBulkAll elems + uptoBulkAll spare + 1
  | .agg parts => uptoBulkAll parts + 1
  | .iface _ d => uptoBulk d + 1
  | .map entries => uptoBulkEntries entries + 1
  | .held _ => 1
def uptoBulkAll {H : Type} : List (DataW H) → Nat
  | [] => 0
  | d :: r => uptoBulk d + uptoBulkAll r
def uptoBulkEntries {H : Type} : List (Lit × DataW H) → Nat
  | [] => 0
  | x :: r => uptoBulkEntry x + uptoBulkEntries r
def uptoBulkEntry {H : Type} : Lit × DataW H → Nat
  | (.string bytes, d) => bytes.length + uptoBulk d + 1
  | (_, d) => uptoBulk d + 1
 end
def uptoSmall : (H : Type) → List (DataW H) → Bool := fun _ ds => decide (uptoBulkAll ds ≤ 1048576)
def OpenSpec.upto (s : _root_.Go.ChangeSpec) : _root_.Go.OpenSpec := { _root_.Go.OpenSpec.ofChange s with cond := some uptoSmall }

/-- 'laws.FnProgram', WHERE WHAT IT READS IS OF BULK AT MOST 1048576: true; the input reads as it did. -/
def fnProgramUptoRow : OpenClaim := { program := "ytepphdhnkaiamaa", sum := "0e14fe99e9edaea158871f7af896883eb1fed18e1699ef2d7578938240f65fea", func := "loop.example/g01921/laws.FnProgram", spec := "fnProgram", unfollowed := true, recurses := true, apart := false, narrowed := true }
def FnProgramUptoSaid : Prop := fnProgramUptoRow.holds Try.pinned (OpenSpec.upto fnProgramSpec)

/-- 'laws.FnPowerFloor', WHERE WHAT IT READS IS OF BULK AT MOST 1048576: true; the input reads as it did. -/
def fnPowerFloorUptoRow : OpenClaim := { program := "ytepphdhnkaiamaa", sum := "0e14fe99e9edaea158871f7af896883eb1fed18e1699ef2d7578938240f65fea", func := "loop.example/g01921/laws.FnPowerFloor", spec := "fnPowerFloor", apart := false, narrowed := true }
def FnPowerFloorUptoSaid : Prop := fnPowerFloorUptoRow.holds Try.pinned (OpenSpec.upto fnPowerFloorSpec)

/-- 'laws.FnPivot', WHERE WHAT IT READS IS OF BULK AT MOST 1048576: true; the input reads as it did. -/
def fnPivotUptoRow : OpenClaim := { program := "ytepphdhnkaiamaa", sum := "0e14fe99e9edaea158871f7af896883eb1fed18e1699ef2d7578938240f65fea", func := "loop.example/g01921/laws.FnPivot", spec := "fnPivot", unfollowed := true, recurses := true, apart := false, narrowed := true }
def FnPivotUptoSaid : Prop := fnPivotUptoRow.holds Try.pinned (OpenSpec.upto fnPivotSpec)

end Rows
end Go.Proofs.Ytepphdhnkaiamaa
