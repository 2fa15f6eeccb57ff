/-
  No cell of these rows narrows 'for every input' (looked for: loops, veiled, ifaces, maps, wideKeys, modest, calm, conditions, laid).
  DERIVED. THE GIVEN ROWS OF THIS SEAT. 11 by the template 'for every input the law returns true; each argument reads behind the call as it read before'; 0 by the template 'total and deterministic' (their statements: YtcfilkhjababjaaTotals.lean).
  GIVEN WITH THE SEED: the statements are not yours to turn. If you find one false, say at which input.
  Laid BY PROGRAM, IN A SANDBOX (cutbox-rows.mjs): the forced cells as the released guide's own fill.sh prints them over the translation 9bfbb01528d972c9… (all of the seat's roots in one cut). By AI agents, Wed Nov 11 2026. No macro, syntax, notation, axiom, sorry.
-/
import Derived.Test.YtcfilkhjababjaaChecked
import GoSem.Claim
import GoSem.ClaimJoined
import GoSem.ClaimMapViews
import Derived.JoinedTies
import Derived.KernelRfl
namespace Go.Proofs.Ytcfilkhjababjaa
/- THE CELL 'sum', in the pinned program and in every row, IS THE sha256 OF THE DUMP (.gsa) THAT YtcfilkhjababjaaProg.lean LOADS. Nothing in Lean hashes anything: it is a label: what it is worth is what the hold of that sum in a sandbox is worth. -/
noncomputable def Try.pinned : Pinned := { name := "ytcfilkhjababjaa", sum := "9bfbb01528d972c9eb0edd1d3f533e2d6b01313154f0bd425b3c39af7b6739d4", checked := Try.checked }
namespace Rows
def none {H : Type} : Left H := { results := [], args := [] }

/-- 'laws.FnExactPowerFloor': WHATEVER THE INPUT: true; the input reads as it did. -/
def fnExactPowerFloorSpec : ChangeSpec := { name := "fnExactPowerFloor", fn := fun _ => fun
  | [d] => { results := [.lit (.bool true)], args := [d] }
  | _ => none }
def fnExactPowerFloorRow : OpenClaim := { program := "ytcfilkhjababjaa", sum := "9bfbb01528d972c9eb0edd1d3f533e2d6b01313154f0bd425b3c39af7b6739d4", func := "loop.example/g01921/laws.FnExactPowerFloor", spec := "fnExactPowerFloor", apart := false }
def FnExactPowerFloorSaid : Prop := fnExactPowerFloorRow.holds Try.pinned (OpenSpec.ofChange fnExactPowerFloorSpec)

/-- ITS FALSE NEIGHBOUR: 'it returns false'. Refute it at one input. -/
def fnExactPowerFloorWrong : ChangeSpec := { name := "fnExactPowerFloor", fn := fun _ => fun
  | [d] => { results := [.lit (.bool false)], args := [d] }
  | _ => none }
def FnExactPowerFloorWrongFalsely : Prop := fnExactPowerFloorRow.holds Try.pinned (OpenSpec.ofChange fnExactPowerFloorWrong)

/-- 'laws.FnExactElementalRows': WHATEVER THE INPUT: true; the input reads as it did. -/
def fnExactElementalRowsSpec : ChangeSpec := { name := "fnExactElementalRows", fn := fun _ => fun
  | [d] => { results := [.lit (.bool true)], args := [d] }
  | _ => none }
def fnExactElementalRowsRow : OpenClaim := { program := "ytcfilkhjababjaa", sum := "9bfbb01528d972c9eb0edd1d3f533e2d6b01313154f0bd425b3c39af7b6739d4", func := "loop.example/g01921/laws.FnExactElementalRows", spec := "fnExactElementalRows", unfollowed := true, recurses := true, apart := false }
def FnExactElementalRowsSaid : Prop := fnExactElementalRowsRow.holds Try.pinned (OpenSpec.ofChange fnExactElementalRowsSpec)

/-- ITS FALSE NEIGHBOUR: 'it returns false'. Refute it at one input. -/
def fnExactElementalRowsWrong : ChangeSpec := { name := "fnExactElementalRows", fn := fun _ => fun
  | [d] => { results := [.lit (.bool false)], args := [d] }
  | _ => none }
def FnExactElementalRowsWrongFalsely : Prop := fnExactElementalRowsRow.holds Try.pinned (OpenSpec.ofChange fnExactElementalRowsWrong)

/-- 'laws.FnExactRenumberConstraints': WHATEVER THE INPUT: true; the input reads as it did. -/
def fnExactRenumberConstraintsSpec : ChangeSpec := { name := "fnExactRenumberConstraints", fn := fun _ => fun
  | [d1, d2] => { results := [.lit (.bool true)], args := [d1, d2] }
  | _ => none }
def fnExactRenumberConstraintsRow : OpenClaim := { program := "ytcfilkhjababjaa", sum := "9bfbb01528d972c9eb0edd1d3f533e2d6b01313154f0bd425b3c39af7b6739d4", func := "loop.example/g01921/laws.FnExactRenumberConstraints", spec := "fnExactRenumberConstraints", unfollowed := true, recurses := true, apart := false }
def FnExactRenumberConstraintsSaid : Prop := fnExactRenumberConstraintsRow.holds Try.pinned (OpenSpec.ofChange fnExactRenumberConstraintsSpec)

/-- ITS FALSE NEIGHBOUR: 'it returns false'. Refute it at one input. -/
def fnExactRenumberConstraintsWrong : ChangeSpec := { name := "fnExactRenumberConstraints", fn := fun _ => fun
  | [d1, d2] => { results := [.lit (.bool false)], args := [d1, d2] }
  | _ => none }
def FnExactRenumberConstraintsWrongFalsely : Prop := fnExactRenumberConstraintsRow.holds Try.pinned (OpenSpec.ofChange fnExactRenumberConstraintsWrong)

/-- 'laws.FnExactFormatBox': WHATEVER THE INPUT: true; the input reads as it did. -/
def fnExactFormatBoxSpec : ChangeSpec := { name := "fnExactFormatBox", fn := fun _ => fun
  | [d] => { results := [.lit (.bool true)], args := [d] }
  | _ => none }
def fnExactFormatBoxRow : OpenClaim := { program := "ytcfilkhjababjaa", sum := "9bfbb01528d972c9eb0edd1d3f533e2d6b01313154f0bd425b3c39af7b6739d4", func := "loop.example/g01921/laws.FnExactFormatBox", spec := "fnExactFormatBox", apart := false }
def FnExactFormatBoxSaid : Prop := fnExactFormatBoxRow.holds Try.pinned (OpenSpec.ofChange fnExactFormatBoxSpec)

/-- ITS FALSE NEIGHBOUR: 'it returns false'. Refute it at one input. -/
def fnExactFormatBoxWrong : ChangeSpec := { name := "fnExactFormatBox", fn := fun _ => fun
  | [d] => { results := [.lit (.bool false)], args := [d] }
  | _ => none }
def FnExactFormatBoxWrongFalsely : Prop := fnExactFormatBoxRow.holds Try.pinned (OpenSpec.ofChange fnExactFormatBoxWrong)

/-- 'laws.FnExactEntropyProgram': WHATEVER THE INPUT: true; the input reads as it did. -/
def fnExactEntropyProgramSpec : ChangeSpec := { name := "fnExactEntropyProgram", fn := fun _ => fun
  | [d1, d2] => { results := [.lit (.bool true)], args := [d1, d2] }
  | _ => none }
def fnExactEntropyProgramRow : OpenClaim := { program := "ytcfilkhjababjaa", sum := "9bfbb01528d972c9eb0edd1d3f533e2d6b01313154f0bd425b3c39af7b6739d4", func := "loop.example/g01921/laws.FnExactEntropyProgram", spec := "fnExactEntropyProgram", unfollowed := true, recurses := true, apart := false }
def FnExactEntropyProgramSaid : Prop := fnExactEntropyProgramRow.holds Try.pinned (OpenSpec.ofChange fnExactEntropyProgramSpec)

/-- ITS FALSE NEIGHBOUR: 'it returns false'. Refute it at one input. -/
def fnExactEntropyProgramWrong : ChangeSpec := { name := "fnExactEntropyProgram", fn := fun _ => fun
  | [d1, d2] => { results := [.lit (.bool false)], args := [d1, d2] }
  | _ => none }
def FnExactEntropyProgramWrongFalsely : Prop := fnExactEntropyProgramRow.holds Try.pinned (OpenSpec.ofChange fnExactEntropyProgramWrong)

/-- 'laws.FnPowerFloor': WHATEVER THE INPUT: true; the input reads as it did. -/
def fnPowerFloorSpec : ChangeSpec := { name := "fnPowerFloor", fn := fun _ => fun
  | [d] => { results := [.lit (.bool true)], args := [d] }
  | _ => none }
def fnPowerFloorRow : OpenClaim := { program := "ytcfilkhjababjaa", sum := "9bfbb01528d972c9eb0edd1d3f533e2d6b01313154f0bd425b3c39af7b6739d4", func := "loop.example/g01921/laws.FnPowerFloor", spec := "fnPowerFloor", apart := false }
def FnPowerFloorSaid : Prop := fnPowerFloorRow.holds Try.pinned (OpenSpec.ofChange fnPowerFloorSpec)

/-- ITS FALSE NEIGHBOUR: 'it returns false'. Refute it at one input. -/
def fnPowerFloorWrong : ChangeSpec := { name := "fnPowerFloor", fn := fun _ => fun
  | [d] => { results := [.lit (.bool false)], args := [d] }
  | _ => none }
def FnPowerFloorWrongFalsely : Prop := fnPowerFloorRow.holds Try.pinned (OpenSpec.ofChange fnPowerFloorWrong)

/-- 'laws.FnExactSolveProgram': WHATEVER THE INPUT: true; the input reads as it did. -/
def fnExactSolveProgramSpec : ChangeSpec := { name := "fnExactSolveProgram", fn := fun _ => fun
  | [d] => { results := [.lit (.bool true)], args := [d] }
  | _ => none }
def fnExactSolveProgramRow : OpenClaim := { program := "ytcfilkhjababjaa", sum := "9bfbb01528d972c9eb0edd1d3f533e2d6b01313154f0bd425b3c39af7b6739d4", func := "loop.example/g01921/laws.FnExactSolveProgram", spec := "fnExactSolveProgram", unfollowed := true, recurses := true, apart := false }
def FnExactSolveProgramSaid : Prop := fnExactSolveProgramRow.holds Try.pinned (OpenSpec.ofChange fnExactSolveProgramSpec)

/-- ITS FALSE NEIGHBOUR: 'it returns false'. Refute it at one input. -/
def fnExactSolveProgramWrong : ChangeSpec := { name := "fnExactSolveProgram", fn := fun _ => fun
  | [d] => { results := [.lit (.bool false)], args := [d] }
  | _ => none }
def FnExactSolveProgramWrongFalsely : Prop := fnExactSolveProgramRow.holds Try.pinned (OpenSpec.ofChange fnExactSolveProgramWrong)

/-- 'laws.FnExactPivotDictionary': WHATEVER THE INPUT: true; the input reads as it did. -/
def fnExactPivotDictionarySpec : ChangeSpec := { name := "fnExactPivotDictionary", fn := fun _ => fun
  | [d1, d2, d3] => { results := [.lit (.bool true)], args := [d1, d2, d3] }
  | _ => none }
def fnExactPivotDictionaryRow : OpenClaim := { program := "ytcfilkhjababjaa", sum := "9bfbb01528d972c9eb0edd1d3f533e2d6b01313154f0bd425b3c39af7b6739d4", func := "loop.example/g01921/laws.FnExactPivotDictionary", spec := "fnExactPivotDictionary", unfollowed := true, recurses := true, apart := false }
def FnExactPivotDictionarySaid : Prop := fnExactPivotDictionaryRow.holds Try.pinned (OpenSpec.ofChange fnExactPivotDictionarySpec)

/-- ITS FALSE NEIGHBOUR: 'it returns false'. Refute it at one input. -/
def fnExactPivotDictionaryWrong : ChangeSpec := { name := "fnExactPivotDictionary", fn := fun _ => fun
  | [d1, d2, d3] => { results := [.lit (.bool false)], args := [d1, d2, d3] }
  | _ => none }
def FnExactPivotDictionaryWrongFalsely : Prop := fnExactPivotDictionaryRow.holds Try.pinned (OpenSpec.ofChange fnExactPivotDictionaryWrong)

/-- 'laws.FnPivot': WHATEVER THE INPUT: true; the input reads as it did. -/
def fnPivotSpec : ChangeSpec := { name := "fnPivot", fn := fun _ => fun
  | [d] => { results := [.lit (.bool true)], args := [d] }
  | _ => none }
def fnPivotRow : OpenClaim := { program := "ytcfilkhjababjaa", sum := "9bfbb01528d972c9eb0edd1d3f533e2d6b01313154f0bd425b3c39af7b6739d4", func := "loop.example/g01921/laws.FnPivot", spec := "fnPivot", unfollowed := true, recurses := true, apart := false }
def FnPivotSaid : Prop := fnPivotRow.holds Try.pinned (OpenSpec.ofChange fnPivotSpec)

/-- ITS FALSE NEIGHBOUR: 'it returns false'. Refute it at one input. -/
def fnPivotWrong : ChangeSpec := { name := "fnPivot", fn := fun _ => fun
  | [d] => { results := [.lit (.bool false)], args := [d] }
  | _ => none }
def FnPivotWrongFalsely : Prop := fnPivotRow.holds Try.pinned (OpenSpec.ofChange fnPivotWrong)

/-- 'laws.FnProgram': WHATEVER THE INPUT: true; the input reads as it did. -/
def fnProgramSpec : ChangeSpec := { name := "fnProgram", fn := fun _ => fun
  | [d] => { results := [.lit (.bool true)], args := [d] }
  | _ => none }
def fnProgramRow : OpenClaim := { program := "ytcfilkhjababjaa", sum := "9bfbb01528d972c9eb0edd1d3f533e2d6b01313154f0bd425b3c39af7b6739d4", func := "loop.example/g01921/laws.FnProgram", spec := "fnProgram", unfollowed := true, recurses := true, apart := false }
def FnProgramSaid : Prop := fnProgramRow.holds Try.pinned (OpenSpec.ofChange fnProgramSpec)

/-- ITS FALSE NEIGHBOUR: 'it returns false'. Refute it at one input. -/
def fnProgramWrong : ChangeSpec := { name := "fnProgram", fn := fun _ => fun
  | [d] => { results := [.lit (.bool false)], args := [d] }
  | _ => none }
def FnProgramWrongFalsely : Prop := fnProgramRow.holds Try.pinned (OpenSpec.ofChange fnProgramWrong)

/-- 'laws.FnEntropyRows': WHATEVER THE INPUT: true; the input reads as it did. -/
def fnEntropyRowsSpec : ChangeSpec := { name := "fnEntropyRows", fn := fun _ => fun
  | [d] => { results := [.lit (.bool true)], args := [d] }
  | _ => none }
def fnEntropyRowsRow : OpenClaim := { program := "ytcfilkhjababjaa", sum := "9bfbb01528d972c9eb0edd1d3f533e2d6b01313154f0bd425b3c39af7b6739d4", func := "loop.example/g01921/laws.FnEntropyRows", spec := "fnEntropyRows", unfollowed := true, recurses := true, apart := false }
def FnEntropyRowsSaid : Prop := fnEntropyRowsRow.holds Try.pinned (OpenSpec.ofChange fnEntropyRowsSpec)

/-- ITS FALSE NEIGHBOUR: 'it returns false'. Refute it at one input. -/
def fnEntropyRowsWrong : ChangeSpec := { name := "fnEntropyRows", fn := fun _ => fun
  | [d] => { results := [.lit (.bool false)], args := [d] }
  | _ => none }
def FnEntropyRowsWrongFalsely : Prop := fnEntropyRowsRow.holds Try.pinned (OpenSpec.ofChange fnEntropyRowsWrong)

/- THE SECOND FORM. 'bulk': how many values and letters a reading holds, each counted each time it is reached (what is shared counts as often as it is met; a slice's spare places count too). A statement '..UptoSaid' is the law's where the arguments, and the package variables that the reading takes, are together of bulk at most 1048576: NARROWER than '..Said'. Prove '..Said' where nothing that the law and all that it calls make is longer than what came in: it says more and counts as full. Else prove '..UptoSaid'. A law counts once. -/
mutual
def uptoBulk {H : Type} : DataW H → Nat
  | .lit (.string bytes) => bytes.length + 1
  | .lit _ => 1
  | .nil => 1
  | .ptr d => uptoBulk d + 1
  | .slice elems spare => uptoBulkAll elems + uptoBulkAll spare + 1
  | .agg parts => uptoBulkAll parts + 1
  | .iface _ d => uptoBulk d + 1
  | .map entries => uptoBulkEntries entries + 1
  | .held _ => 1
def uptoBulkAll {H : Type} : List (DataW H) → Nat
  | [] => 0
  | d :: r => uptoBulk d + uptoBulkAll r
def uptoBulkEntries {H : Type} : List (Lit × DataW H) → Nat
  | [] => 0
  | x :: r => uptoBulkEntry x + uptoBulkEntries r
def uptoBulkEntry {H : Type} : Lit × DataW H → Nat
  | (.string bytes, d) => bytes.length + uptoBulk d + 1
  | (_, d) => uptoBulk d + 1
 end
def uptoSmall : (H : Type) → List (DataW H) → Bool := fun _ ds => decide (uptoBulkAll ds ≤ 1048576)
def OpenSpec.upto (s : _root_.Go.ChangeSpec) : _root_.Go.OpenSpec := { _root_.Go.OpenSpec.ofChange s with cond := some uptoSmall }

/-- 'laws.FnExactPowerFloor', WHERE WHAT IT READS IS OF BULK AT MOST 1048576: true; the input reads as it did. -/
def fnExactPowerFloorUptoRow : OpenClaim := { program := "ytcfilkhjababjaa", sum := "9bfbb01528d972c9eb0edd1d3f533e2d6b01313154f0bd425b3c39af7b6739d4", func := "loop.example/g01921/laws.FnExactPowerFloor", spec := "fnExactPowerFloor", apart := false, narrowed := true }
def FnExactPowerFloorUptoSaid : Prop := fnExactPowerFloorUptoRow.holds Try.pinned (OpenSpec.upto fnExactPowerFloorSpec)

/-- 'laws.FnExactElementalRows', WHERE WHAT IT READS IS OF BULK AT MOST 1048576: true; the input reads as it did. -/
def fnExactElementalRowsUptoRow : OpenClaim := { program := "ytcfilkhjababjaa", sum := "9bfbb01528d972c9eb0edd1d3f533e2d6b01313154f0bd425b3c39af7b6739d4", func := "loop.example/g01921/laws.FnExactElementalRows", spec := "fnExactElementalRows", unfollowed := true, recurses := true, apart := false, narrowed := true }
def FnExactElementalRowsUptoSaid : Prop := fnExactElementalRowsUptoRow.holds Try.pinned (OpenSpec.upto fnExactElementalRowsSpec)

/-- 'laws.FnExactRenumberConstraints', WHERE WHAT IT READS IS OF BULK AT MOST 1048576: true; the input reads as it did. -/
def fnExactRenumberConstraintsUptoRow : OpenClaim := { program := "ytcfilkhjababjaa", sum := "9bfbb01528d972c9eb0edd1d3f533e2d6b01313154f0bd425b3c39af7b6739d4", func := "loop.example/g01921/laws.FnExactRenumberConstraints", spec := "fnExactRenumberConstraints", unfollowed := true, recurses := true, apart := false, narrowed := true }
def FnExactRenumberConstraintsUptoSaid : Prop := fnExactRenumberConstraintsUptoRow.holds Try.pinned (OpenSpec.upto fnExactRenumberConstraintsSpec)

/-- 'laws.FnExactFormatBox', WHERE WHAT IT READS IS OF BULK AT MOST 1048576: true; the input reads as it did. -/
def fnExactFormatBoxUptoRow : OpenClaim := { program := "ytcfilkhjababjaa", sum := "9bfbb01528d972c9eb0edd1d3f533e2d6b01313154f0bd425b3c39af7b6739d4", func := "loop.example/g01921/laws.FnExactFormatBox", spec := "fnExactFormatBox", apart := false, narrowed := true }
def FnExactFormatBoxUptoSaid : Prop := fnExactFormatBoxUptoRow.holds Try.pinned (OpenSpec.upto fnExactFormatBoxSpec)

/-- 'laws.FnExactEntropyProgram', WHERE WHAT IT READS IS OF BULK AT MOST 1048576: true; the input reads as it did. -/
def fnExactEntropyProgramUptoRow : OpenClaim := { program := "ytcfilkhjababjaa", sum := "9bfbb01528d972c9eb0edd1d3f533e2d6b01313154f0bd425b3c39af7b6739d4", func := "loop.example/g01921/laws.FnExactEntropyProgram", spec := "fnExactEntropyProgram", unfollowed := true, recurses := true, apart := false, narrowed := true }
def FnExactEntropyProgramUptoSaid : Prop := fnExactEntropyProgramUptoRow.holds Try.pinned (OpenSpec.upto fnExactEntropyProgramSpec)

/-- 'laws.FnPowerFloor', WHERE WHAT IT READS IS OF BULK AT MOST 1048576: true; the input reads as it did. -/
def fnPowerFloorUptoRow : OpenClaim := { program := "ytcfilkhjababjaa", sum := "9bfbb01528d972c9eb0edd1d3f533e2d6b01313154f0bd425b3c39af7b6739d4", func := "loop.example/g01921/laws.FnPowerFloor", spec := "fnPowerFloor", apart := false, narrowed := true }
def FnPowerFloorUptoSaid : Prop := fnPowerFloorUptoRow.holds Try.pinned (OpenSpec.upto fnPowerFloorSpec)

/-- 'laws.FnExactSolveProgram', WHERE WHAT IT READS IS OF BULK AT MOST 1048576: true; the input reads as it did. -/
def fnExactSolveProgramUptoRow : OpenClaim := { program := "ytcfilkhjababjaa", sum := "9bfbb01528d972c9eb0edd1d3f533e2d6b01313154f0bd425b3c39af7b6739d4", func := "loop.example/g01921/laws.FnExactSolveProgram", spec := "fnExactSolveProgram", unfollowed := true, recurses := true, apart := false, narrowed := true }
def FnExactSolveProgramUptoSaid : Prop := fnExactSolveProgramUptoRow.holds Try.pinned (OpenSpec.upto fnExactSolveProgramSpec)

/-- 'laws.FnExactPivotDictionary', WHERE WHAT IT READS IS OF BULK AT MOST 1048576: true; the input reads as it did. -/
def fnExactPivotDictionaryUptoRow : OpenClaim := { program := "ytcfilkhjababjaa", sum := "9bfbb01528d972c9eb0edd1d3f533e2d6b01313154f0bd425b3c39af7b6739d4", func := "loop.example/g01921/laws.FnExactPivotDictionary", spec := "fnExactPivotDictionary", unfollowed := true, recurses := true, apart := false, narrowed := true }
def FnExactPivotDictionaryUptoSaid : Prop := fnExactPivotDictionaryUptoRow.holds Try.pinned (OpenSpec.upto fnExactPivotDictionarySpec)

/-- 'laws.FnPivot', WHERE WHAT IT READS IS OF BULK AT MOST 1048576: true; the input reads as it did. -/
def fnPivotUptoRow : OpenClaim := { program := "ytcfilkhjababjaa", sum := "9bfbb01528d972c9eb0edd1d3f533e2d6b01313154f0bd425b3c39af7b6739d4", func := "loop.example/g01921/laws.FnPivot", spec := "fnPivot", unfollowed := true, recurses := true, apart := false, narrowed := true }
def FnPivotUptoSaid : Prop := fnPivotUptoRow.holds Try.pinned (OpenSpec.upto fnPivotSpec)

/-- 'laws.FnProgram', WHERE WHAT IT READS IS OF BULK AT MOST 1048576: true; the input reads as it did. -/
def fnProgramUptoRow : OpenClaim := { program := "ytcfilkhjababjaa", sum := "9bfbb01528d972c9eb0edd1d3f533e2d6b01313154f0bd425b3c39af7b6739d4", func := "loop.example/g01921/laws.FnProgram", spec := "fnProgram", unfollowed := true, recurses := true, apart := false, narrowed := true }
def FnProgramUptoSaid : Prop := fnProgramUptoRow.holds Try.pinned (OpenSpec.upto fnProgramSpec)

/-- 'laws.FnEntropyRows', WHERE WHAT IT READS IS OF BULK AT MOST 1048576: true; the input reads as it did. -/
def fnEntropyRowsUptoRow : OpenClaim := { program := "ytcfilkhjababjaa", sum := "9bfbb01528d972c9eb0edd1d3f533e2d6b01313154f0bd425b3c39af7b6739d4", func := "loop.example/g01921/laws.FnEntropyRows", spec := "fnEntropyRows", unfollowed := true, recurses := true, apart := false, narrowed := true }
def FnEntropyRowsUptoSaid : Prop := fnEntropyRowsUptoRow.holds Try.pinned (OpenSpec.upto fnEntropyRowsSpec)

end Rows
end Go.Proofs.Ytcfilkhjababjaa
