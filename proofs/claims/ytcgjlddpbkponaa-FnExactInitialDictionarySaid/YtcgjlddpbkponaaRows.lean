/-
  No cell of these rows narrows 'for every input' (looked for: loops, veiled, ifaces, maps, wideKeys, modest, calm, conditions, laid).
  DERIVED. THE GIVEN ROWS OF THIS SEAT. 12 by the template 'for every input the law returns true; each argument reads behind the call as it read before'; 0 by the template 'total and deterministic' (their statements: YtcgjlddpbkponaaTotals.lean).
  GIVEN WITH THE SEED: the statements are not yours to turn. If you find one false, say at which input.
  Laid BY PROGRAM, IN A SANDBOX (cutbox-rows.mjs): the forced cells as the released guide's own fill.sh prints them over the translation 755a563ef292c32e… (all of the seat's roots in one cut). By AI agents, Wed Nov 11 2026. No macro, syntax, notation, axiom, sorry.
-/
import Derived.Test.YtcgjlddpbkponaaChecked
import GoSem.Claim
import GoSem.ClaimJoined
import GoSem.ClaimMapViews
import Derived.JoinedTies
import Derived.KernelRfl
namespace Go.Proofs.Ytcgjlddpbkponaa
/- THE CELL 'sum', in the pinned program and in every row, IS THE sha256 OF THE DUMP (.gsa) THAT YtcgjlddpbkponaaProg.lean LOADS. Nothing in Lean hashes anything: it is a label: what it is worth is what the hold of that sum in a sandbox is worth. -/
noncomputable def Try.pinned : Pinned := { name := "ytcgjlddpbkponaa", sum := "755a563ef292c32e72fbc220e2cedbcac3d8769ea8b6d3f829eb328da2bfc5ea", checked := Try.checked }
namespace Rows
def none {H : Type} : Left H := { results := [], args := [] }

/-- 'laws.FnExactIsValidProgram': WHATEVER THE INPUT: true; the input reads as it did. -/
def fnExactIsValidProgramSpec : ChangeSpec := { name := "fnExactIsValidProgram", fn := fun _ => fun
  | [d] => { results := [.lit (.bool true)], args := [d] }
  | _ => none }
def fnExactIsValidProgramRow : OpenClaim := { program := "ytcgjlddpbkponaa", sum := "755a563ef292c32e72fbc220e2cedbcac3d8769ea8b6d3f829eb328da2bfc5ea", func := "loop.example/g01921/laws.FnExactIsValidProgram", spec := "fnExactIsValidProgram", apart := false }
def FnExactIsValidProgramSaid : Prop := fnExactIsValidProgramRow.holds Try.pinned (OpenSpec.ofChange fnExactIsValidProgramSpec)

/-- ITS FALSE NEIGHBOUR: 'it returns false'. Refute it at one input. -/
def fnExactIsValidProgramWrong : ChangeSpec := { name := "fnExactIsValidProgram", fn := fun _ => fun
  | [d] => { results := [.lit (.bool false)], args := [d] }
  | _ => none }
def FnExactIsValidProgramWrongFalsely : Prop := fnExactIsValidProgramRow.holds Try.pinned (OpenSpec.ofChange fnExactIsValidProgramWrong)

/-- 'laws.FnExactLimitAt': WHATEVER THE INPUT: true; the input reads as it did. -/
def fnExactLimitAtSpec : ChangeSpec := { name := "fnExactLimitAt", fn := fun _ => fun
  | [d1, d2] => { results := [.lit (.bool true)], args := [d1, d2] }
  | _ => none }
def fnExactLimitAtRow : OpenClaim := { program := "ytcgjlddpbkponaa", sum := "755a563ef292c32e72fbc220e2cedbcac3d8769ea8b6d3f829eb328da2bfc5ea", func := "loop.example/g01921/laws.FnExactLimitAt", spec := "fnExactLimitAt", apart := false }
def FnExactLimitAtSaid : Prop := fnExactLimitAtRow.holds Try.pinned (OpenSpec.ofChange fnExactLimitAtSpec)

/-- ITS FALSE NEIGHBOUR: 'it returns false'. Refute it at one input. -/
def fnExactLimitAtWrong : ChangeSpec := { name := "fnExactLimitAt", fn := fun _ => fun
  | [d1, d2] => { results := [.lit (.bool false)], args := [d1, d2] }
  | _ => none }
def FnExactLimitAtWrongFalsely : Prop := fnExactLimitAtRow.holds Try.pinned (OpenSpec.ofChange fnExactLimitAtWrong)

/-- 'laws.FnExactObjectiveAt': WHATEVER THE INPUT: true; the input reads as it did. -/
def fnExactObjectiveAtSpec : ChangeSpec := { name := "fnExactObjectiveAt", fn := fun _ => fun
  | [d1, d2] => { results := [.lit (.bool true)], args := [d1, d2] }
  | _ => none }
def fnExactObjectiveAtRow : OpenClaim := { program := "ytcgjlddpbkponaa", sum := "755a563ef292c32e72fbc220e2cedbcac3d8769ea8b6d3f829eb328da2bfc5ea", func := "loop.example/g01921/laws.FnExactObjectiveAt", spec := "fnExactObjectiveAt", apart := false }
def FnExactObjectiveAtSaid : Prop := fnExactObjectiveAtRow.holds Try.pinned (OpenSpec.ofChange fnExactObjectiveAtSpec)

/-- ITS FALSE NEIGHBOUR: 'it returns false'. Refute it at one input. -/
def fnExactObjectiveAtWrong : ChangeSpec := { name := "fnExactObjectiveAt", fn := fun _ => fun
  | [d1, d2] => { results := [.lit (.bool false)], args := [d1, d2] }
  | _ => none }
def FnExactObjectiveAtWrongFalsely : Prop := fnExactObjectiveAtRow.holds Try.pinned (OpenSpec.ofChange fnExactObjectiveAtWrong)

/-- 'laws.FnExactInitialDictionary': WHATEVER THE INPUT: true; the input reads as it did. -/
def fnExactInitialDictionarySpec : ChangeSpec := { name := "fnExactInitialDictionary", fn := fun _ => fun
  | [d] => { results := [.lit (.bool true)], args := [d] }
  | _ => none }
def fnExactInitialDictionaryRow : OpenClaim := { program := "ytcgjlddpbkponaa", sum := "755a563ef292c32e72fbc220e2cedbcac3d8769ea8b6d3f829eb328da2bfc5ea", func := "loop.example/g01921/laws.FnExactInitialDictionary", spec := "fnExactInitialDictionary", apart := false }
def FnExactInitialDictionarySaid : Prop := fnExactInitialDictionaryRow.holds Try.pinned (OpenSpec.ofChange fnExactInitialDictionarySpec)

/-- ITS FALSE NEIGHBOUR: 'it returns false'. Refute it at one input. -/
def fnExactInitialDictionaryWrong : ChangeSpec := { name := "fnExactInitialDictionary", fn := fun _ => fun
  | [d] => { results := [.lit (.bool false)], args := [d] }
  | _ => none }
def FnExactInitialDictionaryWrongFalsely : Prop := fnExactInitialDictionaryRow.holds Try.pinned (OpenSpec.ofChange fnExactInitialDictionaryWrong)

/-- 'laws.FnExactIsFeasiblePoint': WHATEVER THE INPUT: true; the input reads as it did. -/
def fnExactIsFeasiblePointSpec : ChangeSpec := { name := "fnExactIsFeasiblePoint", fn := fun _ => fun
  | [d1, d2] => { results := [.lit (.bool true)], args := [d1, d2] }
  | _ => none }
def fnExactIsFeasiblePointRow : OpenClaim := { program := "ytcgjlddpbkponaa", sum := "755a563ef292c32e72fbc220e2cedbcac3d8769ea8b6d3f829eb328da2bfc5ea", func := "loop.example/g01921/laws.FnExactIsFeasiblePoint", spec := "fnExactIsFeasiblePoint", apart := false }
def FnExactIsFeasiblePointSaid : Prop := fnExactIsFeasiblePointRow.holds Try.pinned (OpenSpec.ofChange fnExactIsFeasiblePointSpec)

/-- ITS FALSE NEIGHBOUR: 'it returns false'. Refute it at one input. -/
def fnExactIsFeasiblePointWrong : ChangeSpec := { name := "fnExactIsFeasiblePoint", fn := fun _ => fun
  | [d1, d2] => { results := [.lit (.bool false)], args := [d1, d2] }
  | _ => none }
def FnExactIsFeasiblePointWrongFalsely : Prop := fnExactIsFeasiblePointRow.holds Try.pinned (OpenSpec.ofChange fnExactIsFeasiblePointWrong)

/-- 'laws.FnExactIsDualPoint': WHATEVER THE INPUT: true; the input reads as it did. -/
def fnExactIsDualPointSpec : ChangeSpec := { name := "fnExactIsDualPoint", fn := fun _ => fun
  | [d1, d2] => { results := [.lit (.bool true)], args := [d1, d2] }
  | _ => none }
def fnExactIsDualPointRow : OpenClaim := { program := "ytcgjlddpbkponaa", sum := "755a563ef292c32e72fbc220e2cedbcac3d8769ea8b6d3f829eb328da2bfc5ea", func := "loop.example/g01921/laws.FnExactIsDualPoint", spec := "fnExactIsDualPoint", apart := false }
def FnExactIsDualPointSaid : Prop := fnExactIsDualPointRow.holds Try.pinned (OpenSpec.ofChange fnExactIsDualPointSpec)

/-- ITS FALSE NEIGHBOUR: 'it returns false'. Refute it at one input. -/
def fnExactIsDualPointWrong : ChangeSpec := { name := "fnExactIsDualPoint", fn := fun _ => fun
  | [d1, d2] => { results := [.lit (.bool false)], args := [d1, d2] }
  | _ => none }
def FnExactIsDualPointWrongFalsely : Prop := fnExactIsDualPointRow.holds Try.pinned (OpenSpec.ofChange fnExactIsDualPointWrong)

/-- 'laws.FnExactIsOptimalSolution': WHATEVER THE INPUT: true; the input reads as it did. -/
def fnExactIsOptimalSolutionSpec : ChangeSpec := { name := "fnExactIsOptimalSolution", fn := fun _ => fun
  | [d1, d2] => { results := [.lit (.bool true)], args := [d1, d2] }
  | _ => none }
def fnExactIsOptimalSolutionRow : OpenClaim := { program := "ytcgjlddpbkponaa", sum := "755a563ef292c32e72fbc220e2cedbcac3d8769ea8b6d3f829eb328da2bfc5ea", func := "loop.example/g01921/laws.FnExactIsOptimalSolution", spec := "fnExactIsOptimalSolution", apart := false }
def FnExactIsOptimalSolutionSaid : Prop := fnExactIsOptimalSolutionRow.holds Try.pinned (OpenSpec.ofChange fnExactIsOptimalSolutionSpec)

/-- ITS FALSE NEIGHBOUR: 'it returns false'. Refute it at one input. -/
def fnExactIsOptimalSolutionWrong : ChangeSpec := { name := "fnExactIsOptimalSolution", fn := fun _ => fun
  | [d1, d2] => { results := [.lit (.bool false)], args := [d1, d2] }
  | _ => none }
def FnExactIsOptimalSolutionWrongFalsely : Prop := fnExactIsOptimalSolutionRow.holds Try.pinned (OpenSpec.ofChange fnExactIsOptimalSolutionWrong)

/-- 'laws.FnExactIsValidDictionary': WHATEVER THE INPUT: true; the input reads as it did. -/
def fnExactIsValidDictionarySpec : ChangeSpec := { name := "fnExactIsValidDictionary", fn := fun _ => fun
  | [d] => { results := [.lit (.bool true)], args := [d] }
  | _ => none }
def fnExactIsValidDictionaryRow : OpenClaim := { program := "ytcgjlddpbkponaa", sum := "755a563ef292c32e72fbc220e2cedbcac3d8769ea8b6d3f829eb328da2bfc5ea", func := "loop.example/g01921/laws.FnExactIsValidDictionary", spec := "fnExactIsValidDictionary", recurses := true, apart := false }
def FnExactIsValidDictionarySaid : Prop := fnExactIsValidDictionaryRow.holds Try.pinned (OpenSpec.ofChange fnExactIsValidDictionarySpec)

/-- ITS FALSE NEIGHBOUR: 'it returns false'. Refute it at one input. -/
def fnExactIsValidDictionaryWrong : ChangeSpec := { name := "fnExactIsValidDictionary", fn := fun _ => fun
  | [d] => { results := [.lit (.bool false)], args := [d] }
  | _ => none }
def FnExactIsValidDictionaryWrongFalsely : Prop := fnExactIsValidDictionaryRow.holds Try.pinned (OpenSpec.ofChange fnExactIsValidDictionaryWrong)

/-- 'laws.FnExactEnteringColumn': WHATEVER THE INPUT: true; the input reads as it did. -/
def fnExactEnteringColumnSpec : ChangeSpec := { name := "fnExactEnteringColumn", fn := fun _ => fun
  | [d] => { results := [.lit (.bool true)], args := [d] }
  | _ => none }
def fnExactEnteringColumnRow : OpenClaim := { program := "ytcgjlddpbkponaa", sum := "755a563ef292c32e72fbc220e2cedbcac3d8769ea8b6d3f829eb328da2bfc5ea", func := "loop.example/g01921/laws.FnExactEnteringColumn", spec := "fnExactEnteringColumn", recurses := true, apart := false }
def FnExactEnteringColumnSaid : Prop := fnExactEnteringColumnRow.holds Try.pinned (OpenSpec.ofChange fnExactEnteringColumnSpec)

/-- ITS FALSE NEIGHBOUR: 'it returns false'. Refute it at one input. -/
def fnExactEnteringColumnWrong : ChangeSpec := { name := "fnExactEnteringColumn", fn := fun _ => fun
  | [d] => { results := [.lit (.bool false)], args := [d] }
  | _ => none }
def FnExactEnteringColumnWrongFalsely : Prop := fnExactEnteringColumnRow.holds Try.pinned (OpenSpec.ofChange fnExactEnteringColumnWrong)

/-- 'laws.FnExactLeavingRow': WHATEVER THE INPUT: true; the input reads as it did. -/
def fnExactLeavingRowSpec : ChangeSpec := { name := "fnExactLeavingRow", fn := fun _ => fun
  | [d1, d2] => { results := [.lit (.bool true)], args := [d1, d2] }
  | _ => none }
def fnExactLeavingRowRow : OpenClaim := { program := "ytcgjlddpbkponaa", sum := "755a563ef292c32e72fbc220e2cedbcac3d8769ea8b6d3f829eb328da2bfc5ea", func := "loop.example/g01921/laws.FnExactLeavingRow", spec := "fnExactLeavingRow", recurses := true, apart := false }
def FnExactLeavingRowSaid : Prop := fnExactLeavingRowRow.holds Try.pinned (OpenSpec.ofChange fnExactLeavingRowSpec)

/-- ITS FALSE NEIGHBOUR: 'it returns false'. Refute it at one input. -/
def fnExactLeavingRowWrong : ChangeSpec := { name := "fnExactLeavingRow", fn := fun _ => fun
  | [d1, d2] => { results := [.lit (.bool false)], args := [d1, d2] }
  | _ => none }
def FnExactLeavingRowWrongFalsely : Prop := fnExactLeavingRowRow.holds Try.pinned (OpenSpec.ofChange fnExactLeavingRowWrong)

/-- 'laws.FnExactSolveProgram': WHATEVER THE INPUT: true; the input reads as it did. -/
def fnExactSolveProgramSpec : ChangeSpec := { name := "fnExactSolveProgram", fn := fun _ => fun
  | [d] => { results := [.lit (.bool true)], args := [d] }
  | _ => none }
def fnExactSolveProgramRow : OpenClaim := { program := "ytcgjlddpbkponaa", sum := "755a563ef292c32e72fbc220e2cedbcac3d8769ea8b6d3f829eb328da2bfc5ea", func := "loop.example/g01921/laws.FnExactSolveProgram", spec := "fnExactSolveProgram", unfollowed := true, recurses := true, apart := false }
def FnExactSolveProgramSaid : Prop := fnExactSolveProgramRow.holds Try.pinned (OpenSpec.ofChange fnExactSolveProgramSpec)

/-- ITS FALSE NEIGHBOUR: 'it returns false'. Refute it at one input. -/
def fnExactSolveProgramWrong : ChangeSpec := { name := "fnExactSolveProgram", fn := fun _ => fun
  | [d] => { results := [.lit (.bool false)], args := [d] }
  | _ => none }
def FnExactSolveProgramWrongFalsely : Prop := fnExactSolveProgramRow.holds Try.pinned (OpenSpec.ofChange fnExactSolveProgramWrong)

/-- 'laws.FnExactPivotDictionary': WHATEVER THE INPUT: true; the input reads as it did. -/
def fnExactPivotDictionarySpec : ChangeSpec := { name := "fnExactPivotDictionary", fn := fun _ => fun
  | [d1, d2, d3] => { results := [.lit (.bool true)], args := [d1, d2, d3] }
  | _ => none }
def fnExactPivotDictionaryRow : OpenClaim := { program := "ytcgjlddpbkponaa", sum := "755a563ef292c32e72fbc220e2cedbcac3d8769ea8b6d3f829eb328da2bfc5ea", func := "loop.example/g01921/laws.FnExactPivotDictionary", spec := "fnExactPivotDictionary", unfollowed := true, recurses := true, apart := false }
def FnExactPivotDictionarySaid : Prop := fnExactPivotDictionaryRow.holds Try.pinned (OpenSpec.ofChange fnExactPivotDictionarySpec)

/-- ITS FALSE NEIGHBOUR: 'it returns false'. Refute it at one input. -/
def fnExactPivotDictionaryWrong : ChangeSpec := { name := "fnExactPivotDictionary", fn := fun _ => fun
  | [d1, d2, d3] => { results := [.lit (.bool false)], args := [d1, d2, d3] }
  | _ => none }
def FnExactPivotDictionaryWrongFalsely : Prop := fnExactPivotDictionaryRow.holds Try.pinned (OpenSpec.ofChange fnExactPivotDictionaryWrong)

/- THE SECOND FORM. 'bulk': how many values and letters a reading holds, each counted each time it is reached (what is shared counts as often as it is met; a slice's spare places count too). A statement '..UptoSaid' is the law's where the arguments, and the package variables that the reading takes, are together of bulk at most 1048576: NARROWER than '..Said'. Prove '..Said' where nothing that the law and all that it calls make is longer than what came in: it says more and counts as full. Else prove '..UptoSaid'. A law counts once. -/
mutual
def uptoBulk {H : Type} : DataW H → Nat
  | .lit (.string bytes) => bytes.length + 1
  | .lit _ => 1
  | .nil => 1
  | .ptr d => uptoBulk d + 1
  | .slice elems spare => uptoBulkAll elems + uptoBulkAll spare + 1
  | .agg parts => uptoBulkAll parts + 1
  | .iface _ d => uptoBulk d + 1
  | .map entries => uptoBulkEntries entries + 1
  | .held _ => 1
def uptoBulkAll {H : Type} : List (DataW H) → Nat
  | [] => 0
  | d :: r => uptoBulk d + uptoBulkAll r
def uptoBulkEntries {H : Type} : List (Lit × DataW H) → Nat
  | [] => 0
  | x :: r => uptoBulkEntry x + uptoBulkEntries r
def uptoBulkEntry {H : Type} : Lit × DataW H → Nat
  | (.string bytes, d) => bytes.length + uptoBulk d + 1
  | (_, d) => uptoBulk d + 1
 end
def uptoSmall : (H : Type) → List (DataW H) → Bool := fun _ ds => decide (uptoBulkAll ds ≤ 1048576)
def OpenSpec.upto (s : _root_.Go.ChangeSpec) : _root_.Go.OpenSpec := { _root_.Go.OpenSpec.ofChange s with cond := some uptoSmall }

/-- 'laws.FnExactIsValidProgram', WHERE WHAT IT READS IS OF BULK AT MOST 1048576: true; the input reads as it did. -/
def fnExactIsValidProgramUptoRow : OpenClaim := { program := "ytcgjlddpbkponaa", sum := "755a563ef292c32e72fbc220e2cedbcac3d8769ea8b6d3f829eb328da2bfc5ea", func := "loop.example/g01921/laws.FnExactIsValidProgram", spec := "fnExactIsValidProgram", apart := false, narrowed := true }
def FnExactIsValidProgramUptoSaid : Prop := fnExactIsValidProgramUptoRow.holds Try.pinned (OpenSpec.upto fnExactIsValidProgramSpec)

/-- 'laws.FnExactLimitAt', WHERE WHAT IT READS IS OF BULK AT MOST 1048576: true; the input reads as it did. -/
def fnExactLimitAtUptoRow : OpenClaim := { program := "ytcgjlddpbkponaa", sum := "755a563ef292c32e72fbc220e2cedbcac3d8769ea8b6d3f829eb328da2bfc5ea", func := "loop.example/g01921/laws.FnExactLimitAt", spec := "fnExactLimitAt", apart := false, narrowed := true }
def FnExactLimitAtUptoSaid : Prop := fnExactLimitAtUptoRow.holds Try.pinned (OpenSpec.upto fnExactLimitAtSpec)

/-- 'laws.FnExactObjectiveAt', WHERE WHAT IT READS IS OF BULK AT MOST 1048576: true; the input reads as it did. -/
def fnExactObjectiveAtUptoRow : OpenClaim := { program := "ytcgjlddpbkponaa", sum := "755a563ef292c32e72fbc220e2cedbcac3d8769ea8b6d3f829eb328da2bfc5ea", func := "loop.example/g01921/laws.FnExactObjectiveAt", spec := "fnExactObjectiveAt", apart := false, narrowed := true }
def FnExactObjectiveAtUptoSaid : Prop := fnExactObjectiveAtUptoRow.holds Try.pinned (OpenSpec.upto fnExactObjectiveAtSpec)

/-- 'laws.FnExactInitialDictionary', WHERE WHAT IT READS IS OF BULK AT MOST 1048576: true; the input reads as it did. -/
def fnExactInitialDictionaryUptoRow : OpenClaim := { program := "ytcgjlddpbkponaa", sum := "755a563ef292c32e72fbc220e2cedbcac3d8769ea8b6d3f829eb328da2bfc5ea", func := "loop.example/g01921/laws.FnExactInitialDictionary", spec := "fnExactInitialDictionary", apart := false, narrowed := true }
def FnExactInitialDictionaryUptoSaid : Prop := fnExactInitialDictionaryUptoRow.holds Try.pinned (OpenSpec.upto fnExactInitialDictionarySpec)

/-- 'laws.FnExactIsFeasiblePoint', WHERE WHAT IT READS IS OF BULK AT MOST 1048576: true; the input reads as it did. -/
def fnExactIsFeasiblePointUptoRow : OpenClaim := { program := "ytcgjlddpbkponaa", sum := "755a563ef292c32e72fbc220e2cedbcac3d8769ea8b6d3f829eb328da2bfc5ea", func := "loop.example/g01921/laws.FnExactIsFeasiblePoint", spec := "fnExactIsFeasiblePoint", apart := false, narrowed := true }
def FnExactIsFeasiblePointUptoSaid : Prop := fnExactIsFeasiblePointUptoRow.holds Try.pinned (OpenSpec.upto fnExactIsFeasiblePointSpec)

/-- 'laws.FnExactIsDualPoint', WHERE WHAT IT READS IS OF BULK AT MOST 1048576: true; the input reads as it did. -/
def fnExactIsDualPointUptoRow : OpenClaim := { program := "ytcgjlddpbkponaa", sum := "755a563ef292c32e72fbc220e2cedbcac3d8769ea8b6d3f829eb328da2bfc5ea", func := "loop.example/g01921/laws.FnExactIsDualPoint", spec := "fnExactIsDualPoint", apart := false, narrowed := true }
def FnExactIsDualPointUptoSaid : Prop := fnExactIsDualPointUptoRow.holds Try.pinned (OpenSpec.upto fnExactIsDualPointSpec)

/-- 'laws.FnExactIsOptimalSolution', WHERE WHAT IT READS IS OF BULK AT MOST 1048576: true; the input reads as it did. -/
def fnExactIsOptimalSolutionUptoRow : OpenClaim := { program := "ytcgjlddpbkponaa", sum := "755a563ef292c32e72fbc220e2cedbcac3d8769ea8b6d3f829eb328da2bfc5ea", func := "loop.example/g01921/laws.FnExactIsOptimalSolution", spec := "fnExactIsOptimalSolution", apart := false, narrowed := true }
def FnExactIsOptimalSolutionUptoSaid : Prop := fnExactIsOptimalSolutionUptoRow.holds Try.pinned (OpenSpec.upto fnExactIsOptimalSolutionSpec)

/-- 'laws.FnExactIsValidDictionary', WHERE WHAT IT READS IS OF BULK AT MOST 1048576: true; the input reads as it did. -/
def fnExactIsValidDictionaryUptoRow : OpenClaim := { program := "ytcgjlddpbkponaa", sum := "755a563ef292c32e72fbc220e2cedbcac3d8769ea8b6d3f829eb328da2bfc5ea", func := "loop.example/g01921/laws.FnExactIsValidDictionary", spec := "fnExactIsValidDictionary", recurses := true, apart := false, narrowed := true }
def FnExactIsValidDictionaryUptoSaid : Prop := fnExactIsValidDictionaryUptoRow.holds Try.pinned (OpenSpec.upto fnExactIsValidDictionarySpec)

/-- 'laws.FnExactEnteringColumn', WHERE WHAT IT READS IS OF BULK AT MOST 1048576: true; the input reads as it did. -/
def fnExactEnteringColumnUptoRow : OpenClaim := { program := "ytcgjlddpbkponaa", sum := "755a563ef292c32e72fbc220e2cedbcac3d8769ea8b6d3f829eb328da2bfc5ea", func := "loop.example/g01921/laws.FnExactEnteringColumn", spec := "fnExactEnteringColumn", recurses := true, apart := false, narrowed := true }
def FnExactEnteringColumnUptoSaid : Prop := fnExactEnteringColumnUptoRow.holds Try.pinned (OpenSpec.upto fnExactEnteringColumnSpec)

/-- 'laws.FnExactLeavingRow', WHERE WHAT IT READS IS OF BULK AT MOST 1048576: true; the input reads as it did. -/
def fnExactLeavingRowUptoRow : OpenClaim := { program := "ytcgjlddpbkponaa", sum := "755a563ef292c32e72fbc220e2cedbcac3d8769ea8b6d3f829eb328da2bfc5ea", func := "loop.example/g01921/laws.FnExactLeavingRow", spec := "fnExactLeavingRow", recurses := true, apart := false, narrowed := true }
def FnExactLeavingRowUptoSaid : Prop := fnExactLeavingRowUptoRow.holds Try.pinned (OpenSpec.upto fnExactLeavingRowSpec)

/-- 'laws.FnExactSolveProgram', WHERE WHAT IT READS IS OF BULK AT MOST 1048576: true; the input reads as it did. -/
def fnExactSolveProgramUptoRow : OpenClaim := { program := "ytcgjlddpbkponaa", sum := "755a563ef292c32e72fbc220e2cedbcac3d8769ea8b6d3f829eb328da2bfc5ea", func := "loop.example/g01921/laws.FnExactSolveProgram", spec := "fnExactSolveProgram", unfollowed := true, recurses := true, apart := false, narrowed := true }
def FnExactSolveProgramUptoSaid : Prop := fnExactSolveProgramUptoRow.holds Try.pinned (OpenSpec.upto fnExactSolveProgramSpec)

/-- 'laws.FnExactPivotDictionary', WHERE WHAT IT READS IS OF BULK AT MOST 1048576: true; the input reads as it did. -/
def fnExactPivotDictionaryUptoRow : OpenClaim := { program := "ytcgjlddpbkponaa", sum := "755a563ef292c32e72fbc220e2cedbcac3d8769ea8b6d3f829eb328da2bfc5ea", func := "loop.example/g01921/laws.FnExactPivotDictionary", spec := "fnExactPivotDictionary", unfollowed := true, recurses := true, apart := false, narrowed := true }
def FnExactPivotDictionaryUptoSaid : Prop := fnExactPivotDictionaryUptoRow.holds Try.pinned (OpenSpec.upto fnExactPivotDictionarySpec)

end Rows
end Go.Proofs.Ytcgjlddpbkponaa
