/-
  No cell of these rows narrows 'for every input' (looked for: loops, veiled, ifaces, maps, wideKeys, modest, calm, conditions, laid).
  DERIVED. THE GIVEN ROWS OF THIS SEAT. 10 by the template 'for every input the law returns true; each argument reads behind the call as it read before'; 0 by the template 'total and deterministic' (their statements: YtokkjaflmcjlhaaGreatTotals.lean).
  GIVEN WITH THE SEED: the statements are not yours to turn. If you find one false, say at which input.
  Laid BY PROGRAM, IN A SANDBOX (cutbox-rows.mjs): the forced cells as the released guide's own fill.sh prints them over the translation 35dba206ae8843fc… (all of the seat's roots in one cut). By AI agents, Wed Nov 11 2026. No macro, syntax, notation, axiom, sorry.
-/
import Derived.Test.YtokkjaflmcjlhaaGreatChecked
import GoSem.Claim
import GoSem.ClaimJoined
import GoSem.ClaimMapViews
import Derived.JoinedTies
import Derived.KernelRfl
namespace Go.Proofs.YtokkjaflmcjlhaaGreat
/- THE CELL 'sum', in the pinned program and in every row, IS THE sha256 OF THE DUMP (.gsa) THAT YtokkjaflmcjlhaaGreatProg.lean LOADS. Nothing in Lean hashes anything: it is a label: what it is worth is what the hold of that sum in a sandbox is worth. -/
noncomputable def Tryz.pinned : Pinned := { name := "ytokkjaflmcjlhaagreat", sum := "35dba206ae8843fce5f6cfc958041b6ed8595709cb499a2e52cfca3316ca4451", checked := Tryz.checked }
namespace Rows
def none {H : Type} : Left H := { results := [], args := [] }

/-- 'laws.FnExactUpdateStore': WHATEVER THE INPUT: true; the input reads as it did. -/
def fnExactUpdateStoreSpec : ChangeSpec := { name := "fnExactUpdateStore", fn := fun _ => fun
  | [d1, d2] => { results := [.lit (.bool true)], args := [d1, d2] }
  | _ => none }
def fnExactUpdateStoreRow : OpenClaim := { program := "ytokkjaflmcjlhaagreat", sum := "35dba206ae8843fce5f6cfc958041b6ed8595709cb499a2e52cfca3316ca4451", func := "loop.example/g01921/laws.FnExactUpdateStore", spec := "fnExactUpdateStore", unfollowed := true, recurses := true, apart := false }
def FnExactUpdateStoreSaid : Prop := fnExactUpdateStoreRow.holds Tryz.pinned (OpenSpec.ofChange fnExactUpdateStoreSpec)

/-- ITS FALSE NEIGHBOUR: 'it returns false'. Refute it at one input. -/
def fnExactUpdateStoreWrong : ChangeSpec := { name := "fnExactUpdateStore", fn := fun _ => fun
  | [d1, d2] => { results := [.lit (.bool false)], args := [d1, d2] }
  | _ => none }
def FnExactUpdateStoreWrongFalsely : Prop := fnExactUpdateStoreRow.holds Tryz.pinned (OpenSpec.ofChange fnExactUpdateStoreWrong)

/-- 'laws.FnExactUpdateStoreAll': WHATEVER THE INPUT: true; the input reads as it did. -/
def fnExactUpdateStoreAllSpec : ChangeSpec := { name := "fnExactUpdateStoreAll", fn := fun _ => fun
  | [d1, d2] => { results := [.lit (.bool true)], args := [d1, d2] }
  | _ => none }
def fnExactUpdateStoreAllRow : OpenClaim := { program := "ytokkjaflmcjlhaagreat", sum := "35dba206ae8843fce5f6cfc958041b6ed8595709cb499a2e52cfca3316ca4451", func := "loop.example/g01921/laws.FnExactUpdateStoreAll", spec := "fnExactUpdateStoreAll", unfollowed := true, recurses := true, apart := false }
def FnExactUpdateStoreAllSaid : Prop := fnExactUpdateStoreAllRow.holds Tryz.pinned (OpenSpec.ofChange fnExactUpdateStoreAllSpec)

/-- ITS FALSE NEIGHBOUR: 'it returns false'. Refute it at one input. -/
def fnExactUpdateStoreAllWrong : ChangeSpec := { name := "fnExactUpdateStoreAll", fn := fun _ => fun
  | [d1, d2] => { results := [.lit (.bool false)], args := [d1, d2] }
  | _ => none }
def FnExactUpdateStoreAllWrongFalsely : Prop := fnExactUpdateStoreAllRow.holds Tryz.pinned (OpenSpec.ofChange fnExactUpdateStoreAllWrong)

/-- 'laws.FnExactProductBound': WHATEVER THE INPUT: true; the input reads as it did. -/
def fnExactProductBoundSpec : ChangeSpec := { name := "fnExactProductBound", fn := fun _ => fun
  | [d1, d2, d3] => { results := [.lit (.bool true)], args := [d1, d2, d3] }
  | _ => none }
def fnExactProductBoundRow : OpenClaim := { program := "ytokkjaflmcjlhaagreat", sum := "35dba206ae8843fce5f6cfc958041b6ed8595709cb499a2e52cfca3316ca4451", func := "loop.example/g01921/laws.FnExactProductBound", spec := "fnExactProductBound", unfollowed := true, recurses := true, apart := false }
def FnExactProductBoundSaid : Prop := fnExactProductBoundRow.holds Tryz.pinned (OpenSpec.ofChange fnExactProductBoundSpec)

/-- ITS FALSE NEIGHBOUR: 'it returns false'. Refute it at one input. -/
def fnExactProductBoundWrong : ChangeSpec := { name := "fnExactProductBound", fn := fun _ => fun
  | [d1, d2, d3] => { results := [.lit (.bool false)], args := [d1, d2, d3] }
  | _ => none }
def FnExactProductBoundWrongFalsely : Prop := fnExactProductBoundRow.holds Tryz.pinned (OpenSpec.ofChange fnExactProductBoundWrong)

/-- 'laws.FnExactAtomDegree': WHATEVER THE INPUT: true; the input reads as it did. -/
def fnExactAtomDegreeSpec : ChangeSpec := { name := "fnExactAtomDegree", fn := fun _ => fun
  | [d1, d2, d3, d4] => { results := [.lit (.bool true)], args := [d1, d2, d3, d4] }
  | _ => none }
def fnExactAtomDegreeRow : OpenClaim := { program := "ytokkjaflmcjlhaagreat", sum := "35dba206ae8843fce5f6cfc958041b6ed8595709cb499a2e52cfca3316ca4451", func := "loop.example/g01921/laws.FnExactAtomDegree", spec := "fnExactAtomDegree", unfollowed := true, recurses := true, apart := false }
def FnExactAtomDegreeSaid : Prop := fnExactAtomDegreeRow.holds Tryz.pinned (OpenSpec.ofChange fnExactAtomDegreeSpec)

/-- ITS FALSE NEIGHBOUR: 'it returns false'. Refute it at one input. -/
def fnExactAtomDegreeWrong : ChangeSpec := { name := "fnExactAtomDegree", fn := fun _ => fun
  | [d1, d2, d3, d4] => { results := [.lit (.bool false)], args := [d1, d2, d3, d4] }
  | _ => none }
def FnExactAtomDegreeWrongFalsely : Prop := fnExactAtomDegreeRow.holds Tryz.pinned (OpenSpec.ofChange fnExactAtomDegreeWrong)

/-- 'laws.FnExactChainBound': WHATEVER THE INPUT: true; the input reads as it did. -/
def fnExactChainBoundSpec : ChangeSpec := { name := "fnExactChainBound", fn := fun _ => fun
  | [d1, d2, d3] => { results := [.lit (.bool true)], args := [d1, d2, d3] }
  | _ => none }
def fnExactChainBoundRow : OpenClaim := { program := "ytokkjaflmcjlhaagreat", sum := "35dba206ae8843fce5f6cfc958041b6ed8595709cb499a2e52cfca3316ca4451", func := "loop.example/g01921/laws.FnExactChainBound", spec := "fnExactChainBound", unfollowed := true, recurses := true, apart := false }
def FnExactChainBoundSaid : Prop := fnExactChainBoundRow.holds Tryz.pinned (OpenSpec.ofChange fnExactChainBoundSpec)

/-- ITS FALSE NEIGHBOUR: 'it returns false'. Refute it at one input. -/
def fnExactChainBoundWrong : ChangeSpec := { name := "fnExactChainBound", fn := fun _ => fun
  | [d1, d2, d3] => { results := [.lit (.bool false)], args := [d1, d2, d3] }
  | _ => none }
def FnExactChainBoundWrongFalsely : Prop := fnExactChainBoundRow.holds Tryz.pinned (OpenSpec.ofChange fnExactChainBoundWrong)

/-- 'laws.FnExactPairBound': WHATEVER THE INPUT: true; the input reads as it did. -/
def fnExactPairBoundSpec : ChangeSpec := { name := "fnExactPairBound", fn := fun _ => fun
  | [d1, d2, d3, d4] => { results := [.lit (.bool true)], args := [d1, d2, d3, d4] }
  | _ => none }
def fnExactPairBoundRow : OpenClaim := { program := "ytokkjaflmcjlhaagreat", sum := "35dba206ae8843fce5f6cfc958041b6ed8595709cb499a2e52cfca3316ca4451", func := "loop.example/g01921/laws.FnExactPairBound", spec := "fnExactPairBound", unfollowed := true, recurses := true, apart := false }
def FnExactPairBoundSaid : Prop := fnExactPairBoundRow.holds Tryz.pinned (OpenSpec.ofChange fnExactPairBoundSpec)

/-- ITS FALSE NEIGHBOUR: 'it returns false'. Refute it at one input. -/
def fnExactPairBoundWrong : ChangeSpec := { name := "fnExactPairBound", fn := fun _ => fun
  | [d1, d2, d3, d4] => { results := [.lit (.bool false)], args := [d1, d2, d3, d4] }
  | _ => none }
def FnExactPairBoundWrongFalsely : Prop := fnExactPairBoundRow.holds Tryz.pinned (OpenSpec.ofChange fnExactPairBoundWrong)

/-- 'laws.FnExactLowerBound': WHATEVER THE INPUT: true; the input reads as it did. -/
def fnExactLowerBoundSpec : ChangeSpec := { name := "fnExactLowerBound", fn := fun _ => fun
  | [d1, d2, d3] => { results := [.lit (.bool true)], args := [d1, d2, d3] }
  | _ => none }
def fnExactLowerBoundRow : OpenClaim := { program := "ytokkjaflmcjlhaagreat", sum := "35dba206ae8843fce5f6cfc958041b6ed8595709cb499a2e52cfca3316ca4451", func := "loop.example/g01921/laws.FnExactLowerBound", spec := "fnExactLowerBound", unfollowed := true, recurses := true, apart := false }
def FnExactLowerBoundSaid : Prop := fnExactLowerBoundRow.holds Tryz.pinned (OpenSpec.ofChange fnExactLowerBoundSpec)

/-- ITS FALSE NEIGHBOUR: 'it returns false'. Refute it at one input. -/
def fnExactLowerBoundWrong : ChangeSpec := { name := "fnExactLowerBound", fn := fun _ => fun
  | [d1, d2, d3] => { results := [.lit (.bool false)], args := [d1, d2, d3] }
  | _ => none }
def FnExactLowerBoundWrongFalsely : Prop := fnExactLowerBoundRow.holds Tryz.pinned (OpenSpec.ofChange fnExactLowerBoundWrong)

/-- 'laws.FnExactSafeOrder': WHATEVER THE INPUT: true; the input reads as it did. -/
def fnExactSafeOrderSpec : ChangeSpec := { name := "fnExactSafeOrder", fn := fun _ => fun
  | [d1, d2, d3, d4] => { results := [.lit (.bool true)], args := [d1, d2, d3, d4] }
  | _ => none }
def fnExactSafeOrderRow : OpenClaim := { program := "ytokkjaflmcjlhaagreat", sum := "35dba206ae8843fce5f6cfc958041b6ed8595709cb499a2e52cfca3316ca4451", func := "loop.example/g01921/laws.FnExactSafeOrder", spec := "fnExactSafeOrder", unfollowed := true, recurses := true, apart := false }
def FnExactSafeOrderSaid : Prop := fnExactSafeOrderRow.holds Tryz.pinned (OpenSpec.ofChange fnExactSafeOrderSpec)

/-- ITS FALSE NEIGHBOUR: 'it returns false'. Refute it at one input. -/
def fnExactSafeOrderWrong : ChangeSpec := { name := "fnExactSafeOrder", fn := fun _ => fun
  | [d1, d2, d3, d4] => { results := [.lit (.bool false)], args := [d1, d2, d3, d4] }
  | _ => none }
def FnExactSafeOrderWrongFalsely : Prop := fnExactSafeOrderRow.holds Tryz.pinned (OpenSpec.ofChange fnExactSafeOrderWrong)

/-- 'laws.FnExactLowerBounds': WHATEVER THE INPUT: true; the input reads as it did. -/
def fnExactLowerBoundsSpec : ChangeSpec := { name := "fnExactLowerBounds", fn := fun _ => fun
  | [d1, d2] => { results := [.lit (.bool true)], args := [d1, d2] }
  | _ => none }
def fnExactLowerBoundsRow : OpenClaim := { program := "ytokkjaflmcjlhaagreat", sum := "35dba206ae8843fce5f6cfc958041b6ed8595709cb499a2e52cfca3316ca4451", func := "loop.example/g01921/laws.FnExactLowerBounds", spec := "fnExactLowerBounds", unfollowed := true, recurses := true, apart := false }
def FnExactLowerBoundsSaid : Prop := fnExactLowerBoundsRow.holds Tryz.pinned (OpenSpec.ofChange fnExactLowerBoundsSpec)

/-- ITS FALSE NEIGHBOUR: 'it returns false'. Refute it at one input. -/
def fnExactLowerBoundsWrong : ChangeSpec := { name := "fnExactLowerBounds", fn := fun _ => fun
  | [d1, d2] => { results := [.lit (.bool false)], args := [d1, d2] }
  | _ => none }
def FnExactLowerBoundsWrongFalsely : Prop := fnExactLowerBoundsRow.holds Tryz.pinned (OpenSpec.ofChange fnExactLowerBoundsWrong)

/-- 'laws.FnExactQueryConstraints': WHATEVER THE INPUT: true; the input reads as it did. -/
def fnExactQueryConstraintsSpec : ChangeSpec := { name := "fnExactQueryConstraints", fn := fun _ => fun
  | [d1, d2, d3] => { results := [.lit (.bool true)], args := [d1, d2, d3] }
  | _ => none }
def fnExactQueryConstraintsRow : OpenClaim := { program := "ytokkjaflmcjlhaagreat", sum := "35dba206ae8843fce5f6cfc958041b6ed8595709cb499a2e52cfca3316ca4451", func := "loop.example/g01921/laws.FnExactQueryConstraints", spec := "fnExactQueryConstraints", unfollowed := true, recurses := true, apart := false }
def FnExactQueryConstraintsSaid : Prop := fnExactQueryConstraintsRow.holds Tryz.pinned (OpenSpec.ofChange fnExactQueryConstraintsSpec)

/-- ITS FALSE NEIGHBOUR: 'it returns false'. Refute it at one input. -/
def fnExactQueryConstraintsWrong : ChangeSpec := { name := "fnExactQueryConstraints", fn := fun _ => fun
  | [d1, d2, d3] => { results := [.lit (.bool false)], args := [d1, d2, d3] }
  | _ => none }
def FnExactQueryConstraintsWrongFalsely : Prop := fnExactQueryConstraintsRow.holds Tryz.pinned (OpenSpec.ofChange fnExactQueryConstraintsWrong)

/- THE SECOND FORM. 'bulk': how many values and letters a reading holds, each counted each time it is reached (what is shared counts as often as it is met; a slice's spare places count too). A statement '..UptoSaid' is the law's where the arguments, and the package variables that the reading takes, are together of bulk at most 1048576: NARROWER than '..Said'. Prove '..Said' where nothing that the law and all that it calls make is longer than what came in: it says more and counts as full. Else prove '..UptoSaid'. A law counts once. -/
mutual
def uptoBulk {H : Type} : DataW H → Nat
  | .lit (.string bytes) => bytes.length + 1
  | .lit _ => 1
  | .nil => 1
  | .ptr d => uptoBulk d + 1
  | .slice elems spare => uptoBulkAll elems + uptoBulkAll spare + 1
  | .agg parts => uptoBulkAll parts + 1
  | .iface _ d => uptoBulk d + 1
  | .map entries => uptoBulkEntries entries + 1
  | .held _ => 1
def uptoBulkAll {H : Type} : List (DataW H) → Nat
  | [] => 0
  | d :: r => uptoBulk d + uptoBulkAll r
def uptoBulkEntries {H : Type} : List (Lit × DataW H) → Nat
  | [] => 0
  | x :: r => uptoBulkEntry x + uptoBulkEntries r
def uptoBulkEntry {H : Type} : Lit × DataW H → Nat
  | (.string bytes, d) => bytes.length + uptoBulk d + 1
  | (_, d) => uptoBulk d + 1
 end
def uptoSmall : (H : Type) → List (DataW H) → Bool := fun _ ds => decide (uptoBulkAll ds ≤ 1048576)
def OpenSpec.upto (s : _root_.Go.ChangeSpec) : _root_.Go.OpenSpec := { _root_.Go.OpenSpec.ofChange s with cond := some uptoSmall }

/-- 'laws.FnExactUpdateStore', WHERE WHAT IT READS IS OF BULK AT MOST 1048576: true; the input reads as it did. -/
def fnExactUpdateStoreUptoRow : OpenClaim := { program := "ytokkjaflmcjlhaagreat", sum := "35dba206ae8843fce5f6cfc958041b6ed8595709cb499a2e52cfca3316ca4451", func := "loop.example/g01921/laws.FnExactUpdateStore", spec := "fnExactUpdateStore", unfollowed := true, recurses := true, apart := false, narrowed := true }
def FnExactUpdateStoreUptoSaid : Prop := fnExactUpdateStoreUptoRow.holds Tryz.pinned (OpenSpec.upto fnExactUpdateStoreSpec)

/-- 'laws.FnExactUpdateStoreAll', WHERE WHAT IT READS IS OF BULK AT MOST 1048576: true; the input reads as it did. -/
def fnExactUpdateStoreAllUptoRow : OpenClaim := { program := "ytokkjaflmcjlhaagreat", sum := "35dba206ae8843fce5f6cfc958041b6ed8595709cb499a2e52cfca3316ca4451", func := "loop.example/g01921/laws.FnExactUpdateStoreAll", spec := "fnExactUpdateStoreAll", unfollowed := true, recurses := true, apart := false, narrowed := true }
def FnExactUpdateStoreAllUptoSaid : Prop := fnExactUpdateStoreAllUptoRow.holds Tryz.pinned (OpenSpec.upto fnExactUpdateStoreAllSpec)

/-- 'laws.FnExactProductBound', WHERE WHAT IT READS IS OF BULK AT MOST 1048576: true; the input reads as it did. -/
def fnExactProductBoundUptoRow : OpenClaim := { program := "ytokkjaflmcjlhaagreat", sum := "35dba206ae8843fce5f6cfc958041b6ed8595709cb499a2e52cfca3316ca4451", func := "loop.example/g01921/laws.FnExactProductBound", spec := "fnExactProductBound", unfollowed := true, recurses := true, apart := false, narrowed := true }
def FnExactProductBoundUptoSaid : Prop := fnExactProductBoundUptoRow.holds Tryz.pinned (OpenSpec.upto fnExactProductBoundSpec)

/-- 'laws.FnExactAtomDegree', WHERE WHAT IT READS IS OF BULK AT MOST 1048576: true; the input reads as it did. -/
def fnExactAtomDegreeUptoRow : OpenClaim := { program := "ytokkjaflmcjlhaagreat", sum := "35dba206ae8843fce5f6cfc958041b6ed8595709cb499a2e52cfca3316ca4451", func := "loop.example/g01921/laws.FnExactAtomDegree", spec := "fnExactAtomDegree", unfollowed := true, recurses := true, apart := false, narrowed := true }
def FnExactAtomDegreeUptoSaid : Prop := fnExactAtomDegreeUptoRow.holds Tryz.pinned (OpenSpec.upto fnExactAtomDegreeSpec)

/-- 'laws.FnExactChainBound', WHERE WHAT IT READS IS OF BULK AT MOST 1048576: true; the input reads as it did. -/
def fnExactChainBoundUptoRow : OpenClaim := { program := "ytokkjaflmcjlhaagreat", sum := "35dba206ae8843fce5f6cfc958041b6ed8595709cb499a2e52cfca3316ca4451", func := "loop.example/g01921/laws.FnExactChainBound", spec := "fnExactChainBound", unfollowed := true, recurses := true, apart := false, narrowed := true }
def FnExactChainBoundUptoSaid : Prop := fnExactChainBoundUptoRow.holds Tryz.pinned (OpenSpec.upto fnExactChainBoundSpec)

/-- 'laws.FnExactPairBound', WHERE WHAT IT READS IS OF BULK AT MOST 1048576: true; the input reads as it did. -/
def fnExactPairBoundUptoRow : OpenClaim := { program := "ytokkjaflmcjlhaagreat", sum := "35dba206ae8843fce5f6cfc958041b6ed8595709cb499a2e52cfca3316ca4451", func := "loop.example/g01921/laws.FnExactPairBound", spec := "fnExactPairBound", unfollowed := true, recurses := true, apart := false, narrowed := true }
def FnExactPairBoundUptoSaid : Prop := fnExactPairBoundUptoRow.holds Tryz.pinned (OpenSpec.upto fnExactPairBoundSpec)

/-- 'laws.FnExactLowerBound', WHERE WHAT IT READS IS OF BULK AT MOST 1048576: true; the input reads as it did. -/
def fnExactLowerBoundUptoRow : OpenClaim := { program := "ytokkjaflmcjlhaagreat", sum := "35dba206ae8843fce5f6cfc958041b6ed8595709cb499a2e52cfca3316ca4451", func := "loop.example/g01921/laws.FnExactLowerBound", spec := "fnExactLowerBound", unfollowed := true, recurses := true, apart := false, narrowed := true }
def FnExactLowerBoundUptoSaid : Prop := fnExactLowerBoundUptoRow.holds Tryz.pinned (OpenSpec.upto fnExactLowerBoundSpec)

/-- 'laws.FnExactSafeOrder', WHERE WHAT IT READS IS OF BULK AT MOST 1048576: true; the input reads as it did. -/
def fnExactSafeOrderUptoRow : OpenClaim := { program := "ytokkjaflmcjlhaagreat", sum := "35dba206ae8843fce5f6cfc958041b6ed8595709cb499a2e52cfca3316ca4451", func := "loop.example/g01921/laws.FnExactSafeOrder", spec := "fnExactSafeOrder", unfollowed := true, recurses := true, apart := false, narrowed := true }
def FnExactSafeOrderUptoSaid : Prop := fnExactSafeOrderUptoRow.holds Tryz.pinned (OpenSpec.upto fnExactSafeOrderSpec)

/-- 'laws.FnExactLowerBounds', WHERE WHAT IT READS IS OF BULK AT MOST 1048576: true; the input reads as it did. -/
def fnExactLowerBoundsUptoRow : OpenClaim := { program := "ytokkjaflmcjlhaagreat", sum := "35dba206ae8843fce5f6cfc958041b6ed8595709cb499a2e52cfca3316ca4451", func := "loop.example/g01921/laws.FnExactLowerBounds", spec := "fnExactLowerBounds", unfollowed := true, recurses := true, apart := false, narrowed := true }
def FnExactLowerBoundsUptoSaid : Prop := fnExactLowerBoundsUptoRow.holds Tryz.pinned (OpenSpec.upto fnExactLowerBoundsSpec)

/-- 'laws.FnExactQueryConstraints', WHERE WHAT IT READS IS OF BULK AT MOST 1048576: true; the input reads as it did. -/
def fnExactQueryConstraintsUptoRow : OpenClaim := { program := "ytokkjaflmcjlhaagreat", sum := "35dba206ae8843fce5f6cfc958041b6ed8595709cb499a2e52cfca3316ca4451", func := "loop.example/g01921/laws.FnExactQueryConstraints", spec := "fnExactQueryConstraints", unfollowed := true, recurses := true, apart := false, narrowed := true }
def FnExactQueryConstraintsUptoSaid : Prop := fnExactQueryConstraintsUptoRow.holds Tryz.pinned (OpenSpec.upto fnExactQueryConstraintsSpec)

end Rows
end Go.Proofs.YtokkjaflmcjlhaaGreat
