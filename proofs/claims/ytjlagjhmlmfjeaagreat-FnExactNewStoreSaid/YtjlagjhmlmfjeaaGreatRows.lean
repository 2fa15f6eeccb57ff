/-
  No cell of these rows narrows 'for every input' (looked for: loops, veiled, ifaces, maps, wideKeys, modest, calm, conditions, laid).
  DERIVED. THE GIVEN ROWS OF THIS SEAT. 7 by the template 'for every input the law returns true; each argument reads behind the call as it read before'; 0 by the template 'total and deterministic' (their statements: YtjlagjhmlmfjeaaGreatTotals.lean).
  GIVEN WITH THE SEED: the statements are not yours to turn. If you find one false, say at which input.
  Laid BY PROGRAM, IN A SANDBOX (cutbox-rows.mjs): the forced cells as the released guide's own fill.sh prints them over the translation ce53d1199db49ad4… (all of the seat's roots in one cut). By AI agents, Wed Nov 11 2026. No macro, syntax, notation, axiom, sorry.
-/
import Derived.Test.YtjlagjhmlmfjeaaGreatChecked
import GoSem.Claim
import GoSem.ClaimJoined
import GoSem.ClaimMapViews
import Derived.JoinedTies
import Derived.KernelRfl
namespace Go.Proofs.YtjlagjhmlmfjeaaGreat
/- THE CELL 'sum', in the pinned program and in every row, IS THE sha256 OF THE DUMP (.gsa) THAT YtjlagjhmlmfjeaaGreatProg.lean LOADS. Nothing in Lean hashes anything: it is a label: what it is worth is what the hold of that sum in a sandbox is worth. -/
noncomputable def Tryz.pinned : Pinned := { name := "ytjlagjhmlmfjeaagreat", sum := "ce53d1199db49ad4ef302d708708a0d42cbbb0e686a57fb1d7c182ca7004dcb3", checked := Tryz.checked }
namespace Rows
def none {H : Type} : Left H := { results := [], args := [] }

/-- 'laws.FnExactUpdateStats': WHATEVER THE INPUT: true; the input reads as it did. -/
def fnExactUpdateStatsSpec : ChangeSpec := { name := "fnExactUpdateStats", fn := fun _ => fun
  | [d1, d2] => { results := [.lit (.bool true)], args := [d1, d2] }
  | _ => none }
def fnExactUpdateStatsRow : OpenClaim := { program := "ytjlagjhmlmfjeaagreat", sum := "ce53d1199db49ad4ef302d708708a0d42cbbb0e686a57fb1d7c182ca7004dcb3", func := "loop.example/g01921/laws.FnExactUpdateStats", spec := "fnExactUpdateStats", unfollowed := true, recurses := true, apart := false }
def FnExactUpdateStatsSaid : Prop := fnExactUpdateStatsRow.holds Tryz.pinned (OpenSpec.ofChange fnExactUpdateStatsSpec)

/-- ITS FALSE NEIGHBOUR: 'it returns false'. Refute it at one input. -/
def fnExactUpdateStatsWrong : ChangeSpec := { name := "fnExactUpdateStats", fn := fun _ => fun
  | [d1, d2] => { results := [.lit (.bool false)], args := [d1, d2] }
  | _ => none }
def FnExactUpdateStatsWrongFalsely : Prop := fnExactUpdateStatsRow.holds Tryz.pinned (OpenSpec.ofChange fnExactUpdateStatsWrong)

/-- 'laws.FnExactStatsDegree': WHATEVER THE INPUT: true; the input reads as it did. -/
def fnExactStatsDegreeSpec : ChangeSpec := { name := "fnExactStatsDegree", fn := fun _ => fun
  | [d1, d2] => { results := [.lit (.bool true)], args := [d1, d2] }
  | _ => none }
def fnExactStatsDegreeRow : OpenClaim := { program := "ytjlagjhmlmfjeaagreat", sum := "ce53d1199db49ad4ef302d708708a0d42cbbb0e686a57fb1d7c182ca7004dcb3", func := "loop.example/g01921/laws.FnExactStatsDegree", spec := "fnExactStatsDegree", unfollowed := true, recurses := true, apart := false }
def FnExactStatsDegreeSaid : Prop := fnExactStatsDegreeRow.holds Tryz.pinned (OpenSpec.ofChange fnExactStatsDegreeSpec)

/-- ITS FALSE NEIGHBOUR: 'it returns false'. Refute it at one input. -/
def fnExactStatsDegreeWrong : ChangeSpec := { name := "fnExactStatsDegree", fn := fun _ => fun
  | [d1, d2] => { results := [.lit (.bool false)], args := [d1, d2] }
  | _ => none }
def FnExactStatsDegreeWrongFalsely : Prop := fnExactStatsDegreeRow.holds Tryz.pinned (OpenSpec.ofChange fnExactStatsDegreeWrong)

/-- 'laws.FnExactStatsSequence': WHATEVER THE INPUT: true; the input reads as it did. -/
def fnExactStatsSequenceSpec : ChangeSpec := { name := "fnExactStatsSequence", fn := fun _ => fun
  | [d1, d2] => { results := [.lit (.bool true)], args := [d1, d2] }
  | _ => none }
def fnExactStatsSequenceRow : OpenClaim := { program := "ytjlagjhmlmfjeaagreat", sum := "ce53d1199db49ad4ef302d708708a0d42cbbb0e686a57fb1d7c182ca7004dcb3", func := "loop.example/g01921/laws.FnExactStatsSequence", spec := "fnExactStatsSequence", unfollowed := true, recurses := true, apart := false }
def FnExactStatsSequenceSaid : Prop := fnExactStatsSequenceRow.holds Tryz.pinned (OpenSpec.ofChange fnExactStatsSequenceSpec)

/-- ITS FALSE NEIGHBOUR: 'it returns false'. Refute it at one input. -/
def fnExactStatsSequenceWrong : ChangeSpec := { name := "fnExactStatsSequence", fn := fun _ => fun
  | [d1, d2] => { results := [.lit (.bool false)], args := [d1, d2] }
  | _ => none }
def FnExactStatsSequenceWrongFalsely : Prop := fnExactStatsSequenceRow.holds Tryz.pinned (OpenSpec.ofChange fnExactStatsSequenceWrong)

/-- 'laws.FnExactTableConstraints': WHATEVER THE INPUT: true; the input reads as it did. -/
def fnExactTableConstraintsSpec : ChangeSpec := { name := "fnExactTableConstraints", fn := fun _ => fun
  | [d1, d2] => { results := [.lit (.bool true)], args := [d1, d2] }
  | _ => none }
def fnExactTableConstraintsRow : OpenClaim := { program := "ytjlagjhmlmfjeaagreat", sum := "ce53d1199db49ad4ef302d708708a0d42cbbb0e686a57fb1d7c182ca7004dcb3", func := "loop.example/g01921/laws.FnExactTableConstraints", spec := "fnExactTableConstraints", unfollowed := true, recurses := true, apart := false }
def FnExactTableConstraintsSaid : Prop := fnExactTableConstraintsRow.holds Tryz.pinned (OpenSpec.ofChange fnExactTableConstraintsSpec)

/-- ITS FALSE NEIGHBOUR: 'it returns false'. Refute it at one input. -/
def fnExactTableConstraintsWrong : ChangeSpec := { name := "fnExactTableConstraints", fn := fun _ => fun
  | [d1, d2] => { results := [.lit (.bool false)], args := [d1, d2] }
  | _ => none }
def FnExactTableConstraintsWrongFalsely : Prop := fnExactTableConstraintsRow.holds Tryz.pinned (OpenSpec.ofChange fnExactTableConstraintsWrong)

/-- 'laws.FnExactIsValidStore': WHATEVER THE INPUT: true; the input reads as it did. -/
def fnExactIsValidStoreSpec : ChangeSpec := { name := "fnExactIsValidStore", fn := fun _ => fun
  | [d] => { results := [.lit (.bool true)], args := [d] }
  | _ => none }
def fnExactIsValidStoreRow : OpenClaim := { program := "ytjlagjhmlmfjeaagreat", sum := "ce53d1199db49ad4ef302d708708a0d42cbbb0e686a57fb1d7c182ca7004dcb3", func := "loop.example/g01921/laws.FnExactIsValidStore", spec := "fnExactIsValidStore", unfollowed := true, recurses := true, apart := false }
def FnExactIsValidStoreSaid : Prop := fnExactIsValidStoreRow.holds Tryz.pinned (OpenSpec.ofChange fnExactIsValidStoreSpec)

/-- ITS FALSE NEIGHBOUR: 'it returns false'. Refute it at one input. -/
def fnExactIsValidStoreWrong : ChangeSpec := { name := "fnExactIsValidStore", fn := fun _ => fun
  | [d] => { results := [.lit (.bool false)], args := [d] }
  | _ => none }
def FnExactIsValidStoreWrongFalsely : Prop := fnExactIsValidStoreRow.holds Tryz.pinned (OpenSpec.ofChange fnExactIsValidStoreWrong)

/-- 'laws.FnExactIsFresh': WHATEVER THE INPUT: true; the input reads as it did. -/
def fnExactIsFreshSpec : ChangeSpec := { name := "fnExactIsFresh", fn := fun _ => fun
  | [d1, d2] => { results := [.lit (.bool true)], args := [d1, d2] }
  | _ => none }
def fnExactIsFreshRow : OpenClaim := { program := "ytjlagjhmlmfjeaagreat", sum := "ce53d1199db49ad4ef302d708708a0d42cbbb0e686a57fb1d7c182ca7004dcb3", func := "loop.example/g01921/laws.FnExactIsFresh", spec := "fnExactIsFresh", unfollowed := true, recurses := true, apart := false }
def FnExactIsFreshSaid : Prop := fnExactIsFreshRow.holds Tryz.pinned (OpenSpec.ofChange fnExactIsFreshSpec)

/-- ITS FALSE NEIGHBOUR: 'it returns false'. Refute it at one input. -/
def fnExactIsFreshWrong : ChangeSpec := { name := "fnExactIsFresh", fn := fun _ => fun
  | [d1, d2] => { results := [.lit (.bool false)], args := [d1, d2] }
  | _ => none }
def FnExactIsFreshWrongFalsely : Prop := fnExactIsFreshRow.holds Tryz.pinned (OpenSpec.ofChange fnExactIsFreshWrong)

/-- 'laws.FnExactNewStore': WHATEVER THE INPUT: true; the input reads as it did. -/
def fnExactNewStoreSpec : ChangeSpec := { name := "fnExactNewStore", fn := fun _ => fun
  | [d1, d2, d3] => { results := [.lit (.bool true)], args := [d1, d2, d3] }
  | _ => none }
def fnExactNewStoreRow : OpenClaim := { program := "ytjlagjhmlmfjeaagreat", sum := "ce53d1199db49ad4ef302d708708a0d42cbbb0e686a57fb1d7c182ca7004dcb3", func := "loop.example/g01921/laws.FnExactNewStore", spec := "fnExactNewStore", unfollowed := true, recurses := true, apart := false }
def FnExactNewStoreSaid : Prop := fnExactNewStoreRow.holds Tryz.pinned (OpenSpec.ofChange fnExactNewStoreSpec)

/-- ITS FALSE NEIGHBOUR: 'it returns false'. Refute it at one input. -/
def fnExactNewStoreWrong : ChangeSpec := { name := "fnExactNewStore", fn := fun _ => fun
  | [d1, d2, d3] => { results := [.lit (.bool false)], args := [d1, d2, d3] }
  | _ => none }
def FnExactNewStoreWrongFalsely : Prop := fnExactNewStoreRow.holds Tryz.pinned (OpenSpec.ofChange fnExactNewStoreWrong)

/- THE SECOND FORM. 'bulk': how many values and letters a reading holds, each counted each time it is reached (what is shared counts as often as it is met; a slice's spare places count too). A statement '..UptoSaid' is the law's where the arguments, and the package variables that the reading takes, are together of bulk at most 1048576: NARROWER than '..Said'. Prove '..Said' where nothing that the law and all that it calls make is longer than what came in: it says more and counts as full. Else prove '..UptoSaid'. A law counts once. -/
mutual
def uptoBulk {H : Type} : DataW H → Nat
  | .lit (.string bytes) => bytes.length + 1
  | .lit _ => 1
  | .nil => 1
  | .ptr d => uptoBulk d + 1
  | .slice elems spare => uptoBulkAll elems + uptoBulkAll spare + 1
  | .agg parts => uptoBulkAll parts + 1
  | .iface _ d => uptoBulk d + 1
  | .map entries => uptoBulkEntries entries + 1
  | .held _ => 1
def uptoBulkAll {H : Type} : List (DataW H) → Nat
  | [] => 0
  | d :: r => uptoBulk d + uptoBulkAll r
def uptoBulkEntries {H : Type} : List (Lit × DataW H) → Nat
  | [] => 0
  | x :: r => uptoBulkEntry x + uptoBulkEntries r
def uptoBulkEntry {H : Type} : Lit × DataW H → Nat
  | (.string bytes, d) => bytes.length + uptoBulk d + 1
  | (_, d) => uptoBulk d + 1
 end
def uptoSmall : (H : Type) → List (DataW H) → Bool := fun _ ds => decide (uptoBulkAll ds ≤ 1048576)
def OpenSpec.upto (s : _root_.Go.ChangeSpec) : _root_.Go.OpenSpec := { _root_.Go.OpenSpec.ofChange s with cond := some uptoSmall }

/-- 'laws.FnExactUpdateStats', WHERE WHAT IT READS IS OF BULK AT MOST 1048576: true; the input reads as it did. -/
def fnExactUpdateStatsUptoRow : OpenClaim := { program := "ytjlagjhmlmfjeaagreat", sum := "ce53d1199db49ad4ef302d708708a0d42cbbb0e686a57fb1d7c182ca7004dcb3", func := "loop.example/g01921/laws.FnExactUpdateStats", spec := "fnExactUpdateStats", unfollowed := true, recurses := true, apart := false, narrowed := true }
def FnExactUpdateStatsUptoSaid : Prop := fnExactUpdateStatsUptoRow.holds Tryz.pinned (OpenSpec.upto fnExactUpdateStatsSpec)

/-- 'laws.FnExactStatsDegree', WHERE WHAT IT READS IS OF BULK AT MOST 1048576: true; the input reads as it did. -/
def fnExactStatsDegreeUptoRow : OpenClaim := { program := "ytjlagjhmlmfjeaagreat", sum := "ce53d1199db49ad4ef302d708708a0d42cbbb0e686a57fb1d7c182ca7004dcb3", func := "loop.example/g01921/laws.FnExactStatsDegree", spec := "fnExactStatsDegree", unfollowed := true, recurses := true, apart := false, narrowed := true }
def FnExactStatsDegreeUptoSaid : Prop := fnExactStatsDegreeUptoRow.holds Tryz.pinned (OpenSpec.upto fnExactStatsDegreeSpec)

/-- 'laws.FnExactStatsSequence', WHERE WHAT IT READS IS OF BULK AT MOST 1048576: true; the input reads as it did. -/
def fnExactStatsSequenceUptoRow : OpenClaim := { program := "ytjlagjhmlmfjeaagreat", sum := "ce53d1199db49ad4ef302d708708a0d42cbbb0e686a57fb1d7c182ca7004dcb3", func := "loop.example/g01921/laws.FnExactStatsSequence", spec := "fnExactStatsSequence", unfollowed := true, recurses := true, apart := false, narrowed := true }
def FnExactStatsSequenceUptoSaid : Prop := fnExactStatsSequenceUptoRow.holds Tryz.pinned (OpenSpec.upto fnExactStatsSequenceSpec)

/-- 'laws.FnExactTableConstraints', WHERE WHAT IT READS IS OF BULK AT MOST 1048576: true; the input reads as it did. -/
def fnExactTableConstraintsUptoRow : OpenClaim := { program := "ytjlagjhmlmfjeaagreat", sum := "ce53d1199db49ad4ef302d708708a0d42cbbb0e686a57fb1d7c182ca7004dcb3", func := "loop.example/g01921/laws.FnExactTableConstraints", spec := "fnExactTableConstraints", unfollowed := true, recurses := true, apart := false, narrowed := true }
def FnExactTableConstraintsUptoSaid : Prop := fnExactTableConstraintsUptoRow.holds Tryz.pinned (OpenSpec.upto fnExactTableConstraintsSpec)

/-- 'laws.FnExactIsValidStore', WHERE WHAT IT READS IS OF BULK AT MOST 1048576: true; the input reads as it did. -/
def fnExactIsValidStoreUptoRow : OpenClaim := { program := "ytjlagjhmlmfjeaagreat", sum := "ce53d1199db49ad4ef302d708708a0d42cbbb0e686a57fb1d7c182ca7004dcb3", func := "loop.example/g01921/laws.FnExactIsValidStore", spec := "fnExactIsValidStore", unfollowed := true, recurses := true, apart := false, narrowed := true }
def FnExactIsValidStoreUptoSaid : Prop := fnExactIsValidStoreUptoRow.holds Tryz.pinned (OpenSpec.upto fnExactIsValidStoreSpec)

/-- 'laws.FnExactIsFresh', WHERE WHAT IT READS IS OF BULK AT MOST 1048576: true; the input reads as it did. -/
def fnExactIsFreshUptoRow : OpenClaim := { program := "ytjlagjhmlmfjeaagreat", sum := "ce53d1199db49ad4ef302d708708a0d42cbbb0e686a57fb1d7c182ca7004dcb3", func := "loop.example/g01921/laws.FnExactIsFresh", spec := "fnExactIsFresh", unfollowed := true, recurses := true, apart := false, narrowed := true }
def FnExactIsFreshUptoSaid : Prop := fnExactIsFreshUptoRow.holds Tryz.pinned (OpenSpec.upto fnExactIsFreshSpec)

/-- 'laws.FnExactNewStore', WHERE WHAT IT READS IS OF BULK AT MOST 1048576: true; the input reads as it did. -/
def fnExactNewStoreUptoRow : OpenClaim := { program := "ytjlagjhmlmfjeaagreat", sum := "ce53d1199db49ad4ef302d708708a0d42cbbb0e686a57fb1d7c182ca7004dcb3", func := "loop.example/g01921/laws.FnExactNewStore", spec := "fnExactNewStore", unfollowed := true, recurses := true, apart := false, narrowed := true }
def FnExactNewStoreUptoSaid : Prop := fnExactNewStoreUptoRow.holds Tryz.pinned (OpenSpec.upto fnExactNewStoreSpec)

end Rows
end Go.Proofs.YtjlagjhmlmfjeaaGreat
