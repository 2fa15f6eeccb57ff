/-
  No cell of these rows narrows 'for every input' (looked for: loops, veiled, ifaces, maps, wideKeys, modest, calm, conditions, laid).
  DERIVED. THE GIVEN ROWS OF THIS SEAT. 4 by the template 'for every input the law returns true; each argument reads behind the call as it read before'; 0 by the template 'total and deterministic' (their statements: YtjlagjhmlmfjeaaTotals.lean).
  GIVEN WITH THE SEED: the statements are not yours to turn. If you find one false, say at which input.
  Laid BY PROGRAM, IN A SANDBOX (cutbox-rows.mjs): the forced cells as the released guide's own fill.sh prints them over the translation ed06238185b9534a… (all of the seat's roots in one cut). By AI agents, Wed Nov 11 2026. No macro, syntax, notation, axiom, sorry.
-/
import Derived.Test.YtjlagjhmlmfjeaaChecked
import GoSem.Claim
import GoSem.ClaimJoined
import GoSem.ClaimMapViews
import Derived.JoinedTies
import Derived.KernelRfl
namespace Go.Proofs.Ytjlagjhmlmfjeaa
/- THE CELL 'sum', in the pinned program and in every row, IS THE sha256 OF THE DUMP (.gsa) THAT YtjlagjhmlmfjeaaProg.lean LOADS. Nothing in Lean hashes anything: it is a label: what it is worth is what the hold of that sum in a sandbox is worth. -/
noncomputable def Try.pinned : Pinned := { name := "ytjlagjhmlmfjeaa", sum := "ed06238185b9534a376f5c29d24b392fb4c63a83c024d8d37d52aaf264d2bf1b", checked := Try.checked }
namespace Rows
def none {H : Type} : Left H := { results := [], args := [] }

/-- 'laws.FnExactEqualCatalogues': WHATEVER THE INPUT: true; the input reads as it did. -/
def fnExactEqualCataloguesSpec : ChangeSpec := { name := "fnExactEqualCatalogues", fn := fun _ => fun
  | [d1, d2] => { results := [.lit (.bool true)], args := [d1, d2] }
  | _ => none }
def fnExactEqualCataloguesRow : OpenClaim := { program := "ytjlagjhmlmfjeaa", sum := "ed06238185b9534a376f5c29d24b392fb4c63a83c024d8d37d52aaf264d2bf1b", func := "loop.example/g01921/laws.FnExactEqualCatalogues", spec := "fnExactEqualCatalogues", unfollowed := true, recurses := true, apart := false }
def FnExactEqualCataloguesSaid : Prop := fnExactEqualCataloguesRow.holds Try.pinned (OpenSpec.ofChange fnExactEqualCataloguesSpec)

/-- ITS FALSE NEIGHBOUR: 'it returns false'. Refute it at one input. -/
def fnExactEqualCataloguesWrong : ChangeSpec := { name := "fnExactEqualCatalogues", fn := fun _ => fun
  | [d1, d2] => { results := [.lit (.bool false)], args := [d1, d2] }
  | _ => none }
def FnExactEqualCataloguesWrongFalsely : Prop := fnExactEqualCataloguesRow.holds Try.pinned (OpenSpec.ofChange fnExactEqualCataloguesWrong)

/-- 'laws.FnExactEqualStores': WHATEVER THE INPUT: true; the input reads as it did. -/
def fnExactEqualStoresSpec : ChangeSpec := { name := "fnExactEqualStores", fn := fun _ => fun
  | [d1, d2] => { results := [.lit (.bool true)], args := [d1, d2] }
  | _ => none }
def fnExactEqualStoresRow : OpenClaim := { program := "ytjlagjhmlmfjeaa", sum := "ed06238185b9534a376f5c29d24b392fb4c63a83c024d8d37d52aaf264d2bf1b", func := "loop.example/g01921/laws.FnExactEqualStores", spec := "fnExactEqualStores", unfollowed := true, recurses := true, apart := false }
def FnExactEqualStoresSaid : Prop := fnExactEqualStoresRow.holds Try.pinned (OpenSpec.ofChange fnExactEqualStoresSpec)

/-- ITS FALSE NEIGHBOUR: 'it returns false'. Refute it at one input. -/
def fnExactEqualStoresWrong : ChangeSpec := { name := "fnExactEqualStores", fn := fun _ => fun
  | [d1, d2] => { results := [.lit (.bool false)], args := [d1, d2] }
  | _ => none }
def FnExactEqualStoresWrongFalsely : Prop := fnExactEqualStoresRow.holds Try.pinned (OpenSpec.ofChange fnExactEqualStoresWrong)

/-- 'laws.FnExactBuildCatalogue': WHATEVER THE INPUT: true; the input reads as it did. -/
def fnExactBuildCatalogueSpec : ChangeSpec := { name := "fnExactBuildCatalogue", fn := fun _ => fun
  | [d1, d2] => { results := [.lit (.bool true)], args := [d1, d2] }
  | _ => none }
def fnExactBuildCatalogueRow : OpenClaim := { program := "ytjlagjhmlmfjeaa", sum := "ed06238185b9534a376f5c29d24b392fb4c63a83c024d8d37d52aaf264d2bf1b", func := "loop.example/g01921/laws.FnExactBuildCatalogue", spec := "fnExactBuildCatalogue", unfollowed := true, recurses := true, apart := false }
def FnExactBuildCatalogueSaid : Prop := fnExactBuildCatalogueRow.holds Try.pinned (OpenSpec.ofChange fnExactBuildCatalogueSpec)

/-- ITS FALSE NEIGHBOUR: 'it returns false'. Refute it at one input. -/
def fnExactBuildCatalogueWrong : ChangeSpec := { name := "fnExactBuildCatalogue", fn := fun _ => fun
  | [d1, d2] => { results := [.lit (.bool false)], args := [d1, d2] }
  | _ => none }
def FnExactBuildCatalogueWrongFalsely : Prop := fnExactBuildCatalogueRow.holds Try.pinned (OpenSpec.ofChange fnExactBuildCatalogueWrong)

/-- 'laws.FnExactLookupStats': WHATEVER THE INPUT: true; the input reads as it did. -/
def fnExactLookupStatsSpec : ChangeSpec := { name := "fnExactLookupStats", fn := fun _ => fun
  | [d1, d2] => { results := [.lit (.bool true)], args := [d1, d2] }
  | _ => none }
def fnExactLookupStatsRow : OpenClaim := { program := "ytjlagjhmlmfjeaa", sum := "ed06238185b9534a376f5c29d24b392fb4c63a83c024d8d37d52aaf264d2bf1b", func := "loop.example/g01921/laws.FnExactLookupStats", spec := "fnExactLookupStats", unfollowed := true, recurses := true, apart := false }
def FnExactLookupStatsSaid : Prop := fnExactLookupStatsRow.holds Try.pinned (OpenSpec.ofChange fnExactLookupStatsSpec)

/-- ITS FALSE NEIGHBOUR: 'it returns false'. Refute it at one input. -/
def fnExactLookupStatsWrong : ChangeSpec := { name := "fnExactLookupStats", fn := fun _ => fun
  | [d1, d2] => { results := [.lit (.bool false)], args := [d1, d2] }
  | _ => none }
def FnExactLookupStatsWrongFalsely : Prop := fnExactLookupStatsRow.holds Try.pinned (OpenSpec.ofChange fnExactLookupStatsWrong)

/- THE SECOND FORM. 'bulk': how many values and letters a reading holds, each counted each time it is reached (what is shared counts as often as it is met; a slice's spare places count too). A statement '..UptoSaid' is the law's where the arguments, and the package variables that the reading takes, are together of bulk at most 1048576: NARROWER than '..Said'. Prove '..Said' where nothing that the law and all that it calls make is longer than what came in: it says more and counts as full. Else prove '..UptoSaid'. A law counts once. -/
mutual
def uptoBulk {H : Type} : DataW H → Nat
  | .lit (.string bytes) => bytes.length + 1
  | .lit _ => 1
  | .nil => 1
  | .ptr d => uptoBulk d + 1
  | .slice elems spare => uptoBulkAll elems + uptoBulkAll spare + 1
  | .agg parts => uptoBulkAll parts + 1
  | .iface _ d => uptoBulk d + 1
  | .map entries => uptoBulkEntries entries + 1
  | .held _ => 1
def uptoBulkAll {H : Type} : List (DataW H) → Nat
  | [] => 0
  | d :: r => uptoBulk d + uptoBulkAll r
def uptoBulkEntries {H : Type} : List (Lit × DataW H) → Nat
  | [] => 0
  | x :: r => uptoBulkEntry x + uptoBulkEntries r
def uptoBulkEntry {H : Type} : Lit × DataW H → Nat
  | (.string bytes, d) => bytes.length + uptoBulk d + 1
  | (_, d) => uptoBulk d + 1
 end
def uptoSmall : (H : Type) → List (DataW H) → Bool := fun _ ds => decide (uptoBulkAll ds ≤ 1048576)
def OpenSpec.upto (s : _root_.Go.ChangeSpec) : _root_.Go.OpenSpec := { _root_.Go.OpenSpec.ofChange s with cond := some uptoSmall }

/-- 'laws.FnExactEqualCatalogues', WHERE WHAT IT READS IS OF BULK AT MOST 1048576: true; the input reads as it did. -/
def fnExactEqualCataloguesUptoRow : OpenClaim := { program := "ytjlagjhmlmfjeaa", sum := "ed06238185b9534a376f5c29d24b392fb4c63a83c024d8d37d52aaf264d2bf1b", func := "loop.example/g01921/laws.FnExactEqualCatalogues", spec := "fnExactEqualCatalogues", unfollowed := true, recurses := true, apart := false, narrowed := true }
def FnExactEqualCataloguesUptoSaid : Prop := fnExactEqualCataloguesUptoRow.holds Try.pinned (OpenSpec.upto fnExactEqualCataloguesSpec)

/-- 'laws.FnExactEqualStores', WHERE WHAT IT READS IS OF BULK AT MOST 1048576: true; the input reads as it did. -/
def fnExactEqualStoresUptoRow : OpenClaim := { program := "ytjlagjhmlmfjeaa", sum := "ed06238185b9534a376f5c29d24b392fb4c63a83c024d8d37d52aaf264d2bf1b", func := "loop.example/g01921/laws.FnExactEqualStores", spec := "fnExactEqualStores", unfollowed := true, recurses := true, apart := false, narrowed := true }
def FnExactEqualStoresUptoSaid : Prop := fnExactEqualStoresUptoRow.holds Try.pinned (OpenSpec.upto fnExactEqualStoresSpec)

/-- 'laws.FnExactBuildCatalogue', WHERE WHAT IT READS IS OF BULK AT MOST 1048576: true; the input reads as it did. -/
def fnExactBuildCatalogueUptoRow : OpenClaim := { program := "ytjlagjhmlmfjeaa", sum := "ed06238185b9534a376f5c29d24b392fb4c63a83c024d8d37d52aaf264d2bf1b", func := "loop.example/g01921/laws.FnExactBuildCatalogue", spec := "fnExactBuildCatalogue", unfollowed := true, recurses := true, apart := false, narrowed := true }
def FnExactBuildCatalogueUptoSaid : Prop := fnExactBuildCatalogueUptoRow.holds Try.pinned (OpenSpec.upto fnExactBuildCatalogueSpec)

/-- 'laws.FnExactLookupStats', WHERE WHAT IT READS IS OF BULK AT MOST 1048576: true; the input reads as it did. -/
def fnExactLookupStatsUptoRow : OpenClaim := { program := "ytjlagjhmlmfjeaa", sum := "ed06238185b9534a376f5c29d24b392fb4c63a83c024d8d37d52aaf264d2bf1b", func := "loop.example/g01921/laws.FnExactLookupStats", spec := "fnExactLookupStats", unfollowed := true, recurses := true, apart := false, narrowed := true }
def FnExactLookupStatsUptoSaid : Prop := fnExactLookupStatsUptoRow.holds Try.pinned (OpenSpec.upto fnExactLookupStatsSpec)

end Rows
end Go.Proofs.Ytjlagjhmlmfjeaa
