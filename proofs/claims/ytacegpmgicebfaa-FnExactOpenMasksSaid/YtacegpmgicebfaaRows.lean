/-
  No cell of these rows narrows 'for every input' (looked for: loops, veiled, ifaces, maps, wideKeys, modest, calm, conditions, laid).
  DERIVED. THE GIVEN ROWS OF THIS SEAT. 12 by the template 'for every input the law returns true; each argument reads behind the call as it read before'; 0 by the template 'total and deterministic' (their statements: YtacegpmgicebfaaTotals.lean).
  GIVEN WITH THE SEED: the statements are not yours to turn. If you find one false, say at which input.
  Laid BY PROGRAM, IN A SANDBOX (cutbox-rows.mjs): the forced cells as the released guide's own fill.sh prints them over the translation 8787fd5414637c8f… (all of the seat's roots in one cut). By AI agents, Wed Nov 11 2026. No macro, syntax, notation, axiom, sorry.
-/
import Derived.Test.YtacegpmgicebfaaChecked
import GoSem.Claim
import GoSem.ClaimJoined
import GoSem.ClaimMapViews
import Derived.JoinedTies
import Derived.KernelRfl
namespace Go.Proofs.Ytacegpmgicebfaa
/- THE CELL 'sum', in the pinned program and in every row, IS THE sha256 OF THE DUMP (.gsa) THAT YtacegpmgicebfaaProg.lean LOADS. Nothing in Lean hashes anything: it is a label: what it is worth is what the hold of that sum in a sandbox is worth. -/
noncomputable def Try.pinned : Pinned := { name := "ytacegpmgicebfaa", sum := "8787fd5414637c8f8e89d80849438c87cf79284fa618d4c5a1d28e5a3425224d", checked := Try.checked }
namespace Rows
def none {H : Type} : Left H := { results := [], args := [] }

/-- 'laws.FnExactCeilLog2': WHATEVER THE INPUT: true; the input reads as it did. -/
def fnExactCeilLog2Spec : ChangeSpec := { name := "fnExactCeilLog2", fn := fun _ => fun
  | [d] => { results := [.lit (.bool true)], args := [d] }
  | _ => none }
def fnExactCeilLog2Row : OpenClaim := { program := "ytacegpmgicebfaa", sum := "8787fd5414637c8f8e89d80849438c87cf79284fa618d4c5a1d28e5a3425224d", func := "loop.example/g01921/laws.FnExactCeilLog2", spec := "fnExactCeilLog2", apart := false }
def FnExactCeilLog2Said : Prop := fnExactCeilLog2Row.holds Try.pinned (OpenSpec.ofChange fnExactCeilLog2Spec)

/-- ITS FALSE NEIGHBOUR: 'it returns false'. Refute it at one input. -/
def fnExactCeilLog2Wrong : ChangeSpec := { name := "fnExactCeilLog2", fn := fun _ => fun
  | [d] => { results := [.lit (.bool false)], args := [d] }
  | _ => none }
def FnExactCeilLog2WrongFalsely : Prop := fnExactCeilLog2Row.holds Try.pinned (OpenSpec.ofChange fnExactCeilLog2Wrong)

/-- 'laws.FnExactVariableSet': WHATEVER THE INPUT: true; the input reads as it did. -/
def fnExactVariableSetSpec : ChangeSpec := { name := "fnExactVariableSet", fn := fun _ => fun
  | [d] => { results := [.lit (.bool true)], args := [d] }
  | _ => none }
def fnExactVariableSetRow : OpenClaim := { program := "ytacegpmgicebfaa", sum := "8787fd5414637c8f8e89d80849438c87cf79284fa618d4c5a1d28e5a3425224d", func := "loop.example/g01921/laws.FnExactVariableSet", spec := "fnExactVariableSet", apart := false }
def FnExactVariableSetSaid : Prop := fnExactVariableSetRow.holds Try.pinned (OpenSpec.ofChange fnExactVariableSetSpec)

/-- ITS FALSE NEIGHBOUR: 'it returns false'. Refute it at one input. -/
def fnExactVariableSetWrong : ChangeSpec := { name := "fnExactVariableSet", fn := fun _ => fun
  | [d] => { results := [.lit (.bool false)], args := [d] }
  | _ => none }
def FnExactVariableSetWrongFalsely : Prop := fnExactVariableSetRow.holds Try.pinned (OpenSpec.ofChange fnExactVariableSetWrong)

/-- 'laws.FnExactEqualBoxes': WHATEVER THE INPUT: true; the input reads as it did. -/
def fnExactEqualBoxesSpec : ChangeSpec := { name := "fnExactEqualBoxes", fn := fun _ => fun
  | [d1, d2] => { results := [.lit (.bool true)], args := [d1, d2] }
  | _ => none }
def fnExactEqualBoxesRow : OpenClaim := { program := "ytacegpmgicebfaa", sum := "8787fd5414637c8f8e89d80849438c87cf79284fa618d4c5a1d28e5a3425224d", func := "loop.example/g01921/laws.FnExactEqualBoxes", spec := "fnExactEqualBoxes", apart := false }
def FnExactEqualBoxesSaid : Prop := fnExactEqualBoxesRow.holds Try.pinned (OpenSpec.ofChange fnExactEqualBoxesSpec)

/-- ITS FALSE NEIGHBOUR: 'it returns false'. Refute it at one input. -/
def fnExactEqualBoxesWrong : ChangeSpec := { name := "fnExactEqualBoxes", fn := fun _ => fun
  | [d1, d2] => { results := [.lit (.bool false)], args := [d1, d2] }
  | _ => none }
def FnExactEqualBoxesWrongFalsely : Prop := fnExactEqualBoxesRow.holds Try.pinned (OpenSpec.ofChange fnExactEqualBoxesWrong)

/-- 'laws.FnExactIsValidBox': WHATEVER THE INPUT: true; the input reads as it did. -/
def fnExactIsValidBoxSpec : ChangeSpec := { name := "fnExactIsValidBox", fn := fun _ => fun
  | [d] => { results := [.lit (.bool true)], args := [d] }
  | _ => none }
def fnExactIsValidBoxRow : OpenClaim := { program := "ytacegpmgicebfaa", sum := "8787fd5414637c8f8e89d80849438c87cf79284fa618d4c5a1d28e5a3425224d", func := "loop.example/g01921/laws.FnExactIsValidBox", spec := "fnExactIsValidBox", apart := false }
def FnExactIsValidBoxSaid : Prop := fnExactIsValidBoxRow.holds Try.pinned (OpenSpec.ofChange fnExactIsValidBoxSpec)

/-- ITS FALSE NEIGHBOUR: 'it returns false'. Refute it at one input. -/
def fnExactIsValidBoxWrong : ChangeSpec := { name := "fnExactIsValidBox", fn := fun _ => fun
  | [d] => { results := [.lit (.bool false)], args := [d] }
  | _ => none }
def FnExactIsValidBoxWrongFalsely : Prop := fnExactIsValidBoxRow.holds Try.pinned (OpenSpec.ofChange fnExactIsValidBoxWrong)

/-- 'laws.FnExactIsInBox': WHATEVER THE INPUT: true; the input reads as it did. -/
def fnExactIsInBoxSpec : ChangeSpec := { name := "fnExactIsInBox", fn := fun _ => fun
  | [d1, d2] => { results := [.lit (.bool true)], args := [d1, d2] }
  | _ => none }
def fnExactIsInBoxRow : OpenClaim := { program := "ytacegpmgicebfaa", sum := "8787fd5414637c8f8e89d80849438c87cf79284fa618d4c5a1d28e5a3425224d", func := "loop.example/g01921/laws.FnExactIsInBox", spec := "fnExactIsInBox", apart := false }
def FnExactIsInBoxSaid : Prop := fnExactIsInBoxRow.holds Try.pinned (OpenSpec.ofChange fnExactIsInBoxSpec)

/-- ITS FALSE NEIGHBOUR: 'it returns false'. Refute it at one input. -/
def fnExactIsInBoxWrong : ChangeSpec := { name := "fnExactIsInBox", fn := fun _ => fun
  | [d1, d2] => { results := [.lit (.bool false)], args := [d1, d2] }
  | _ => none }
def FnExactIsInBoxWrongFalsely : Prop := fnExactIsInBoxRow.holds Try.pinned (OpenSpec.ofChange fnExactIsInBoxWrong)

/-- 'laws.FnExactPowerFloor': WHATEVER THE INPUT: true; the input reads as it did. -/
def fnExactPowerFloorSpec : ChangeSpec := { name := "fnExactPowerFloor", fn := fun _ => fun
  | [d] => { results := [.lit (.bool true)], args := [d] }
  | _ => none }
def fnExactPowerFloorRow : OpenClaim := { program := "ytacegpmgicebfaa", sum := "8787fd5414637c8f8e89d80849438c87cf79284fa618d4c5a1d28e5a3425224d", func := "loop.example/g01921/laws.FnExactPowerFloor", spec := "fnExactPowerFloor", apart := false }
def FnExactPowerFloorSaid : Prop := fnExactPowerFloorRow.holds Try.pinned (OpenSpec.ofChange fnExactPowerFloorSpec)

/-- ITS FALSE NEIGHBOUR: 'it returns false'. Refute it at one input. -/
def fnExactPowerFloorWrong : ChangeSpec := { name := "fnExactPowerFloor", fn := fun _ => fun
  | [d] => { results := [.lit (.bool false)], args := [d] }
  | _ => none }
def FnExactPowerFloorWrongFalsely : Prop := fnExactPowerFloorRow.holds Try.pinned (OpenSpec.ofChange fnExactPowerFloorWrong)

/-- 'laws.FnExactBoxVolume': WHATEVER THE INPUT: true; the input reads as it did. -/
def fnExactBoxVolumeSpec : ChangeSpec := { name := "fnExactBoxVolume", fn := fun _ => fun
  | [d] => { results := [.lit (.bool true)], args := [d] }
  | _ => none }
def fnExactBoxVolumeRow : OpenClaim := { program := "ytacegpmgicebfaa", sum := "8787fd5414637c8f8e89d80849438c87cf79284fa618d4c5a1d28e5a3425224d", func := "loop.example/g01921/laws.FnExactBoxVolume", spec := "fnExactBoxVolume", apart := false }
def FnExactBoxVolumeSaid : Prop := fnExactBoxVolumeRow.holds Try.pinned (OpenSpec.ofChange fnExactBoxVolumeSpec)

/-- ITS FALSE NEIGHBOUR: 'it returns false'. Refute it at one input. -/
def fnExactBoxVolumeWrong : ChangeSpec := { name := "fnExactBoxVolume", fn := fun _ => fun
  | [d] => { results := [.lit (.bool false)], args := [d] }
  | _ => none }
def FnExactBoxVolumeWrongFalsely : Prop := fnExactBoxVolumeRow.holds Try.pinned (OpenSpec.ofChange fnExactBoxVolumeWrong)

/-- 'laws.FnExactElementalRows': WHATEVER THE INPUT: true; the input reads as it did. -/
def fnExactElementalRowsSpec : ChangeSpec := { name := "fnExactElementalRows", fn := fun _ => fun
  | [d] => { results := [.lit (.bool true)], args := [d] }
  | _ => none }
def fnExactElementalRowsRow : OpenClaim := { program := "ytacegpmgicebfaa", sum := "8787fd5414637c8f8e89d80849438c87cf79284fa618d4c5a1d28e5a3425224d", func := "loop.example/g01921/laws.FnExactElementalRows", spec := "fnExactElementalRows", unfollowed := true, recurses := true, apart := false }
def FnExactElementalRowsSaid : Prop := fnExactElementalRowsRow.holds Try.pinned (OpenSpec.ofChange fnExactElementalRowsSpec)

/-- ITS FALSE NEIGHBOUR: 'it returns false'. Refute it at one input. -/
def fnExactElementalRowsWrong : ChangeSpec := { name := "fnExactElementalRows", fn := fun _ => fun
  | [d] => { results := [.lit (.bool false)], args := [d] }
  | _ => none }
def FnExactElementalRowsWrongFalsely : Prop := fnExactElementalRowsRow.holds Try.pinned (OpenSpec.ofChange fnExactElementalRowsWrong)

/-- 'laws.FnExactBoxIndex': WHATEVER THE INPUT: true; the input reads as it did. -/
def fnExactBoxIndexSpec : ChangeSpec := { name := "fnExactBoxIndex", fn := fun _ => fun
  | [d1, d2] => { results := [.lit (.bool true)], args := [d1, d2] }
  | _ => none }
def fnExactBoxIndexRow : OpenClaim := { program := "ytacegpmgicebfaa", sum := "8787fd5414637c8f8e89d80849438c87cf79284fa618d4c5a1d28e5a3425224d", func := "loop.example/g01921/laws.FnExactBoxIndex", spec := "fnExactBoxIndex", apart := false }
def FnExactBoxIndexSaid : Prop := fnExactBoxIndexRow.holds Try.pinned (OpenSpec.ofChange fnExactBoxIndexSpec)

/-- ITS FALSE NEIGHBOUR: 'it returns false'. Refute it at one input. -/
def fnExactBoxIndexWrong : ChangeSpec := { name := "fnExactBoxIndex", fn := fun _ => fun
  | [d1, d2] => { results := [.lit (.bool false)], args := [d1, d2] }
  | _ => none }
def FnExactBoxIndexWrongFalsely : Prop := fnExactBoxIndexRow.holds Try.pinned (OpenSpec.ofChange fnExactBoxIndexWrong)

/-- 'laws.FnExactRenumberConstraints': WHATEVER THE INPUT: true; the input reads as it did. -/
def fnExactRenumberConstraintsSpec : ChangeSpec := { name := "fnExactRenumberConstraints", fn := fun _ => fun
  | [d1, d2] => { results := [.lit (.bool true)], args := [d1, d2] }
  | _ => none }
def fnExactRenumberConstraintsRow : OpenClaim := { program := "ytacegpmgicebfaa", sum := "8787fd5414637c8f8e89d80849438c87cf79284fa618d4c5a1d28e5a3425224d", func := "loop.example/g01921/laws.FnExactRenumberConstraints", spec := "fnExactRenumberConstraints", unfollowed := true, recurses := true, apart := false }
def FnExactRenumberConstraintsSaid : Prop := fnExactRenumberConstraintsRow.holds Try.pinned (OpenSpec.ofChange fnExactRenumberConstraintsSpec)

/-- ITS FALSE NEIGHBOUR: 'it returns false'. Refute it at one input. -/
def fnExactRenumberConstraintsWrong : ChangeSpec := { name := "fnExactRenumberConstraints", fn := fun _ => fun
  | [d1, d2] => { results := [.lit (.bool false)], args := [d1, d2] }
  | _ => none }
def FnExactRenumberConstraintsWrongFalsely : Prop := fnExactRenumberConstraintsRow.holds Try.pinned (OpenSpec.ofChange fnExactRenumberConstraintsWrong)

/-- 'laws.FnExactOpenMasks': WHATEVER THE INPUT: true; the input reads as it did. -/
def fnExactOpenMasksSpec : ChangeSpec := { name := "fnExactOpenMasks", fn := fun _ => fun
  | [d] => { results := [.lit (.bool true)], args := [d] }
  | _ => none }
def fnExactOpenMasksRow : OpenClaim := { program := "ytacegpmgicebfaa", sum := "8787fd5414637c8f8e89d80849438c87cf79284fa618d4c5a1d28e5a3425224d", func := "loop.example/g01921/laws.FnExactOpenMasks", spec := "fnExactOpenMasks", apart := false }
def FnExactOpenMasksSaid : Prop := fnExactOpenMasksRow.holds Try.pinned (OpenSpec.ofChange fnExactOpenMasksSpec)

/-- ITS FALSE NEIGHBOUR: 'it returns false'. Refute it at one input. -/
def fnExactOpenMasksWrong : ChangeSpec := { name := "fnExactOpenMasks", fn := fun _ => fun
  | [d] => { results := [.lit (.bool false)], args := [d] }
  | _ => none }
def FnExactOpenMasksWrongFalsely : Prop := fnExactOpenMasksRow.holds Try.pinned (OpenSpec.ofChange fnExactOpenMasksWrong)

/-- 'laws.FnExactFormatBox': WHATEVER THE INPUT: true; the input reads as it did. -/
def fnExactFormatBoxSpec : ChangeSpec := { name := "fnExactFormatBox", fn := fun _ => fun
  | [d] => { results := [.lit (.bool true)], args := [d] }
  | _ => none }
def fnExactFormatBoxRow : OpenClaim := { program := "ytacegpmgicebfaa", sum := "8787fd5414637c8f8e89d80849438c87cf79284fa618d4c5a1d28e5a3425224d", func := "loop.example/g01921/laws.FnExactFormatBox", spec := "fnExactFormatBox", apart := false }
def FnExactFormatBoxSaid : Prop := fnExactFormatBoxRow.holds Try.pinned (OpenSpec.ofChange fnExactFormatBoxSpec)

/-- ITS FALSE NEIGHBOUR: 'it returns false'. Refute it at one input. -/
def fnExactFormatBoxWrong : ChangeSpec := { name := "fnExactFormatBox", fn := fun _ => fun
  | [d] => { results := [.lit (.bool false)], args := [d] }
  | _ => none }
def FnExactFormatBoxWrongFalsely : Prop := fnExactFormatBoxRow.holds Try.pinned (OpenSpec.ofChange fnExactFormatBoxWrong)

/- THE SECOND FORM. 'bulk': how many values and letters a reading holds, each counted each time it is reached (what is shared counts as often as it is met; a slice's spare places count too). A statement '..UptoSaid' is the law's where the arguments, and the package variables that the reading takes, are together of bulk at most 1048576: NARROWER than '..Said'. Prove '..Said' where nothing that the law and all that it calls make is longer than what came in: it says more and counts as full. Else prove '..UptoSaid'. A law counts once. -/
mutual
def uptoBulk {H : Type} : DataW H → Nat
  | .lit (.string bytes) => bytes.length + 1
  | .lit _ => 1
  | .nil => 1
  | .ptr d => uptoBulk d + 1
  | .slice elems spare => uptoBulkAll elems + uptoBulkAll spare + 1
  | .agg parts => uptoBulkAll parts + 1
  | .iface _ d => uptoBulk d + 1
  | .map entries => uptoBulkEntries entries + 1
  | .held _ => 1
def uptoBulkAll {H : Type} : List (DataW H) → Nat
  | [] => 0
  | d :: r => uptoBulk d + uptoBulkAll r
def uptoBulkEntries {H : Type} : List (Lit × DataW H) → Nat
  | [] => 0
  | x :: r => uptoBulkEntry x + uptoBulkEntries r
def uptoBulkEntry {H : Type} : Lit × DataW H → Nat
  | (.string bytes, d) => bytes.length + uptoBulk d + 1
  | (_, d) => uptoBulk d + 1
 end
def uptoSmall : (H : Type) → List (DataW H) → Bool := fun _ ds => decide (uptoBulkAll ds ≤ 1048576)
def OpenSpec.upto (s : _root_.Go.ChangeSpec) : _root_.Go.OpenSpec := { _root_.Go.OpenSpec.ofChange s with cond := some uptoSmall }

/-- 'laws.FnExactCeilLog2', WHERE WHAT IT READS IS OF BULK AT MOST 1048576: true; the input reads as it did. -/
def fnExactCeilLog2UptoRow : OpenClaim := { program := "ytacegpmgicebfaa", sum := "8787fd5414637c8f8e89d80849438c87cf79284fa618d4c5a1d28e5a3425224d", func := "loop.example/g01921/laws.FnExactCeilLog2", spec := "fnExactCeilLog2", apart := false, narrowed := true }
def FnExactCeilLog2UptoSaid : Prop := fnExactCeilLog2UptoRow.holds Try.pinned (OpenSpec.upto fnExactCeilLog2Spec)

/-- 'laws.FnExactVariableSet', WHERE WHAT IT READS IS OF BULK AT MOST 1048576: true; the input reads as it did. -/
def fnExactVariableSetUptoRow : OpenClaim := { program := "ytacegpmgicebfaa", sum := "8787fd5414637c8f8e89d80849438c87cf79284fa618d4c5a1d28e5a3425224d", func := "loop.example/g01921/laws.FnExactVariableSet", spec := "fnExactVariableSet", apart := false, narrowed := true }
def FnExactVariableSetUptoSaid : Prop := fnExactVariableSetUptoRow.holds Try.pinned (OpenSpec.upto fnExactVariableSetSpec)

/-- 'laws.FnExactEqualBoxes', WHERE WHAT IT READS IS OF BULK AT MOST 1048576: true; the input reads as it did. -/
def fnExactEqualBoxesUptoRow : OpenClaim := { program := "ytacegpmgicebfaa", sum := "8787fd5414637c8f8e89d80849438c87cf79284fa618d4c5a1d28e5a3425224d", func := "loop.example/g01921/laws.FnExactEqualBoxes", spec := "fnExactEqualBoxes", apart := false, narrowed := true }
def FnExactEqualBoxesUptoSaid : Prop := fnExactEqualBoxesUptoRow.holds Try.pinned (OpenSpec.upto fnExactEqualBoxesSpec)

/-- 'laws.FnExactIsValidBox', WHERE WHAT IT READS IS OF BULK AT MOST 1048576: true; the input reads as it did. -/
def fnExactIsValidBoxUptoRow : OpenClaim := { program := "ytacegpmgicebfaa", sum := "8787fd5414637c8f8e89d80849438c87cf79284fa618d4c5a1d28e5a3425224d", func := "loop.example/g01921/laws.FnExactIsValidBox", spec := "fnExactIsValidBox", apart := false, narrowed := true }
def FnExactIsValidBoxUptoSaid : Prop := fnExactIsValidBoxUptoRow.holds Try.pinned (OpenSpec.upto fnExactIsValidBoxSpec)

/-- 'laws.FnExactIsInBox', WHERE WHAT IT READS IS OF BULK AT MOST 1048576: true; the input reads as it did. -/
def fnExactIsInBoxUptoRow : OpenClaim := { program := "ytacegpmgicebfaa", sum := "8787fd5414637c8f8e89d80849438c87cf79284fa618d4c5a1d28e5a3425224d", func := "loop.example/g01921/laws.FnExactIsInBox", spec := "fnExactIsInBox", apart := false, narrowed := true }
def FnExactIsInBoxUptoSaid : Prop := fnExactIsInBoxUptoRow.holds Try.pinned (OpenSpec.upto fnExactIsInBoxSpec)

/-- 'laws.FnExactPowerFloor', WHERE WHAT IT READS IS OF BULK AT MOST 1048576: true; the input reads as it did. -/
def fnExactPowerFloorUptoRow : OpenClaim := { program := "ytacegpmgicebfaa", sum := "8787fd5414637c8f8e89d80849438c87cf79284fa618d4c5a1d28e5a3425224d", func := "loop.example/g01921/laws.FnExactPowerFloor", spec := "fnExactPowerFloor", apart := false, narrowed := true }
def FnExactPowerFloorUptoSaid : Prop := fnExactPowerFloorUptoRow.holds Try.pinned (OpenSpec.upto fnExactPowerFloorSpec)

/-- 'laws.FnExactBoxVolume', WHERE WHAT IT READS IS OF BULK AT MOST 1048576: true; the input reads as it did. -/
def fnExactBoxVolumeUptoRow : OpenClaim := { program := "ytacegpmgicebfaa", sum := "8787fd5414637c8f8e89d80849438c87cf79284fa618d4c5a1d28e5a3425224d", func := "loop.example/g01921/laws.FnExactBoxVolume", spec := "fnExactBoxVolume", apart := false, narrowed := true }
def FnExactBoxVolumeUptoSaid : Prop := fnExactBoxVolumeUptoRow.holds Try.pinned (OpenSpec.upto fnExactBoxVolumeSpec)

/-- 'laws.FnExactElementalRows', WHERE WHAT IT READS IS OF BULK AT MOST 1048576: true; the input reads as it did. -/
def fnExactElementalRowsUptoRow : OpenClaim := { program := "ytacegpmgicebfaa", sum := "8787fd5414637c8f8e89d80849438c87cf79284fa618d4c5a1d28e5a3425224d", func := "loop.example/g01921/laws.FnExactElementalRows", spec := "fnExactElementalRows", unfollowed := true, recurses := true, apart := false, narrowed := true }
def FnExactElementalRowsUptoSaid : Prop := fnExactElementalRowsUptoRow.holds Try.pinned (OpenSpec.upto fnExactElementalRowsSpec)

/-- 'laws.FnExactBoxIndex', WHERE WHAT IT READS IS OF BULK AT MOST 1048576: true; the input reads as it did. -/
def fnExactBoxIndexUptoRow : OpenClaim := { program := "ytacegpmgicebfaa", sum := "8787fd5414637c8f8e89d80849438c87cf79284fa618d4c5a1d28e5a3425224d", func := "loop.example/g01921/laws.FnExactBoxIndex", spec := "fnExactBoxIndex", apart := false, narrowed := true }
def FnExactBoxIndexUptoSaid : Prop := fnExactBoxIndexUptoRow.holds Try.pinned (OpenSpec.upto fnExactBoxIndexSpec)

/-- 'laws.FnExactRenumberConstraints', WHERE WHAT IT READS IS OF BULK AT MOST 1048576: true; the input reads as it did. -/
def fnExactRenumberConstraintsUptoRow : OpenClaim := { program := "ytacegpmgicebfaa", sum := "8787fd5414637c8f8e89d80849438c87cf79284fa618d4c5a1d28e5a3425224d", func := "loop.example/g01921/laws.FnExactRenumberConstraints", spec := "fnExactRenumberConstraints", unfollowed := true, recurses := true, apart := false, narrowed := true }
def FnExactRenumberConstraintsUptoSaid : Prop := fnExactRenumberConstraintsUptoRow.holds Try.pinned (OpenSpec.upto fnExactRenumberConstraintsSpec)

/-- 'laws.FnExactOpenMasks', WHERE WHAT IT READS IS OF BULK AT MOST 1048576: true; the input reads as it did. -/
def fnExactOpenMasksUptoRow : OpenClaim := { program := "ytacegpmgicebfaa", sum := "8787fd5414637c8f8e89d80849438c87cf79284fa618d4c5a1d28e5a3425224d", func := "loop.example/g01921/laws.FnExactOpenMasks", spec := "fnExactOpenMasks", apart := false, narrowed := true }
def FnExactOpenMasksUptoSaid : Prop := fnExactOpenMasksUptoRow.holds Try.pinned (OpenSpec.upto fnExactOpenMasksSpec)

/-- 'laws.FnExactFormatBox', WHERE WHAT IT READS IS OF BULK AT MOST 1048576: true; the input reads as it did. -/
def fnExactFormatBoxUptoRow : OpenClaim := { program := "ytacegpmgicebfaa", sum := "8787fd5414637c8f8e89d80849438c87cf79284fa618d4c5a1d28e5a3425224d", func := "loop.example/g01921/laws.FnExactFormatBox", spec := "fnExactFormatBox", apart := false, narrowed := true }
def FnExactFormatBoxUptoSaid : Prop := fnExactFormatBoxUptoRow.holds Try.pinned (OpenSpec.upto fnExactFormatBoxSpec)

end Rows
end Go.Proofs.Ytacegpmgicebfaa
