/-
  Rows of numbers turned in place by the library: reversed, as a contract.
-/
import Derived.Test.YtjlagjhmlmfjeaaGreatSi
import Derived.Shelf.SlicesE.Reverse
import Derived.Ground.SlgnProg
namespace Go.Proofs
open Go.Shelf
namespace YtjlagjhmlmfjeaaGreat
def Tryz.revInts_ren : Go.Shelf.Ren := ⟨fun | 35 => 147 | n => n, fun | 22 => 25 | 23 => 3 | 3 => 3 | 4 => 4 | 0 => 0 | n => n, fun | n => n⟩
theorem Tryz.revInts : Go.Proofs.SlLaysE.n35 Tryz.prog Tryz.revInts_ren := {
  mixed := by kernel_rfl
  f35 := ⟨Tryz.f147.name, by decide, Tryz.func147.trans (congrArg some (by kernel_rfl))⟩
  t0 := Tryz.underlying0
  a0 := Tryz.isAgg0
  z0 := Tryz.sizeOf0
  v0 := Tryz.zeroValue0
  t3 := Tryz.underlying3
  a3 := Tryz.isAgg3
  z3 := Tryz.sizeOf3
  v3 := Tryz.zeroValue3
  t4 := Tryz.underlying4
  a4 := Tryz.isAgg4
  z4 := Tryz.sizeOf4
  v4 := Tryz.zeroValue4
  t22 := Tryz.underlying25
  a22 := Tryz.isAgg25
  z22 := Tryz.sizeOf25
  v22 := Tryz.zeroValue25
  a23 := Tryz.isAgg3
  z23 := Tryz.sizeOf3 }
end YtjlagjhmlmfjeaaGreat
end Go.Proofs
namespace Go.Proofs.YtjlagjhmlmfjeaaGreat
open Go.ChangeShapes Go.WideShapes Go.ChangeAt Go.RowKit
set_option linter.unusedVariables false
theorem con_revI (l : List Int) (hl : l.length < 4611686018427387904) : Con2 Tryz.prog 147 [.own 0] [(0, .arr 3 1 true (l.map intD))] (.tup []) [(0, .arr 3 1 true (l.reverse.map intD))] :=
  con2_ints l l.reverse (by kernel_rfl) List.length_reverse
    (fun h w => AnyE.slices_Reverse_empty Tryz.revInts none 0 w)
    (fun blk cap w hH hblk hn => (AnyE.slices_Reverse Tryz.revInts (Value.int .i64) (fun _ => rfl) blk 0 cap l w hH (by omega)).mono fun e w' ⟨he, q, hw⟩ => ⟨he, q, #[], by rw [hw, Go.Sort.grow_empty]⟩)
end Go.Proofs.YtjlagjhmlmfjeaaGreat
