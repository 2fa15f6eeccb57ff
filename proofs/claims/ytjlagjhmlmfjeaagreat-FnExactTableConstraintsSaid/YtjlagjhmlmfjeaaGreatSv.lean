/-
  Rows of numbers turned in place by the library: reversed, as a contract.
-/
import Derived.Test.YtjlagjhmlmfjeaaGreatSi
import Derived.Shelf.SlicesE.Reverse
import Derived.Ground.SlgnProg
namespace Go.Proofs
open Go.Shelf
namespace YtjlagjhmlmfjeaaGreat
shelf_lay_g SlLaysE.n35 Slgn 35 at Tryz 147 as Tryz.revInts
end YtjlagjhmlmfjeaaGreat
end Go.Proofs
namespace Go.Proofs.YtjlagjhmlmfjeaaGreat
open Go.ChangeShapes Go.WideShapes Go.ChangeAt Go.RowKit
set_option linter.unusedVariables false
theorem con_revI (l : List Int) (hl : l.length < 4611686018427387904) : Con2 Tryz.prog 147 [.own 0] [(0, .arr 3 1 true (l.map intD))] (.tup []) [(0, .arr 3 1 true (l.reverse.map intD))] :=
  con2_ints l l.reverse (by kernel_rfl) List.length_reverse
    (fun h w => AnyE.slices_Reverse_empty Tryz.revInts none 0 w)
    (fun blk cap w hH hblk hn => (AnyE.slices_Reverse Tryz.revInts (Value.int .i64) (fun _ => rfl) blk 0 cap l w hH (by omega)).mono fun e w' ⟨he, q, hw⟩ => ⟨he, q, #[], by rw [hw, Go.Sort.grow_empty]⟩)
end Go.Proofs.YtjlagjhmlmfjeaaGreat
