/-
  Contracts and plain laws, joined: part 4.
-/
import Derived.Test.YtokkjaflmcjlhaaGreatQAtomDegree2
import Derived.Laws.Strings
namespace Go.Proofs.YtokkjaflmcjlhaaGreat
open Go.ChangeShapes Go.WideShapes Go.ChangeAt Go.RowKit
set_option linter.unusedVariables false
set_option linter.unusedSimpArgs false
set_option maxRecDepth 100000
set_option maxHeartbeats 4000000
def tb : Tb := ⟨[(2, (false, 1, 8, .int .i64 0)), (3, (false, 1, 8, .int .i64 0)), (4, (false, 1, 1, .bool false)), (5, (false, 1, 1, .int .u8 0)), (6, (false, 1, 1, .int .u8 0)), (7, (true, 4, 24, .agg #[.int .i64 0, .int .i64 0, .bool false, .int .u8 0])), (8, (true, 4, 24, .agg #[.int .i64 0, .int .i64 0, .bool false, .int .u8 0])), (9, (false, 1, 16, .string ByteArray.empty)), (10, (false, 1, 16, .string ByteArray.empty)), (11, (false, 1, 16, .string ByteArray.empty)), (12, (false, 1, 8, .int .u64 0)), (13, (true, 2, 24, .agg #[.string ByteArray.empty, .int .u64 0])), (14, (true, 2, 24, .agg #[.string ByteArray.empty, .int .u64 0])), (21, (false, 1, 4, .int .i32 0)), (22, (false, 1, 24, .slice none 0 0)), (23, (true, 1, 24, .agg #[.slice none 0 0])), (24, (true, 1, 24, .agg #[.slice none 0 0])), (25, (false, 1, 24, .slice none 0 0)), (26, (true, 2, 32, .agg #[.int .i64 0, .slice none 0 0])), (27, (true, 2, 32, .agg #[.int .i64 0, .slice none 0 0])), (28, (false, 1, 24, .slice none 0 0)), (29, (false, 1, 24, .slice none 0 0)), (30, (true, 5, 104, .agg #[.slice none 0 0, .int .i64 0, .slice none 0 0, .slice none 0 0, .slice none 0 0])), (31, (true, 5, 104, .agg #[.slice none 0 0, .int .i64 0, .slice none 0 0, .slice none 0 0, .slice none 0 0])), (32, (false, 1, 24, .slice none 0 0)), (33, (true, 3, 48, .agg #[.string ByteArray.empty, .bool false, .slice none 0 0])), (34, (true, 3, 48, .agg #[.string ByteArray.empty, .bool false, .slice none 0 0])), (37, (false, 1, 24, .slice none 0 0)), (38, (true, 1, 24, .agg #[.slice none 0 0])), (39, (true, 1, 24, .agg #[.slice none 0 0])), (40, (false, 1, 24, .slice none 0 0)), (41, (true, 2, 32, .agg #[.int .i64 0, .slice none 0 0])), (42, (true, 2, 32, .agg #[.int .i64 0, .slice none 0 0])), (43, (false, 1, 24, .slice none 0 0)), (44, (false, 1, 24, .slice none 0 0)), (45, (true, 5, 104, .agg #[.slice none 0 0, .int .i64 0, .slice none 0 0, .slice none 0 0, .slice none 0 0])), (46, (true, 5, 104, .agg #[.slice none 0 0, .int .i64 0, .slice none 0 0, .slice none 0 0, .slice none 0 0])), (50, (true, 3, 48, .agg #[.string ByteArray.empty, .bool false, .slice none 0 0])), (57, (false, 1, 24, .slice none 0 0)), (61, (false, 1, 24, .slice none 0 0)), (66, (false, 1, 24, .slice none 0 0)), (67, (true, 2, 32, .agg #[.int .i64 0, .slice none 0 0])), (68, (true, 2, 32, .agg #[.int .i64 0, .slice none 0 0])), (71, (false, 1, 24, .slice none 0 0)), (72, (true, 2, 32, .agg #[.int .i64 0, .slice none 0 0])), (73, (true, 2, 32, .agg #[.int .i64 0, .slice none 0 0])), (88, (false, 1, 24, .slice none 0 0)), (119, (false, 1, 24, .slice none 0 0)), (120, (true, 4, 56, .agg #[.string ByteArray.empty, .int .i64 0, .int .i64 0, .slice none 0 0])), (121, (true, 4, 56, .agg #[.string ByteArray.empty, .int .i64 0, .int .i64 0, .slice none 0 0])), (130, (true, 2, 40, .agg #[.string ByteArray.empty, .slice none 0 0])), (131, (true, 2, 40, .agg #[.string ByteArray.empty, .slice none 0 0])), (148, (true, 3, 24, .agg #[.int .i64 0, .int .i64 0, .int .i64 0])), (149, (true, 3, 24, .agg #[.int .i64 0, .int .i64 0, .int .i64 0])), (153, (true, 3, 48, .agg #[.string ByteArray.empty, .slice none 0 0, .int .i64 0])), (154, (true, 3, 48, .agg #[.string ByteArray.empty, .slice none 0 0, .int .i64 0])), (156, (true, 4, 48, .agg #[.string ByteArray.empty, .int .i64 0, .string ByteArray.empty, .int .i64 0])), (157, (true, 4, 48, .agg #[.string ByteArray.empty, .int .i64 0, .string ByteArray.empty, .int .i64 0])), (160, (false, 1, 24, .slice none 0 0)), (161, (true, 3, 48, .agg #[.string ByteArray.empty, .int .i64 0, .slice none 0 0])), (162, (true, 3, 48, .agg #[.string ByteArray.empty, .int .i64 0, .slice none 0 0])), (168, (true, 3, 48, .agg #[.string ByteArray.empty, .slice none 0 0, .int .i64 0])), (170, (true, 4, 48, .agg #[.string ByteArray.empty, .int .i64 0, .string ByteArray.empty, .int .i64 0])), (183, (false, 1, 24, .slice none 0 0)), (185, (true, 2, 40, .agg #[.string ByteArray.empty, .slice none 0 0])), (202, (true, 3, 48, .agg #[.string ByteArray.empty, .int .i64 0, .slice none 0 0])), (204, (false, 1, 24, .slice none 0 0)), (205, (true, 4, 56, .agg #[.string ByteArray.empty, .int .i64 0, .int .i64 0, .slice none 0 0])), (206, (true, 4, 56, .agg #[.string ByteArray.empty, .int .i64 0, .int .i64 0, .slice none 0 0])), (217, (true, 3, 72, .agg #[.slice none 0 0, .slice none 0 0, .slice none 0 0])), (218, (true, 3, 72, .agg #[.slice none 0 0, .slice none 0 0, .slice none 0 0])), (232, (false, 1, 24, .slice none 0 0)), (247, (false, 1, 8, .int .u64 0)), (251, (true, 3, 72, .agg #[.slice none 0 0, .slice none 0 0, .slice none 0 0])), (255, (false, 1, 8, .int .i64 0)), (264, (false, 1, 4, .int .u32 0)), (266, (false, 1, 8, .int .u64 0)), (274, (false, 1, 8, .int .u64 0)), (291, (true, 0, 0, .agg #[])), (292, (true, 0, 0, .agg #[])), (294, (false, 1, 1, .int .u8 0)), (295, (false, 1, 1, .int .u8 0)), (298, (false, 1, 4, .int .i32 0)), (299, (false, 1, 4, .int .i32 0))],
  [(22, 202), (25, 206), (28, 154), (29, 157), (32, 3), (37, 162), (40, 121), (43, 168), (44, 170), (57, 34), (61, 50), (66, 185), (71, 131), (88, 149), (119, 218), (160, 32), (183, 5), (204, 251), (232, 4)],
  [(7, [(0, (0, 2)), (1, (1, 3)), (2, (2, 4)), (3, (3, 6))]), (8, [(0, (0, 2)), (1, (1, 3)), (2, (2, 4)), (3, (3, 6))]), (13, [(0, (0, 9)), (1, (1, 12))]), (14, [(0, (0, 9)), (1, (1, 12))]), (23, [(0, (0, 22))]), (24, [(0, (0, 22))]), (26, [(0, (0, 3)), (1, (1, 25))]), (27, [(0, (0, 3)), (1, (1, 25))]), (30, [(0, (0, 24)), (1, (1, 27)), (2, (3, 28)), (3, (4, 29))]), (31, [(0, (0, 24)), (1, (1, 27)), (2, (3, 28)), (3, (4, 29))]), (33, [(0, (0, 9)), (1, (1, 4)), (2, (2, 32))]), (34, [(0, (0, 9)), (1, (1, 4)), (2, (2, 32))]), (38, [(0, (0, 37))]), (39, [(0, (0, 37))]), (41, [(0, (0, 3)), (1, (1, 40))]), (42, [(0, (0, 3)), (1, (1, 40))]), (45, [(0, (0, 39)), (1, (1, 42)), (2, (3, 43)), (3, (4, 44))]), (46, [(0, (0, 39)), (1, (1, 42)), (2, (3, 43)), (3, (4, 44))]), (50, [(0, (0, 9)), (1, (1, 4)), (2, (2, 32))]), (67, [(0, (0, 3)), (1, (1, 66))]), (68, [(0, (0, 3)), (1, (1, 66))]), (72, [(0, (0, 3)), (1, (1, 71))]), (73, [(0, (0, 3)), (1, (1, 71))]), (120, [(0, (0, 9)), (1, (1, 3)), (2, (2, 3)), (3, (3, 119))]), (121, [(0, (0, 9)), (1, (1, 3)), (2, (2, 3)), (3, (3, 119))]), (130, [(0, (0, 9)), (1, (1, 32))]), (131, [(0, (0, 9)), (1, (1, 32))]), (148, [(0, (0, 3)), (1, (1, 3)), (2, (2, 3))]), (149, [(0, (0, 3)), (1, (1, 3)), (2, (2, 3))]), (153, [(0, (0, 9)), (1, (1, 32)), (2, (2, 3))]), (154, [(0, (0, 9)), (1, (1, 32)), (2, (2, 3))]), (156, [(0, (0, 9)), (1, (1, 3)), (2, (2, 9)), (3, (3, 3))]), (157, [(0, (0, 9)), (1, (1, 3)), (2, (2, 9)), (3, (3, 3))]), (161, [(0, (0, 9)), (1, (1, 3)), (2, (2, 160))]), (162, [(0, (0, 9)), (1, (1, 3)), (2, (2, 160))]), (168, [(0, (0, 9)), (1, (1, 32)), (2, (2, 3))]), (170, [(0, (0, 9)), (1, (1, 3)), (2, (2, 9)), (3, (3, 3))]), (185, [(0, (0, 9)), (1, (1, 32))]), (202, [(0, (0, 9)), (1, (1, 3)), (2, (2, 160))]), (205, [(0, (0, 9)), (1, (1, 3)), (2, (2, 3)), (3, (3, 204))]), (206, [(0, (0, 9)), (1, (1, 3)), (2, (2, 3)), (3, (3, 204))]), (217, [(0, (0, 32)), (1, (1, 160)), (2, (2, 32))]), (218, [(0, (0, 32)), (1, (1, 160)), (2, (2, 32))]), (251, [(0, (0, 32)), (1, (1, 160)), (2, (2, 32))]), (291, []), (292, [])],
  [(7, (.agg #[.int .i64 0, .int .i64 0, .bool false, .int .u8 0], [(0, 1), (1, 1), (2, 1), (3, 1)])), (8, (.agg #[.int .i64 0, .int .i64 0, .bool false, .int .u8 0], [(0, 1), (1, 1), (2, 1), (3, 1)])), (13, (.agg #[.string ByteArray.empty, .int .u64 0], [(0, 1), (1, 1)])), (14, (.agg #[.string ByteArray.empty, .int .u64 0], [(0, 1), (1, 1)])), (23, (.agg #[.slice none 0 0], [(0, 1)])), (24, (.agg #[.slice none 0 0], [(0, 1)])), (26, (.agg #[.int .i64 0, .slice none 0 0], [(0, 1), (1, 1)])), (27, (.agg #[.int .i64 0, .slice none 0 0], [(0, 1), (1, 1)])), (30, (.agg #[.slice none 0 0, .int .i64 0, .slice none 0 0, .slice none 0 0, .slice none 0 0], [(0, 1), (1, 2), (3, 1), (4, 1)])), (31, (.agg #[.slice none 0 0, .int .i64 0, .slice none 0 0, .slice none 0 0, .slice none 0 0], [(0, 1), (1, 2), (3, 1), (4, 1)])), (33, (.agg #[.string ByteArray.empty, .bool false, .slice none 0 0], [(0, 1), (1, 1), (2, 1)])), (34, (.agg #[.string ByteArray.empty, .bool false, .slice none 0 0], [(0, 1), (1, 1), (2, 1)])), (38, (.agg #[.slice none 0 0], [(0, 1)])), (39, (.agg #[.slice none 0 0], [(0, 1)])), (41, (.agg #[.int .i64 0, .slice none 0 0], [(0, 1), (1, 1)])), (42, (.agg #[.int .i64 0, .slice none 0 0], [(0, 1), (1, 1)])), (45, (.agg #[.slice none 0 0, .int .i64 0, .slice none 0 0, .slice none 0 0, .slice none 0 0], [(0, 1), (1, 2), (3, 1), (4, 1)])), (46, (.agg #[.slice none 0 0, .int .i64 0, .slice none 0 0, .slice none 0 0, .slice none 0 0], [(0, 1), (1, 2), (3, 1), (4, 1)])), (50, (.agg #[.string ByteArray.empty, .bool false, .slice none 0 0], [(0, 1), (1, 1), (2, 1)])), (67, (.agg #[.int .i64 0, .slice none 0 0], [(0, 1), (1, 1)])), (68, (.agg #[.int .i64 0, .slice none 0 0], [(0, 1), (1, 1)])), (72, (.agg #[.int .i64 0, .slice none 0 0], [(0, 1), (1, 1)])), (73, (.agg #[.int .i64 0, .slice none 0 0], [(0, 1), (1, 1)])), (120, (.agg #[.string ByteArray.empty, .int .i64 0, .int .i64 0, .slice none 0 0], [(0, 1), (1, 1), (2, 1), (3, 1)])), (121, (.agg #[.string ByteArray.empty, .int .i64 0, .int .i64 0, .slice none 0 0], [(0, 1), (1, 1), (2, 1), (3, 1)])), (130, (.agg #[.string ByteArray.empty, .slice none 0 0], [(0, 1), (1, 1)])), (131, (.agg #[.string ByteArray.empty, .slice none 0 0], [(0, 1), (1, 1)])), (148, (.agg #[.int .i64 0, .int .i64 0, .int .i64 0], [(0, 1), (1, 1), (2, 1)])), (149, (.agg #[.int .i64 0, .int .i64 0, .int .i64 0], [(0, 1), (1, 1), (2, 1)])), (153, (.agg #[.string ByteArray.empty, .slice none 0 0, .int .i64 0], [(0, 1), (1, 1), (2, 1)])), (154, (.agg #[.string ByteArray.empty, .slice none 0 0, .int .i64 0], [(0, 1), (1, 1), (2, 1)])), (156, (.agg #[.string ByteArray.empty, .int .i64 0, .string ByteArray.empty, .int .i64 0], [(0, 1), (1, 1), (2, 1), (3, 1)])), (157, (.agg #[.string ByteArray.empty, .int .i64 0, .string ByteArray.empty, .int .i64 0], [(0, 1), (1, 1), (2, 1), (3, 1)])), (161, (.agg #[.string ByteArray.empty, .int .i64 0, .slice none 0 0], [(0, 1), (1, 1), (2, 1)])), (162, (.agg #[.string ByteArray.empty, .int .i64 0, .slice none 0 0], [(0, 1), (1, 1), (2, 1)])), (168, (.agg #[.string ByteArray.empty, .slice none 0 0, .int .i64 0], [(0, 1), (1, 1), (2, 1)])), (170, (.agg #[.string ByteArray.empty, .int .i64 0, .string ByteArray.empty, .int .i64 0], [(0, 1), (1, 1), (2, 1), (3, 1)])), (185, (.agg #[.string ByteArray.empty, .slice none 0 0], [(0, 1), (1, 1)])), (202, (.agg #[.string ByteArray.empty, .int .i64 0, .slice none 0 0], [(0, 1), (1, 1), (2, 1)])), (205, (.agg #[.string ByteArray.empty, .int .i64 0, .int .i64 0, .slice none 0 0], [(0, 1), (1, 1), (2, 1), (3, 1)])), (206, (.agg #[.string ByteArray.empty, .int .i64 0, .int .i64 0, .slice none 0 0], [(0, 1), (1, 1), (2, 1), (3, 1)])), (217, (.agg #[.slice none 0 0, .slice none 0 0, .slice none 0 0], [(0, 1), (1, 1), (2, 1)])), (218, (.agg #[.slice none 0 0, .slice none 0 0, .slice none 0 0], [(0, 1), (1, 1), (2, 1)])), (251, (.agg #[.slice none 0 0, .slice none 0 0, .slice none 0 0], [(0, 1), (1, 1), (2, 1)])), (291, (.agg #[], [(0, 0)])), (292, (.agg #[], [(0, 0)]))],
  [(4, ())],
  [(9, ()), (10, ()), (11, ())],
  [(2, .i64), (3, .i64), (5, .u8), (6, .u8), (12, .u64), (21, .i32), (247, .u64), (255, .i64), (264, .u32), (266, .u64), (274, .u64), (294, .u8), (295, .u8), (298, .i32), (299, .i32)],
  [(149, [0, 0, 0]), (170, [2, 0, 2, 0])]⟩
theorem fc {α : Type} {p : Nat → α → Prop} {k : Nat} {v : α} {l : List (Nat × α)} (h : p k v) (t : Forall p l) : Forall p ((k, v) :: l) := ⟨h, t⟩
theorem mixedW : Tryz.prog.follows .mixedOrders = true := by kernel_rfl
set_option maxRecDepth 100000 in
theorem tbOk : TbOk Tryz.prog tb :=
  ⟨(fc (by kernel_rfl) <| fc (by kernel_rfl) <| fc (by kernel_rfl) <| fc (by kernel_rfl) <| fc (by kernel_rfl) <| fc (by kernel_rfl) <| fc (by kernel_rfl) <| fc (by kernel_rfl) <| fc (by kernel_rfl) <| fc (by kernel_rfl) <| fc (by kernel_rfl) <| fc (by kernel_rfl) <| fc (by kernel_rfl) <| fc (by kernel_rfl) <| fc (by kernel_rfl) <| fc (by kernel_rfl) <| fc (by kernel_rfl) <| fc (by kernel_rfl) <| fc (by kernel_rfl) <| fc (by kernel_rfl) <| fc (by kernel_rfl) <| fc (by kernel_rfl) <| fc (by kernel_rfl) <| fc (by kernel_rfl) <| fc (by kernel_rfl) <| fc (by kernel_rfl) <| fc (by kernel_rfl) <| fc (by kernel_rfl) <| fc (by kernel_rfl) <| fc (by kernel_rfl) <| fc (by kernel_rfl) <| fc (by kernel_rfl) <| fc (by kernel_rfl) <| fc (by kernel_rfl) <| fc (by kernel_rfl) <| fc (by kernel_rfl) <| fc (by kernel_rfl) <| fc (by kernel_rfl) <| fc (by kernel_rfl) <| fc (by kernel_rfl) <| fc (by kernel_rfl) <| fc (by kernel_rfl) <| fc (by kernel_rfl) <| fc (by kernel_rfl) <| fc (by kernel_rfl) <| fc (by kernel_rfl) <| fc (by kernel_rfl) <| fc (by kernel_rfl) <| fc (by kernel_rfl) <| fc (by kernel_rfl) <| fc (by kernel_rfl) <| fc (by kernel_rfl) <| fc (by kernel_rfl) <| fc (by kernel_rfl) <| fc (by kernel_rfl) <| fc (by kernel_rfl) <| fc (by kernel_rfl) <| fc (by kernel_rfl) <| fc (by kernel_rfl) <| fc (by kernel_rfl) <| fc (by kernel_rfl) <| fc (by kernel_rfl) <| fc (by kernel_rfl) <| fc (by kernel_rfl) <| fc (by kernel_rfl) <| fc (by kernel_rfl) <| fc (by kernel_rfl) <| fc (by kernel_rfl) <| fc (by kernel_rfl) <| fc (by kernel_rfl) <| fc (by kernel_rfl) <| fc (by kernel_rfl) <| fc (by kernel_rfl) <| fc (by kernel_rfl) <| fc (by kernel_rfl) <| fc (by kernel_rfl) <| fc (by kernel_rfl) <| fc (by kernel_rfl) <| fc (by kernel_rfl) <| fc (by kernel_rfl) <| fc (by kernel_rfl) <| fc (by kernel_rfl) <| fc (by kernel_rfl) <| fc (by kernel_rfl) <| trivial),
   (fc (by kernel_rfl) <| fc (by kernel_rfl) <| fc (by kernel_rfl) <| fc (by kernel_rfl) <| fc (by kernel_rfl) <| fc (by kernel_rfl) <| fc (by kernel_rfl) <| fc (by kernel_rfl) <| fc (by kernel_rfl) <| fc (by kernel_rfl) <| fc (by kernel_rfl) <| fc (by kernel_rfl) <| fc (by kernel_rfl) <| fc (by kernel_rfl) <| fc (by kernel_rfl) <| fc (by kernel_rfl) <| fc (by kernel_rfl) <| fc (by kernel_rfl) <| fc (by kernel_rfl) <| trivial),
   (fc (fc (by kernel_rfl) <| fc (by kernel_rfl) <| fc (by kernel_rfl) <| fc (by kernel_rfl) <| trivial) <| fc (fc (by kernel_rfl) <| fc (by kernel_rfl) <| fc (by kernel_rfl) <| fc (by kernel_rfl) <| trivial) <| fc (fc (by kernel_rfl) <| fc (by kernel_rfl) <| trivial) <| fc (fc (by kernel_rfl) <| fc (by kernel_rfl) <| trivial) <| fc (fc (by kernel_rfl) <| trivial) <| fc (fc (by kernel_rfl) <| trivial) <| fc (fc (by kernel_rfl) <| fc (by kernel_rfl) <| trivial) <| fc (fc (by kernel_rfl) <| fc (by kernel_rfl) <| trivial) <| fc (fc (by kernel_rfl) <| fc (by kernel_rfl) <| fc (by kernel_rfl) <| fc (by kernel_rfl) <| trivial) <| fc (fc (by kernel_rfl) <| fc (by kernel_rfl) <| fc (by kernel_rfl) <| fc (by kernel_rfl) <| trivial) <| fc (fc (by kernel_rfl) <| fc (by kernel_rfl) <| fc (by kernel_rfl) <| trivial) <| fc (fc (by kernel_rfl) <| fc (by kernel_rfl) <| fc (by kernel_rfl) <| trivial) <| fc (fc (by kernel_rfl) <| trivial) <| fc (fc (by kernel_rfl) <| trivial) <| fc (fc (by kernel_rfl) <| fc (by kernel_rfl) <| trivial) <| fc (fc (by kernel_rfl) <| fc (by kernel_rfl) <| trivial) <| fc (fc (by kernel_rfl) <| fc (by kernel_rfl) <| fc (by kernel_rfl) <| fc (by kernel_rfl) <| trivial) <| fc (fc (by kernel_rfl) <| fc (by kernel_rfl) <| fc (by kernel_rfl) <| fc (by kernel_rfl) <| trivial) <| fc (fc (by kernel_rfl) <| fc (by kernel_rfl) <| fc (by kernel_rfl) <| trivial) <| fc (fc (by kernel_rfl) <| fc (by kernel_rfl) <| trivial) <| fc (fc (by kernel_rfl) <| fc (by kernel_rfl) <| trivial) <| fc (fc (by kernel_rfl) <| fc (by kernel_rfl) <| trivial) <| fc (fc (by kernel_rfl) <| fc (by kernel_rfl) <| trivial) <| fc (fc (by kernel_rfl) <| fc (by kernel_rfl) <| fc (by kernel_rfl) <| fc (by kernel_rfl) <| trivial) <| fc (fc (by kernel_rfl) <| fc (by kernel_rfl) <| fc (by kernel_rfl) <| fc (by kernel_rfl) <| trivial) <| fc (fc (by kernel_rfl) <| fc (by kernel_rfl) <| trivial) <| fc (fc (by kernel_rfl) <| fc (by kernel_rfl) <| trivial) <| fc (fc (by kernel_rfl) <| fc (by kernel_rfl) <| fc (by kernel_rfl) <| trivial) <| fc (fc (by kernel_rfl) <| fc (by kernel_rfl) <| fc (by kernel_rfl) <| trivial) <| fc (fc (by kernel_rfl) <| fc (by kernel_rfl) <| fc (by kernel_rfl) <| trivial) <| fc (fc (by kernel_rfl) <| fc (by kernel_rfl) <| fc (by kernel_rfl) <| trivial) <| fc (fc (by kernel_rfl) <| fc (by kernel_rfl) <| fc (by kernel_rfl) <| fc (by kernel_rfl) <| trivial) <| fc (fc (by kernel_rfl) <| fc (by kernel_rfl) <| fc (by kernel_rfl) <| fc (by kernel_rfl) <| trivial) <| fc (fc (by kernel_rfl) <| fc (by kernel_rfl) <| fc (by kernel_rfl) <| trivial) <| fc (fc (by kernel_rfl) <| fc (by kernel_rfl) <| fc (by kernel_rfl) <| trivial) <| fc (fc (by kernel_rfl) <| fc (by kernel_rfl) <| fc (by kernel_rfl) <| trivial) <| fc (fc (by kernel_rfl) <| fc (by kernel_rfl) <| fc (by kernel_rfl) <| fc (by kernel_rfl) <| trivial) <| fc (fc (by kernel_rfl) <| fc (by kernel_rfl) <| trivial) <| fc (fc (by kernel_rfl) <| fc (by kernel_rfl) <| fc (by kernel_rfl) <| trivial) <| fc (fc (by kernel_rfl) <| fc (by kernel_rfl) <| fc (by kernel_rfl) <| fc (by kernel_rfl) <| trivial) <| fc (fc (by kernel_rfl) <| fc (by kernel_rfl) <| fc (by kernel_rfl) <| fc (by kernel_rfl) <| trivial) <| fc (fc (by kernel_rfl) <| fc (by kernel_rfl) <| fc (by kernel_rfl) <| trivial) <| fc (fc (by kernel_rfl) <| fc (by kernel_rfl) <| fc (by kernel_rfl) <| trivial) <| fc (fc (by kernel_rfl) <| fc (by kernel_rfl) <| fc (by kernel_rfl) <| trivial) <| fc (trivial) <| fc (trivial) <| trivial),
   (fc (by kernel_rfl) <| fc (by kernel_rfl) <| fc (by kernel_rfl) <| fc (by kernel_rfl) <| fc (by kernel_rfl) <| fc (by kernel_rfl) <| fc (by kernel_rfl) <| fc (by kernel_rfl) <| fc (by kernel_rfl) <| fc (by kernel_rfl) <| fc (by kernel_rfl) <| fc (by kernel_rfl) <| fc (by kernel_rfl) <| fc (by kernel_rfl) <| fc (by kernel_rfl) <| fc (by kernel_rfl) <| fc (by kernel_rfl) <| fc (by kernel_rfl) <| fc (by kernel_rfl) <| fc (by kernel_rfl) <| fc (by kernel_rfl) <| fc (by kernel_rfl) <| fc (by kernel_rfl) <| fc (by kernel_rfl) <| fc (by kernel_rfl) <| fc (by kernel_rfl) <| fc (by kernel_rfl) <| fc (by kernel_rfl) <| fc (by kernel_rfl) <| fc (by kernel_rfl) <| fc (by kernel_rfl) <| fc (by kernel_rfl) <| fc (by kernel_rfl) <| fc (by kernel_rfl) <| fc (by kernel_rfl) <| fc (by kernel_rfl) <| fc (by kernel_rfl) <| fc (by kernel_rfl) <| fc (by kernel_rfl) <| fc (by kernel_rfl) <| fc (by kernel_rfl) <| fc (by kernel_rfl) <| fc (by kernel_rfl) <| fc (by kernel_rfl) <| fc (by kernel_rfl) <| fc (by kernel_rfl) <| trivial),
   (fc (by kernel_rfl) <| trivial),
   (fc (by kernel_rfl) <| fc (by kernel_rfl) <| fc (by kernel_rfl) <| trivial),
   (fc (by kernel_rfl) <| fc (by kernel_rfl) <| fc (by kernel_rfl) <| fc (by kernel_rfl) <| fc (by kernel_rfl) <| fc (by kernel_rfl) <| fc (by kernel_rfl) <| fc (by kernel_rfl) <| fc (by kernel_rfl) <| fc (by kernel_rfl) <| fc (by kernel_rfl) <| fc (by kernel_rfl) <| fc (by kernel_rfl) <| fc (by kernel_rfl) <| fc (by kernel_rfl) <| trivial),
   (fc (by kernel_rfl) <| fc (by kernel_rfl) <| trivial)⟩
end Go.Proofs.YtokkjaflmcjlhaaGreat
namespace Go.Proofs.YtokkjaflmcjlhaaGreat
open Go.ChangeShapes Go.WideShapes Go.ChangeAt Go.RowKit
set_option linter.unusedVariables false
set_option linter.unusedSimpArgs false
set_option maxRecDepth 100000
set_option maxHeartbeats 4000000
abbrev callP (p : AV × List (Nat × Rs)) (t : T) : T := .call p.1 p.2 t
theorem yq {p : Prop} [Decidable p] (h : decide p = true) : p := of_decide_eq_true h
theorem nq {p : Prop} [Decidable p] (h : decide p = false) : ¬ p := of_decide_eq_false h
abbrev Em {α : Type} (enc : α → List Dat) (l : List α) (i : Nat) (P : α → Prop) : Prop := l.map enc = l.map enc ∧ i < l.length ∧ ∀ x, l[i]? = some x → P x
abbrev Lm {α : Type} (enc : α → List Dat) (l : List α) : Prop := (l.map enc).length = l.length
def boolD (b : Bool) : List Dat := [.bool b]
def FStr (s : ByteArray) : Prop := s.size ≤ maxLen
theorem rdV_str {A : Nat → Prop} {w : World} {s : ByteArray} : RdV A w (.str s) (.string s) := by unfold RdV; rfl
theorem rdOne {A : Nat → Prop} {w : World} {d : Dat} {v : Value} (h : RdL A w [d] [v]) : RdV A w d v := by
  obtain ⟨u, us, e, h1, _⟩ := h
  injection e with e1
  subst e1; exact h1
theorem rdI {w : World} {c : Value} {n : Int} (h : IntR w [c] n) : RdV (Lv w) w (.int .i64 n) c := by
  have e := h.1
  simp at e
  subst e; exact rdV_int
theorem rdS {w : World} {c : Value} {s : ByteArray} (h : StrR w [c] s) : RdV (Lv w) w (.str s) c := by
  have e := h.1
  simp at e
  subst e; exact rdV_str
theorem sz_ok {n : Nat} {m : Int} (h : ¬ szStep n m < 0) : (n : Int) ≤ m := by
  unfold szStep at h
  split at h
  · assumption
  · omega
theorem sz_bad {n : Nat} {m : Int} (h : szStep n m < 0) : ¬ (n : Int) ≤ m := by
  unfold szStep at h
  split at h
  · omega
  · assumption
theorem fill_step {α : Type} {l : List α} {k : Nat} {x z : α} (h : l[k]? = some x) : (l.take k ++ List.replicate (l.length - k) z).set k x = l.take (k + 1) ++ List.replicate (l.length - (k + 1)) z := by
  have hk : k < l.length := (List.getElem?_eq_some_iff.1 h).1
  rw [show l.length - k = (l.length - (k + 1)) + 1 by omega, List.replicate_succ, List.set_append_right _ _ (by simp; omega), take_snoc h]
  simp [show k - min k l.length = 0 by omega]
theorem fill_len {α : Type} {l : List α} {k : Nat} {z : α} (h : k ≤ l.length) : (l.take k ++ List.replicate (l.length - k) z).length = l.length := by simp; omega
theorem fill_done {α : Type} {l : List α} {k : Nat} {z : α} (h : k ≤ l.length) (h' : ¬ k < l.length) : l.take k ++ List.replicate (l.length - k) z = l := by
  rw [show k = l.length by omega]; simp
theorem at_set {α : Type} {l : List α} {i : Nat} {x y : α} (h : (l.set i y)[i]? = some x) : x = y := by
  rw [List.getElem?_set_self'] at h
  cases hl : l[i]? with
  | none => simp [hl] at h
  | some z => simp [hl] at h; exact h.symm
theorem at_some {α : Type} {l : List α} {k : Nat} (h : k < l.length) : ∃ x, l[k]? = some x := ⟨_, List.getElem?_eq_getElem h⟩
def eIntS (l : List Int) : List Dat := [.sl 3 1 (l.map intD)]
def FIntS (l : List Int) : Prop := ∀ x ∈ l, Fits x
def cIntS (l : List Int) : Nat := l.length
theorem cIntS_len (l : List Int) : l.length ≤ cIntS l := Nat.le_refl _
def eIntSS (l : List (List Int)) : List Dat := [.sl 32 1 (l.map eIntS)]
def FIntSS (l : List (List Int)) : Prop := ∀ x ∈ l, FIntS x
def cIntSS (l : List (List Int)) : Nat := cntL cIntS l
theorem cIntSS_len (l : List (List Int)) : l.length ≤ cIntSS l := cntL_len _ l
theorem cIntSS_el {l : List (List Int)} {k : Nat} {y : List Int} (h : l[k]? = some y) : cIntS y ≤ cIntSS l := cntL_mem _ h
structure TableD where
  name : ByteArray
  arity : Int
  rows : List (List Int)
  deriving DecidableEq
def eTable (x : TableD) : List Dat := [.str x.name, .int .i64 x.arity, .sl 32 1 (x.rows.map eIntS)]
def FTable (x : TableD) : Prop := FStr x.name ∧ Fits x.arity ∧ FIntSS x.rows
def cTable (x : TableD) : Nat := ByteArray.size x.name + cIntSS x.rows
def zTable : TableD := ⟨ByteArray.empty, (0 : Int), []⟩
def eTableS (l : List TableD) : List Dat := [.sl 162 3 (l.map eTable)]
def FTableS (l : List TableD) : Prop := ∀ x ∈ l, FTable x
def cTableS (l : List TableD) : Nat := cntL cTable l
theorem cTableS_len (l : List TableD) : l.length ≤ cTableS l := cntL_len _ l
theorem cTableS_el {l : List TableD} {k : Nat} {y : TableD} (h : l[k]? = some y) : cTable y ≤ cTableS l := cntL_mem _ h
structure DatabaseD where
  tables : List TableD
  deriving DecidableEq
def eDatabase (x : DatabaseD) : List Dat := [.sl 162 3 (x.tables.map eTable)]
def FDatabase (x : DatabaseD) : Prop := FTableS x.tables
def cDatabase (x : DatabaseD) : Nat := cTableS x.tables
structure AtomD where
  name : ByteArray
  vars : List Int
  deriving DecidableEq
def eAtom (x : AtomD) : List Dat := [.str x.name, .sl 3 1 (x.vars.map intD)]
def FAtom (x : AtomD) : Prop := FStr x.name ∧ FIntS x.vars
def cAtom (x : AtomD) : Nat := ByteArray.size x.name + cIntS x.vars
def zAtom : AtomD := ⟨ByteArray.empty, []⟩
def eAtomS (l : List AtomD) : List Dat := [.sl 131 2 (l.map eAtom)]
def FAtomS (l : List AtomD) : Prop := ∀ x ∈ l, FAtom x
def cAtomS (l : List AtomD) : Nat := cntL cAtom l
theorem cAtomS_len (l : List AtomD) : l.length ≤ cAtomS l := cntL_len _ l
theorem cAtomS_el {l : List AtomD} {k : Nat} {y : AtomD} (h : l[k]? = some y) : cAtom y ≤ cAtomS l := cntL_mem _ h
structure QueryD where
  variableCount : Int
  atoms : List AtomD
  deriving DecidableEq
def eQuery (x : QueryD) : List Dat := [.int .i64 x.variableCount, .sl 131 2 (x.atoms.map eAtom)]
def FQuery (x : QueryD) : Prop := Fits x.variableCount ∧ FAtomS x.atoms
def cQuery (x : QueryD) : Nat := cAtomS x.atoms
structure GroupStatsD where
  columns : List Int
  values : List (List Int)
  counts : List Int
  deriving DecidableEq
def eGroupStats (x : GroupStatsD) : List Dat := [.sl 3 1 (x.columns.map intD), .sl 32 1 (x.values.map eIntS), .sl 3 1 (x.counts.map intD)]
def FGroupStats (x : GroupStatsD) : Prop := FIntS x.columns ∧ FIntSS x.values ∧ FIntS x.counts
def cGroupStats (x : GroupStatsD) : Nat := cIntS x.columns + cIntSS x.values + cIntS x.counts
def zGroupStats : GroupStatsD := ⟨[], [], []⟩
def eGroupStatsS (l : List GroupStatsD) : List Dat := [.sl 218 3 (l.map eGroupStats)]
def FGroupStatsS (l : List GroupStatsD) : Prop := ∀ x ∈ l, FGroupStats x
def cGroupStatsS (l : List GroupStatsD) : Nat := cntL cGroupStats l
theorem cGroupStatsS_len (l : List GroupStatsD) : l.length ≤ cGroupStatsS l := cntL_len _ l
theorem cGroupStatsS_el {l : List GroupStatsD} {k : Nat} {y : GroupStatsD} (h : l[k]? = some y) : cGroupStats y ≤ cGroupStatsS l := cntL_mem _ h
structure TableStatsD where
  name : ByteArray
  arity : Int
  rowCount : Int
  groups : List GroupStatsD
  deriving DecidableEq
def eTableStats (x : TableStatsD) : List Dat := [.str x.name, .int .i64 x.arity, .int .i64 x.rowCount, .sl 218 3 (x.groups.map eGroupStats)]
def FTableStats (x : TableStatsD) : Prop := FStr x.name ∧ Fits x.arity ∧ Fits x.rowCount ∧ FGroupStatsS x.groups
def cTableStats (x : TableStatsD) : Nat := ByteArray.size x.name + cGroupStatsS x.groups
def zTableStats : TableStatsD := ⟨ByteArray.empty, (0 : Int), (0 : Int), []⟩
def eTableStatsS (l : List TableStatsD) : List Dat := [.sl 121 4 (l.map eTableStats)]
def FTableStatsS (l : List TableStatsD) : Prop := ∀ x ∈ l, FTableStats x
def cTableStatsS (l : List TableStatsD) : Nat := cntL cTableStats l
theorem cTableStatsS_len (l : List TableStatsD) : l.length ≤ cTableStatsS l := cntL_len _ l
theorem cTableStatsS_el {l : List TableStatsD} {k : Nat} {y : TableStatsD} (h : l[k]? = some y) : cTableStats y ≤ cTableStatsS l := cntL_mem _ h
structure CatalogueD where
  version : Int
  tables : List TableStatsD
  deriving DecidableEq
def eCatalogue (x : CatalogueD) : List Dat := [.int .i64 x.version, .sl 121 4 (x.tables.map eTableStats)]
def FCatalogue (x : CatalogueD) : Prop := Fits x.version ∧ FTableStatsS x.tables
def cCatalogue (x : CatalogueD) : Nat := cTableStatsS x.tables
def zCatalogue : CatalogueD := ⟨(0 : Int), []⟩
structure DependencyD where
  name : ByteArray
  src : List Int
  dst : Int
  deriving DecidableEq
def eDependency (x : DependencyD) : List Dat := [.str x.name, .sl 3 1 (x.src.map intD), .int .i64 x.dst]
def FDependency (x : DependencyD) : Prop := FStr x.name ∧ FIntS x.src ∧ Fits x.dst
def cDependency (x : DependencyD) : Nat := ByteArray.size x.name + cIntS x.src
def zDependency : DependencyD := ⟨ByteArray.empty, [], (0 : Int)⟩
def eDependencyS (l : List DependencyD) : List Dat := [.sl 168 3 (l.map eDependency)]
def FDependencyS (l : List DependencyD) : Prop := ∀ x ∈ l, FDependency x
def cDependencyS (l : List DependencyD) : Nat := cntL cDependency l
theorem cDependencyS_len (l : List DependencyD) : l.length ≤ cDependencyS l := cntL_len _ l
theorem cDependencyS_el {l : List DependencyD} {k : Nat} {y : DependencyD} (h : l[k]? = some y) : cDependency y ≤ cDependencyS l := cntL_mem _ h
structure InclusionD where
  name : ByteArray
  column : Int
  into : ByteArray
  intoColumn : Int
  deriving DecidableEq
def eInclusion (x : InclusionD) : List Dat := [.str x.name, .int .i64 x.column, .str x.into, .int .i64 x.intoColumn]
def FInclusion (x : InclusionD) : Prop := FStr x.name ∧ Fits x.column ∧ FStr x.into ∧ Fits x.intoColumn
def cInclusion (x : InclusionD) : Nat := ByteArray.size x.name + ByteArray.size x.into
def zInclusion : InclusionD := ⟨ByteArray.empty, (0 : Int), ByteArray.empty, (0 : Int)⟩
def eInclusionS (l : List InclusionD) : List Dat := [.sl 170 4 (l.map eInclusion)]
def FInclusionS (l : List InclusionD) : Prop := ∀ x ∈ l, FInclusion x
def cInclusionS (l : List InclusionD) : Nat := cntL cInclusion l
theorem cInclusionS_len (l : List InclusionD) : l.length ≤ cInclusionS l := cntL_len _ l
theorem cInclusionS_el {l : List InclusionD} {k : Nat} {y : InclusionD} (h : l[k]? = some y) : cInclusion y ≤ cInclusionS l := cntL_mem _ h
structure StoreD where
  database : DatabaseD
  catalogue : CatalogueD
  dependencies : List DependencyD
  inclusions : List InclusionD
  deriving DecidableEq
def eStore (x : StoreD) : List Dat := [.sl 162 3 (x.database.tables.map eTable), .int .i64 x.catalogue.version, .sl 121 4 (x.catalogue.tables.map eTableStats), .sl 168 3 (x.dependencies.map eDependency), .sl 170 4 (x.inclusions.map eInclusion)]
def FStore (x : StoreD) : Prop := FDatabase x.database ∧ FCatalogue x.catalogue ∧ FDependencyS x.dependencies ∧ FInclusionS x.inclusions
def cStore (x : StoreD) : Nat := cDatabase x.database + cCatalogue x.catalogue + cDependencyS x.dependencies + cInclusionS x.inclusions
theorem str_eq (s t : ByteArray) : (s.toList == t.toList) = decide (s = t) := by
  rw [ByteArray.toList_eq, ByteArray.toList_eq]
  by_cases h : s = t
  · simp [h]
  · have : ¬ s.data.toList = t.data.toList := fun e => h (by cases s; cases t; simp at e; simp [e])
    simp only [h, decide_false, beq_eq_false_iff_ne]
    exact this
theorem take_same {α : Type} {l m : List α} {k : Nat} {x : α} (h : l[k]? = some x) (h' : m[k]? = some x) (e : l.take k = m.take k) : l.take (k + 1) = m.take (k + 1) := by rw [take_snoc h, take_snoc h', e]
theorem ne_at {α : Type} {l m : List α} {k : Nat} {x y : α} (h : l[k]? = some x) (h' : m[k]? = some y) (e : ¬ x = y) : ¬ l = m := by
  rintro rfl
  rw [h] at h'
  exact e (by injection h')
theorem ne_len {α : Type} {l m : List α} (h : ¬ (l.length : Int) = m.length) : ¬ l = m := fun e => h (by rw [e])
theorem same_take {α : Type} {l m : List α} {k : Nat} (hk : l.length ≤ k) (hl : l.length = m.length) (e : l.take k = m.take k) : l = m := by rwa [List.take_of_length_le hk, List.take_of_length_le (by omega)] at e
abbrev K_eqs_Int (l : List Int) (m : List Int) : Prop := Con Tryz.prog 267 [.one (.sl 3 1 (l.map intD)), .one (.sl 3 1 (m.map intD))] (vB (decide (l = m))) []
theorem eqs_Int (l m : List Int) : K_eqs_Int l m := by
 refine con_x tbOk mixedW Tryz.func267 (by kernel_rfl) (.len l.length <| .len m.length <| .br (.fin []) (.len l.length <| .loop Nat (Q1 Nat) [5, 13, 14, 15, 16, 17, 18, 19, 20, 21, 22, 23, 24, 25] [] (fun k => [(13, vI (k : Int))]) (fun k => []) (fun k => k ≤ l.length ∧ l.take k = m.take k) (fun k => l.length - k) (fun k => .br (.elem _ intD l (fun e18 => .elem _ intD m (fun e22 => .br (.fin []) (.back [])))) (.fin [])))) ?_
 refine Eq.mpr (by kernel_rfl : _ = ((l.map intD).length ≤ 9223372036854775807 → (m.map intD).length ≤ 9223372036854775807 → Lm intD l ∧ (Lm intD m ∧ (((!(decide (((l.length : Nat) : Int) = ((m.length : Nat) : Int)))) = true → (false) = (decide (l = m)) ∧ True) ∧ ((!(decide (((l.length : Nat) : Int) = ((m.length : Nat) : Int)))) = false → Lm intD l ∧ ((∃ (k : Nat), (0 : Int) = (k : Int) ∧ k ≤ l.length ∧ l.take k = m.take k) ∧ ∀ (k : Nat), (k ≤ l.length ∧ l.take k = m.take k) → ((decide ((k : Int) < ((l.length : Nat) : Int))) = true → 0 ≤ (k : Int) ∧ Em intD l k fun e18 => 0 ≤ (k : Int) ∧ Em intD m k fun e22 => ((!(decide (e18 = e22))) = true → (false) = (decide (l = m)) ∧ True) ∧ ((!(decide (e18 = e22))) = false → inR ((k : Int) + (1 : Int)) ∧ ∃ (k' : Nat), ((k : Int) + (1 : Int)) = (k' : Int) ∧ (k' ≤ l.length ∧ l.take k' = m.take k') ∧ l.length - k' < l.length - k)) ∧ ((decide ((k : Int) < ((l.length : Nat) : Int))) = false → (true) = (decide (l = m)) ∧ True))))))) ?_
 intro n0 n1
 simp only [List.length_map] at n0 n1
 refine ⟨List.length_map _, List.length_map _, fun c0 => ?_, fun c0 => ?_⟩
 ·replace c0 := nq (nt c0)
  refine ⟨?_, trivial⟩
  ·first | (simp [ne_at hx hy hxy]; done) | (simp [ne_len c0]; done) | (simp [same_take (by omega) hl ht]; done)
 ·replace c0 := yq (nf c0)
  have hl : l.length = m.length := by omega
  refine ⟨List.length_map _, ⟨0, rfl, Nat.zero_le _, rfl⟩, fun k ⟨hk, ht⟩ => ?_⟩
  refine ⟨fun c1 => ?_, fun c1 => ?_⟩
  ·replace c1 := yq c1
   obtain ⟨x, hx⟩ := at_some (l := l) (k := k) (by omega)
   obtain ⟨y, hy⟩ := at_some (l := m) (k := k) (by omega)
   refine ⟨by omega, rfl, by omega, fun e18 h18 => ?_⟩
   obtain rfl := (same_at hx h18).symm
   refine ⟨by omega, rfl, by omega, fun e22 h22 => ?_⟩
   obtain rfl := (same_at hy h22).symm
   refine ⟨fun c2 => ?_, fun c2 => ?_⟩
   ·replace c2 := nq (nt c2)
    have hxy : ¬ x = y := by simpa using c2
    refine ⟨?_, trivial⟩
    ·first | (simp [ne_at hx hy hxy]; done) | (simp [ne_len c0]; done) | (simp [same_take (by omega) hl ht]; done)
   ·replace c2 := yq (nf c2)
    have hxy : x = y := by simpa using c2
    refine ⟨⟨by omega, by omega⟩, ?_⟩
    exact ⟨k + 1, rfl, ⟨by omega, take_same hx (by rw [hy, hxy]) ht⟩, by omega⟩
  ·replace c1 := nq c1
   refine ⟨?_, trivial⟩
   ·first | (simp [ne_at hx hy hxy]; done) | (simp [ne_len c0]; done) | (simp [same_take (by omega) hl ht]; done)
abbrev K_eqr1 (l : List Int) (m : List Int) : Prop := Con Tryz.prog 299 [.one (.sl 3 1 (l.map intD)), .one (.sl 3 1 (m.map intD))] (vB (decide (l = m))) []
theorem eqr1 (l m : List Int) : K_eqr1 l m := by
 refine con_x tbOk mixedW Tryz.func299 (by kernel_rfl) (.call (vB (decide (l = m))) [] <| .fin []) ?_
 refine Eq.mpr (by kernel_rfl : _ = ((l.map intD).length ≤ 9223372036854775807 → (m.map intD).length ≤ 9223372036854775807 → K_eqs_Int l m ∧ (decide (l = m)) = (decide (l = m)) ∧ True)) ?_
 intro n0 n1
 simp only [List.length_map] at n0 n1
 refine ⟨eqs_Int _ _, ?_, trivial⟩
 ·rfl
abbrev K_eqs_IntSF (l : List (List Int)) (m : List (List Int)) : Prop := Con Tryz.prog 298 [.one (.sl 32 1 (l.map eIntS)), .one (.sl 32 1 (m.map eIntS)), .fn 299 []] (vB (decide (l = m))) []
theorem eqs_IntSF (l m : List (List Int)) : K_eqs_IntSF l m := by
 refine con_x tbOk mixedW Tryz.func298 (by kernel_rfl) (.len l.length <| .len m.length <| .br (.fin []) (.len l.length <| .loop Nat (Q1 Nat) [7, 8, 9, 17, 18, 19, 20, 21, 22, 23, 24, 25, 26, 27, 28, 29, 30, 31] [] (fun k => [(17, vI (k : Int))]) (fun k => []) (fun k => k ≤ l.length ∧ l.take k = m.take k) (fun k => l.length - k) (fun k => .br (.elem _ eIntS l (fun e20 => .elem _ eIntS m (fun e24 => .call (vB (decide (e20 = e24))) [] <| .br (.fin []) (.back [])))) (.fin [])))) ?_
 refine Eq.mpr (by kernel_rfl : _ = ((l.map eIntS).length ≤ 9223372036854775807 → (m.map eIntS).length ≤ 9223372036854775807 → Lm eIntS l ∧ (Lm eIntS m ∧ (((!(decide (((l.length : Nat) : Int) = ((m.length : Nat) : Int)))) = true → (false) = (decide (l = m)) ∧ True) ∧ ((!(decide (((l.length : Nat) : Int) = ((m.length : Nat) : Int)))) = false → Lm eIntS l ∧ ((∃ (k : Nat), (0 : Int) = (k : Int) ∧ k ≤ l.length ∧ l.take k = m.take k) ∧ ∀ (k : Nat), (k ≤ l.length ∧ l.take k = m.take k) → ((decide ((k : Int) < ((l.length : Nat) : Int))) = true → 0 ≤ (k : Int) ∧ Em eIntS l k fun e20 => 0 ≤ (k : Int) ∧ Em eIntS m k fun e24 => K_eqr1 e20 e24 ∧ (((!(decide (e20 = e24))) = true → (false) = (decide (l = m)) ∧ True) ∧ ((!(decide (e20 = e24))) = false → inR ((k : Int) + (1 : Int)) ∧ ∃ (k' : Nat), ((k : Int) + (1 : Int)) = (k' : Int) ∧ (k' ≤ l.length ∧ l.take k' = m.take k') ∧ l.length - k' < l.length - k))) ∧ ((decide ((k : Int) < ((l.length : Nat) : Int))) = false → (true) = (decide (l = m)) ∧ True))))))) ?_
 intro n0 n1
 simp only [List.length_map] at n0 n1
 refine ⟨List.length_map _, List.length_map _, fun c0 => ?_, fun c0 => ?_⟩
 ·replace c0 := nq (nt c0)
  refine ⟨?_, trivial⟩
  ·first | (simp [ne_at hx hy hxy]; done) | (simp [ne_len c0]; done) | (simp [same_take (by omega) hl ht]; done)
 ·replace c0 := yq (nf c0)
  have hl : l.length = m.length := by omega
  refine ⟨List.length_map _, ⟨0, rfl, Nat.zero_le _, rfl⟩, fun k ⟨hk, ht⟩ => ?_⟩
  refine ⟨fun c1 => ?_, fun c1 => ?_⟩
  ·replace c1 := yq c1
   obtain ⟨x, hx⟩ := at_some (l := l) (k := k) (by omega)
   obtain ⟨y, hy⟩ := at_some (l := m) (k := k) (by omega)
   refine ⟨by omega, rfl, by omega, fun e20 h20 => ?_⟩
   obtain rfl := (same_at hx h20).symm
   refine ⟨by omega, rfl, by omega, fun e24 h24 => ?_⟩
   obtain rfl := (same_at hy h24).symm
   refine ⟨eqr1 _ _, fun c2 => ?_, fun c2 => ?_⟩
   ·replace c2 := nq (nt c2)
    have hxy : ¬ x = y := by simpa using c2
    refine ⟨?_, trivial⟩
    ·first | (simp [ne_at hx hy hxy]; done) | (simp [ne_len c0]; done) | (simp [same_take (by omega) hl ht]; done)
   ·replace c2 := yq (nf c2)
    have hxy : x = y := by simpa using c2
    refine ⟨⟨by omega, by omega⟩, ?_⟩
    exact ⟨k + 1, rfl, ⟨by omega, take_same hx (by rw [hy, hxy]) ht⟩, by omega⟩
  ·replace c1 := nq c1
   refine ⟨?_, trivial⟩
   ·first | (simp [ne_at hx hy hxy]; done) | (simp [ne_len c0]; done) | (simp [same_take (by omega) hl ht]; done)
abbrev K_eqRows_impl (l : List (List Int)) (m : List (List Int)) : Prop := Con Tryz.prog 283 [.one (.sl 32 1 (l.map eIntS)), .one (.sl 32 1 (m.map eIntS))] (vB (decide (l = m))) []
theorem eqRows_impl (l m : List (List Int)) : K_eqRows_impl l m := by
 refine con_x tbOk mixedW Tryz.func283 (by kernel_rfl) (.call (vB (decide (l = m))) [] <| .fin []) ?_
 refine Eq.mpr (by kernel_rfl : _ = ((l.map eIntS).length ≤ 9223372036854775807 → (m.map eIntS).length ≤ 9223372036854775807 → K_eqs_IntSF l m ∧ (decide (l = m)) = (decide (l = m)) ∧ True)) ?_
 intro n0 n1
 simp only [List.length_map] at n0 n1
 refine ⟨eqs_IntSF _ _, ?_, trivial⟩
 ·rfl
theorem ext_GroupStats (a b : GroupStatsD) : decide (a = b) = (decide (a.columns = b.columns) && (decide (a.values = b.values) && decide (a.counts = b.counts))) := by
  obtain ⟨a0, a1, a2⟩ := a
  obtain ⟨b0, b1, b2⟩ := b
  simp [Bool.and_assoc]
abbrev K_eqGroups (a : GroupStatsD) (b : GroupStatsD) : Prop := Con Tryz.prog 263 [.agg [.sl 3 1 (a.columns.map intD), .sl 32 1 (a.values.map eIntS), .sl 3 1 (a.counts.map intD)], .agg [.sl 3 1 (b.columns.map intD), .sl 32 1 (b.values.map eIntS), .sl 3 1 (b.counts.map intD)]] (vB (decide (a = b))) []
theorem eqGroups (a b : GroupStatsD) : K_eqGroups a b := by
 refine con_x tbOk mixedW Tryz.func263 (by kernel_rfl) (.call (vB (decide (a.columns = b.columns))) [] <| .br (.call (vB (decide (a.values = b.values))) [] <| .lit <| .br (.call (vB (decide (a.counts = b.counts))) [] <| .fin []) (.fin [])) (.fin [])) ?_
 refine Eq.mpr (by kernel_rfl : _ = ((a.columns.map intD).length ≤ 9223372036854775807 → (a.values.map eIntS).length ≤ 9223372036854775807 → (a.counts.map intD).length ≤ 9223372036854775807 → (b.columns.map intD).length ≤ 9223372036854775807 → (b.values.map eIntS).length ≤ 9223372036854775807 → (b.counts.map intD).length ≤ 9223372036854775807 → K_eqs_Int a.columns b.columns ∧ (((decide (a.columns = b.columns)) = true → K_eqRows_impl a.values b.values ∧ (((decide (a.values = b.values)) = true → K_eqs_Int a.counts b.counts ∧ (decide (a.counts = b.counts)) = (decide (a = b)) ∧ True) ∧ ((decide (a.values = b.values)) = false → (false) = (decide (a = b)) ∧ True))) ∧ ((decide (a.columns = b.columns)) = false → (false) = (decide (a = b)) ∧ True)))) ?_
 intro n0 n1 n2 n3 n4 n5
 simp only [List.length_map] at n0 n1 n2 n3 n4 n5
 refine ⟨eqs_Int _ _, fun g10 => ?_, fun g10 => ?_⟩
 ·replace g10 := yq g10
  refine ⟨eqRows_impl _ _, fun g17 => ?_, fun g17 => ?_⟩
  ·replace g17 := yq g17
   refine ⟨eqs_Int _ _, ?_, trivial⟩
   ·first | (rw [ext_GroupStats]; done) | (rw [ext_GroupStats]; simp_all [str_eq]; done)
  ·replace g17 := nq g17
   refine ⟨?_, trivial⟩
   ·first | (rw [ext_GroupStats]; done) | (rw [ext_GroupStats]; simp_all [str_eq]; done)
 ·replace g10 := nq g10
  refine ⟨?_, trivial⟩
  ·first | (rw [ext_GroupStats]; done) | (rw [ext_GroupStats]; simp_all [str_eq]; done)
abbrev K_eqs_GroupStatsF (l : List GroupStatsD) (m : List GroupStatsD) : Prop := Con Tryz.prog 262 [.one (.sl 218 3 (l.map eGroupStats)), .one (.sl 218 3 (m.map eGroupStats)), .fn 263 []] (vB (decide (l = m))) []
theorem eqs_GroupStatsF (l m : List GroupStatsD) : K_eqs_GroupStatsF l m := by
 refine con_x tbOk mixedW Tryz.func262 (by kernel_rfl) (.len l.length <| .len m.length <| .br (.fin []) (.len l.length <| .loop Nat (Q1 Nat) [7, 8, 9, 17, 18, 19, 20, 21, 22, 23, 24, 25, 26, 27, 28, 29, 30, 31] [800, 900] (fun k => [(17, vI (k : Int))]) (fun k => []) (fun k => k ≤ l.length ∧ l.take k = m.take k) (fun k => l.length - k) (fun k => .br (.elem _ eGroupStats l (fun e20 => .elem _ eGroupStats m (fun e24 => .call (vB (decide (e20 = e24))) [] <| .br (.fin []) (.back [])))) (.fin [])))) ?_
 refine Eq.mpr (by kernel_rfl : _ = ((l.map eGroupStats).length ≤ 9223372036854775807 → (m.map eGroupStats).length ≤ 9223372036854775807 → Lm eGroupStats l ∧ (Lm eGroupStats m ∧ (((!(decide (((l.length : Nat) : Int) = ((m.length : Nat) : Int)))) = true → (false) = (decide (l = m)) ∧ True) ∧ ((!(decide (((l.length : Nat) : Int) = ((m.length : Nat) : Int)))) = false → Lm eGroupStats l ∧ ((∃ (k : Nat), (0 : Int) = (k : Int) ∧ k ≤ l.length ∧ l.take k = m.take k) ∧ ∀ (k : Nat), (k ≤ l.length ∧ l.take k = m.take k) → ((decide ((k : Int) < ((l.length : Nat) : Int))) = true → 0 ≤ (k : Int) ∧ Em eGroupStats l k fun e20 => 0 ≤ (k : Int) ∧ Em eGroupStats m k fun e24 => K_eqGroups e20 e24 ∧ (((!(decide (e20 = e24))) = true → (false) = (decide (l = m)) ∧ True) ∧ ((!(decide (e20 = e24))) = false → inR ((k : Int) + (1 : Int)) ∧ ∃ (k' : Nat), ((k : Int) + (1 : Int)) = (k' : Int) ∧ (k' ≤ l.length ∧ l.take k' = m.take k') ∧ l.length - k' < l.length - k))) ∧ ((decide ((k : Int) < ((l.length : Nat) : Int))) = false → (true) = (decide (l = m)) ∧ True))))))) ?_
 intro n0 n1
 simp only [List.length_map] at n0 n1
 refine ⟨List.length_map _, List.length_map _, fun c0 => ?_, fun c0 => ?_⟩
 ·replace c0 := nq (nt c0)
  refine ⟨?_, trivial⟩
  ·first | (simp [ne_at hx hy hxy]; done) | (simp [ne_len c0]; done) | (simp [same_take (by omega) hl ht]; done)
 ·replace c0 := yq (nf c0)
  have hl : l.length = m.length := by omega
  refine ⟨List.length_map _, ⟨0, rfl, Nat.zero_le _, rfl⟩, fun k ⟨hk, ht⟩ => ?_⟩
  refine ⟨fun c1 => ?_, fun c1 => ?_⟩
  ·replace c1 := yq c1
   obtain ⟨x, hx⟩ := at_some (l := l) (k := k) (by omega)
   obtain ⟨y, hy⟩ := at_some (l := m) (k := k) (by omega)
   refine ⟨by omega, rfl, by omega, fun e20 h20 => ?_⟩
   obtain rfl := (same_at hx h20).symm
   refine ⟨by omega, rfl, by omega, fun e24 h24 => ?_⟩
   obtain rfl := (same_at hy h24).symm
   refine ⟨eqGroups _ _, fun c2 => ?_, fun c2 => ?_⟩
   ·replace c2 := nq (nt c2)
    have hxy : ¬ x = y := by simpa using c2
    refine ⟨?_, trivial⟩
    ·first | (simp [ne_at hx hy hxy]; done) | (simp [ne_len c0]; done) | (simp [same_take (by omega) hl ht]; done)
   ·replace c2 := yq (nf c2)
    have hxy : x = y := by simpa using c2
    refine ⟨⟨by omega, by omega⟩, ?_⟩
    exact ⟨k + 1, rfl, ⟨by omega, take_same hx (by rw [hy, hxy]) ht⟩, by omega⟩
  ·replace c1 := nq c1
   refine ⟨?_, trivial⟩
   ·first | (simp [ne_at hx hy hxy]; done) | (simp [ne_len c0]; done) | (simp [same_take (by omega) hl ht]; done)
theorem ext_TableStats (a b : TableStatsD) : decide (a = b) = (decide (a.name = b.name) && (decide (a.arity = b.arity) && (decide (a.rowCount = b.rowCount) && decide (a.groups = b.groups)))) := by
  obtain ⟨a0, a1, a2, a3⟩ := a
  obtain ⟨b0, b1, b2, b3⟩ := b
  simp [Bool.and_assoc]
abbrev K_eqStats_impl (a : TableStatsD) (b : TableStatsD) : Prop := Con Tryz.prog 222 [.agg [.str a.name, .int .i64 a.arity, .int .i64 a.rowCount, .sl 218 3 (a.groups.map eGroupStats)], .agg [.str b.name, .int .i64 b.arity, .int .i64 b.rowCount, .sl 218 3 (b.groups.map eGroupStats)]] (vB (decide (a = b))) []
theorem eqStats_impl (a b : TableStatsD) : K_eqStats_impl a b := by
 refine con_x tbOk mixedW Tryz.func222 (by kernel_rfl) (.br (.lit <| .lit <| .lit <| .lit <| .lit <| .br (.lit <| .lit <| .lit <| .lit <| .lit <| .br (.call (vB (decide (a.groups = b.groups))) [] <| .fin []) (.fin [])) (.fin [])) (.fin [])) ?_
 refine Eq.mpr (by kernel_rfl : _ = ((a.groups.map eGroupStats).length ≤ 9223372036854775807 → (b.groups.map eGroupStats).length ≤ 9223372036854775807 → ((a.name.toList == b.name.toList) = true → ((decide (a.arity = b.arity)) = true → ((decide (a.rowCount = b.rowCount)) = true → K_eqs_GroupStatsF a.groups b.groups ∧ (decide (a.groups = b.groups)) = (decide (a = b)) ∧ True) ∧ ((decide (a.rowCount = b.rowCount)) = false → (false) = (decide (a = b)) ∧ True)) ∧ ((decide (a.arity = b.arity)) = false → (false) = (decide (a = b)) ∧ True)) ∧ ((a.name.toList == b.name.toList) = false → (false) = (decide (a = b)) ∧ True))) ?_
 intro n0 n1
 simp only [List.length_map] at n0 n1
 refine ⟨fun g10 => ?_, fun g10 => ?_⟩
 ·refine ⟨fun g17 => ?_, fun g17 => ?_⟩
  ·replace g17 := yq g17
   refine ⟨fun g24 => ?_, fun g24 => ?_⟩
   ·replace g24 := yq g24
    refine ⟨eqs_GroupStatsF _ _, ?_, trivial⟩
    ·first | (rw [ext_TableStats]; done) | (rw [ext_TableStats]; simp_all [str_eq]; done)
   ·replace g24 := nq g24
    refine ⟨?_, trivial⟩
    ·first | (rw [ext_TableStats]; done) | (rw [ext_TableStats]; simp_all [str_eq]; done)
  ·replace g17 := nq g17
   refine ⟨?_, trivial⟩
   ·first | (rw [ext_TableStats]; done) | (rw [ext_TableStats]; simp_all [str_eq]; done)
 ·refine ⟨?_, trivial⟩
  ·first | (rw [ext_TableStats]; done) | (rw [ext_TableStats]; simp_all [str_eq]; done)
abbrev K_eqs_TableStatsF (l : List TableStatsD) (m : List TableStatsD) : Prop := Con Tryz.prog 221 [.one (.sl 121 4 (l.map eTableStats)), .one (.sl 121 4 (m.map eTableStats)), .fn 222 []] (vB (decide (l = m))) []
theorem eqs_TableStatsF (l m : List TableStatsD) : K_eqs_TableStatsF l m := by
 refine con_x tbOk mixedW Tryz.func221 (by kernel_rfl) (.len l.length <| .len m.length <| .br (.fin []) (.len l.length <| .loop Nat (Q1 Nat) [7, 8, 9, 17, 18, 19, 20, 21, 22, 23, 24, 25, 26, 27, 28, 29, 30, 31] [800, 900] (fun k => [(17, vI (k : Int))]) (fun k => []) (fun k => k ≤ l.length ∧ l.take k = m.take k) (fun k => l.length - k) (fun k => .br (.elem _ eTableStats l (fun e20 => .elem _ eTableStats m (fun e24 => .call (vB (decide (e20 = e24))) [] <| .br (.fin []) (.back [])))) (.fin [])))) ?_
 refine Eq.mpr (by kernel_rfl : _ = ((l.map eTableStats).length ≤ 9223372036854775807 → (m.map eTableStats).length ≤ 9223372036854775807 → Lm eTableStats l ∧ (Lm eTableStats m ∧ (((!(decide (((l.length : Nat) : Int) = ((m.length : Nat) : Int)))) = true → (false) = (decide (l = m)) ∧ True) ∧ ((!(decide (((l.length : Nat) : Int) = ((m.length : Nat) : Int)))) = false → Lm eTableStats l ∧ ((∃ (k : Nat), (0 : Int) = (k : Int) ∧ k ≤ l.length ∧ l.take k = m.take k) ∧ ∀ (k : Nat), (k ≤ l.length ∧ l.take k = m.take k) → ((decide ((k : Int) < ((l.length : Nat) : Int))) = true → 0 ≤ (k : Int) ∧ Em eTableStats l k fun e20 => 0 ≤ (k : Int) ∧ Em eTableStats m k fun e24 => K_eqStats_impl e20 e24 ∧ (((!(decide (e20 = e24))) = true → (false) = (decide (l = m)) ∧ True) ∧ ((!(decide (e20 = e24))) = false → inR ((k : Int) + (1 : Int)) ∧ ∃ (k' : Nat), ((k : Int) + (1 : Int)) = (k' : Int) ∧ (k' ≤ l.length ∧ l.take k' = m.take k') ∧ l.length - k' < l.length - k))) ∧ ((decide ((k : Int) < ((l.length : Nat) : Int))) = false → (true) = (decide (l = m)) ∧ True))))))) ?_
 intro n0 n1
 simp only [List.length_map] at n0 n1
 refine ⟨List.length_map _, List.length_map _, fun c0 => ?_, fun c0 => ?_⟩
 ·replace c0 := nq (nt c0)
  refine ⟨?_, trivial⟩
  ·first | (simp [ne_at hx hy hxy]; done) | (simp [ne_len c0]; done) | (simp [same_take (by omega) hl ht]; done)
 ·replace c0 := yq (nf c0)
  have hl : l.length = m.length := by omega
  refine ⟨List.length_map _, ⟨0, rfl, Nat.zero_le _, rfl⟩, fun k ⟨hk, ht⟩ => ?_⟩
  refine ⟨fun c1 => ?_, fun c1 => ?_⟩
  ·replace c1 := yq c1
   obtain ⟨x, hx⟩ := at_some (l := l) (k := k) (by omega)
   obtain ⟨y, hy⟩ := at_some (l := m) (k := k) (by omega)
   refine ⟨by omega, rfl, by omega, fun e20 h20 => ?_⟩
   obtain rfl := (same_at hx h20).symm
   refine ⟨by omega, rfl, by omega, fun e24 h24 => ?_⟩
   obtain rfl := (same_at hy h24).symm
   refine ⟨eqStats_impl _ _, fun c2 => ?_, fun c2 => ?_⟩
   ·replace c2 := nq (nt c2)
    have hxy : ¬ x = y := by simpa using c2
    refine ⟨?_, trivial⟩
    ·first | (simp [ne_at hx hy hxy]; done) | (simp [ne_len c0]; done) | (simp [same_take (by omega) hl ht]; done)
   ·replace c2 := yq (nf c2)
    have hxy : x = y := by simpa using c2
    refine ⟨⟨by omega, by omega⟩, ?_⟩
    exact ⟨k + 1, rfl, ⟨by omega, take_same hx (by rw [hy, hxy]) ht⟩, by omega⟩
  ·replace c1 := nq c1
   refine ⟨?_, trivial⟩
   ·first | (simp [ne_at hx hy hxy]; done) | (simp [ne_len c0]; done) | (simp [same_take (by omega) hl ht]; done)
theorem ext_Catalogue (a b : CatalogueD) : decide (a = b) = (decide (a.version = b.version) && decide (a.tables = b.tables)) := by
  obtain ⟨a0, a1⟩ := a
  obtain ⟨b0, b1⟩ := b
  simp [Bool.and_assoc]
abbrev K_eqCat_impl (a : CatalogueD) (b : CatalogueD) : Prop := Con Tryz.prog 147 [.agg [.int .i64 a.version, .sl 121 4 (a.tables.map eTableStats)], .agg [.int .i64 b.version, .sl 121 4 (b.tables.map eTableStats)]] (vB (decide (a = b))) []
theorem eqCat_impl (a b : CatalogueD) : K_eqCat_impl a b := by
 refine con_x tbOk mixedW Tryz.func147 (by kernel_rfl) (.br (.call (vB (decide (a.tables = b.tables))) [] <| .fin []) (.fin [])) ?_
 refine Eq.mpr (by kernel_rfl : _ = ((a.tables.map eTableStats).length ≤ 9223372036854775807 → (b.tables.map eTableStats).length ≤ 9223372036854775807 → ((decide (a.version = b.version)) = true → K_eqs_TableStatsF a.tables b.tables ∧ (decide (a.tables = b.tables)) = (decide (a = b)) ∧ True) ∧ ((decide (a.version = b.version)) = false → (false) = (decide (a = b)) ∧ True))) ?_
 intro n0 n1
 simp only [List.length_map] at n0 n1
 refine ⟨fun g10 => ?_, fun g10 => ?_⟩
 ·replace g10 := yq g10
  refine ⟨eqs_TableStatsF _ _, ?_, trivial⟩
  ·first | (rw [ext_Catalogue]; done) | (rw [ext_Catalogue]; simp_all [str_eq]; done)
 ·replace g10 := nq g10
  refine ⟨?_, trivial⟩
  ·first | (rw [ext_Catalogue]; done) | (rw [ext_Catalogue]; simp_all [str_eq]; done)
end Go.Proofs.YtokkjaflmcjlhaaGreat
