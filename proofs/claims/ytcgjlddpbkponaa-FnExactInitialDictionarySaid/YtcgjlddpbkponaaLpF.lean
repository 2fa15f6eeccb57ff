/-
  Facts on types.
-/
import Derived.Test.YtcgjlddpbkponaaEng2
namespace Go.Proofs.Ytcgjlddpbkponaa
open Go.ChangeShapes Go.WideShapes Go.ChangeAt Go.RowKit
set_option linter.unusedVariables false
set_option linter.unusedSimpArgs false
theorem mixed : Try.prog.follows .mixedOrders = true := by kernel_rfl
theorem ty2 : tyOf Try.prog 2 = some (false, 1, 8, .int .i64 0) := by kernel_rfl
theorem ty3 : tyOf Try.prog 3 = some (false, 1, 8, .int .i64 0) := by kernel_rfl
theorem ty4 : tyOf Try.prog 4 = some (false, 1, 1, .bool false) := by kernel_rfl
theorem ty5 : tyOf Try.prog 5 = some (false, 1, 1, .int .u8 0) := by kernel_rfl
theorem ty6 : tyOf Try.prog 6 = some (false, 1, 1, .int .u8 0) := by kernel_rfl
theorem ty7 : tyOf Try.prog 7 = some (true, 4, 24, .agg #[.int .i64 0, .int .i64 0, .bool false, .int .u8 0]) := by kernel_rfl
theorem ty8 : tyOf Try.prog 8 = some (true, 4, 24, .agg #[.int .i64 0, .int .i64 0, .bool false, .int .u8 0]) := by kernel_rfl
theorem ty9 : tyOf Try.prog 9 = some (false, 1, 16, .string ByteArray.empty) := by kernel_rfl
theorem ty10 : tyOf Try.prog 10 = some (false, 1, 16, .string ByteArray.empty) := by kernel_rfl
theorem ty11 : tyOf Try.prog 11 = some (false, 1, 16, .string ByteArray.empty) := by kernel_rfl
theorem ty12 : tyOf Try.prog 12 = some (false, 1, 8, .int .u64 0) := by kernel_rfl
theorem ty13 : tyOf Try.prog 13 = some (true, 2, 24, .agg #[.string ByteArray.empty, .int .u64 0]) := by kernel_rfl
theorem ty14 : tyOf Try.prog 14 = some (true, 2, 24, .agg #[.string ByteArray.empty, .int .u64 0]) := by kernel_rfl
theorem ty21 : tyOf Try.prog 21 = some (false, 1, 4, .int .i32 0) := by kernel_rfl
theorem ty22 : tyOf Try.prog 22 = some (false, 1, 24, .slice none 0 0) := by kernel_rfl
theorem ty23 : tyOf Try.prog 23 = some (false, 1, 24, .slice none 0 0) := by kernel_rfl
theorem ty24 : tyOf Try.prog 24 = some (true, 3, 72, .agg #[.slice none 0 0, .slice none 0 0, .slice none 0 0]) := by kernel_rfl
theorem ty25 : tyOf Try.prog 25 = some (true, 3, 72, .agg #[.slice none 0 0, .slice none 0 0, .slice none 0 0]) := by kernel_rfl
theorem ty28 : tyOf Try.prog 28 = some (true, 3, 72, .agg #[.slice none 0 0, .slice none 0 0, .slice none 0 0]) := by kernel_rfl
theorem ty32 : tyOf Try.prog 32 = some (false, 1, 24, .slice none 0 0) := by kernel_rfl
theorem ty34 : tyOf Try.prog 34 = some (true, 2, 16, .agg #[.int .i64 0, .int .i64 0]) := by kernel_rfl
theorem ty35 : tyOf Try.prog 35 = some (true, 2, 16, .agg #[.int .i64 0, .int .i64 0]) := by kernel_rfl
theorem ty38 : tyOf Try.prog 38 = some (false, 1, 24, .slice none 0 0) := by kernel_rfl
theorem ty43 : tyOf Try.prog 43 = some (false, 1, 24, .slice none 0 0) := by kernel_rfl
theorem ty44 : tyOf Try.prog 44 = some (true, 7, 136, .agg #[.slice none 0 0, .slice none 0 0, .slice none 0 0, .slice none 0 0, .slice none 0 0, .int .i64 0, .int .i64 0]) := by kernel_rfl
theorem ty45 : tyOf Try.prog 45 = some (true, 7, 136, .agg #[.slice none 0 0, .slice none 0 0, .slice none 0 0, .slice none 0 0, .slice none 0 0, .int .i64 0, .int .i64 0]) := by kernel_rfl
theorem ty52 : tyOf Try.prog 52 = some (true, 2, 16, .agg #[.int .i64 0, .int .i64 0]) := by kernel_rfl
theorem ty53 : tyOf Try.prog 53 = some (true, 4, 64, .agg #[.int .i64 0, .int .i64 0, .slice none 0 0, .slice none 0 0]) := by kernel_rfl
theorem ty54 : tyOf Try.prog 54 = some (true, 4, 64, .agg #[.int .i64 0, .int .i64 0, .slice none 0 0, .slice none 0 0]) := by kernel_rfl
theorem ty57 : tyOf Try.prog 57 = some (true, 4, 64, .agg #[.int .i64 0, .int .i64 0, .slice none 0 0, .slice none 0 0]) := by kernel_rfl
theorem ty58 : tyOf Try.prog 58 = some (true, 4, 64, .agg #[.int .i64 0, .int .i64 0, .slice none 0 0, .slice none 0 0]) := by kernel_rfl
theorem ty62 : tyOf Try.prog 62 = some (false, 1, 24, .slice none 0 0) := by kernel_rfl
theorem ty63 : tyOf Try.prog 63 = some (true, 7, 136, .agg #[.slice none 0 0, .slice none 0 0, .slice none 0 0, .slice none 0 0, .slice none 0 0, .int .i64 0, .int .i64 0]) := by kernel_rfl
theorem ty64 : tyOf Try.prog 64 = some (true, 7, 136, .agg #[.slice none 0 0, .slice none 0 0, .slice none 0 0, .slice none 0 0, .slice none 0 0, .int .i64 0, .int .i64 0]) := by kernel_rfl
theorem ty105 : tyOf Try.prog 105 = some (false, 1, 8, .int .u64 0) := by kernel_rfl
theorem ty108 : tyOf Try.prog 108 = some (true, 1, 1, .agg #[.bool false]) := by kernel_rfl
theorem ty109 : tyOf Try.prog 109 = some (true, 1, 1, .agg #[.bool false]) := by kernel_rfl
theorem ty114 : tyOf Try.prog 114 = some (false, 1, 8, .int .i64 0) := by kernel_rfl
theorem ty123 : tyOf Try.prog 123 = some (false, 1, 4, .int .u32 0) := by kernel_rfl
theorem ty125 : tyOf Try.prog 125 = some (false, 1, 8, .int .u64 0) := by kernel_rfl
theorem ty126 : tyOf Try.prog 126 = some (false, 1, 8, .int .u64 0) := by kernel_rfl
theorem ty140 : tyOf Try.prog 140 = some (true, 0, 0, .agg #[]) := by kernel_rfl
theorem ty141 : tyOf Try.prog 141 = some (true, 0, 0, .agg #[]) := by kernel_rfl
theorem ty143 : tyOf Try.prog 143 = some (false, 1, 1, .int .u8 0) := by kernel_rfl
theorem ty144 : tyOf Try.prog 144 = some (false, 1, 1, .int .u8 0) := by kernel_rfl
theorem ty147 : tyOf Try.prog 147 = some (false, 1, 4, .int .i32 0) := by kernel_rfl
theorem ty148 : tyOf Try.prog 148 = some (false, 1, 4, .int .i32 0) := by kernel_rfl
theorem fl7_0 : fieldOf Try.prog 7 0 = some (0, 2) := by kernel_rfl
theorem fl7_1 : fieldOf Try.prog 7 1 = some (1, 3) := by kernel_rfl
theorem fl7_2 : fieldOf Try.prog 7 2 = some (2, 4) := by kernel_rfl
theorem fl7_3 : fieldOf Try.prog 7 3 = some (3, 6) := by kernel_rfl
theorem fl8_0 : fieldOf Try.prog 8 0 = some (0, 2) := by kernel_rfl
theorem fl8_1 : fieldOf Try.prog 8 1 = some (1, 3) := by kernel_rfl
theorem fl8_2 : fieldOf Try.prog 8 2 = some (2, 4) := by kernel_rfl
theorem fl8_3 : fieldOf Try.prog 8 3 = some (3, 6) := by kernel_rfl
theorem fl13_0 : fieldOf Try.prog 13 0 = some (0, 9) := by kernel_rfl
theorem fl13_1 : fieldOf Try.prog 13 1 = some (1, 12) := by kernel_rfl
theorem fl14_0 : fieldOf Try.prog 14 0 = some (0, 9) := by kernel_rfl
theorem fl14_1 : fieldOf Try.prog 14 1 = some (1, 12) := by kernel_rfl
theorem fl24_0 : fieldOf Try.prog 24 0 = some (0, 22) := by kernel_rfl
theorem fl24_1 : fieldOf Try.prog 24 1 = some (1, 23) := by kernel_rfl
theorem fl24_2 : fieldOf Try.prog 24 2 = some (2, 22) := by kernel_rfl
theorem fl25_0 : fieldOf Try.prog 25 0 = some (0, 22) := by kernel_rfl
theorem fl25_1 : fieldOf Try.prog 25 1 = some (1, 23) := by kernel_rfl
theorem fl25_2 : fieldOf Try.prog 25 2 = some (2, 22) := by kernel_rfl
theorem fl28_0 : fieldOf Try.prog 28 0 = some (0, 22) := by kernel_rfl
theorem fl28_1 : fieldOf Try.prog 28 1 = some (1, 23) := by kernel_rfl
theorem fl28_2 : fieldOf Try.prog 28 2 = some (2, 22) := by kernel_rfl
theorem fl34_0 : fieldOf Try.prog 34 0 = some (0, 3) := by kernel_rfl
theorem fl34_1 : fieldOf Try.prog 34 1 = some (1, 3) := by kernel_rfl
theorem fl35_0 : fieldOf Try.prog 35 0 = some (0, 3) := by kernel_rfl
theorem fl35_1 : fieldOf Try.prog 35 1 = some (1, 3) := by kernel_rfl
theorem fl44_0 : fieldOf Try.prog 44 0 = some (0, 22) := by kernel_rfl
theorem fl44_1 : fieldOf Try.prog 44 1 = some (1, 22) := by kernel_rfl
theorem fl44_2 : fieldOf Try.prog 44 2 = some (2, 43) := by kernel_rfl
theorem fl44_3 : fieldOf Try.prog 44 3 = some (3, 38) := by kernel_rfl
theorem fl44_4 : fieldOf Try.prog 44 4 = some (4, 38) := by kernel_rfl
theorem fl44_5 : fieldOf Try.prog 44 5 = some (5, 35) := by kernel_rfl
theorem fl45_0 : fieldOf Try.prog 45 0 = some (0, 22) := by kernel_rfl
theorem fl45_1 : fieldOf Try.prog 45 1 = some (1, 22) := by kernel_rfl
theorem fl45_2 : fieldOf Try.prog 45 2 = some (2, 43) := by kernel_rfl
theorem fl45_3 : fieldOf Try.prog 45 3 = some (3, 38) := by kernel_rfl
theorem fl45_4 : fieldOf Try.prog 45 4 = some (4, 38) := by kernel_rfl
theorem fl45_5 : fieldOf Try.prog 45 5 = some (5, 35) := by kernel_rfl
theorem fl52_0 : fieldOf Try.prog 52 0 = some (0, 3) := by kernel_rfl
theorem fl52_1 : fieldOf Try.prog 52 1 = some (1, 3) := by kernel_rfl
theorem fl53_0 : fieldOf Try.prog 53 0 = some (0, 52) := by kernel_rfl
theorem fl53_1 : fieldOf Try.prog 53 1 = some (2, 32) := by kernel_rfl
theorem fl53_2 : fieldOf Try.prog 53 2 = some (3, 32) := by kernel_rfl
theorem fl54_0 : fieldOf Try.prog 54 0 = some (0, 52) := by kernel_rfl
theorem fl54_1 : fieldOf Try.prog 54 1 = some (2, 32) := by kernel_rfl
theorem fl54_2 : fieldOf Try.prog 54 2 = some (3, 32) := by kernel_rfl
theorem fl57_0 : fieldOf Try.prog 57 0 = some (0, 35) := by kernel_rfl
theorem fl57_1 : fieldOf Try.prog 57 1 = some (2, 38) := by kernel_rfl
theorem fl57_2 : fieldOf Try.prog 57 2 = some (3, 38) := by kernel_rfl
theorem fl58_0 : fieldOf Try.prog 58 0 = some (0, 35) := by kernel_rfl
theorem fl58_1 : fieldOf Try.prog 58 1 = some (2, 38) := by kernel_rfl
theorem fl58_2 : fieldOf Try.prog 58 2 = some (3, 38) := by kernel_rfl
theorem fl63_0 : fieldOf Try.prog 63 0 = some (0, 22) := by kernel_rfl
theorem fl63_1 : fieldOf Try.prog 63 1 = some (1, 22) := by kernel_rfl
theorem fl63_2 : fieldOf Try.prog 63 2 = some (2, 62) := by kernel_rfl
theorem fl63_3 : fieldOf Try.prog 63 3 = some (3, 32) := by kernel_rfl
theorem fl63_4 : fieldOf Try.prog 63 4 = some (4, 32) := by kernel_rfl
theorem fl63_5 : fieldOf Try.prog 63 5 = some (5, 52) := by kernel_rfl
theorem fl64_0 : fieldOf Try.prog 64 0 = some (0, 22) := by kernel_rfl
theorem fl64_1 : fieldOf Try.prog 64 1 = some (1, 22) := by kernel_rfl
theorem fl64_2 : fieldOf Try.prog 64 2 = some (2, 62) := by kernel_rfl
theorem fl64_3 : fieldOf Try.prog 64 3 = some (3, 32) := by kernel_rfl
theorem fl64_4 : fieldOf Try.prog 64 4 = some (4, 32) := by kernel_rfl
theorem fl64_5 : fieldOf Try.prog 64 5 = some (5, 52) := by kernel_rfl
theorem fl108_0 : fieldOf Try.prog 108 0 = some (0, 4) := by kernel_rfl
theorem fl109_0 : fieldOf Try.prog 109 0 = some (0, 4) := by kernel_rfl
theorem pl7 : placesOf Try.prog 7 = some (.agg #[.int .i64 0, .int .i64 0, .bool false, .int .u8 0], [(0, 1), (1, 1), (2, 1), (3, 1)]) := by kernel_rfl
theorem pl8 : placesOf Try.prog 8 = some (.agg #[.int .i64 0, .int .i64 0, .bool false, .int .u8 0], [(0, 1), (1, 1), (2, 1), (3, 1)]) := by kernel_rfl
theorem pl13 : placesOf Try.prog 13 = some (.agg #[.string ByteArray.empty, .int .u64 0], [(0, 1), (1, 1)]) := by kernel_rfl
theorem pl14 : placesOf Try.prog 14 = some (.agg #[.string ByteArray.empty, .int .u64 0], [(0, 1), (1, 1)]) := by kernel_rfl
theorem pl24 : placesOf Try.prog 24 = some (.agg #[.slice none 0 0, .slice none 0 0, .slice none 0 0], [(0, 1), (1, 1), (2, 1)]) := by kernel_rfl
theorem pl25 : placesOf Try.prog 25 = some (.agg #[.slice none 0 0, .slice none 0 0, .slice none 0 0], [(0, 1), (1, 1), (2, 1)]) := by kernel_rfl
theorem pl28 : placesOf Try.prog 28 = some (.agg #[.slice none 0 0, .slice none 0 0, .slice none 0 0], [(0, 1), (1, 1), (2, 1)]) := by kernel_rfl
theorem pl34 : placesOf Try.prog 34 = some (.agg #[.int .i64 0, .int .i64 0], [(0, 1), (1, 1)]) := by kernel_rfl
theorem pl35 : placesOf Try.prog 35 = some (.agg #[.int .i64 0, .int .i64 0], [(0, 1), (1, 1)]) := by kernel_rfl
theorem pl44 : placesOf Try.prog 44 = some (.agg #[.slice none 0 0, .slice none 0 0, .slice none 0 0, .slice none 0 0, .slice none 0 0, .int .i64 0, .int .i64 0], [(0, 1), (1, 1), (2, 1), (3, 1), (4, 1), (5, 2)]) := by kernel_rfl
theorem pl45 : placesOf Try.prog 45 = some (.agg #[.slice none 0 0, .slice none 0 0, .slice none 0 0, .slice none 0 0, .slice none 0 0, .int .i64 0, .int .i64 0], [(0, 1), (1, 1), (2, 1), (3, 1), (4, 1), (5, 2)]) := by kernel_rfl
theorem pl52 : placesOf Try.prog 52 = some (.agg #[.int .i64 0, .int .i64 0], [(0, 1), (1, 1)]) := by kernel_rfl
theorem pl53 : placesOf Try.prog 53 = some (.agg #[.int .i64 0, .int .i64 0, .slice none 0 0, .slice none 0 0], [(0, 2), (2, 1), (3, 1)]) := by kernel_rfl
theorem pl54 : placesOf Try.prog 54 = some (.agg #[.int .i64 0, .int .i64 0, .slice none 0 0, .slice none 0 0], [(0, 2), (2, 1), (3, 1)]) := by kernel_rfl
theorem pl57 : placesOf Try.prog 57 = some (.agg #[.int .i64 0, .int .i64 0, .slice none 0 0, .slice none 0 0], [(0, 2), (2, 1), (3, 1)]) := by kernel_rfl
theorem pl58 : placesOf Try.prog 58 = some (.agg #[.int .i64 0, .int .i64 0, .slice none 0 0, .slice none 0 0], [(0, 2), (2, 1), (3, 1)]) := by kernel_rfl
theorem pl63 : placesOf Try.prog 63 = some (.agg #[.slice none 0 0, .slice none 0 0, .slice none 0 0, .slice none 0 0, .slice none 0 0, .int .i64 0, .int .i64 0], [(0, 1), (1, 1), (2, 1), (3, 1), (4, 1), (5, 2)]) := by kernel_rfl
theorem pl64 : placesOf Try.prog 64 = some (.agg #[.slice none 0 0, .slice none 0 0, .slice none 0 0, .slice none 0 0, .slice none 0 0, .int .i64 0, .int .i64 0], [(0, 1), (1, 1), (2, 1), (3, 1), (4, 1), (5, 2)]) := by kernel_rfl
theorem pl108 : placesOf Try.prog 108 = some (.agg #[.bool false], [(0, 1)]) := by kernel_rfl
theorem pl109 : placesOf Try.prog 109 = some (.agg #[.bool false], [(0, 1)]) := by kernel_rfl
theorem pl140 : placesOf Try.prog 140 = some (.agg #[], [(0, 0)]) := by kernel_rfl
theorem pl141 : placesOf Try.prog 141 = some (.agg #[], [(0, 0)]) := by kernel_rfl
end Go.Proofs.Ytcgjlddpbkponaa
