/-
  Facts on types.
-/
import Derived.Test.YtcgjlddpbkponaaEq
namespace Go.Proofs.Ytcgjlddpbkponaa
open Go.ChangeShapes Go.WideShapes Go.ChangeAt Go.RowKit
set_option linter.unusedVariables false
set_option linter.unusedSimpArgs false
theorem mixed : Try.prog.follows .mixedOrders = true := by kernel_rfl
theorem ty3 : tyOf Try.prog 3 = some (false, 1, 8, .int .i64 0) := by kernel_rfl
theorem ty22 : tyOf Try.prog 22 = some (false, 1, 24, .slice none 0 0) := by kernel_rfl
theorem ty25 : tyOf Try.prog 25 = some (true, 3, 72, .agg #[.slice none 0 0, .slice none 0 0, .slice none 0 0]) := by kernel_rfl
theorem ty28 : tyOf Try.prog 28 = some (true, 3, 72, .agg #[.slice none 0 0, .slice none 0 0, .slice none 0 0]) := by kernel_rfl
theorem ty35 : tyOf Try.prog 35 = some (true, 2, 16, .agg #[.int .i64 0, .int .i64 0]) := by kernel_rfl
theorem fl28_0 : fieldOf Try.prog 28 0 = some (0, 22) := by kernel_rfl
theorem fl28_2 : fieldOf Try.prog 28 2 = some (2, 22) := by kernel_rfl
theorem fl35_0 : fieldOf Try.prog 35 0 = some (0, 3) := by kernel_rfl
theorem fl35_1 : fieldOf Try.prog 35 1 = some (1, 3) := by kernel_rfl
theorem pl35 : placesOf Try.prog 35 = some (.agg #[.int .i64 0, .int .i64 0], [(0, 1), (1, 1)]) := by kernel_rfl
end Go.Proofs.Ytcgjlddpbkponaa
