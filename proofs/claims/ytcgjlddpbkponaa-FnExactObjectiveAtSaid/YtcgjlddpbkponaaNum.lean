/-
  Contracts of the two range tests, program and reference.
-/
import Derived.Test.YtcgjlddpbkponaaMem
namespace Go.Proofs.Ytcgjlddpbkponaa
open Go.ChangeShapes Go.WideShapes Go.ChangeAt Go.RowKit

/-- n lies in the range a to b. -/
def inB (n a b : Int) : Bool := decide (a ≤ n) && decide (n ≤ b)
theorem inB_true {n a b : Int} (h : inB n a b = true) : a ≤ n ∧ n ≤ b := by simpa [inB] using h
theorem inB_false {n a b : Int} (h : inB n a b = false) : n < a ∨ b < n := by simp [inB] at h; omega
theorem inB_mk {n a b : Int} (h : a ≤ n) (h' : n ≤ b) : inB n a b = true := by simp [inB, h, h']
theorem inB_no {n a b : Int} (h : n < a ∨ b < n) : inB n a b = false := by simp [inB]; omega


theorem within_any (n a b : Int) (w : World) : Calls Try.prog 62 #[.int .i64 n, .int .i64 a, .int .i64 b] w fun e w' => e = .returned (.bool (inB n a b)) ∧ w = w' := by
  by_cases h : a ≤ n
  · by_cases h' : n ≤ b
    · go_enter Try.func62, Try.ntmps62
      go_wp2
      go_ret
      exact ⟨ret_bool (inB_mk h h').symm, rfl⟩
    · go_enter Try.func62, Try.ntmps62
      go_wp2
      go_ret
      exact ⟨ret_bool (inB_no (.inr (by omega))).symm, rfl⟩
  · go_enter Try.func62, Try.ntmps62
    go_wp2
    go_ret
    exact ⟨ret_bool (inB_no (.inl (by omega))).symm, rfl⟩

theorem l1In_any (n a b : Int) (w : World) : Calls Try.prog 59 #[.int .i64 n, .int .i64 a, .int .i64 b] w fun e w' => e = .returned (.bool (inB n a b)) ∧ w = w' := by
  by_cases h : a ≤ n
  · by_cases h' : n ≤ b
    · go_enter Try.func59, Try.ntmps59
      go_wp2
      go_ret
      exact ⟨ret_bool (inB_mk h h').symm, rfl⟩
    · go_enter Try.func59, Try.ntmps59
      go_wp2
      go_ret
      exact ⟨ret_bool (inB_no (.inr (by omega))).symm, rfl⟩
  · go_enter Try.func59, Try.ntmps59
    go_wp2
    go_ret
    exact ⟨ret_bool (inB_no (.inl (by omega))).symm, rfl⟩

theorem pow2_le (b : Nat) (h : b ≤ 12) : 1 ≤ (2 : Int) ^ b ∧ (2 : Int) ^ b ≤ 4096 := by
  have : ∀ b : Fin 13, 1 ≤ (2 : Int) ^ b.1 ∧ (2 : Int) ^ b.1 ≤ 4096 := by decide
  exact this ⟨b, by omega⟩
end Go.Proofs.Ytcgjlddpbkponaa
