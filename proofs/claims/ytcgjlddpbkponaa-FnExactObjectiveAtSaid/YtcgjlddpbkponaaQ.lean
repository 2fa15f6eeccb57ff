/-
  Rationals, plainly: validity, making, adding, multiplying, dividing, comparing. Contracts of gcd and IsValidRational.
-/
import Derived.Test.YtcgjlddpbkponaaOwn
import Derived.IntWalk
namespace Go.Proofs.Ytcgjlddpbkponaa
open Go.ChangeShapes Go.WideShapes Go.ChangeAt Go.RowKit

theorem wr64 {n : Int} (h1 : -9223372036854775808 ≤ n) (h2 : n ≤ 9223372036854775807) : IntKind.i64.wrap n = n := IntWalk.i64_in _ ⟨by omega, by omega⟩

def validQ (n d : Int) : Bool := inB d 1 2147483647 && inB n (-2147483647) 2147483647 && decide (Int.gcd n d = 1)
theorem validQ_bnd {n d : Int} (h : validQ n d = true) : 1 ≤ d ∧ d ≤ 2147483647 ∧ -2147483647 ≤ n ∧ n ≤ 2147483647 ∧ Int.gcd n d = 1 := by
  simp only [validQ, Bool.and_eq_true, decide_eq_true_eq] at h
  obtain ⟨⟨h1, h2⟩, h3⟩ := h
  have := inB_true h1
  have := inB_true h2
  exact ⟨by omega, by omega, by omega, by omega, h3⟩
/-- A rational is made: numerator, denominator, whether it is valid. -/
def makeQ (n d : Int) : Int × Int × Bool :=
  if d = 0 then (0, 0, false) else
  let n1 := if d < 0 then -n else n
  let d1 := if d < 0 then -d else d
  let g : Int := Int.gcd n1 d1
  if validQ (n1.tdiv g) (d1.tdiv g) = true then (n1.tdiv g, d1.tdiv g, true) else (0, 0, false)
def addQ (a b c d : Int) : Int × Int × Bool := if validQ a b = true ∧ validQ c d = true then makeQ (a * d + c * b) (b * d) else (0, 0, false)
def subQ (a b c d : Int) : Int × Int × Bool := if validQ a b = true ∧ validQ c d = true then makeQ (a * d - c * b) (b * d) else (0, 0, false)
def mulQ (a b c d : Int) : Int × Int × Bool := if validQ a b = true ∧ validQ c d = true then makeQ (a * c) (b * d) else (0, 0, false)
def divQ (a b c d : Int) : Int × Int × Bool := if validQ a b = true ∧ validQ c d = true then makeQ (a * d) (b * c) else (0, 0, false)
def cmpQ (a b c d : Int) : Int := if validQ a b = true ∧ validQ c d = true then (if a * d < c * b then -1 else if c * b < a * d then 1 else 0) else 0
def ceilQ (n d : Int) : Int := if validQ n d = true then (if (n.tdiv d) * d < n then n.tdiv d + 1 else n.tdiv d) else 0

theorem gcd_step (x y : Int) : Int.gcd y (x.tmod y) = Int.gcd x y := by
  rw [Int.gcd_comm x y]
  unfold Int.gcd
  rw [Int.natAbs_tmod, Nat.gcd_comm y.natAbs (x.natAbs % y.natAbs), ← Nat.gcd_rec]
theorem gcd_abs (x : Int) : (Int.gcd x 0 : Int) = (if x < -x then -x else x) := by
  rw [Int.gcd_zero_right]
  split <;> omega
theorem tmod_bnd {x y : Int} (h : y ≠ 0) : (x.tmod y).natAbs < y.natAbs := by
  rw [Int.natAbs_tmod]
  exact Nat.mod_lt _ (by omega)
theorem bnd_of_abs {x : Int} {n : Nat} (h : x.natAbs < n) (hn : n ≤ 9223372036854775807) : -9223372036854775807 ≤ x ∧ x ≤ 9223372036854775807 := by omega

set_option maxHeartbeats 400000 in
theorem gcd_impl (a b : Int) (w : World) (ha : -9223372036854775807 ≤ a ∧ a ≤ 9223372036854775807) (hb : -9223372036854775807 ≤ b ∧ b ≤ 9223372036854775807) :
    Calls Try.prog 106 #[.int .i64 a, .int .i64 b] w fun e w' => e = .returned (.int .i64 (Int.gcd a b)) ∧ ∃ n, w' = w.drewN n := by
  go_enter Try.func106, Try.ntmps106
  go_wp2
  go_loopw [0, 1] (fun s t wr => ∃ x y : Int, s = .int .i64 x ∧ t = .int .i64 y ∧ (-9223372036854775807 ≤ x ∧ x ≤ 9223372036854775807) ∧ (-9223372036854775807 ≤ y ∧ y ≤ 9223372036854775807) ∧ Int.gcd x y = Int.gcd a b ∧ ∃ n, wr = w.drewN n) (fun _ t _ => (intOf t).natAbs)
  case atStart => exact ⟨a, b, rfl, rfl, ha, hb, rfl, 0, rfl⟩
  case round =>
    obtain ⟨x, y, rfl, rfl, hx, hy, hg, n, rfl⟩ := hrel
    have HG := Lib.hid hg
    clear hg
    by_cases h0 : y = 0
    · subst h0
      have HA := Lib.hid (gcd_abs x)
      go_wp2
      all_goals
        go_ret
        refine ⟨ret_int ?_, n, rfl⟩
        rw [← HG.out, HA.out]
        omega
    · have hy0 : (y == 0) = false := by simpa using h0
      have hyn : (y != 0) = true := by simpa using h0
      have HM := Lib.hid (tmod_bnd (x := x) h0)
      have HS := Lib.hid (gcd_step x y)
      have hm := bnd_of_abs HM.out (by omega)
      have e1 : IntKind.i64.wrap (x.tmod y) = x.tmod y := wr64 (by omega) (by omega)
      clear hm
      go_wp2
      go_quiet (fail)
      clear e1
      go_wp2
      exact ⟨⟨y, x.tmod y, rfl, rfl, hy, bnd_of_abs HM.out (by omega), HS.out.trans HG.out, _, World.drewN_drewN _ _ _⟩, by simpa [intOf] using HM.out⟩
set_option maxHeartbeats 400000 in
theorem gcd_spec (a b : Int) (w : World) (ha : 0 ≤ a ∧ a ≤ 9223372036854775807) (hb : 0 ≤ b ∧ b ≤ 9223372036854775807) :
    Calls Try.prog 102 #[.int .i64 a, .int .i64 b] w fun e w' => e = .returned (.int .i64 (Int.gcd a b)) ∧ w = w' := by
  go_enter Try.func102, Try.ntmps102
  go_wp2
  go_loop [0, 1, 5] (fun s t _ => ∃ x y : Int, s = .int .i64 x ∧ t = .int .i64 y ∧ (0 ≤ x ∧ x ≤ 9223372036854775807) ∧ (0 ≤ y ∧ y ≤ 9223372036854775807) ∧ Int.gcd x y = Int.gcd a b) (fun _ t _ => (intOf t).natAbs)
  case atStart => exact ⟨a, b, rfl, rfl, ha, hb, rfl⟩
  case round =>
    obtain ⟨x, y, rfl, rfl, hx, hy, hg⟩ := hrel
    have HG := Lib.hid hg
    clear hg
    by_cases h0 : y = 0
    · subst h0
      go_wp2
      go_ret
      refine ⟨ret_int ?_, rfl⟩
      rw [← HG.out, Int.gcd_zero_right]
      omega
    · have hy0 : (y == 0) = false := by simpa using h0
      have hyn : (y != 0) = true := by simpa using h0
      have HS := Lib.hid (gcd_step x y)
      have HM : Hid (0 ≤ x % y ∧ x % y < y) := ⟨Int.emod_nonneg _ h0, Int.emod_lt_of_pos _ (by omega)⟩
      have HE : Hid (x.tmod y = x % y) := Int.tmod_eq_emod_of_nonneg hx.1
      go_wp2
      exact ⟨⟨y, x % y, rfl, rfl, hy, by have := HM.out; omega, by rw [← HE.out]; exact HS.out.trans HG.out⟩, by have := HM.out; simp [intOf]; omega⟩
theorem abs_spec (a : Int) (w : World) (ha : -9223372036854775807 ≤ a ∧ a ≤ 9223372036854775807) :
    Calls Try.prog 103 #[.int .i64 a] w fun e w' => e = .returned (.int .i64 (a.natAbs : Int)) ∧ w = w' := by
  rcases Int.lt_or_le a 0 with h | h
  · go_enter Try.func103, Try.ntmps103
    go_wp2
    go_ret
    exact ⟨ret_int (by omega), rfl⟩
  · go_enter Try.func103, Try.ntmps103
    go_wp2
    go_ret
    exact ⟨ret_int (by omega), rfl⟩
end Go.Proofs.Ytcgjlddpbkponaa
