/-
  Contracts of the two range tests and of CeilLog2, program and reference.
-/
import Derived.Test.YtacegpmgicebfaaMem
namespace Go.Proofs.Ytacegpmgicebfaa
open Go.ChangeShapes Go.WideShapes Go.ChangeAt Go.RowKit

/-- n lies in the range a to b. -/
def inB (n a b : Int) : Bool := decide (a ≤ n) && decide (n ≤ b)
theorem inB_true {n a b : Int} (h : inB n a b = true) : a ≤ n ∧ n ≤ b := by simpa [inB] using h
theorem inB_false {n a b : Int} (h : inB n a b = false) : n < a ∨ b < n := by simp [inB] at h; omega
theorem inB_mk {n a b : Int} (h : a ≤ n) (h' : n ≤ b) : inB n a b = true := by simp [inB, h, h']
theorem inB_no {n a b : Int} (h : n < a ∨ b < n) : inB n a b = false := by simp [inB]; omega


theorem within_any (n a b : Int) (w : World) : Calls Try.prog 57 #[.int .i64 n, .int .i64 a, .int .i64 b] w fun e w' => e = .returned (.bool (inB n a b)) ∧ w = w' := by
  by_cases h : a ≤ n
  · by_cases h' : n ≤ b
    · go_enter Try.func57, Try.ntmps57
      go_wp2
      go_ret
      exact ⟨ret_bool (inB_mk h h').symm, rfl⟩
    · go_enter Try.func57, Try.ntmps57
      go_wp2
      go_ret
      exact ⟨ret_bool (inB_no (.inr (by omega))).symm, rfl⟩
  · go_enter Try.func57, Try.ntmps57
    go_wp2
    go_ret
    exact ⟨ret_bool (inB_no (.inl (by omega))).symm, rfl⟩

theorem l1In_any (n a b : Int) (w : World) : Calls Try.prog 56 #[.int .i64 n, .int .i64 a, .int .i64 b] w fun e w' => e = .returned (.bool (inB n a b)) ∧ w = w' := by
  by_cases h : a ≤ n
  · by_cases h' : n ≤ b
    · go_enter Try.func56, Try.ntmps56
      go_wp2
      go_ret
      exact ⟨ret_bool (inB_mk h h').symm, rfl⟩
    · go_enter Try.func56, Try.ntmps56
      go_wp2
      go_ret
      exact ⟨ret_bool (inB_no (.inr (by omega))).symm, rfl⟩
  · go_enter Try.func56, Try.ntmps56
    go_wp2
    go_ret
    exact ⟨ret_bool (inB_no (.inl (by omega))).symm, rfl⟩

/-- The least exponent from b on (at most f steps further) whose power of two is at least n. -/
def clogF : Nat → Nat → Int → Int
  | 0, b, _ => b
  | f + 1, b, n => if (2 : Int) ^ b < n then clogF f (b + 1) n else b
def clog (n : Int) : Int := if inB n 1 4096 = true then clogF 12 0 n else -1

theorem pow2_le (b : Nat) (h : b ≤ 12) : 1 ≤ (2 : Int) ^ b ∧ (2 : Int) ^ b ≤ 4096 := by
  have : ∀ b : Fin 13, 1 ≤ (2 : Int) ^ b.1 ∧ (2 : Int) ^ b.1 ≤ 4096 := by decide
  exact this ⟨b, by omega⟩
theorem clogF_step {b : Nat} {n : Int} (h2 : n ≤ 4096) (hb : b ≤ 12) (h : (2 : Int) ^ b < n) : b < 12 ∧ clogF (12 - (b + 1)) (b + 1) n = clogF (12 - b) b n := by
  have hlt : b < 12 := by
    rcases Nat.lt_or_ge b 12 with h' | h'
    · exact h'
    · obtain rfl : b = 12 := by omega
      exact absurd h (by have : (2 : Int) ^ 12 = 4096 := by decide
                         omega)
  refine ⟨hlt, ?_⟩
  obtain ⟨f, hf⟩ : ∃ f, 12 - b = f + 1 := ⟨11 - b, by omega⟩
  rw [hf, show 12 - (b + 1) = f by omega, clogF, if_pos h]
theorem clogF_stop {b : Nat} {n : Int} (h : n ≤ (2 : Int) ^ b) : ∀ f, clogF f b n = b
  | 0 => rfl
  | f + 1 => by rw [clogF, if_neg (by omega)]

set_option maxHeartbeats 400000 in
theorem ceilLog2_spec (n : Int) (w : World) : Calls Try.prog 15 #[.int .i64 n] w fun e w' => e = .returned (.int .i64 (clog n)) ∧ w = w' := by
  cases hb : inB n 1 4096
  · have HB := Lib.hid hb
    clear hb
    go_enter Try.func15, Try.ntmps15
    go_wp2_with (go_at_call 56; refine (l1In_any _ _ _ _).mono ?_; rintro e w' ⟨rfl, rfl⟩; rw [HB.out])
    go_ret
    exact ⟨ret_int (by simp [clog, HB.out]), rfl⟩
  · obtain ⟨h1, h2⟩ := inB_true hb
    have HB := Lib.hid hb
    clear hb
    go_enter Try.func15, Try.ntmps15
    go_wp2_with (go_at_call 56; refine (l1In_any _ _ _ _).mono ?_; rintro e w' ⟨rfl, rfl⟩; rw [HB.out])
    go_loop [3] (fun t => ∃ b : Nat, b ≤ 12 ∧ t = .int .i64 b ∧ clogF (12 - b) b n = clogF 12 0 n) (fun t => 12 - (intOf t).toNat)
    case atStart => exact ⟨0, by omega, rfl, rfl⟩
    case round =>
      obtain ⟨b, hb, rfl, hr⟩ := hrel
      have HR := Lib.hid hr
      clear hr
      obtain ⟨hp1, hp2⟩ := pow2_le b hb
      go_wp2
      · have hlt : (2 : Int) ^ b < n := by assumption
        obtain ⟨hs, he⟩ := clogF_step h2 hb hlt
        exact ⟨⟨b + 1, by omega, by go_num, he.trans HR.out⟩, by simp [intOf]; omega⟩
      · have hge : n ≤ (2 : Int) ^ b := by assumption
        go_ret
        exact ⟨ret_int (by rw [clog, if_pos HB.out, ← HR.out, clogF_stop hge]), rfl⟩

set_option maxHeartbeats 400000 in
theorem ceilLog2_impl (n : Int) (w : World) : Calls Try.prog 16 #[.int .i64 n] w fun e w' => e = .returned (.int .i64 (clog n)) ∧ w = w' := by
  cases hb : inB n 1 4096
  · have HB := Lib.hid hb
    clear hb
    go_enter Try.func16, Try.ntmps16
    go_wp2_with (go_at_call 57; refine (within_any _ _ _ _).mono ?_; rintro e w' ⟨rfl, rfl⟩; rw [HB.out])
    go_ret
    exact ⟨ret_int (by simp [clog, HB.out]), rfl⟩
  · obtain ⟨h1, h2⟩ := inB_true hb
    have HB := Lib.hid hb
    clear hb
    go_enter Try.func16, Try.ntmps16
    go_wp2_with (go_at_call 57; refine (within_any _ _ _ _).mono ?_; rintro e w' ⟨rfl, rfl⟩; rw [HB.out])
    go_loop [3] (fun t => ∃ b : Nat, b ≤ 12 ∧ t = .int .i64 b ∧ clogF (12 - b) b n = clogF 12 0 n) (fun t => 12 - (intOf t).toNat)
    case atStart => exact ⟨0, by omega, rfl, rfl⟩
    case round =>
      obtain ⟨b, hb, rfl, hr⟩ := hrel
      have HR := Lib.hid hr
      clear hr
      obtain ⟨hp1, hp2⟩ := pow2_le b hb
      go_wp2
      · have hlt : (2 : Int) ^ b < n := by assumption
        obtain ⟨hs, he⟩ := clogF_step h2 hb hlt
        exact ⟨⟨b + 1, by omega, by go_num, he.trans HR.out⟩, by simp [intOf]; omega⟩
      · have hge : n ≤ (2 : Int) ^ b := by assumption
        go_ret
        exact ⟨ret_int (by rw [clog, if_pos HB.out, ← HR.out, clogF_stop hge]), rfl⟩

end Go.Proofs.Ytacegpmgicebfaa
