/-
  Contracts of VariableSet, program and reference.
-/
import Derived.Test.YtacegpmgicebfaaInts
namespace Go.Proofs.Ytacegpmgicebfaa
open Go.ChangeShapes Go.WideShapes Go.ChangeAt Go.RowKit

def vstep (m : Nat) (x : Int) : Nat := if inB x 0 3 = true then m ||| 2 ^ x.toNat else m
/-- The set of variables as a number. -/
def vset (l : List Int) : Nat := l.foldl vstep 0
theorem vstep_lt {m : Nat} {x : Int} (h : m < 16) : vstep m x < 16 := by
  unfold vstep
  split
  · rename_i hx
    obtain ⟨h1, h2⟩ := inB_true hx
    have : 2 ^ x.toNat < 2 ^ 4 := Nat.pow_lt_pow_right (by omega) (by omega)
    exact Nat.or_lt_two_pow (n := 4) h this
  · exact h
theorem vset_snoc (l : List Int) (x : Int) : vset (l ++ [x]) = vstep (vset l) x := by simp [vset]
theorem vset_lt (l : List Int) : vset l < 16 := by
  suffices h : ∀ (l : List Int) (m : Nat), m < 16 → l.foldl vstep m < 16 from h l 0 (by omega)
  intro l
  induction l with
  | nil => exact fun m h => h
  | cons x l ih => exact fun m h => ih _ (vstep_lt h)
theorem ofInt_nat64 (a : Nat) (ha : a < 9223372036854775808) : (BitVec.ofInt 64 (a : Int)).toNat = a := by
  rw [BitVec.ofInt_natCast, BitVec.toNat_ofNat]
  exact Nat.mod_eq_of_lt (by omega)
theorem or_nat (a b : Nat) (ha : a < 9223372036854775808) (hb : b < 9223372036854775808) : bits .or .i64 (a : Int) (b : Int) = ((a ||| b : Nat) : Int) := by
  have hx : a ||| b < 2 ^ 63 := Nat.or_lt_two_pow (by omega) (by omega)
  show IntKind.i64.wrap ((BitVec.ofInt 64 (a : Int) ||| BitVec.ofInt 64 (b : Int)).toNat : Int) = _
  rw [BitVec.toNat_or, ofInt_nat64 a ha, ofInt_nat64 b hb, IntKind.wrap_i64]
  omega
theorem and_nat (a b : Nat) (ha : a < 9223372036854775808) (hb : b < 9223372036854775808) : bits .and .i64 (a : Int) (b : Int) = ((a &&& b : Nat) : Int) := by
  have hx : a &&& b < 2 ^ 63 := Nat.and_lt_two_pow _ (by omega)
  show IntKind.i64.wrap ((BitVec.ofInt 64 (a : Int) &&& BitVec.ofInt 64 (b : Int)).toNat : Int) = _
  rw [BitVec.toNat_and, ofInt_nat64 a ha, ofInt_nat64 b hb, IntKind.wrap_i64]
  omega
theorem vstep_in {m j : Nat} (h : m < 16) (hj : j ≤ 3) : bits .or .i64 (m : Int) ((2 : Int) ^ j) = ((vstep m (j : Int) : Nat) : Int) := by
  have h2 : 2 ^ j < 2 ^ 4 := Nat.pow_lt_pow_right (by omega) (by omega)
  have e : ((2 : Int) ^ j) = ((2 ^ j : Nat) : Int) := by simp
  rw [e, or_nat _ _ (by omega) (by omega), vstep, if_pos (inB_mk (by omega) (by omega))]
  simp

set_option maxHeartbeats 400000 in
theorem variableSet_impl (v : Value) (l : List Int) (w : World) (h : IntsR w v l) :
    Calls Try.prog 19 #[v] w fun e w' => e = .returned (.int .i64 (vset l)) ∧ w = w' := by
  obtain ⟨A, c, rfl, hc1, hc2⟩ := h.form
  unfold maxLen at hc2
  go_enter Try.func19, Try.ntmps19
  go_wp2
  go_loop [3, 8] (fun t i => ∃ k : Nat, k ≤ l.length ∧ i = .int .i64 k ∧ t = .int .i64 (vset (l.take k))) (fun _ i => l.length - (intOf i).toNat)
  case atStart => exact ⟨0, Nat.zero_le _, rfl, rfl⟩
  case round =>
    obtain ⟨k, hk, rfl, rfl⟩ := hrel
    have hv := vset_lt (l.take k)
    by_cases hlt : k < l.length
    · obtain ⟨b, off, x, rfl, hx, hf, hbs, hcell⟩ := h.at_ hlt
      have HS : Hid (vset (l.take (k + 1)) = vstep (vset (l.take k)) x) := by rw [take_snoc hx.out]; exact vset_snoc _ _
      generalize vset (l.take k) = m at *
      cases hin : inB x 0 3
      · have HI := Lib.hid hin
        clear hin
        go_wp2_with (go_at_call 57; refine (within_any _ _ _ _).mono ?_; rintro e w' ⟨rfl, rfl⟩; rw [HI.out])
        exact ⟨⟨k + 1, by omega, by go_num, by rw [HS.out, vstep, if_neg (by rw [HI.out]; simp)]⟩, by simp [intOf]; omega⟩
      · obtain ⟨h1, h2⟩ := inB_true hin
        obtain ⟨j, rfl⟩ := Int.eq_ofNat_of_zero_le h1
        have HI := Lib.hid hin
        clear hin
        obtain ⟨hp1, hp2⟩ := pow2_le j (by omega)
        go_wp2_with (go_at_call 57; refine (within_any _ _ _ _).mono ?_; rintro e w' ⟨rfl, rfl⟩; rw [HI.out])
        exact ⟨⟨k + 1, by omega, by go_num, by rw [HS.out, vstep_in hv (by omega)]⟩, by simp [intOf]; omega⟩
    · go_wp2
      go_ret
      exact ⟨ret_int (by rw [List.take_of_length_le (by omega)]), rfl⟩

set_option maxHeartbeats 400000 in
theorem variableSet_spec (v : Value) (l : List Int) (w : World) (h : IntsR w v l) :
    Calls Try.prog 17 #[v] w fun e w' => e = .returned (.int .i64 (vset l)) ∧ w = w' := by
  obtain ⟨A, c, rfl, hc1, hc2⟩ := h.form
  unfold maxLen at hc2
  go_enter Try.func17, Try.ntmps17
  go_wp2
  go_loop [3, 4] (fun t i => ∃ k : Nat, k ≤ l.length ∧ i = .int .i64 k ∧ t = .int .i64 (vset (l.take k))) (fun _ i => l.length - (intOf i).toNat)
  case atStart => exact ⟨0, Nat.zero_le _, rfl, rfl⟩
  case round =>
    obtain ⟨k, hk, rfl, rfl⟩ := hrel
    have hv := vset_lt (l.take k)
    by_cases hlt : k < l.length
    · obtain ⟨b, off, x, rfl, hx, hf, hbs, hcell⟩ := h.at_ hlt
      have HS : Hid (vset (l.take (k + 1)) = vstep (vset (l.take k)) x) := by rw [take_snoc hx.out]; exact vset_snoc _ _
      generalize vset (l.take k) = m at *
      cases hin : inB x 0 3
      · have HI := Lib.hid hin
        clear hin
        go_wp2_with (go_at_call 56; refine (l1In_any _ _ _ _).mono ?_; rintro e w' ⟨rfl, rfl⟩; rw [HI.out])
        exact ⟨⟨k + 1, by omega, by go_num, by rw [HS.out, vstep, if_neg (by rw [HI.out]; simp)]⟩, by simp [intOf]; omega⟩
      · obtain ⟨h1, h2⟩ := inB_true hin
        obtain ⟨j, rfl⟩ := Int.eq_ofNat_of_zero_le h1
        have HI := Lib.hid hin
        clear hin
        obtain ⟨hp1, hp2⟩ := pow2_le j (by omega)
        go_wp2_with (go_at_call 56; refine (l1In_any _ _ _ _).mono ?_; rintro e w' ⟨rfl, rfl⟩; rw [HI.out])
        exact ⟨⟨k + 1, by omega, by go_num, by rw [HS.out, vstep_in hv (by omega)]⟩, by simp [intOf]; omega⟩
    · go_wp2
      go_ret
      exact ⟨ret_int (by rw [List.take_of_length_le (by omega)]), rfl⟩
end Go.Proofs.Ytacegpmgicebfaa
