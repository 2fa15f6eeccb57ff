/-
  Contracts of IsValidRational and MakeRational, program and reference.
-/
import Derived.Test.YtcgjlddpbkponaaQ
import Derived.Deep.RegionHeld3
namespace Go.Proofs.Ytcgjlddpbkponaa
open Go.ChangeShapes Go.WideShapes Go.ChangeAt Go.RowKit

abbrev qv (n d : Int) : Value := .agg #[.int .i64 n, .int .i64 d]
theorem validQ_d {n d : Int} (h : inB d 1 2147483647 = false) : validQ n d = false := by simp [validQ, h]
theorem validQ_n {n d : Int} (h : inB n (-2147483647) 2147483647 = false) : validQ n d = false := by simp [validQ, h]
theorem validQ_g {n d : Int} (hd : inB d 1 2147483647 = true) (hn : inB n (-2147483647) 2147483647 = true) : validQ n d = decide (Int.gcd n d = 1) := by simp [validQ, hd, hn]
theorem quiet_same {P : Program} {f : FuncId} {args : Array Value} {w : World} {v : Value} (h : Calls P f args w fun e w' => e = .returned v ∧ w = w') : Calls P f args w fun e w' => e = .returned v ∧ w' = w := h.mono fun _ _ ⟨a, b⟩ => ⟨a, b.symm⟩
theorem gcd_beq {n d : Int} : (((Int.gcd n d : Nat) : Int) == 1) = decide (Int.gcd n d = 1) := by
  rw [Bool.eq_iff_iff]
  simp
  omega

set_option maxHeartbeats 800000 in
theorem isValidQ_impl (n d : Int) (w : World) : Calls Try.prog 91 #[qv n d] w fun e w' => e = .returned (.bool (validQ n d)) ∧ Below w.heap.size w w' := by
  cases hd : inB d 1 2147483647
  · have GD := Lib.hid hd
    clear hd
    go_enter Try.func91, Try.ntmps91
    go_wp2_with fail
    refine (within_any _ _ _ _).mono ?_
    rintro e w1 ⟨rfl, rfl⟩
    rw [GD.out]
    go_wp2_with fail
    go_ret
    exact ⟨ret_bool (validQ_d GD.out).symm, (Below.refl _ _).alloc (Nat.le_refl _) _⟩
  · have GD := Lib.hid hd
    clear hd
    cases hn : inB n (-2147483647) 2147483647
    · have GN := Lib.hid hn
      clear hn
      go_enter Try.func91, Try.ntmps91
      go_wp2_with fail
      refine (within_any _ _ _ _).mono ?_
      rintro e w1 ⟨rfl, rfl⟩
      rw [GD.out]
      go_wp2_with fail
      refine (within_any _ _ _ _).mono ?_
      rintro e w1 ⟨rfl, rfl⟩
      rw [GN.out]
      go_wp2_with fail
      go_ret
      exact ⟨ret_bool (validQ_n GN.out).symm, (Below.refl _ _).alloc (Nat.le_refl _) _⟩
    · have GN := Lib.hid hn
      clear hn
      go_enter Try.func91, Try.ntmps91
      go_wp2_with fail
      refine (within_any _ _ _ _).mono ?_
      rintro e w1 ⟨rfl, rfl⟩
      rw [GD.out]
      go_wp2_with fail
      refine (within_any _ _ _ _).mono ?_
      rintro e w1 ⟨rfl, rfl⟩
      rw [GN.out]
      go_wp2_with fail
      refine (gcd_impl n d _ (by have := inB_true GN.out; omega) (by have := inB_true GD.out; omega)).mono ?_
      rintro e w1 ⟨rfl, m, rfl⟩
      have HG := Lib.hid (gcd_beq (n := n) (d := d))
      have HV := Lib.hid (validQ_g GD.out GN.out)
      generalize ((Int.gcd n d : Nat) : Int) = z at *
      go_wp2_with fail
      go_ret
      exact ⟨ret_bool (by rw [HV.out]; exact HG.out), below_drewN ((Below.refl _ _).alloc (Nat.le_refl _) _) m⟩

set_option maxHeartbeats 800000 in
theorem isValidQ_spec (n d : Int) (w : World) : Calls Try.prog 86 #[qv n d] w fun e w' => e = .returned (.bool (validQ n d)) ∧ Below w.heap.size w w' := by
  cases hd : inB d 1 2147483647
  · have GD := Lib.hid (validQ_d (n := n) hd)
    go_enter Try.func86, Try.ntmps86
    go_wp2_with fail
    go_quiet ((first | (go_at_call 59; exact Calls.quiet_of_same (quiet_same (l1In_any _ _ _ _)))))
    go_wp2_with fail
    go_ret
    exact ⟨ret_bool (by rw [GD.out]), below_drewN ((Below.refl _ _).alloc (Nat.le_refl _) _) _⟩
  · have GD := Lib.hid hd
    cases hn : inB n (-2147483647) 2147483647
    · have GN := Lib.hid (validQ_n (d := d) hn)
      go_enter Try.func86, Try.ntmps86
      go_wp2_with fail
      go_quiet ((first | (go_at_call 59; exact Calls.quiet_of_same (quiet_same (l1In_any _ _ _ _)))))
      go_wp2_with fail
      go_ret
      exact ⟨ret_bool (by rw [GN.out]), below_drewN ((Below.refl _ _).alloc (Nat.le_refl _) _) _⟩
    · have GN := Lib.hid hn
      have HG := Lib.hid (gcd_beq (n := n) (d := d))
      have HV := Lib.hid (validQ_g GD.out GN.out)
      have HA : Hid (Int.gcd (n.natAbs : Int) d = Int.gcd n d) := by show _ = _; simp [Int.gcd]
      go_enter Try.func86, Try.ntmps86
      go_wp2_with fail
      go_quiet ((first | (go_at_call 59; exact Calls.quiet_of_same (quiet_same (l1In_any _ _ _ _))) | (go_at_call 103; exact Calls.quiet_of_same (quiet_same (abs_spec n _ (by have := inB_true GN.out; omega)))) | (go_at_call 102; exact Calls.quiet_of_same (quiet_same (gcd_spec (n.natAbs : Int) d _ (by have := inB_true GN.out; omega) (by have := inB_true GD.out; omega))))))
      go_wp2_with fail
      go_ret
      exact ⟨ret_bool (by rw [HV.out]; exact (by rw [HA.out]; exact HG.out)), below_drewN ((Below.refl _ _).alloc (Nat.le_refl _) _) _⟩
end Go.Proofs.Ytcgjlddpbkponaa
