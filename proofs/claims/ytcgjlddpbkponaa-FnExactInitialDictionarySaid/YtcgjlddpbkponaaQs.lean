/-
  Merged: Q Q2 Q3 Q4 Q5 Q6
-/
import Derived.Test.YtcgjlddpbkponaaBase
import Derived.IntWalk
import Derived.Deep.RegionHeld3
import Derived.BigRegion
namespace Go.Proofs.Ytcgjlddpbkponaa
open Go.ChangeShapes Go.WideShapes Go.ChangeAt Go.RowKit
set_option linter.unusedVariables false
set_option linter.unusedSimpArgs false

/- Rationals, plainly: validity, making, adding, multiplying, dividing, comparing. Contracts of gcd and IsValidRational. -/

theorem wr64 {n : Int} (h1 : -9223372036854775808 ≤ n) (h2 : n ≤ 9223372036854775807) : IntKind.i64.wrap n = n := IntWalk.i64_in _ ⟨by omega, by omega⟩

def validQ (n d : Int) : Bool := inB d 1 2147483647 && inB n (-2147483647) 2147483647 && decide (Int.gcd n d = 1)
theorem validQ_bnd {n d : Int} (h : validQ n d = true) : 1 ≤ d ∧ d ≤ 2147483647 ∧ -2147483647 ≤ n ∧ n ≤ 2147483647 ∧ Int.gcd n d = 1 := by
  simp only [validQ, Bool.and_eq_true, decide_eq_true_eq] at h
  obtain ⟨⟨h1, h2⟩, h3⟩ := h
  have := inB_true h1
  have := inB_true h2
  exact ⟨by omega, by omega, by omega, by omega, h3⟩
/-- A rational is made: numerator, denominator, whether it is valid. -/
def makeQ (n d : Int) : Int × Int × Bool :=
  if d = 0 then (0, 0, false) else
  let n1 := if d < 0 then -n else n
  let d1 := if d < 0 then -d else d
  let g : Int := Int.gcd n1 d1
  if validQ (n1.tdiv g) (d1.tdiv g) = true then (n1.tdiv g, d1.tdiv g, true) else (0, 0, false)
def addQ (a b c d : Int) : Int × Int × Bool := if validQ a b = true ∧ validQ c d = true then makeQ (a * d + c * b) (b * d) else (0, 0, false)
def subQ (a b c d : Int) : Int × Int × Bool := if validQ a b = true ∧ validQ c d = true then makeQ (a * d - c * b) (b * d) else (0, 0, false)
def mulQ (a b c d : Int) : Int × Int × Bool := if validQ a b = true ∧ validQ c d = true then makeQ (a * c) (b * d) else (0, 0, false)
def divQ (a b c d : Int) : Int × Int × Bool := if validQ a b = true ∧ validQ c d = true then makeQ (a * d) (b * c) else (0, 0, false)
def cmpQ (a b c d : Int) : Int := if validQ a b = true ∧ validQ c d = true then (if a * d < c * b then -1 else if c * b < a * d then 1 else 0) else 0
def ceilQ (n d : Int) : Int := if validQ n d = true then (if (n.tdiv d) * d < n then n.tdiv d + 1 else n.tdiv d) else 0

theorem gcd_step (x y : Int) : Int.gcd y (x.tmod y) = Int.gcd x y := by
  rw [Int.gcd_comm x y]
  unfold Int.gcd
  rw [Int.natAbs_tmod, Nat.gcd_comm y.natAbs (x.natAbs % y.natAbs), ← Nat.gcd_rec]
theorem gcd_abs (x : Int) : (Int.gcd x 0 : Int) = (if x < -x then -x else x) := by
  rw [Int.gcd_zero_right]
  split <;> omega
theorem tmod_bnd {x y : Int} (h : y ≠ 0) : (x.tmod y).natAbs < y.natAbs := by
  rw [Int.natAbs_tmod]
  exact Nat.mod_lt _ (by omega)
theorem bnd_of_abs {x : Int} {n : Nat} (h : x.natAbs < n) (hn : n ≤ 9223372036854775807) : -9223372036854775807 ≤ x ∧ x ≤ 9223372036854775807 := by omega

set_option maxHeartbeats 400000 in
theorem gcd_impl (a b : Int) (w : World) (ha : -9223372036854775807 ≤ a ∧ a ≤ 9223372036854775807) (hb : -9223372036854775807 ≤ b ∧ b ≤ 9223372036854775807) :
    Calls Try.prog 106 #[.int .i64 a, .int .i64 b] w fun e w' => e = .returned (.int .i64 (Int.gcd a b)) ∧ ∃ n, w' = w.drewN n := by
  go_enter Try.func106, Try.ntmps106
  go_wp2
  go_loopw [0, 1] (fun s t wr => ∃ x y : Int, s = .int .i64 x ∧ t = .int .i64 y ∧ (-9223372036854775807 ≤ x ∧ x ≤ 9223372036854775807) ∧ (-9223372036854775807 ≤ y ∧ y ≤ 9223372036854775807) ∧ Int.gcd x y = Int.gcd a b ∧ ∃ n, wr = w.drewN n) (fun _ t _ => (intOf t).natAbs)
  case atStart => exact ⟨a, b, rfl, rfl, ha, hb, rfl, 0, rfl⟩
  case round =>
    obtain ⟨x, y, rfl, rfl, hx, hy, hg, n, rfl⟩ := hrel
    have HG := Lib.hid hg
    clear hg
    by_cases h0 : y = 0
    · subst h0
      have HA := Lib.hid (gcd_abs x)
      go_wp2
      all_goals
        go_ret
        refine ⟨ret_int ?_, n, rfl⟩
        rw [← HG.out, HA.out]
        omega
    · have hy0 : (y == 0) = false := by simpa using h0
      have hyn : (y != 0) = true := by simpa using h0
      have HM := Lib.hid (tmod_bnd (x := x) h0)
      have HS := Lib.hid (gcd_step x y)
      have hm := bnd_of_abs HM.out (by omega)
      have e1 : IntKind.i64.wrap (x.tmod y) = x.tmod y := wr64 (by omega) (by omega)
      clear hm
      go_wp2
      go_quiet (fail)
      clear e1
      go_wp2
      exact ⟨⟨y, x.tmod y, rfl, rfl, hy, bnd_of_abs HM.out (by omega), HS.out.trans HG.out, _, World.drewN_drewN _ _ _⟩, by simpa [intOf] using HM.out⟩
set_option maxHeartbeats 400000 in
theorem gcd_spec (a b : Int) (w : World) (ha : 0 ≤ a ∧ a ≤ 9223372036854775807) (hb : 0 ≤ b ∧ b ≤ 9223372036854775807) :
    Calls Try.prog 102 #[.int .i64 a, .int .i64 b] w fun e w' => e = .returned (.int .i64 (Int.gcd a b)) ∧ w = w' := by
  go_enter Try.func102, Try.ntmps102
  go_wp2
  go_loop [0, 1, 5] (fun s t _ => ∃ x y : Int, s = .int .i64 x ∧ t = .int .i64 y ∧ (0 ≤ x ∧ x ≤ 9223372036854775807) ∧ (0 ≤ y ∧ y ≤ 9223372036854775807) ∧ Int.gcd x y = Int.gcd a b) (fun _ t _ => (intOf t).natAbs)
  case atStart => exact ⟨a, b, rfl, rfl, ha, hb, rfl⟩
  case round =>
    obtain ⟨x, y, rfl, rfl, hx, hy, hg⟩ := hrel
    have HG := Lib.hid hg
    clear hg
    by_cases h0 : y = 0
    · subst h0
      go_wp2
      go_ret
      refine ⟨ret_int ?_, rfl⟩
      rw [← HG.out, Int.gcd_zero_right]
      omega
    · have hy0 : (y == 0) = false := by simpa using h0
      have hyn : (y != 0) = true := by simpa using h0
      have HS := Lib.hid (gcd_step x y)
      have HM : Hid (0 ≤ x % y ∧ x % y < y) := ⟨Int.emod_nonneg _ h0, Int.emod_lt_of_pos _ (by omega)⟩
      have HE : Hid (x.tmod y = x % y) := Int.tmod_eq_emod_of_nonneg hx.1
      go_wp2
      exact ⟨⟨y, x % y, rfl, rfl, hy, by have := HM.out; omega, by rw [← HE.out]; exact HS.out.trans HG.out⟩, by have := HM.out; simp [intOf]; omega⟩
theorem abs_spec (a : Int) (w : World) (ha : -9223372036854775807 ≤ a ∧ a ≤ 9223372036854775807) :
    Calls Try.prog 103 #[.int .i64 a] w fun e w' => e = .returned (.int .i64 (a.natAbs : Int)) ∧ w = w' := by
  rcases Int.lt_or_le a 0 with h | h
  · go_enter Try.func103, Try.ntmps103
    go_wp2
    go_ret
    exact ⟨ret_int (by omega), rfl⟩
  · go_enter Try.func103, Try.ntmps103
    go_wp2
    go_ret
    exact ⟨ret_int (by omega), rfl⟩

/- Contracts of IsValidRational and MakeRational, program and reference. -/

abbrev qv (n d : Int) : Value := .agg #[.int .i64 n, .int .i64 d]
theorem validQ_d {n d : Int} (h : inB d 1 2147483647 = false) : validQ n d = false := by simp [validQ, h]
theorem validQ_n {n d : Int} (h : inB n (-2147483647) 2147483647 = false) : validQ n d = false := by simp [validQ, h]
theorem validQ_g {n d : Int} (hd : inB d 1 2147483647 = true) (hn : inB n (-2147483647) 2147483647 = true) : validQ n d = decide (Int.gcd n d = 1) := by simp [validQ, hd, hn]
theorem quiet_same {P : Program} {f : FuncId} {args : Array Value} {w : World} {v : Value} (h : Calls P f args w fun e w' => e = .returned v ∧ w = w') : Calls P f args w fun e w' => e = .returned v ∧ w' = w := h.mono fun _ _ ⟨a, b⟩ => ⟨a, b.symm⟩
theorem gcd_beq {n d : Int} : (((Int.gcd n d : Nat) : Int) == 1) = decide (Int.gcd n d = 1) := by
  rw [Bool.eq_iff_iff]
  simp
  omega

set_option maxHeartbeats 800000 in
theorem isValidQ_impl (n d : Int) (w : World) : Calls Try.prog 91 #[qv n d] w fun e w' => e = .returned (.bool (validQ n d)) ∧ Below w.heap.size w w' := by
  cases hd : inB d 1 2147483647
  · have GD := Lib.hid hd
    clear hd
    go_enter Try.func91, Try.ntmps91
    go_wp2_with fail
    refine (within_any _ _ _ _).mono ?_
    rintro e w1 ⟨rfl, rfl⟩
    rw [GD.out]
    go_wp2_with fail
    go_ret
    exact ⟨ret_bool (validQ_d GD.out).symm, (Below.refl _ _).alloc (Nat.le_refl _) _⟩
  · have GD := Lib.hid hd
    clear hd
    cases hn : inB n (-2147483647) 2147483647
    · have GN := Lib.hid hn
      clear hn
      go_enter Try.func91, Try.ntmps91
      go_wp2_with fail
      refine (within_any _ _ _ _).mono ?_
      rintro e w1 ⟨rfl, rfl⟩
      rw [GD.out]
      go_wp2_with fail
      refine (within_any _ _ _ _).mono ?_
      rintro e w1 ⟨rfl, rfl⟩
      rw [GN.out]
      go_wp2_with fail
      go_ret
      exact ⟨ret_bool (validQ_n GN.out).symm, (Below.refl _ _).alloc (Nat.le_refl _) _⟩
    · have GN := Lib.hid hn
      clear hn
      go_enter Try.func91, Try.ntmps91
      go_wp2_with fail
      refine (within_any _ _ _ _).mono ?_
      rintro e w1 ⟨rfl, rfl⟩
      rw [GD.out]
      go_wp2_with fail
      refine (within_any _ _ _ _).mono ?_
      rintro e w1 ⟨rfl, rfl⟩
      rw [GN.out]
      go_wp2_with fail
      refine (gcd_impl n d _ (by have := inB_true GN.out; omega) (by have := inB_true GD.out; omega)).mono ?_
      rintro e w1 ⟨rfl, m, rfl⟩
      have HG := Lib.hid (gcd_beq (n := n) (d := d))
      have HV := Lib.hid (validQ_g GD.out GN.out)
      generalize ((Int.gcd n d : Nat) : Int) = z at *
      go_wp2_with fail
      go_ret
      exact ⟨ret_bool (by rw [HV.out]; exact HG.out), below_drewN ((Below.refl _ _).alloc (Nat.le_refl _) _) m⟩

set_option maxHeartbeats 800000 in
theorem isValidQ_spec (n d : Int) (w : World) : Calls Try.prog 86 #[qv n d] w fun e w' => e = .returned (.bool (validQ n d)) ∧ Below w.heap.size w w' := by
  cases hd : inB d 1 2147483647
  · have GD := Lib.hid (validQ_d (n := n) hd)
    go_enter Try.func86, Try.ntmps86
    go_wp2_with fail
    go_quiet ((first | (go_at_call 59; exact Calls.quiet_of_same (quiet_same (l1In_any _ _ _ _)))))
    go_wp2_with fail
    go_ret
    exact ⟨ret_bool (by rw [GD.out]), below_drewN ((Below.refl _ _).alloc (Nat.le_refl _) _) _⟩
  · have GD := Lib.hid hd
    cases hn : inB n (-2147483647) 2147483647
    · have GN := Lib.hid (validQ_n (d := d) hn)
      go_enter Try.func86, Try.ntmps86
      go_wp2_with fail
      go_quiet ((first | (go_at_call 59; exact Calls.quiet_of_same (quiet_same (l1In_any _ _ _ _)))))
      go_wp2_with fail
      go_ret
      exact ⟨ret_bool (by rw [GN.out]), below_drewN ((Below.refl _ _).alloc (Nat.le_refl _) _) _⟩
    · have GN := Lib.hid hn
      have HG := Lib.hid (gcd_beq (n := n) (d := d))
      have HV := Lib.hid (validQ_g GD.out GN.out)
      have HA : Hid (Int.gcd (n.natAbs : Int) d = Int.gcd n d) := by show _ = _; simp [Int.gcd]
      go_enter Try.func86, Try.ntmps86
      go_wp2_with fail
      go_quiet ((first | (go_at_call 59; exact Calls.quiet_of_same (quiet_same (l1In_any _ _ _ _))) | (go_at_call 103; exact Calls.quiet_of_same (quiet_same (abs_spec n _ (by have := inB_true GN.out; omega)))) | (go_at_call 102; exact Calls.quiet_of_same (quiet_same (gcd_spec (n.natAbs : Int) d _ (by have := inB_true GN.out; omega) (by have := inB_true GD.out; omega))))))
      go_wp2_with fail
      go_ret
      exact ⟨ret_bool (by rw [HV.out]; exact (by rw [HA.out]; exact HG.out)), below_drewN ((Below.refl _ _).alloc (Nat.le_refl _) _) _⟩

/- Contracts of MakeRational, program and reference. -/

theorem tdiv_bnd (n g : Int) (hn : -9223372036854775807 ≤ n ∧ n ≤ 9223372036854775807) : -9223372036854775807 ≤ n.tdiv g ∧ n.tdiv g ≤ 9223372036854775807 := by
  have h1 : (n.tdiv g).natAbs = n.natAbs / g.natAbs := Int.natAbs_tdiv n g
  have h2 : n.natAbs / g.natAbs ≤ n.natAbs := Nat.div_le_self _ _
  omega
theorem gcd_pos {n d : Int} (h : d ≠ 0) : 1 ≤ (Int.gcd n d : Int) := by
  have : 0 < Int.gcd n d := Int.gcd_pos_of_ne_zero_right n h
  omega
theorem gcd_le {n d : Int} (h : d ≠ 0) : (Int.gcd n d : Int) ≤ d.natAbs := by
  have : Int.gcd n d ≤ d.natAbs := by
    unfold Int.gcd
    exact Nat.gcd_le_right _ (by omega)
  omega
theorem makeQ_zero (n : Int) : makeQ n 0 = (0, 0, false) := by simp [makeQ]
theorem makeQ_pos {n d g : Int} (h : 0 < d) (hg : g = Int.gcd n d) : makeQ n d = if validQ (n.tdiv g) (d.tdiv g) = true then (n.tdiv g, d.tdiv g, true) else (0, 0, false) := by
  subst hg
  unfold makeQ
  rw [if_neg (by omega)]
  simp only [if_neg (show ¬ d < 0 by omega)]
theorem makeQ_neg {n d g : Int} (h : d < 0) (hg : g = Int.gcd (-n) (-d)) : makeQ n d = if validQ ((-n).tdiv g) ((-d).tdiv g) = true then ((-n).tdiv g, (-d).tdiv g, true) else (0, 0, false) := by
  subst hg
  unfold makeQ
  rw [if_neg (by omega)]
  simp only [if_pos h]
def RetQ (q : Int × Int × Bool) (w : World) (e : Ending) (w' : World) : Prop := e = .returned (.tuple #[.agg #[.int .i64 q.1, .int .i64 q.2.1], .bool q.2.2]) ∧ Below w.heap.size w w'

set_option maxRecDepth 100000 in
set_option maxHeartbeats 1600000 in
theorem make_spec (n d : Int) (w : World) (hn : -9223372036854775807 ≤ n ∧ n ≤ 9223372036854775807) (hd : -9223372036854775807 ≤ d ∧ d ≤ 9223372036854775807) :
    Calls Try.prog 107 #[.int .i64 n, .int .i64 d] w (RetQ (makeQ n d) w) := by
  by_cases h0 : d = 0
  · subst h0
    go_enter Try.func107, Try.ntmps107
    go_wp2_with fail
    exact bodyPost_ret (v := .tuple #[.agg #[.int .i64 0, .int .i64 0], .bool false]) (by simp [results, Try.results107, go_sem]) rfl ⟨by rw [makeQ_zero], (Below.refl _ _).alloc (Nat.le_refl _) _⟩
  have hd0 : (d == 0) = false := by simpa using h0
  have hn1 : ¬ n < -9223372036854775807 := by omega
  have hd1 : ¬ d < -9223372036854775807 := by omega
  rcases Int.lt_or_le d 0 with hs | hs
  · have HQ := Lib.hid (makeQ_neg (n := n) hs rfl)
    have c1 : -9223372036854775807 ≤ -n ∧ -n ≤ 9223372036854775807 := by omega
    have c2 : 1 ≤ -d ∧ -d ≤ 9223372036854775807 := by omega
    have hg1 := gcd_pos (n := -n) (d := -d) (by omega)
    have hg2 := gcd_le (n := -n) (d := -d) (by omega)
    have hg3 : (Int.gcd (-n) (-d) : Int) ≤ 9223372036854775807 := by omega
    clear hg2
    go_enter Try.func107, Try.ntmps107
    go_wp2_with fail
    generalize -n = n1 at *
    generalize -d = d1 at *
    clear hs hd0 hd1 hn1 h0 hn hd
    refine (abs_spec n1 _ c1).mono ?_
    rintro e w1 ⟨rfl, rfl⟩
    obtain ⟨z, hz⟩ : ∃ z : Int, z = ((n1).natAbs : Int) := ⟨_, rfl⟩
    rw [← hz]
    have HZ := Lib.hid hz
    have z0 : 0 ≤ z ∧ z ≤ 9223372036854775807 := by omega
    clear hz
    go_wp2_with fail
    refine (gcd_spec z d1 _ z0 (by omega)).mono ?_
    rintro e w1 ⟨rfl, rfl⟩
    have HA : Hid (Int.gcd z d1 = Int.gcd n1 d1) := by show _ = _; rw [HZ.out]; simp [Int.gcd]
    rw [HA.out]
    have t1 := tdiv_bnd n1 (Int.gcd n1 d1) c1
    have t2 := tdiv_bnd d1 (Int.gcd n1 d1) (by omega)
    clear HA
    generalize (Int.gcd n1 d1 : Int) = g at *
    have g0 : (g == 0) = false := by simp; omega
    have g1 : g ≠ 0 := by omega
    obtain ⟨a, ha⟩ : ∃ a : Int, n1.tdiv g = a := ⟨_, rfl⟩
    obtain ⟨b, hb⟩ : ∃ b : Int, d1.tdiv g = b := ⟨_, rfl⟩
    rw [ha] at t1 HQ
    rw [hb] at t2 HQ
    have e1 : IntKind.i64.wrap a = a := wr64 (by omega) (by omega)
    have e2 : IntKind.i64.wrap b = b := wr64 (by omega) (by omega)
    clear HZ z0
    go_wp2_with fail
    go_region_held3 (fun _ => True) (trivial) (fail)
    clear e1 e2 ha hb
    go_wp2_with fail
    have PR := Lib.hid ((Blk.at_ (g := w.heap.size) w 35 #[.int .i64 0, .int .i64 0] rfl).alloc (.cells #[.int .i64 a, .int .i64 b] 35))
    have PL := Lib.hid (Blk.at_ (g := w.heap.size + 1) (w.alloc (.cells #[.int .i64 0, .int .i64 0] 35)) 35 #[.int .i64 a, .int .i64 b] (by simp))
    have BB := Lib.hid (((Below.refl w.heap.size w).alloc (Nat.le_refl _) (.cells #[.int .i64 0, .int .i64 0] 35)).alloc (by simp) (.cells #[.int .i64 a, .int .i64 b] 35))
    refine (isValidQ_spec a b _).mono ?_
    rintro e w2 ⟨rfl, b2⟩
    have PR2 : Hid (Blk w2 w.heap.size 35 #[.int .i64 0, .int .i64 0]) := PR.out.onDrew b2
    have PL2 : Hid (Blk w2 (w.heap.size + 1) 35 #[.int .i64 a, .int .i64 b]) := PL.out.onDrew b2
    have BB2 : Hid (Below w.heap.size w w2) := BB.out.drew.trans (b2.mono BB.out.drew.size)
    clear PR PL BB b2
    have q0 := PR2.out.get 0 (.int .i64 0) rfl
    have q1 := PR2.out.get 1 (.int .i64 0) rfl
    have q2 := PL2.out.get 0 (.int .i64 a) rfl
    have q3 := PL2.out.get 1 (.int .i64 b) rfl
    have f0 := PR2.out.frozen 0
    have f1 := PR2.out.frozen 1
    cases hv : validQ a b
    · have HQ2 : Hid (makeQ n d = (0, 0, false)) := by show _ = _; have := HQ.out; rw [hv] at this; simpa using this
      go_wp2_with fail
      refine bodyPost_ret (v := .tuple #[.agg #[.int .i64 0, .int .i64 0], .bool false]) (by simp [results, Try.results107, go_sem, q0, q1]) rfl ⟨by rw [HQ2.out], ?_⟩
      exact (BB2.out.setCell (p := ⟨w.heap.size, 0, none⟩) (Nat.le_refl _) _).setCell (p := ⟨w.heap.size, 1, none⟩) (Nat.le_refl _) _
    · have HQ2 : Hid (makeQ n d = (a, b, true)) := by show _ = _; have := HQ.out; rw [hv] at this; simpa using this
      go_wp2_with fail
      refine bodyPost_ret (v := .tuple #[.agg #[.int .i64 a, .int .i64 b], .bool true]) (by simp [results, Try.results107, go_sem, q0, q1]) rfl ⟨by rw [HQ2.out], ?_⟩
      exact (BB2.out.setCell (p := ⟨w.heap.size, 0, none⟩) (Nat.le_refl _) _).setCell (p := ⟨w.heap.size, 1, none⟩) (Nat.le_refl _) _
  · have HQ := Lib.hid (makeQ_pos (n := n) (d := d) (by omega) rfl)
    have c1 : -9223372036854775807 ≤ n ∧ n ≤ 9223372036854775807 := by omega
    have c2 : 1 ≤ d ∧ d ≤ 9223372036854775807 := by omega
    have hg1 := gcd_pos (n := n) (d := d) (by omega)
    have hg2 := gcd_le (n := n) (d := d) (by omega)
    have hg3 : (Int.gcd (n) (d) : Int) ≤ 9223372036854775807 := by omega
    clear hg2
    go_enter Try.func107, Try.ntmps107
    go_wp2_with fail
    clear hs hd0 hd1 hn1 h0 hn hd
    refine (abs_spec n _ c1).mono ?_
    rintro e w1 ⟨rfl, rfl⟩
    obtain ⟨z, hz⟩ : ∃ z : Int, z = ((n).natAbs : Int) := ⟨_, rfl⟩
    rw [← hz]
    have HZ := Lib.hid hz
    have z0 : 0 ≤ z ∧ z ≤ 9223372036854775807 := by omega
    clear hz
    go_wp2_with fail
    refine (gcd_spec z d _ z0 (by omega)).mono ?_
    rintro e w1 ⟨rfl, rfl⟩
    have HA : Hid (Int.gcd z d = Int.gcd n d) := by show _ = _; rw [HZ.out]; simp [Int.gcd]
    rw [HA.out]
    have t1 := tdiv_bnd n (Int.gcd n d) c1
    have t2 := tdiv_bnd d (Int.gcd n d) (by omega)
    clear HA
    generalize (Int.gcd n d : Int) = g at *
    have g0 : (g == 0) = false := by simp; omega
    have g1 : g ≠ 0 := by omega
    obtain ⟨a, ha⟩ : ∃ a : Int, n.tdiv g = a := ⟨_, rfl⟩
    obtain ⟨b, hb⟩ : ∃ b : Int, d.tdiv g = b := ⟨_, rfl⟩
    rw [ha] at t1 HQ
    rw [hb] at t2 HQ
    have e1 : IntKind.i64.wrap a = a := wr64 (by omega) (by omega)
    have e2 : IntKind.i64.wrap b = b := wr64 (by omega) (by omega)
    clear HZ z0
    go_wp2_with fail
    go_region_held3 (fun _ => True) (trivial) (fail)
    clear e1 e2 ha hb
    go_wp2_with fail
    have PR := Lib.hid ((Blk.at_ (g := w.heap.size) w 35 #[.int .i64 0, .int .i64 0] rfl).alloc (.cells #[.int .i64 a, .int .i64 b] 35))
    have PL := Lib.hid (Blk.at_ (g := w.heap.size + 1) (w.alloc (.cells #[.int .i64 0, .int .i64 0] 35)) 35 #[.int .i64 a, .int .i64 b] (by simp))
    have BB := Lib.hid (((Below.refl w.heap.size w).alloc (Nat.le_refl _) (.cells #[.int .i64 0, .int .i64 0] 35)).alloc (by simp) (.cells #[.int .i64 a, .int .i64 b] 35))
    refine (isValidQ_spec a b _).mono ?_
    rintro e w2 ⟨rfl, b2⟩
    have PR2 : Hid (Blk w2 w.heap.size 35 #[.int .i64 0, .int .i64 0]) := PR.out.onDrew b2
    have PL2 : Hid (Blk w2 (w.heap.size + 1) 35 #[.int .i64 a, .int .i64 b]) := PL.out.onDrew b2
    have BB2 : Hid (Below w.heap.size w w2) := BB.out.drew.trans (b2.mono BB.out.drew.size)
    clear PR PL BB b2
    have q0 := PR2.out.get 0 (.int .i64 0) rfl
    have q1 := PR2.out.get 1 (.int .i64 0) rfl
    have q2 := PL2.out.get 0 (.int .i64 a) rfl
    have q3 := PL2.out.get 1 (.int .i64 b) rfl
    have f0 := PR2.out.frozen 0
    have f1 := PR2.out.frozen 1
    cases hv : validQ a b
    · have HQ2 : Hid (makeQ n d = (0, 0, false)) := by show _ = _; have := HQ.out; rw [hv] at this; simpa using this
      go_wp2_with fail
      refine bodyPost_ret (v := .tuple #[.agg #[.int .i64 0, .int .i64 0], .bool false]) (by simp [results, Try.results107, go_sem, q0, q1]) rfl ⟨by rw [HQ2.out], ?_⟩
      exact (BB2.out.setCell (p := ⟨w.heap.size, 0, none⟩) (Nat.le_refl _) _).setCell (p := ⟨w.heap.size, 1, none⟩) (Nat.le_refl _) _
    · have HQ2 : Hid (makeQ n d = (a, b, true)) := by show _ = _; have := HQ.out; rw [hv] at this; simpa using this
      go_wp2_with fail
      refine bodyPost_ret (v := .tuple #[.agg #[.int .i64 a, .int .i64 b], .bool true]) (by simp [results, Try.results107, go_sem, q0, q1]) rfl ⟨by rw [HQ2.out], ?_⟩
      exact (BB2.out.setCell (p := ⟨w.heap.size, 0, none⟩) (Nat.le_refl _) _).setCell (p := ⟨w.heap.size, 1, none⟩) (Nat.le_refl _) _

set_option maxRecDepth 100000 in
set_option maxHeartbeats 1600000 in
theorem make_impl0 (n d : Int) (w : World) (hn : -9223372036854775807 ≤ n ∧ n ≤ 9223372036854775807) (hd : -9223372036854775807 ≤ d ∧ d ≤ 9223372036854775807) (h0 : ¬ d = 0) (hnn : (n == -n) = false) :
    Calls Try.prog 114 #[.int .i64 n, .int .i64 d] w (RetQ (makeQ n d) w) := by
  have hd0 : (d == 0) = false := by simpa using h0
  have hdd : (d == -d) = false := by simp; omega
  rcases Int.lt_or_le d 0 with hs | hs
  · have HQ := Lib.hid (makeQ_neg (n := n) hs rfl)
    have c1 : -9223372036854775807 ≤ -n ∧ -n ≤ 9223372036854775807 := by omega
    have c2 : 1 ≤ -d ∧ -d ≤ 9223372036854775807 := by omega
    have hg1 := gcd_pos (n := -n) (d := -d) (by omega)
    have hg2 := gcd_le (n := -n) (d := -d) (by omega)
    have hg3 : (Int.gcd (-n) (-d) : Int) ≤ 9223372036854775807 := by omega
    clear hg2
    go_enter Try.func114, Try.ntmps114
    go_wp2_with fail
    generalize -n = n1 at *
    generalize -d = d1 at *
    clear hs hd0 h0 hn hd hdd hnn
    refine (gcd_impl n1 d1 _ c1 (by omega)).mono ?_
    rintro e w1 ⟨rfl, m, hw1⟩
    have PR : Hid (Blk w1 w.heap.size 35 #[.int .i64 0, .int .i64 0]) := by rw [hw1]; exact Blk.at_ (g := w.heap.size) w 35 #[.int .i64 0, .int .i64 0] rfl
    have BB : Hid (Below w.heap.size w w1) := by rw [hw1]; exact below_drewN ((Below.refl w.heap.size w).alloc (Nat.le_refl _) (.cells #[.int .i64 0, .int .i64 0] 35)) m
    clear hw1
    have t1 := tdiv_bnd n1 (Int.gcd n1 d1) c1
    have t2 := tdiv_bnd d1 (Int.gcd n1 d1) (by omega)
    generalize (Int.gcd n1 d1 : Int) = g at *
    have g0 : (g == 0) = false := by simp; omega
    have g1 : g ≠ 0 := by omega
    obtain ⟨a, ha⟩ : ∃ a : Int, n1.tdiv g = a := ⟨_, rfl⟩
    obtain ⟨b, hb⟩ : ∃ b : Int, d1.tdiv g = b := ⟨_, rfl⟩
    rw [ha] at t1 HQ
    rw [hb] at t2 HQ
    have e1 : IntKind.i64.wrap a = a := wr64 (by omega) (by omega)
    have e2 : IntKind.i64.wrap b = b := wr64 (by omega) (by omega)
    go_wp2_with fail
    go_region_held3 (fun _ => True) (trivial) (fail)
    clear e1 e2 ha hb
    go_wp2_with fail
    have PR1 := Lib.hid (PR.out.alloc (.cells #[.int .i64 a, .int .i64 b] 35))
    have PL := Lib.hid (Blk.at_ (g := w1.heap.size) w1 35 #[.int .i64 a, .int .i64 b] rfl)
    have BB1 := Lib.hid (BB.out.alloc BB.out.size (.cells #[.int .i64 a, .int .i64 b] 35))
    refine (isValidQ_impl a b _).mono ?_
    rintro e w2 ⟨rfl, b2⟩
    have PR2 : Hid (Blk w2 w.heap.size 35 #[.int .i64 0, .int .i64 0]) := PR1.out.onDrew b2
    have PL2 : Hid (Blk w2 w1.heap.size 35 #[.int .i64 a, .int .i64 b]) := PL.out.onDrew b2
    have BB2 : Hid (Below w.heap.size w w2) := BB1.out.drew.trans (b2.mono BB1.out.drew.size)
    clear PR PR1 PL BB BB1 b2
    have q0 := PR2.out.get 0 (.int .i64 0) rfl
    have q1 := PR2.out.get 1 (.int .i64 0) rfl
    have q2 := PL2.out.get 0 (.int .i64 a) rfl
    have q3 := PL2.out.get 1 (.int .i64 b) rfl
    have f0 := PR2.out.frozen 0
    have f1 := PR2.out.frozen 1
    cases hv : validQ a b
    · have HQ2 : Hid (makeQ n d = (0, 0, false)) := by show _ = _; have := HQ.out; rw [hv] at this; simpa using this
      go_wp2_with fail
      refine bodyPost_ret (v := .tuple #[.agg #[.int .i64 0, .int .i64 0], .bool false]) (by simp [results, Try.results114, go_sem, q0, q1]) rfl ⟨by rw [HQ2.out], ?_⟩
      exact (BB2.out.setCell (p := ⟨w.heap.size, 0, none⟩) (Nat.le_refl _) _).setCell (p := ⟨w.heap.size, 1, none⟩) (Nat.le_refl _) _
    · have HQ2 : Hid (makeQ n d = (a, b, true)) := by show _ = _; have := HQ.out; rw [hv] at this; simpa using this
      go_wp2_with fail
      refine bodyPost_ret (v := .tuple #[.agg #[.int .i64 a, .int .i64 b], .bool true]) (by simp [results, Try.results114, go_sem, q0, q1]) rfl ⟨by rw [HQ2.out], ?_⟩
      exact (BB2.out.setCell (p := ⟨w.heap.size, 0, none⟩) (Nat.le_refl _) _).setCell (p := ⟨w.heap.size, 1, none⟩) (Nat.le_refl _) _
  · have HQ := Lib.hid (makeQ_pos (n := n) (d := d) (by omega) rfl)
    have c1 : -9223372036854775807 ≤ n ∧ n ≤ 9223372036854775807 := by omega
    have c2 : 1 ≤ d ∧ d ≤ 9223372036854775807 := by omega
    have hg1 := gcd_pos (n := n) (d := d) (by omega)
    have hg2 := gcd_le (n := n) (d := d) (by omega)
    have hg3 : (Int.gcd (n) (d) : Int) ≤ 9223372036854775807 := by omega
    clear hg2
    go_enter Try.func114, Try.ntmps114
    go_wp2_with fail
    clear hs hd0 h0 hn hd hdd hnn
    refine (gcd_impl n d _ c1 (by omega)).mono ?_
    rintro e w1 ⟨rfl, m, hw1⟩
    have PR : Hid (Blk w1 w.heap.size 35 #[.int .i64 0, .int .i64 0]) := by rw [hw1]; exact Blk.at_ (g := w.heap.size) w 35 #[.int .i64 0, .int .i64 0] rfl
    have BB : Hid (Below w.heap.size w w1) := by rw [hw1]; exact below_drewN ((Below.refl w.heap.size w).alloc (Nat.le_refl _) (.cells #[.int .i64 0, .int .i64 0] 35)) m
    clear hw1
    have t1 := tdiv_bnd n (Int.gcd n d) c1
    have t2 := tdiv_bnd d (Int.gcd n d) (by omega)
    generalize (Int.gcd n d : Int) = g at *
    have g0 : (g == 0) = false := by simp; omega
    have g1 : g ≠ 0 := by omega
    obtain ⟨a, ha⟩ : ∃ a : Int, n.tdiv g = a := ⟨_, rfl⟩
    obtain ⟨b, hb⟩ : ∃ b : Int, d.tdiv g = b := ⟨_, rfl⟩
    rw [ha] at t1 HQ
    rw [hb] at t2 HQ
    have e1 : IntKind.i64.wrap a = a := wr64 (by omega) (by omega)
    have e2 : IntKind.i64.wrap b = b := wr64 (by omega) (by omega)
    go_wp2_with fail
    go_region_held3 (fun _ => True) (trivial) (fail)
    clear e1 e2 ha hb
    go_wp2_with fail
    have PR1 := Lib.hid (PR.out.alloc (.cells #[.int .i64 a, .int .i64 b] 35))
    have PL := Lib.hid (Blk.at_ (g := w1.heap.size) w1 35 #[.int .i64 a, .int .i64 b] rfl)
    have BB1 := Lib.hid (BB.out.alloc BB.out.size (.cells #[.int .i64 a, .int .i64 b] 35))
    refine (isValidQ_impl a b _).mono ?_
    rintro e w2 ⟨rfl, b2⟩
    have PR2 : Hid (Blk w2 w.heap.size 35 #[.int .i64 0, .int .i64 0]) := PR1.out.onDrew b2
    have PL2 : Hid (Blk w2 w1.heap.size 35 #[.int .i64 a, .int .i64 b]) := PL.out.onDrew b2
    have BB2 : Hid (Below w.heap.size w w2) := BB1.out.drew.trans (b2.mono BB1.out.drew.size)
    clear PR PR1 PL BB BB1 b2
    have q0 := PR2.out.get 0 (.int .i64 0) rfl
    have q1 := PR2.out.get 1 (.int .i64 0) rfl
    have q2 := PL2.out.get 0 (.int .i64 a) rfl
    have q3 := PL2.out.get 1 (.int .i64 b) rfl
    have f0 := PR2.out.frozen 0
    have f1 := PR2.out.frozen 1
    cases hv : validQ a b
    · have HQ2 : Hid (makeQ n d = (0, 0, false)) := by show _ = _; have := HQ.out; rw [hv] at this; simpa using this
      go_wp2_with fail
      refine bodyPost_ret (v := .tuple #[.agg #[.int .i64 0, .int .i64 0], .bool false]) (by simp [results, Try.results114, go_sem, q0, q1]) rfl ⟨by rw [HQ2.out], ?_⟩
      exact (BB2.out.setCell (p := ⟨w.heap.size, 0, none⟩) (Nat.le_refl _) _).setCell (p := ⟨w.heap.size, 1, none⟩) (Nat.le_refl _) _
    · have HQ2 : Hid (makeQ n d = (a, b, true)) := by show _ = _; have := HQ.out; rw [hv] at this; simpa using this
      go_wp2_with fail
      refine bodyPost_ret (v := .tuple #[.agg #[.int .i64 a, .int .i64 b], .bool true]) (by simp [results, Try.results114, go_sem, q0, q1]) rfl ⟨by rw [HQ2.out], ?_⟩
      exact (BB2.out.setCell (p := ⟨w.heap.size, 0, none⟩) (Nat.le_refl _) _).setCell (p := ⟨w.heap.size, 1, none⟩) (Nat.le_refl _) _

set_option maxRecDepth 100000 in
set_option maxHeartbeats 1600000 in
theorem make_impl1 (n d : Int) (w : World) (hn : -9223372036854775807 ≤ n ∧ n ≤ 9223372036854775807) (hd : -9223372036854775807 ≤ d ∧ d ≤ 9223372036854775807) (h0 : ¬ d = 0) (hnn : (n == -n) = true) (hnz : (n != 0) = false) :
    Calls Try.prog 114 #[.int .i64 n, .int .i64 d] w (RetQ (makeQ n d) w) := by
  have hd0 : (d == 0) = false := by simpa using h0
  have hdd : (d == -d) = false := by simp; omega
  rcases Int.lt_or_le d 0 with hs | hs
  · have HQ := Lib.hid (makeQ_neg (n := n) hs rfl)
    have c1 : -9223372036854775807 ≤ -n ∧ -n ≤ 9223372036854775807 := by omega
    have c2 : 1 ≤ -d ∧ -d ≤ 9223372036854775807 := by omega
    have hg1 := gcd_pos (n := -n) (d := -d) (by omega)
    have hg2 := gcd_le (n := -n) (d := -d) (by omega)
    have hg3 : (Int.gcd (-n) (-d) : Int) ≤ 9223372036854775807 := by omega
    clear hg2
    go_enter Try.func114, Try.ntmps114
    go_wp2_with fail
    generalize -n = n1 at *
    generalize -d = d1 at *
    clear hs hd0 h0 hn hd hdd hnn hnz
    refine (gcd_impl n1 d1 _ c1 (by omega)).mono ?_
    rintro e w1 ⟨rfl, m, hw1⟩
    have PR : Hid (Blk w1 w.heap.size 35 #[.int .i64 0, .int .i64 0]) := by rw [hw1]; exact Blk.at_ (g := w.heap.size) w 35 #[.int .i64 0, .int .i64 0] rfl
    have BB : Hid (Below w.heap.size w w1) := by rw [hw1]; exact below_drewN ((Below.refl w.heap.size w).alloc (Nat.le_refl _) (.cells #[.int .i64 0, .int .i64 0] 35)) m
    clear hw1
    have t1 := tdiv_bnd n1 (Int.gcd n1 d1) c1
    have t2 := tdiv_bnd d1 (Int.gcd n1 d1) (by omega)
    generalize (Int.gcd n1 d1 : Int) = g at *
    have g0 : (g == 0) = false := by simp; omega
    have g1 : g ≠ 0 := by omega
    obtain ⟨a, ha⟩ : ∃ a : Int, n1.tdiv g = a := ⟨_, rfl⟩
    obtain ⟨b, hb⟩ : ∃ b : Int, d1.tdiv g = b := ⟨_, rfl⟩
    rw [ha] at t1 HQ
    rw [hb] at t2 HQ
    have e1 : IntKind.i64.wrap a = a := wr64 (by omega) (by omega)
    have e2 : IntKind.i64.wrap b = b := wr64 (by omega) (by omega)
    go_wp2_with fail
    go_region_held3 (fun _ => True) (trivial) (fail)
    clear e1 e2 ha hb
    go_wp2_with fail
    have PR1 := Lib.hid (PR.out.alloc (.cells #[.int .i64 a, .int .i64 b] 35))
    have PL := Lib.hid (Blk.at_ (g := w1.heap.size) w1 35 #[.int .i64 a, .int .i64 b] rfl)
    have BB1 := Lib.hid (BB.out.alloc BB.out.size (.cells #[.int .i64 a, .int .i64 b] 35))
    refine (isValidQ_impl a b _).mono ?_
    rintro e w2 ⟨rfl, b2⟩
    have PR2 : Hid (Blk w2 w.heap.size 35 #[.int .i64 0, .int .i64 0]) := PR1.out.onDrew b2
    have PL2 : Hid (Blk w2 w1.heap.size 35 #[.int .i64 a, .int .i64 b]) := PL.out.onDrew b2
    have BB2 : Hid (Below w.heap.size w w2) := BB1.out.drew.trans (b2.mono BB1.out.drew.size)
    clear PR PR1 PL BB BB1 b2
    have q0 := PR2.out.get 0 (.int .i64 0) rfl
    have q1 := PR2.out.get 1 (.int .i64 0) rfl
    have q2 := PL2.out.get 0 (.int .i64 a) rfl
    have q3 := PL2.out.get 1 (.int .i64 b) rfl
    have f0 := PR2.out.frozen 0
    have f1 := PR2.out.frozen 1
    cases hv : validQ a b
    · have HQ2 : Hid (makeQ n d = (0, 0, false)) := by show _ = _; have := HQ.out; rw [hv] at this; simpa using this
      go_wp2_with fail
      refine bodyPost_ret (v := .tuple #[.agg #[.int .i64 0, .int .i64 0], .bool false]) (by simp [results, Try.results114, go_sem, q0, q1]) rfl ⟨by rw [HQ2.out], ?_⟩
      exact (BB2.out.setCell (p := ⟨w.heap.size, 0, none⟩) (Nat.le_refl _) _).setCell (p := ⟨w.heap.size, 1, none⟩) (Nat.le_refl _) _
    · have HQ2 : Hid (makeQ n d = (a, b, true)) := by show _ = _; have := HQ.out; rw [hv] at this; simpa using this
      go_wp2_with fail
      refine bodyPost_ret (v := .tuple #[.agg #[.int .i64 a, .int .i64 b], .bool true]) (by simp [results, Try.results114, go_sem, q0, q1]) rfl ⟨by rw [HQ2.out], ?_⟩
      exact (BB2.out.setCell (p := ⟨w.heap.size, 0, none⟩) (Nat.le_refl _) _).setCell (p := ⟨w.heap.size, 1, none⟩) (Nat.le_refl _) _
  · have HQ := Lib.hid (makeQ_pos (n := n) (d := d) (by omega) rfl)
    have c1 : -9223372036854775807 ≤ n ∧ n ≤ 9223372036854775807 := by omega
    have c2 : 1 ≤ d ∧ d ≤ 9223372036854775807 := by omega
    have hg1 := gcd_pos (n := n) (d := d) (by omega)
    have hg2 := gcd_le (n := n) (d := d) (by omega)
    have hg3 : (Int.gcd (n) (d) : Int) ≤ 9223372036854775807 := by omega
    clear hg2
    go_enter Try.func114, Try.ntmps114
    go_wp2_with fail
    clear hs hd0 h0 hn hd hdd hnn hnz
    refine (gcd_impl n d _ c1 (by omega)).mono ?_
    rintro e w1 ⟨rfl, m, hw1⟩
    have PR : Hid (Blk w1 w.heap.size 35 #[.int .i64 0, .int .i64 0]) := by rw [hw1]; exact Blk.at_ (g := w.heap.size) w 35 #[.int .i64 0, .int .i64 0] rfl
    have BB : Hid (Below w.heap.size w w1) := by rw [hw1]; exact below_drewN ((Below.refl w.heap.size w).alloc (Nat.le_refl _) (.cells #[.int .i64 0, .int .i64 0] 35)) m
    clear hw1
    have t1 := tdiv_bnd n (Int.gcd n d) c1
    have t2 := tdiv_bnd d (Int.gcd n d) (by omega)
    generalize (Int.gcd n d : Int) = g at *
    have g0 : (g == 0) = false := by simp; omega
    have g1 : g ≠ 0 := by omega
    obtain ⟨a, ha⟩ : ∃ a : Int, n.tdiv g = a := ⟨_, rfl⟩
    obtain ⟨b, hb⟩ : ∃ b : Int, d.tdiv g = b := ⟨_, rfl⟩
    rw [ha] at t1 HQ
    rw [hb] at t2 HQ
    have e1 : IntKind.i64.wrap a = a := wr64 (by omega) (by omega)
    have e2 : IntKind.i64.wrap b = b := wr64 (by omega) (by omega)
    go_wp2_with fail
    go_region_held3 (fun _ => True) (trivial) (fail)
    clear e1 e2 ha hb
    go_wp2_with fail
    have PR1 := Lib.hid (PR.out.alloc (.cells #[.int .i64 a, .int .i64 b] 35))
    have PL := Lib.hid (Blk.at_ (g := w1.heap.size) w1 35 #[.int .i64 a, .int .i64 b] rfl)
    have BB1 := Lib.hid (BB.out.alloc BB.out.size (.cells #[.int .i64 a, .int .i64 b] 35))
    refine (isValidQ_impl a b _).mono ?_
    rintro e w2 ⟨rfl, b2⟩
    have PR2 : Hid (Blk w2 w.heap.size 35 #[.int .i64 0, .int .i64 0]) := PR1.out.onDrew b2
    have PL2 : Hid (Blk w2 w1.heap.size 35 #[.int .i64 a, .int .i64 b]) := PL.out.onDrew b2
    have BB2 : Hid (Below w.heap.size w w2) := BB1.out.drew.trans (b2.mono BB1.out.drew.size)
    clear PR PR1 PL BB BB1 b2
    have q0 := PR2.out.get 0 (.int .i64 0) rfl
    have q1 := PR2.out.get 1 (.int .i64 0) rfl
    have q2 := PL2.out.get 0 (.int .i64 a) rfl
    have q3 := PL2.out.get 1 (.int .i64 b) rfl
    have f0 := PR2.out.frozen 0
    have f1 := PR2.out.frozen 1
    cases hv : validQ a b
    · have HQ2 : Hid (makeQ n d = (0, 0, false)) := by show _ = _; have := HQ.out; rw [hv] at this; simpa using this
      go_wp2_with fail
      refine bodyPost_ret (v := .tuple #[.agg #[.int .i64 0, .int .i64 0], .bool false]) (by simp [results, Try.results114, go_sem, q0, q1]) rfl ⟨by rw [HQ2.out], ?_⟩
      exact (BB2.out.setCell (p := ⟨w.heap.size, 0, none⟩) (Nat.le_refl _) _).setCell (p := ⟨w.heap.size, 1, none⟩) (Nat.le_refl _) _
    · have HQ2 : Hid (makeQ n d = (a, b, true)) := by show _ = _; have := HQ.out; rw [hv] at this; simpa using this
      go_wp2_with fail
      refine bodyPost_ret (v := .tuple #[.agg #[.int .i64 a, .int .i64 b], .bool true]) (by simp [results, Try.results114, go_sem, q0, q1]) rfl ⟨by rw [HQ2.out], ?_⟩
      exact (BB2.out.setCell (p := ⟨w.heap.size, 0, none⟩) (Nat.le_refl _) _).setCell (p := ⟨w.heap.size, 1, none⟩) (Nat.le_refl _) _

set_option maxRecDepth 100000 in
set_option maxHeartbeats 1600000 in
theorem make_impl (n d : Int) (w : World) (hn : -9223372036854775807 ≤ n ∧ n ≤ 9223372036854775807) (hd : -9223372036854775807 ≤ d ∧ d ≤ 9223372036854775807) :
    Calls Try.prog 114 #[.int .i64 n, .int .i64 d] w (RetQ (makeQ n d) w) := by
  by_cases h0 : d = 0
  · subst h0
    go_enter Try.func114, Try.ntmps114
    go_wp2_with fail
    exact bodyPost_ret (v := .tuple #[.agg #[.int .i64 0, .int .i64 0], .bool false]) (by simp [results, Try.results114, go_sem]) rfl ⟨by rw [makeQ_zero], (Below.refl _ _).alloc (Nat.le_refl _) _⟩
  by_cases hz : n = 0
  · exact make_impl1 n d w hn hd h0 (by simp [hz]) (by simp [hz])
  · exact make_impl0 n d w hn hd h0 (by simp; omega)

/- Contracts of the reference's operations on rationals. -/

theorem mul_M {x y : Int} (hx : -2147483647 ≤ x ∧ x ≤ 2147483647) (hy : -2147483647 ≤ y ∧ y ≤ 2147483647) : -4611686014132420609 ≤ x * y ∧ x * y ≤ 4611686014132420609 := by
  have h1 : (x * y).natAbs = x.natAbs * y.natAbs := Int.natAbs_mul x y
  have h2 : x.natAbs * y.natAbs ≤ 2147483647 * 2147483647 := Nat.mul_le_mul (by omega) (by omega)
  omega
theorem addQ_no {a b c d : Int} (h : validQ a b = false ∨ validQ c d = false) : addQ a b c d = (0, 0, false) := by rcases h with h | h <;> simp [addQ, h]
theorem addQ_yes {a b c d : Int} (h : validQ a b = true) (h' : validQ c d = true) : addQ a b c d = makeQ (a * d + c * b) (b * d) := by simp [addQ, h, h']
theorem subQ_no {a b c d : Int} (h : validQ a b = false ∨ validQ c d = false) : subQ a b c d = (0, 0, false) := by rcases h with h | h <;> simp [subQ, h]
theorem subQ_yes {a b c d : Int} (h : validQ a b = true) (h' : validQ c d = true) : subQ a b c d = makeQ (a * d - c * b) (b * d) := by simp [subQ, h, h']
theorem mulQ_no {a b c d : Int} (h : validQ a b = false ∨ validQ c d = false) : mulQ a b c d = (0, 0, false) := by rcases h with h | h <;> simp [mulQ, h]
theorem mulQ_yes {a b c d : Int} (h : validQ a b = true) (h' : validQ c d = true) : mulQ a b c d = makeQ (a * c) (b * d) := by simp [mulQ, h, h']
theorem divQ_no {a b c d : Int} (h : validQ a b = false ∨ validQ c d = false) : divQ a b c d = (0, 0, false) := by rcases h with h | h <;> simp [divQ, h]
theorem divQ_yes {a b c d : Int} (h : validQ a b = true) (h' : validQ c d = true) : divQ a b c d = makeQ (a * d) (b * c) := by simp [divQ, h, h']
theorem divQ_zero {a b d : Int} : divQ a b 0 d = (0, 0, false) := by unfold divQ; split <;> simp [makeQ]
theorem cmpQ_no {a b c d : Int} (h : validQ a b = false ∨ validQ c d = false) : cmpQ a b c d = 0 := by rcases h with h | h <;> simp [cmpQ, h]
theorem cmpQ_yes {a b c d : Int} (h : validQ a b = true) (h' : validQ c d = true) : cmpQ a b c d = if a * d < c * b then -1 else if c * b < a * d then 1 else 0 := by simp [cmpQ, h, h']
set_option maxRecDepth 100000 in
set_option maxHeartbeats 1600000 in
theorem add_spec (a b c d : Int) (w : World) : Calls Try.prog 99 #[qv a b, qv c d] w (RetQ (addQ a b c d) w) := by
  have B0 := Lib.hid ((((Below.refl w.heap.size w).alloc (Nat.le_refl _) (.cells #[.int .i64 a, .int .i64 b] 35)).alloc (by simp) (.cells #[.int .i64 c, .int .i64 d] 35)).alloc (by simp; omega) (.cells #[.int .i64 0, .int .i64 0] 35))
  have P0 := Lib.hid (((Blk.at_ (g := w.heap.size) w 35 #[.int .i64 a, .int .i64 b] rfl).alloc (.cells #[.int .i64 c, .int .i64 d] 35)).alloc (.cells #[.int .i64 0, .int .i64 0] 35))
  have P1 := Lib.hid ((Blk.at_ (g := w.heap.size + 1) (w.alloc (.cells #[.int .i64 a, .int .i64 b] 35)) 35 #[.int .i64 c, .int .i64 d] (by simp)).alloc (.cells #[.int .i64 0, .int .i64 0] 35))
  have P2 := Lib.hid (Blk.at_ (g := w.heap.size + 1 + 1) ((w.alloc (.cells #[.int .i64 a, .int .i64 b] 35)).alloc (.cells #[.int .i64 c, .int .i64 d] 35)) 35 #[.int .i64 0, .int .i64 0] (by simp))
  go_enter Try.func99, Try.ntmps99
  go_wp2_with fail
  generalize ((w.alloc (.cells #[.int .i64 a, .int .i64 b] 35)).alloc (.cells #[.int .i64 c, .int .i64 d] 35)).alloc (.cells #[.int .i64 0, .int .i64 0] 35) = W at *
  refine (isValidQ_spec a b _).mono ?_
  rintro e w1 ⟨rfl, b1⟩
  have B1 := Lib.hid (B0.out.trans (b1.mono B0.out.size))
  have P01 := Lib.hid (P0.out.on b1)
  have P11 := Lib.hid (P1.out.on b1)
  have P21 := Lib.hid (P2.out.on b1)
  clear B0 P0 P1 P2 b1
  have p00 := P01.out.get 0 _ rfl
  have p01 := P01.out.get 1 _ rfl
  have p10 := P11.out.get 0 _ rfl
  have p11 := P11.out.get 1 _ rfl
  have p20 := P21.out.get 0 _ rfl
  have p21 := P21.out.get 1 _ rfl
  have f0 := P21.out.frozen 0
  have f1 := P21.out.frozen 1
  have ql := P21.out.lt
  cases hv : validQ a b
  · have GV := Lib.hid hv
    clear hv
    go_wp2_with fail
    refine bodyPost_ret (v := .tuple #[.agg #[.int .i64 0, .int .i64 0], .bool false]) (by simp [results, Try.results99, go_sem, p20, p21]) rfl ⟨by rw [addQ_no (.inl GV.out)], ?_⟩
    exact (B1.out.setCell (p := ⟨w.heap.size + 1 + 1, 0, none⟩) (by show _ ≤ w.heap.size + 1 + 1; omega) _).setCell (p := ⟨w.heap.size + 1 + 1, 1, none⟩) (by show _ ≤ w.heap.size + 1 + 1; omega) _
  have GV := Lib.hid hv
  clear hv
  go_wp2_with fail
  refine (isValidQ_spec c d _).mono ?_
  rintro e w2 ⟨rfl, b1⟩
  clear p00 p01 p10 p11 p20 p21 f0 f1 ql
  have B2 := Lib.hid (B1.out.trans (b1.mono B1.out.size))
  have P02 := Lib.hid (P01.out.on b1)
  have P12 := Lib.hid (P11.out.on b1)
  have P22 := Lib.hid (P21.out.on b1)
  clear B1 P01 P11 P21 b1
  have p00 := P02.out.get 0 _ rfl
  have p01 := P02.out.get 1 _ rfl
  have p10 := P12.out.get 0 _ rfl
  have p11 := P12.out.get 1 _ rfl
  have p20 := P22.out.get 0 _ rfl
  have p21 := P22.out.get 1 _ rfl
  have f0 := P22.out.frozen 0
  have f1 := P22.out.frozen 1
  have ql := P22.out.lt
  cases hv : validQ c d
  · have GW := Lib.hid hv
    clear hv
    go_wp2_with fail
    refine bodyPost_ret (v := .tuple #[.agg #[.int .i64 0, .int .i64 0], .bool false]) (by simp [results, Try.results99, go_sem, p20, p21]) rfl ⟨by rw [addQ_no (.inr GW.out)], ?_⟩
    exact (B2.out.setCell (p := ⟨w.heap.size + 1 + 1, 0, none⟩) (by show _ ≤ w.heap.size + 1 + 1; omega) _).setCell (p := ⟨w.heap.size + 1 + 1, 1, none⟩) (by show _ ≤ w.heap.size + 1 + 1; omega) _
  have GW := Lib.hid hv
  clear hv
  have h1 := validQ_bnd GV.out
  have h2 := validQ_bnd GW.out
  have m0 := mul_M (x := a) (y := d) (by omega) (by omega)
  have m1 := mul_M (x := c) (y := b) (by omega) (by omega)
  have m2 := mul_M (x := b) (y := d) (by omega) (by omega)
  clear h1 h2
  have HQ := Lib.hid (addQ_yes GV.out GW.out)
  go_wp2_with fail
  refine (make_spec (a * d + c * b) (b * d) _ (by omega) (by omega)).mono ?_
  rintro e w3 ⟨rfl, b1⟩
  generalize makeQ (a * d + c * b) (b * d) = q at *
  obtain ⟨x, y, z⟩ := q
  clear p00 p01 p10 p11 p20 p21 f0 f1 ql
  have B3 := Lib.hid (B2.out.trans (b1.mono B2.out.size))
  have P03 := Lib.hid (P02.out.on b1)
  have P13 := Lib.hid (P12.out.on b1)
  have P23 := Lib.hid (P22.out.on b1)
  clear B2 P02 P12 P22 b1
  have p00 := P03.out.get 0 _ rfl
  have p01 := P03.out.get 1 _ rfl
  have p10 := P13.out.get 0 _ rfl
  have p11 := P13.out.get 1 _ rfl
  have p20 := P23.out.get 0 _ rfl
  have p21 := P23.out.get 1 _ rfl
  have f0 := P23.out.frozen 0
  have f1 := P23.out.frozen 1
  have ql := P23.out.lt
  clear m0 m1 m2
  go_wp2_with fail
  have R := ((P23.out.store 0 (.int .i64 x)).store 1 (.int .i64 y)).alloc (.cells #[.int .i64 x, .int .i64 y] 35)
  have r0 := R.get 0 (.int .i64 x) rfl
  have r1 := R.get 1 (.int .i64 y) rfl
  refine bodyPost_ret (v := .tuple #[.agg #[.int .i64 x, .int .i64 y], .bool z]) (by simp [results, Try.results99, go_sem, r0, r1]) rfl ⟨by rw [HQ.out], ?_⟩
  exact ((B3.out.setCell (p := ⟨w.heap.size + 1 + 1, 0, none⟩) (by show _ ≤ w.heap.size + 1 + 1; omega) _).setCell (p := ⟨w.heap.size + 1 + 1, 1, none⟩) (by show _ ≤ w.heap.size + 1 + 1; omega) _).alloc (by simp [World.setCell]; omega) _
set_option maxRecDepth 100000 in
set_option maxHeartbeats 1600000 in
theorem mul_spec (a b c d : Int) (w : World) : Calls Try.prog 98 #[qv a b, qv c d] w (RetQ (mulQ a b c d) w) := by
  have B0 := Lib.hid ((((Below.refl w.heap.size w).alloc (Nat.le_refl _) (.cells #[.int .i64 a, .int .i64 b] 35)).alloc (by simp) (.cells #[.int .i64 c, .int .i64 d] 35)).alloc (by simp; omega) (.cells #[.int .i64 0, .int .i64 0] 35))
  have P0 := Lib.hid (((Blk.at_ (g := w.heap.size) w 35 #[.int .i64 a, .int .i64 b] rfl).alloc (.cells #[.int .i64 c, .int .i64 d] 35)).alloc (.cells #[.int .i64 0, .int .i64 0] 35))
  have P1 := Lib.hid ((Blk.at_ (g := w.heap.size + 1) (w.alloc (.cells #[.int .i64 a, .int .i64 b] 35)) 35 #[.int .i64 c, .int .i64 d] (by simp)).alloc (.cells #[.int .i64 0, .int .i64 0] 35))
  have P2 := Lib.hid (Blk.at_ (g := w.heap.size + 1 + 1) ((w.alloc (.cells #[.int .i64 a, .int .i64 b] 35)).alloc (.cells #[.int .i64 c, .int .i64 d] 35)) 35 #[.int .i64 0, .int .i64 0] (by simp))
  go_enter Try.func98, Try.ntmps98
  go_wp2_with fail
  generalize ((w.alloc (.cells #[.int .i64 a, .int .i64 b] 35)).alloc (.cells #[.int .i64 c, .int .i64 d] 35)).alloc (.cells #[.int .i64 0, .int .i64 0] 35) = W at *
  refine (isValidQ_spec a b _).mono ?_
  rintro e w1 ⟨rfl, b1⟩
  have B1 := Lib.hid (B0.out.trans (b1.mono B0.out.size))
  have P01 := Lib.hid (P0.out.on b1)
  have P11 := Lib.hid (P1.out.on b1)
  have P21 := Lib.hid (P2.out.on b1)
  clear B0 P0 P1 P2 b1
  have p00 := P01.out.get 0 _ rfl
  have p01 := P01.out.get 1 _ rfl
  have p10 := P11.out.get 0 _ rfl
  have p11 := P11.out.get 1 _ rfl
  have p20 := P21.out.get 0 _ rfl
  have p21 := P21.out.get 1 _ rfl
  have f0 := P21.out.frozen 0
  have f1 := P21.out.frozen 1
  have ql := P21.out.lt
  cases hv : validQ a b
  · have GV := Lib.hid hv
    clear hv
    go_wp2_with fail
    refine bodyPost_ret (v := .tuple #[.agg #[.int .i64 0, .int .i64 0], .bool false]) (by simp [results, Try.results98, go_sem, p20, p21]) rfl ⟨by rw [mulQ_no (.inl GV.out)], ?_⟩
    exact (B1.out.setCell (p := ⟨w.heap.size + 1 + 1, 0, none⟩) (by show _ ≤ w.heap.size + 1 + 1; omega) _).setCell (p := ⟨w.heap.size + 1 + 1, 1, none⟩) (by show _ ≤ w.heap.size + 1 + 1; omega) _
  have GV := Lib.hid hv
  clear hv
  go_wp2_with fail
  refine (isValidQ_spec c d _).mono ?_
  rintro e w2 ⟨rfl, b1⟩
  clear p00 p01 p10 p11 p20 p21 f0 f1 ql
  have B2 := Lib.hid (B1.out.trans (b1.mono B1.out.size))
  have P02 := Lib.hid (P01.out.on b1)
  have P12 := Lib.hid (P11.out.on b1)
  have P22 := Lib.hid (P21.out.on b1)
  clear B1 P01 P11 P21 b1
  have p00 := P02.out.get 0 _ rfl
  have p01 := P02.out.get 1 _ rfl
  have p10 := P12.out.get 0 _ rfl
  have p11 := P12.out.get 1 _ rfl
  have p20 := P22.out.get 0 _ rfl
  have p21 := P22.out.get 1 _ rfl
  have f0 := P22.out.frozen 0
  have f1 := P22.out.frozen 1
  have ql := P22.out.lt
  cases hv : validQ c d
  · have GW := Lib.hid hv
    clear hv
    go_wp2_with fail
    refine bodyPost_ret (v := .tuple #[.agg #[.int .i64 0, .int .i64 0], .bool false]) (by simp [results, Try.results98, go_sem, p20, p21]) rfl ⟨by rw [mulQ_no (.inr GW.out)], ?_⟩
    exact (B2.out.setCell (p := ⟨w.heap.size + 1 + 1, 0, none⟩) (by show _ ≤ w.heap.size + 1 + 1; omega) _).setCell (p := ⟨w.heap.size + 1 + 1, 1, none⟩) (by show _ ≤ w.heap.size + 1 + 1; omega) _
  have GW := Lib.hid hv
  clear hv
  have h1 := validQ_bnd GV.out
  have h2 := validQ_bnd GW.out
  have m0 := mul_M (x := a) (y := c) (by omega) (by omega)
  have m1 := mul_M (x := b) (y := d) (by omega) (by omega)
  clear h1 h2
  have HQ := Lib.hid (mulQ_yes GV.out GW.out)
  go_wp2_with fail
  refine (make_spec (a * c) (b * d) _ (by omega) (by omega)).mono ?_
  rintro e w3 ⟨rfl, b1⟩
  generalize makeQ (a * c) (b * d) = q at *
  obtain ⟨x, y, z⟩ := q
  clear p00 p01 p10 p11 p20 p21 f0 f1 ql
  have B3 := Lib.hid (B2.out.trans (b1.mono B2.out.size))
  have P03 := Lib.hid (P02.out.on b1)
  have P13 := Lib.hid (P12.out.on b1)
  have P23 := Lib.hid (P22.out.on b1)
  clear B2 P02 P12 P22 b1
  have p00 := P03.out.get 0 _ rfl
  have p01 := P03.out.get 1 _ rfl
  have p10 := P13.out.get 0 _ rfl
  have p11 := P13.out.get 1 _ rfl
  have p20 := P23.out.get 0 _ rfl
  have p21 := P23.out.get 1 _ rfl
  have f0 := P23.out.frozen 0
  have f1 := P23.out.frozen 1
  have ql := P23.out.lt
  clear m0 m1
  go_wp2_with fail
  have R := ((P23.out.store 0 (.int .i64 x)).store 1 (.int .i64 y)).alloc (.cells #[.int .i64 x, .int .i64 y] 35)
  have r0 := R.get 0 (.int .i64 x) rfl
  have r1 := R.get 1 (.int .i64 y) rfl
  refine bodyPost_ret (v := .tuple #[.agg #[.int .i64 x, .int .i64 y], .bool z]) (by simp [results, Try.results98, go_sem, r0, r1]) rfl ⟨by rw [HQ.out], ?_⟩
  exact ((B3.out.setCell (p := ⟨w.heap.size + 1 + 1, 0, none⟩) (by show _ ≤ w.heap.size + 1 + 1; omega) _).setCell (p := ⟨w.heap.size + 1 + 1, 1, none⟩) (by show _ ≤ w.heap.size + 1 + 1; omega) _).alloc (by simp [World.setCell]; omega) _

/- Contracts of the program's operations on rationals. -/

set_option maxRecDepth 100000 in
set_option maxHeartbeats 1600000 in
theorem add_impl (a b c d : Int) (w : World) : Calls Try.prog 101 #[qv a b, qv c d] w (RetQ (addQ a b c d) w) := by
  have B0 := Lib.hid ((((Below.refl w.heap.size w).alloc (Nat.le_refl _) (.cells #[.int .i64 a, .int .i64 b] 35)).alloc (by simp) (.cells #[.int .i64 c, .int .i64 d] 35)).alloc (by simp; omega) (.cells #[.int .i64 0, .int .i64 0] 35))
  have P0 := Lib.hid (((Blk.at_ (g := w.heap.size) w 35 #[.int .i64 a, .int .i64 b] rfl).alloc (.cells #[.int .i64 c, .int .i64 d] 35)).alloc (.cells #[.int .i64 0, .int .i64 0] 35))
  have P1 := Lib.hid ((Blk.at_ (g := w.heap.size + 1) (w.alloc (.cells #[.int .i64 a, .int .i64 b] 35)) 35 #[.int .i64 c, .int .i64 d] (by simp)).alloc (.cells #[.int .i64 0, .int .i64 0] 35))
  have P2 := Lib.hid (Blk.at_ (g := w.heap.size + 1 + 1) ((w.alloc (.cells #[.int .i64 a, .int .i64 b] 35)).alloc (.cells #[.int .i64 c, .int .i64 d] 35)) 35 #[.int .i64 0, .int .i64 0] (by simp))
  go_enter Try.func101, Try.ntmps101
  go_wp2_with fail
  generalize ((w.alloc (.cells #[.int .i64 a, .int .i64 b] 35)).alloc (.cells #[.int .i64 c, .int .i64 d] 35)).alloc (.cells #[.int .i64 0, .int .i64 0] 35) = W at *
  refine (isValidQ_impl a b _).mono ?_
  rintro e w1 ⟨rfl, b1⟩
  have B1 := Lib.hid (B0.out.trans (b1.mono B0.out.size))
  have P01 := Lib.hid (P0.out.on b1)
  have P11 := Lib.hid (P1.out.on b1)
  have P21 := Lib.hid (P2.out.on b1)
  clear B0 P0 P1 P2 b1
  have p00 := P01.out.get 0 _ rfl
  have p01 := P01.out.get 1 _ rfl
  have p10 := P11.out.get 0 _ rfl
  have p11 := P11.out.get 1 _ rfl
  have p20 := P21.out.get 0 _ rfl
  have p21 := P21.out.get 1 _ rfl
  have f0 := P21.out.frozen 0
  have f1 := P21.out.frozen 1
  have ql := P21.out.lt
  cases hv : validQ a b
  · have GV := Lib.hid hv
    clear hv
    go_wp2_with fail
    refine bodyPost_ret (v := .tuple #[.agg #[.int .i64 0, .int .i64 0], .bool false]) (by simp [results, Try.results101, go_sem, p20, p21]) rfl ⟨by rw [addQ_no (.inl GV.out)], ?_⟩
    exact (B1.out.setCell (p := ⟨w.heap.size + 1 + 1, 0, none⟩) (by show _ ≤ w.heap.size + 1 + 1; omega) _).setCell (p := ⟨w.heap.size + 1 + 1, 1, none⟩) (by show _ ≤ w.heap.size + 1 + 1; omega) _
  have GV := Lib.hid hv
  clear hv
  go_wp2_with fail
  refine (isValidQ_impl c d _).mono ?_
  rintro e w2 ⟨rfl, b1⟩
  clear p00 p01 p10 p11 p20 p21 f0 f1 ql
  have B2 := Lib.hid (B1.out.trans (b1.mono B1.out.size))
  have P02 := Lib.hid (P01.out.on b1)
  have P12 := Lib.hid (P11.out.on b1)
  have P22 := Lib.hid (P21.out.on b1)
  clear B1 P01 P11 P21 b1
  have p00 := P02.out.get 0 _ rfl
  have p01 := P02.out.get 1 _ rfl
  have p10 := P12.out.get 0 _ rfl
  have p11 := P12.out.get 1 _ rfl
  have p20 := P22.out.get 0 _ rfl
  have p21 := P22.out.get 1 _ rfl
  have f0 := P22.out.frozen 0
  have f1 := P22.out.frozen 1
  have ql := P22.out.lt
  cases hv : validQ c d
  · have GW := Lib.hid hv
    clear hv
    go_wp2_with fail
    refine bodyPost_ret (v := .tuple #[.agg #[.int .i64 0, .int .i64 0], .bool false]) (by simp [results, Try.results101, go_sem, p20, p21]) rfl ⟨by rw [addQ_no (.inr GW.out)], ?_⟩
    exact (B2.out.setCell (p := ⟨w.heap.size + 1 + 1, 0, none⟩) (by show _ ≤ w.heap.size + 1 + 1; omega) _).setCell (p := ⟨w.heap.size + 1 + 1, 1, none⟩) (by show _ ≤ w.heap.size + 1 + 1; omega) _
  have GW := Lib.hid hv
  clear hv
  have h1 := validQ_bnd GV.out
  have h2 := validQ_bnd GW.out
  have m0 := mul_M (x := a) (y := d) (by omega) (by omega)
  have m1 := mul_M (x := c) (y := b) (by omega) (by omega)
  have m2 := mul_M (x := b) (y := d) (by omega) (by omega)
  clear h1 h2
  have HQ := Lib.hid (addQ_yes GV.out GW.out)
  go_wp2_with fail
  refine (make_impl (a * d + c * b) (b * d) _ (by omega) (by omega)).mono ?_
  rintro e w3 ⟨rfl, b1⟩
  generalize makeQ (a * d + c * b) (b * d) = q at *
  obtain ⟨x, y, z⟩ := q
  clear p00 p01 p10 p11 p20 p21 f0 f1 ql
  have B3 := Lib.hid (B2.out.trans (b1.mono B2.out.size))
  have P03 := Lib.hid (P02.out.on b1)
  have P13 := Lib.hid (P12.out.on b1)
  have P23 := Lib.hid (P22.out.on b1)
  clear B2 P02 P12 P22 b1
  have p00 := P03.out.get 0 _ rfl
  have p01 := P03.out.get 1 _ rfl
  have p10 := P13.out.get 0 _ rfl
  have p11 := P13.out.get 1 _ rfl
  have p20 := P23.out.get 0 _ rfl
  have p21 := P23.out.get 1 _ rfl
  have f0 := P23.out.frozen 0
  have f1 := P23.out.frozen 1
  have ql := P23.out.lt
  clear m0 m1 m2
  go_wp2_with fail
  refine bodyPost_ret (v := .tuple #[.agg #[.int .i64 x, .int .i64 y], .bool z]) (by simp [results, Try.results101, go_sem, p20, p21]) rfl ⟨by rw [HQ.out], ?_⟩
  exact (B3.out.setCell (p := ⟨w.heap.size + 1 + 1, 0, none⟩) (by show _ ≤ w.heap.size + 1 + 1; omega) _).setCell (p := ⟨w.heap.size + 1 + 1, 1, none⟩) (by show _ ≤ w.heap.size + 1 + 1; omega) _
set_option maxRecDepth 100000 in
set_option maxHeartbeats 1600000 in
theorem mul_impl (a b c d : Int) (w : World) : Calls Try.prog 100 #[qv a b, qv c d] w (RetQ (mulQ a b c d) w) := by
  have B0 := Lib.hid ((((Below.refl w.heap.size w).alloc (Nat.le_refl _) (.cells #[.int .i64 a, .int .i64 b] 35)).alloc (by simp) (.cells #[.int .i64 c, .int .i64 d] 35)).alloc (by simp; omega) (.cells #[.int .i64 0, .int .i64 0] 35))
  have P0 := Lib.hid (((Blk.at_ (g := w.heap.size) w 35 #[.int .i64 a, .int .i64 b] rfl).alloc (.cells #[.int .i64 c, .int .i64 d] 35)).alloc (.cells #[.int .i64 0, .int .i64 0] 35))
  have P1 := Lib.hid ((Blk.at_ (g := w.heap.size + 1) (w.alloc (.cells #[.int .i64 a, .int .i64 b] 35)) 35 #[.int .i64 c, .int .i64 d] (by simp)).alloc (.cells #[.int .i64 0, .int .i64 0] 35))
  have P2 := Lib.hid (Blk.at_ (g := w.heap.size + 1 + 1) ((w.alloc (.cells #[.int .i64 a, .int .i64 b] 35)).alloc (.cells #[.int .i64 c, .int .i64 d] 35)) 35 #[.int .i64 0, .int .i64 0] (by simp))
  go_enter Try.func100, Try.ntmps100
  go_wp2_with fail
  generalize ((w.alloc (.cells #[.int .i64 a, .int .i64 b] 35)).alloc (.cells #[.int .i64 c, .int .i64 d] 35)).alloc (.cells #[.int .i64 0, .int .i64 0] 35) = W at *
  refine (isValidQ_impl a b _).mono ?_
  rintro e w1 ⟨rfl, b1⟩
  have B1 := Lib.hid (B0.out.trans (b1.mono B0.out.size))
  have P01 := Lib.hid (P0.out.on b1)
  have P11 := Lib.hid (P1.out.on b1)
  have P21 := Lib.hid (P2.out.on b1)
  clear B0 P0 P1 P2 b1
  have p00 := P01.out.get 0 _ rfl
  have p01 := P01.out.get 1 _ rfl
  have p10 := P11.out.get 0 _ rfl
  have p11 := P11.out.get 1 _ rfl
  have p20 := P21.out.get 0 _ rfl
  have p21 := P21.out.get 1 _ rfl
  have f0 := P21.out.frozen 0
  have f1 := P21.out.frozen 1
  have ql := P21.out.lt
  cases hv : validQ a b
  · have GV := Lib.hid hv
    clear hv
    go_wp2_with fail
    refine bodyPost_ret (v := .tuple #[.agg #[.int .i64 0, .int .i64 0], .bool false]) (by simp [results, Try.results100, go_sem, p20, p21]) rfl ⟨by rw [mulQ_no (.inl GV.out)], ?_⟩
    exact (B1.out.setCell (p := ⟨w.heap.size + 1 + 1, 0, none⟩) (by show _ ≤ w.heap.size + 1 + 1; omega) _).setCell (p := ⟨w.heap.size + 1 + 1, 1, none⟩) (by show _ ≤ w.heap.size + 1 + 1; omega) _
  have GV := Lib.hid hv
  clear hv
  go_wp2_with fail
  refine (isValidQ_impl c d _).mono ?_
  rintro e w2 ⟨rfl, b1⟩
  clear p00 p01 p10 p11 p20 p21 f0 f1 ql
  have B2 := Lib.hid (B1.out.trans (b1.mono B1.out.size))
  have P02 := Lib.hid (P01.out.on b1)
  have P12 := Lib.hid (P11.out.on b1)
  have P22 := Lib.hid (P21.out.on b1)
  clear B1 P01 P11 P21 b1
  have p00 := P02.out.get 0 _ rfl
  have p01 := P02.out.get 1 _ rfl
  have p10 := P12.out.get 0 _ rfl
  have p11 := P12.out.get 1 _ rfl
  have p20 := P22.out.get 0 _ rfl
  have p21 := P22.out.get 1 _ rfl
  have f0 := P22.out.frozen 0
  have f1 := P22.out.frozen 1
  have ql := P22.out.lt
  cases hv : validQ c d
  · have GW := Lib.hid hv
    clear hv
    go_wp2_with fail
    refine bodyPost_ret (v := .tuple #[.agg #[.int .i64 0, .int .i64 0], .bool false]) (by simp [results, Try.results100, go_sem, p20, p21]) rfl ⟨by rw [mulQ_no (.inr GW.out)], ?_⟩
    exact (B2.out.setCell (p := ⟨w.heap.size + 1 + 1, 0, none⟩) (by show _ ≤ w.heap.size + 1 + 1; omega) _).setCell (p := ⟨w.heap.size + 1 + 1, 1, none⟩) (by show _ ≤ w.heap.size + 1 + 1; omega) _
  have GW := Lib.hid hv
  clear hv
  have h1 := validQ_bnd GV.out
  have h2 := validQ_bnd GW.out
  have m0 := mul_M (x := a) (y := c) (by omega) (by omega)
  have m1 := mul_M (x := b) (y := d) (by omega) (by omega)
  clear h1 h2
  have HQ := Lib.hid (mulQ_yes GV.out GW.out)
  go_wp2_with fail
  refine (make_impl (a * c) (b * d) _ (by omega) (by omega)).mono ?_
  rintro e w3 ⟨rfl, b1⟩
  generalize makeQ (a * c) (b * d) = q at *
  obtain ⟨x, y, z⟩ := q
  clear p00 p01 p10 p11 p20 p21 f0 f1 ql
  have B3 := Lib.hid (B2.out.trans (b1.mono B2.out.size))
  have P03 := Lib.hid (P02.out.on b1)
  have P13 := Lib.hid (P12.out.on b1)
  have P23 := Lib.hid (P22.out.on b1)
  clear B2 P02 P12 P22 b1
  have p00 := P03.out.get 0 _ rfl
  have p01 := P03.out.get 1 _ rfl
  have p10 := P13.out.get 0 _ rfl
  have p11 := P13.out.get 1 _ rfl
  have p20 := P23.out.get 0 _ rfl
  have p21 := P23.out.get 1 _ rfl
  have f0 := P23.out.frozen 0
  have f1 := P23.out.frozen 1
  have ql := P23.out.lt
  clear m0 m1
  go_wp2_with fail
  refine bodyPost_ret (v := .tuple #[.agg #[.int .i64 x, .int .i64 y], .bool z]) (by simp [results, Try.results100, go_sem, p20, p21]) rfl ⟨by rw [HQ.out], ?_⟩
  exact (B3.out.setCell (p := ⟨w.heap.size + 1 + 1, 0, none⟩) (by show _ ≤ w.heap.size + 1 + 1; omega) _).setCell (p := ⟨w.heap.size + 1 + 1, 1, none⟩) (by show _ ≤ w.heap.size + 1 + 1; omega) _

/- Dividing and subtracting rationals. -/

set_option maxRecDepth 100000 in
set_option maxHeartbeats 1600000 in
theorem div_spec (a b c d : Int) (w : World) : Calls Try.prog 93 #[qv a b, qv c d] w (RetQ (divQ a b c d) w) := by
  have B0 := Lib.hid ((((Below.refl w.heap.size w).alloc (Nat.le_refl _) (.cells #[.int .i64 a, .int .i64 b] 35)).alloc (by simp) (.cells #[.int .i64 c, .int .i64 d] 35)).alloc (by simp; omega) (.cells #[.int .i64 0, .int .i64 0] 35))
  have P0 := Lib.hid (((Blk.at_ (g := w.heap.size) w 35 #[.int .i64 a, .int .i64 b] rfl).alloc (.cells #[.int .i64 c, .int .i64 d] 35)).alloc (.cells #[.int .i64 0, .int .i64 0] 35))
  have P1 := Lib.hid ((Blk.at_ (g := w.heap.size + 1) (w.alloc (.cells #[.int .i64 a, .int .i64 b] 35)) 35 #[.int .i64 c, .int .i64 d] (by simp)).alloc (.cells #[.int .i64 0, .int .i64 0] 35))
  have P2 := Lib.hid (Blk.at_ (g := w.heap.size + 1 + 1) ((w.alloc (.cells #[.int .i64 a, .int .i64 b] 35)).alloc (.cells #[.int .i64 c, .int .i64 d] 35)) 35 #[.int .i64 0, .int .i64 0] (by simp))
  go_enter Try.func93, Try.ntmps93
  go_wp2_with fail
  generalize ((w.alloc (.cells #[.int .i64 a, .int .i64 b] 35)).alloc (.cells #[.int .i64 c, .int .i64 d] 35)).alloc (.cells #[.int .i64 0, .int .i64 0] 35) = W at *
  refine (isValidQ_spec a b _).mono ?_
  rintro e w1 ⟨rfl, b1⟩
  have B1 := Lib.hid (B0.out.trans (b1.mono B0.out.size))
  have P01 := Lib.hid (P0.out.on b1)
  have P11 := Lib.hid (P1.out.on b1)
  have P21 := Lib.hid (P2.out.on b1)
  clear B0 P0 P1 P2 b1
  have p00 := P01.out.get 0 _ rfl
  have p01 := P01.out.get 1 _ rfl
  have p10 := P11.out.get 0 _ rfl
  have p11 := P11.out.get 1 _ rfl
  have p20 := P21.out.get 0 _ rfl
  have p21 := P21.out.get 1 _ rfl
  have f0 := P21.out.frozen 0
  have f1 := P21.out.frozen 1
  have ql := P21.out.lt
  cases hv : validQ a b
  · have GV := Lib.hid hv
    clear hv
    go_wp2_with fail
    refine bodyPost_ret (v := .tuple #[.agg #[.int .i64 0, .int .i64 0], .bool false]) (by simp [results, Try.results93, go_sem, p20, p21]) rfl ⟨by rw [divQ_no (.inl GV.out)], ?_⟩
    exact (B1.out.setCell (p := ⟨w.heap.size + 1 + 1, 0, none⟩) (by show _ ≤ w.heap.size + 1 + 1; omega) _).setCell (p := ⟨w.heap.size + 1 + 1, 1, none⟩) (by show _ ≤ w.heap.size + 1 + 1; omega) _
  have GV := Lib.hid hv
  clear hv
  go_wp2_with fail
  refine (isValidQ_spec c d _).mono ?_
  rintro e w2 ⟨rfl, b1⟩
  clear p00 p01 p10 p11 p20 p21 f0 f1 ql
  have B2 := Lib.hid (B1.out.trans (b1.mono B1.out.size))
  have P02 := Lib.hid (P01.out.on b1)
  have P12 := Lib.hid (P11.out.on b1)
  have P22 := Lib.hid (P21.out.on b1)
  clear B1 P01 P11 P21 b1
  have p00 := P02.out.get 0 _ rfl
  have p01 := P02.out.get 1 _ rfl
  have p10 := P12.out.get 0 _ rfl
  have p11 := P12.out.get 1 _ rfl
  have p20 := P22.out.get 0 _ rfl
  have p21 := P22.out.get 1 _ rfl
  have f0 := P22.out.frozen 0
  have f1 := P22.out.frozen 1
  have ql := P22.out.lt
  cases hv : validQ c d
  · have GW := Lib.hid hv
    clear hv
    go_wp2_with fail
    refine bodyPost_ret (v := .tuple #[.agg #[.int .i64 0, .int .i64 0], .bool false]) (by simp [results, Try.results93, go_sem, p20, p21]) rfl ⟨by rw [divQ_no (.inr GW.out)], ?_⟩
    exact (B2.out.setCell (p := ⟨w.heap.size + 1 + 1, 0, none⟩) (by show _ ≤ w.heap.size + 1 + 1; omega) _).setCell (p := ⟨w.heap.size + 1 + 1, 1, none⟩) (by show _ ≤ w.heap.size + 1 + 1; omega) _
  have GW := Lib.hid hv
  clear hv
  by_cases hz : c = 0
  · subst hz
    go_wp2_with fail
    refine bodyPost_ret (v := .tuple #[.agg #[.int .i64 0, .int .i64 0], .bool false]) (by simp [results, Try.results93, go_sem, p20, p21]) rfl ⟨by rw [divQ_zero], ?_⟩
    exact (B2.out.setCell (p := ⟨w.heap.size + 1 + 1, 0, none⟩) (by show _ ≤ w.heap.size + 1 + 1; omega) _).setCell (p := ⟨w.heap.size + 1 + 1, 1, none⟩) (by show _ ≤ w.heap.size + 1 + 1; omega) _
  have hz0 : (c == 0) = false := by simpa using hz
  have h1 := validQ_bnd GV.out
  have h2 := validQ_bnd GW.out
  have m0 := mul_M (x := a) (y := d) (by omega) (by omega)
  have m1 := mul_M (x := b) (y := c) (by omega) (by omega)
  clear h1 h2
  have HQ := Lib.hid (divQ_yes GV.out GW.out)
  go_wp2_with fail
  refine (make_spec (a * d) (b * c) _ (by omega) (by omega)).mono ?_
  rintro e w3 ⟨rfl, b1⟩
  generalize makeQ (a * d) (b * c) = q at *
  obtain ⟨x, y, z⟩ := q
  clear p00 p01 p10 p11 p20 p21 f0 f1 ql
  have B3 := Lib.hid (B2.out.trans (b1.mono B2.out.size))
  have P03 := Lib.hid (P02.out.on b1)
  have P13 := Lib.hid (P12.out.on b1)
  have P23 := Lib.hid (P22.out.on b1)
  clear B2 P02 P12 P22 b1
  have p00 := P03.out.get 0 _ rfl
  have p01 := P03.out.get 1 _ rfl
  have p10 := P13.out.get 0 _ rfl
  have p11 := P13.out.get 1 _ rfl
  have p20 := P23.out.get 0 _ rfl
  have p21 := P23.out.get 1 _ rfl
  have f0 := P23.out.frozen 0
  have f1 := P23.out.frozen 1
  have ql := P23.out.lt
  clear m0 m1
  go_wp2_with fail
  have R := ((P23.out.store 0 (.int .i64 x)).store 1 (.int .i64 y)).alloc (.cells #[.int .i64 x, .int .i64 y] 35)
  have r0 := R.get 0 (.int .i64 x) rfl
  have r1 := R.get 1 (.int .i64 y) rfl
  refine bodyPost_ret (v := .tuple #[.agg #[.int .i64 x, .int .i64 y], .bool z]) (by simp [results, Try.results93, go_sem, r0, r1]) rfl ⟨by rw [HQ.out], ?_⟩
  exact ((B3.out.setCell (p := ⟨w.heap.size + 1 + 1, 0, none⟩) (by show _ ≤ w.heap.size + 1 + 1; omega) _).setCell (p := ⟨w.heap.size + 1 + 1, 1, none⟩) (by show _ ≤ w.heap.size + 1 + 1; omega) _).alloc (by simp [World.setCell]; omega) _
set_option maxRecDepth 100000 in
set_option maxHeartbeats 1600000 in
theorem div_impl (a b c d : Int) (w : World) : Calls Try.prog 108 #[qv a b, qv c d] w (RetQ (divQ a b c d) w) := by
  have B0 := Lib.hid ((((Below.refl w.heap.size w).alloc (Nat.le_refl _) (.cells #[.int .i64 a, .int .i64 b] 35)).alloc (by simp) (.cells #[.int .i64 c, .int .i64 d] 35)).alloc (by simp; omega) (.cells #[.int .i64 0, .int .i64 0] 35))
  have P0 := Lib.hid (((Blk.at_ (g := w.heap.size) w 35 #[.int .i64 a, .int .i64 b] rfl).alloc (.cells #[.int .i64 c, .int .i64 d] 35)).alloc (.cells #[.int .i64 0, .int .i64 0] 35))
  have P1 := Lib.hid ((Blk.at_ (g := w.heap.size + 1) (w.alloc (.cells #[.int .i64 a, .int .i64 b] 35)) 35 #[.int .i64 c, .int .i64 d] (by simp)).alloc (.cells #[.int .i64 0, .int .i64 0] 35))
  have P2 := Lib.hid (Blk.at_ (g := w.heap.size + 1 + 1) ((w.alloc (.cells #[.int .i64 a, .int .i64 b] 35)).alloc (.cells #[.int .i64 c, .int .i64 d] 35)) 35 #[.int .i64 0, .int .i64 0] (by simp))
  go_enter Try.func108, Try.ntmps108
  go_wp2_with fail
  generalize ((w.alloc (.cells #[.int .i64 a, .int .i64 b] 35)).alloc (.cells #[.int .i64 c, .int .i64 d] 35)).alloc (.cells #[.int .i64 0, .int .i64 0] 35) = W at *
  refine (isValidQ_impl a b _).mono ?_
  rintro e w1 ⟨rfl, b1⟩
  have B1 := Lib.hid (B0.out.trans (b1.mono B0.out.size))
  have P01 := Lib.hid (P0.out.on b1)
  have P11 := Lib.hid (P1.out.on b1)
  have P21 := Lib.hid (P2.out.on b1)
  clear B0 P0 P1 P2 b1
  have p00 := P01.out.get 0 _ rfl
  have p01 := P01.out.get 1 _ rfl
  have p10 := P11.out.get 0 _ rfl
  have p11 := P11.out.get 1 _ rfl
  have p20 := P21.out.get 0 _ rfl
  have p21 := P21.out.get 1 _ rfl
  have f0 := P21.out.frozen 0
  have f1 := P21.out.frozen 1
  have ql := P21.out.lt
  cases hv : validQ a b
  · have GV := Lib.hid hv
    clear hv
    go_wp2_with fail
    refine bodyPost_ret (v := .tuple #[.agg #[.int .i64 0, .int .i64 0], .bool false]) (by simp [results, Try.results108, go_sem, p20, p21]) rfl ⟨by rw [divQ_no (.inl GV.out)], ?_⟩
    exact (B1.out.setCell (p := ⟨w.heap.size + 1 + 1, 0, none⟩) (by show _ ≤ w.heap.size + 1 + 1; omega) _).setCell (p := ⟨w.heap.size + 1 + 1, 1, none⟩) (by show _ ≤ w.heap.size + 1 + 1; omega) _
  have GV := Lib.hid hv
  clear hv
  go_wp2_with fail
  refine (isValidQ_impl c d _).mono ?_
  rintro e w2 ⟨rfl, b1⟩
  clear p00 p01 p10 p11 p20 p21 f0 f1 ql
  have B2 := Lib.hid (B1.out.trans (b1.mono B1.out.size))
  have P02 := Lib.hid (P01.out.on b1)
  have P12 := Lib.hid (P11.out.on b1)
  have P22 := Lib.hid (P21.out.on b1)
  clear B1 P01 P11 P21 b1
  have p00 := P02.out.get 0 _ rfl
  have p01 := P02.out.get 1 _ rfl
  have p10 := P12.out.get 0 _ rfl
  have p11 := P12.out.get 1 _ rfl
  have p20 := P22.out.get 0 _ rfl
  have p21 := P22.out.get 1 _ rfl
  have f0 := P22.out.frozen 0
  have f1 := P22.out.frozen 1
  have ql := P22.out.lt
  cases hv : validQ c d
  · have GW := Lib.hid hv
    clear hv
    go_wp2_with fail
    refine bodyPost_ret (v := .tuple #[.agg #[.int .i64 0, .int .i64 0], .bool false]) (by simp [results, Try.results108, go_sem, p20, p21]) rfl ⟨by rw [divQ_no (.inr GW.out)], ?_⟩
    exact (B2.out.setCell (p := ⟨w.heap.size + 1 + 1, 0, none⟩) (by show _ ≤ w.heap.size + 1 + 1; omega) _).setCell (p := ⟨w.heap.size + 1 + 1, 1, none⟩) (by show _ ≤ w.heap.size + 1 + 1; omega) _
  have GW := Lib.hid hv
  clear hv
  have h1 := validQ_bnd GV.out
  have h2 := validQ_bnd GW.out
  have m0 := mul_M (x := a) (y := d) (by omega) (by omega)
  have m1 := mul_M (x := b) (y := c) (by omega) (by omega)
  clear h1 h2
  have HQ := Lib.hid (divQ_yes GV.out GW.out)
  go_wp2_with fail
  refine (make_impl (a * d) (b * c) _ (by omega) (by omega)).mono ?_
  rintro e w3 ⟨rfl, b1⟩
  generalize makeQ (a * d) (b * c) = q at *
  obtain ⟨x, y, z⟩ := q
  clear p00 p01 p10 p11 p20 p21 f0 f1 ql
  have B3 := Lib.hid (B2.out.trans (b1.mono B2.out.size))
  have P03 := Lib.hid (P02.out.on b1)
  have P13 := Lib.hid (P12.out.on b1)
  have P23 := Lib.hid (P22.out.on b1)
  clear B2 P02 P12 P22 b1
  have p00 := P03.out.get 0 _ rfl
  have p01 := P03.out.get 1 _ rfl
  have p10 := P13.out.get 0 _ rfl
  have p11 := P13.out.get 1 _ rfl
  have p20 := P23.out.get 0 _ rfl
  have p21 := P23.out.get 1 _ rfl
  have f0 := P23.out.frozen 0
  have f1 := P23.out.frozen 1
  have ql := P23.out.lt
  clear m0 m1
  go_wp2_with fail
  refine bodyPost_ret (v := .tuple #[.agg #[.int .i64 x, .int .i64 y], .bool z]) (by simp [results, Try.results108, go_sem, p20, p21]) rfl ⟨by rw [HQ.out], ?_⟩
  exact (B3.out.setCell (p := ⟨w.heap.size + 1 + 1, 0, none⟩) (by show _ ≤ w.heap.size + 1 + 1; omega) _).setCell (p := ⟨w.heap.size + 1 + 1, 1, none⟩) (by show _ ≤ w.heap.size + 1 + 1; omega) _
set_option maxRecDepth 100000 in
set_option maxHeartbeats 1600000 in
theorem sub_spec (a b c d : Int) (w : World) : Calls Try.prog 113 #[qv a b, qv c d] w (RetQ (subQ a b c d) w) := by
  have B0 := Lib.hid ((((Below.refl w.heap.size w).alloc (Nat.le_refl _) (.cells #[.int .i64 a, .int .i64 b] 35)).alloc (by simp) (.cells #[.int .i64 c, .int .i64 d] 35)).alloc (by simp; omega) (.cells #[.int .i64 0, .int .i64 0] 35))
  have P0 := Lib.hid (((Blk.at_ (g := w.heap.size) w 35 #[.int .i64 a, .int .i64 b] rfl).alloc (.cells #[.int .i64 c, .int .i64 d] 35)).alloc (.cells #[.int .i64 0, .int .i64 0] 35))
  have P1 := Lib.hid ((Blk.at_ (g := w.heap.size + 1) (w.alloc (.cells #[.int .i64 a, .int .i64 b] 35)) 35 #[.int .i64 c, .int .i64 d] (by simp)).alloc (.cells #[.int .i64 0, .int .i64 0] 35))
  have P2 := Lib.hid (Blk.at_ (g := w.heap.size + 1 + 1) ((w.alloc (.cells #[.int .i64 a, .int .i64 b] 35)).alloc (.cells #[.int .i64 c, .int .i64 d] 35)) 35 #[.int .i64 0, .int .i64 0] (by simp))
  go_enter Try.func113, Try.ntmps113
  go_wp2_with fail
  generalize ((w.alloc (.cells #[.int .i64 a, .int .i64 b] 35)).alloc (.cells #[.int .i64 c, .int .i64 d] 35)).alloc (.cells #[.int .i64 0, .int .i64 0] 35) = W at *
  refine (isValidQ_spec a b _).mono ?_
  rintro e w1 ⟨rfl, b1⟩
  have B1 := Lib.hid (B0.out.trans (b1.mono B0.out.size))
  have P01 := Lib.hid (P0.out.on b1)
  have P11 := Lib.hid (P1.out.on b1)
  have P21 := Lib.hid (P2.out.on b1)
  clear B0 P0 P1 P2 b1
  have p00 := P01.out.get 0 _ rfl
  have p01 := P01.out.get 1 _ rfl
  have p10 := P11.out.get 0 _ rfl
  have p11 := P11.out.get 1 _ rfl
  have p20 := P21.out.get 0 _ rfl
  have p21 := P21.out.get 1 _ rfl
  have f0 := P21.out.frozen 0
  have f1 := P21.out.frozen 1
  have ql := P21.out.lt
  cases hv : validQ a b
  · have GV := Lib.hid hv
    clear hv
    go_wp2_with fail
    refine bodyPost_ret (v := .tuple #[.agg #[.int .i64 0, .int .i64 0], .bool false]) (by simp [results, Try.results113, go_sem, p20, p21]) rfl ⟨by rw [subQ_no (.inl GV.out)], ?_⟩
    exact (B1.out.setCell (p := ⟨w.heap.size + 1 + 1, 0, none⟩) (by show _ ≤ w.heap.size + 1 + 1; omega) _).setCell (p := ⟨w.heap.size + 1 + 1, 1, none⟩) (by show _ ≤ w.heap.size + 1 + 1; omega) _
  have GV := Lib.hid hv
  clear hv
  go_wp2_with fail
  refine (isValidQ_spec c d _).mono ?_
  rintro e w2 ⟨rfl, b1⟩
  clear p00 p01 p10 p11 p20 p21 f0 f1 ql
  have B2 := Lib.hid (B1.out.trans (b1.mono B1.out.size))
  have P02 := Lib.hid (P01.out.on b1)
  have P12 := Lib.hid (P11.out.on b1)
  have P22 := Lib.hid (P21.out.on b1)
  clear B1 P01 P11 P21 b1
  have p00 := P02.out.get 0 _ rfl
  have p01 := P02.out.get 1 _ rfl
  have p10 := P12.out.get 0 _ rfl
  have p11 := P12.out.get 1 _ rfl
  have p20 := P22.out.get 0 _ rfl
  have p21 := P22.out.get 1 _ rfl
  have f0 := P22.out.frozen 0
  have f1 := P22.out.frozen 1
  have ql := P22.out.lt
  cases hv : validQ c d
  · have GW := Lib.hid hv
    clear hv
    go_wp2_with fail
    refine bodyPost_ret (v := .tuple #[.agg #[.int .i64 0, .int .i64 0], .bool false]) (by simp [results, Try.results113, go_sem, p20, p21]) rfl ⟨by rw [subQ_no (.inr GW.out)], ?_⟩
    exact (B2.out.setCell (p := ⟨w.heap.size + 1 + 1, 0, none⟩) (by show _ ≤ w.heap.size + 1 + 1; omega) _).setCell (p := ⟨w.heap.size + 1 + 1, 1, none⟩) (by show _ ≤ w.heap.size + 1 + 1; omega) _
  have GW := Lib.hid hv
  clear hv
  have h1 := validQ_bnd GV.out
  have h2 := validQ_bnd GW.out
  have m0 := mul_M (x := a) (y := d) (by omega) (by omega)
  have m1 := mul_M (x := c) (y := b) (by omega) (by omega)
  have m2 := mul_M (x := b) (y := d) (by omega) (by omega)
  clear h1 h2
  have HQ := Lib.hid (subQ_yes GV.out GW.out)
  go_wp2_with fail
  refine (make_spec (a * d - c * b) (b * d) _ (by omega) (by omega)).mono ?_
  rintro e w3 ⟨rfl, b1⟩
  generalize makeQ (a * d - c * b) (b * d) = q at *
  obtain ⟨x, y, z⟩ := q
  clear p00 p01 p10 p11 p20 p21 f0 f1 ql
  have B3 := Lib.hid (B2.out.trans (b1.mono B2.out.size))
  have P03 := Lib.hid (P02.out.on b1)
  have P13 := Lib.hid (P12.out.on b1)
  have P23 := Lib.hid (P22.out.on b1)
  clear B2 P02 P12 P22 b1
  have p00 := P03.out.get 0 _ rfl
  have p01 := P03.out.get 1 _ rfl
  have p10 := P13.out.get 0 _ rfl
  have p11 := P13.out.get 1 _ rfl
  have p20 := P23.out.get 0 _ rfl
  have p21 := P23.out.get 1 _ rfl
  have f0 := P23.out.frozen 0
  have f1 := P23.out.frozen 1
  have ql := P23.out.lt
  clear m0 m1 m2
  go_wp2_with fail
  have R := ((P23.out.store 0 (.int .i64 x)).store 1 (.int .i64 y)).alloc (.cells #[.int .i64 x, .int .i64 y] 35)
  have r0 := R.get 0 (.int .i64 x) rfl
  have r1 := R.get 1 (.int .i64 y) rfl
  refine bodyPost_ret (v := .tuple #[.agg #[.int .i64 x, .int .i64 y], .bool z]) (by simp [results, Try.results113, go_sem, r0, r1]) rfl ⟨by rw [HQ.out], ?_⟩
  exact ((B3.out.setCell (p := ⟨w.heap.size + 1 + 1, 0, none⟩) (by show _ ≤ w.heap.size + 1 + 1; omega) _).setCell (p := ⟨w.heap.size + 1 + 1, 1, none⟩) (by show _ ≤ w.heap.size + 1 + 1; omega) _).alloc (by simp [World.setCell]; omega) _

end Go.Proofs.Ytcgjlddpbkponaa
