/-
  Contracts of MakeRational, program and reference.
-/
import Derived.Test.YtcgjlddpbkponaaQ2
import Derived.BigRegion
namespace Go.Proofs.Ytcgjlddpbkponaa
open Go.ChangeShapes Go.WideShapes Go.ChangeAt Go.RowKit

theorem tdiv_bnd (n g : Int) (hn : -9223372036854775807 ≤ n ∧ n ≤ 9223372036854775807) : -9223372036854775807 ≤ n.tdiv g ∧ n.tdiv g ≤ 9223372036854775807 := by
  have h1 : (n.tdiv g).natAbs = n.natAbs / g.natAbs := Int.natAbs_tdiv n g
  have h2 : n.natAbs / g.natAbs ≤ n.natAbs := Nat.div_le_self _ _
  omega
theorem gcd_pos {n d : Int} (h : d ≠ 0) : 1 ≤ (Int.gcd n d : Int) := by
  have : 0 < Int.gcd n d := Int.gcd_pos_of_ne_zero_right n h
  omega
theorem gcd_le {n d : Int} (h : d ≠ 0) : (Int.gcd n d : Int) ≤ d.natAbs := by
  have : Int.gcd n d ≤ d.natAbs := by
    unfold Int.gcd
    exact Nat.gcd_le_right _ (by omega)
  omega
theorem makeQ_zero (n : Int) : makeQ n 0 = (0, 0, false) := by simp [makeQ]
theorem makeQ_pos {n d g : Int} (h : 0 < d) (hg : g = Int.gcd n d) : makeQ n d = if validQ (n.tdiv g) (d.tdiv g) = true then (n.tdiv g, d.tdiv g, true) else (0, 0, false) := by
  subst hg
  unfold makeQ
  rw [if_neg (by omega)]
  simp only [if_neg (show ¬ d < 0 by omega)]
theorem makeQ_neg {n d g : Int} (h : d < 0) (hg : g = Int.gcd (-n) (-d)) : makeQ n d = if validQ ((-n).tdiv g) ((-d).tdiv g) = true then ((-n).tdiv g, (-d).tdiv g, true) else (0, 0, false) := by
  subst hg
  unfold makeQ
  rw [if_neg (by omega)]
  simp only [if_pos h]
def RetQ (q : Int × Int × Bool) (w : World) (e : Ending) (w' : World) : Prop := e = .returned (.tuple #[.agg #[.int .i64 q.1, .int .i64 q.2.1], .bool q.2.2]) ∧ Below w.heap.size w w'

set_option maxRecDepth 100000 in
set_option maxHeartbeats 1600000 in
theorem make_spec (n d : Int) (w : World) (hn : -9223372036854775807 ≤ n ∧ n ≤ 9223372036854775807) (hd : -9223372036854775807 ≤ d ∧ d ≤ 9223372036854775807) :
    Calls Try.prog 107 #[.int .i64 n, .int .i64 d] w (RetQ (makeQ n d) w) := by
  by_cases h0 : d = 0
  · subst h0
    go_enter Try.func107, Try.ntmps107
    go_wp2_with fail
    exact bodyPost_ret (v := .tuple #[.agg #[.int .i64 0, .int .i64 0], .bool false]) (by simp [results, Try.results107, go_sem]) rfl ⟨by rw [makeQ_zero], (Below.refl _ _).alloc (Nat.le_refl _) _⟩
  have hd0 : (d == 0) = false := by simpa using h0
  have hn1 : ¬ n < -9223372036854775807 := by omega
  have hd1 : ¬ d < -9223372036854775807 := by omega
  rcases Int.lt_or_le d 0 with hs | hs
  · have HQ := Lib.hid (makeQ_neg (n := n) hs rfl)
    have c1 : -9223372036854775807 ≤ -n ∧ -n ≤ 9223372036854775807 := by omega
    have c2 : 1 ≤ -d ∧ -d ≤ 9223372036854775807 := by omega
    have hg1 := gcd_pos (n := -n) (d := -d) (by omega)
    have hg2 := gcd_le (n := -n) (d := -d) (by omega)
    have hg3 : (Int.gcd (-n) (-d) : Int) ≤ 9223372036854775807 := by omega
    clear hg2
    go_enter Try.func107, Try.ntmps107
    go_wp2_with fail
    generalize -n = n1 at *
    generalize -d = d1 at *
    clear hs hd0 hd1 hn1 h0 hn hd
    refine (abs_spec n1 _ c1).mono ?_
    rintro e w1 ⟨rfl, rfl⟩
    obtain ⟨z, hz⟩ : ∃ z : Int, z = ((n1).natAbs : Int) := ⟨_, rfl⟩
    rw [← hz]
    have HZ := Lib.hid hz
    have z0 : 0 ≤ z ∧ z ≤ 9223372036854775807 := by omega
    clear hz
    go_wp2_with fail
    refine (gcd_spec z d1 _ z0 (by omega)).mono ?_
    rintro e w1 ⟨rfl, rfl⟩
    have HA : Hid (Int.gcd z d1 = Int.gcd n1 d1) := by show _ = _; rw [HZ.out]; simp [Int.gcd]
    rw [HA.out]
    have t1 := tdiv_bnd n1 (Int.gcd n1 d1) c1
    have t2 := tdiv_bnd d1 (Int.gcd n1 d1) (by omega)
    clear HA
    generalize (Int.gcd n1 d1 : Int) = g at *
    have g0 : (g == 0) = false := by simp; omega
    have g1 : g ≠ 0 := by omega
    obtain ⟨a, ha⟩ : ∃ a : Int, n1.tdiv g = a := ⟨_, rfl⟩
    obtain ⟨b, hb⟩ : ∃ b : Int, d1.tdiv g = b := ⟨_, rfl⟩
    rw [ha] at t1 HQ
    rw [hb] at t2 HQ
    have e1 : IntKind.i64.wrap a = a := wr64 (by omega) (by omega)
    have e2 : IntKind.i64.wrap b = b := wr64 (by omega) (by omega)
    clear HZ z0
    go_wp2_with fail
    go_region_held3 (fun _ => True) (trivial) (fail)
    clear e1 e2 ha hb
    go_wp2_with fail
    have PR := Lib.hid ((Blk.at_ (g := w.heap.size) w 35 #[.int .i64 0, .int .i64 0] rfl).alloc (.cells #[.int .i64 a, .int .i64 b] 35))
    have PL := Lib.hid (Blk.at_ (g := w.heap.size + 1) (w.alloc (.cells #[.int .i64 0, .int .i64 0] 35)) 35 #[.int .i64 a, .int .i64 b] (by simp))
    have BB := Lib.hid (((Below.refl w.heap.size w).alloc (Nat.le_refl _) (.cells #[.int .i64 0, .int .i64 0] 35)).alloc (by simp) (.cells #[.int .i64 a, .int .i64 b] 35))
    refine (isValidQ_spec a b _).mono ?_
    rintro e w2 ⟨rfl, b2⟩
    have PR2 : Hid (Blk w2 w.heap.size 35 #[.int .i64 0, .int .i64 0]) := PR.out.onDrew b2
    have PL2 : Hid (Blk w2 (w.heap.size + 1) 35 #[.int .i64 a, .int .i64 b]) := PL.out.onDrew b2
    have BB2 : Hid (Below w.heap.size w w2) := BB.out.drew.trans (b2.mono BB.out.drew.size)
    clear PR PL BB b2
    have q0 := PR2.out.get 0 (.int .i64 0) rfl
    have q1 := PR2.out.get 1 (.int .i64 0) rfl
    have q2 := PL2.out.get 0 (.int .i64 a) rfl
    have q3 := PL2.out.get 1 (.int .i64 b) rfl
    have f0 := PR2.out.frozen 0
    have f1 := PR2.out.frozen 1
    cases hv : validQ a b
    · have HQ2 : Hid (makeQ n d = (0, 0, false)) := by show _ = _; have := HQ.out; rw [hv] at this; simpa using this
      go_wp2_with fail
      refine bodyPost_ret (v := .tuple #[.agg #[.int .i64 0, .int .i64 0], .bool false]) (by simp [results, Try.results107, go_sem, q0, q1]) rfl ⟨by rw [HQ2.out], ?_⟩
      exact (BB2.out.setCell (p := ⟨w.heap.size, 0, none⟩) (Nat.le_refl _) _).setCell (p := ⟨w.heap.size, 1, none⟩) (Nat.le_refl _) _
    · have HQ2 : Hid (makeQ n d = (a, b, true)) := by show _ = _; have := HQ.out; rw [hv] at this; simpa using this
      go_wp2_with fail
      refine bodyPost_ret (v := .tuple #[.agg #[.int .i64 a, .int .i64 b], .bool true]) (by simp [results, Try.results107, go_sem, q0, q1]) rfl ⟨by rw [HQ2.out], ?_⟩
      exact (BB2.out.setCell (p := ⟨w.heap.size, 0, none⟩) (Nat.le_refl _) _).setCell (p := ⟨w.heap.size, 1, none⟩) (Nat.le_refl _) _
  · have HQ := Lib.hid (makeQ_pos (n := n) (d := d) (by omega) rfl)
    have c1 : -9223372036854775807 ≤ n ∧ n ≤ 9223372036854775807 := by omega
    have c2 : 1 ≤ d ∧ d ≤ 9223372036854775807 := by omega
    have hg1 := gcd_pos (n := n) (d := d) (by omega)
    have hg2 := gcd_le (n := n) (d := d) (by omega)
    have hg3 : (Int.gcd (n) (d) : Int) ≤ 9223372036854775807 := by omega
    clear hg2
    go_enter Try.func107, Try.ntmps107
    go_wp2_with fail
    clear hs hd0 hd1 hn1 h0 hn hd
    refine (abs_spec n _ c1).mono ?_
    rintro e w1 ⟨rfl, rfl⟩
    obtain ⟨z, hz⟩ : ∃ z : Int, z = ((n).natAbs : Int) := ⟨_, rfl⟩
    rw [← hz]
    have HZ := Lib.hid hz
    have z0 : 0 ≤ z ∧ z ≤ 9223372036854775807 := by omega
    clear hz
    go_wp2_with fail
    refine (gcd_spec z d _ z0 (by omega)).mono ?_
    rintro e w1 ⟨rfl, rfl⟩
    have HA : Hid (Int.gcd z d = Int.gcd n d) := by show _ = _; rw [HZ.out]; simp [Int.gcd]
    rw [HA.out]
    have t1 := tdiv_bnd n (Int.gcd n d) c1
    have t2 := tdiv_bnd d (Int.gcd n d) (by omega)
    clear HA
    generalize (Int.gcd n d : Int) = g at *
    have g0 : (g == 0) = false := by simp; omega
    have g1 : g ≠ 0 := by omega
    obtain ⟨a, ha⟩ : ∃ a : Int, n.tdiv g = a := ⟨_, rfl⟩
    obtain ⟨b, hb⟩ : ∃ b : Int, d.tdiv g = b := ⟨_, rfl⟩
    rw [ha] at t1 HQ
    rw [hb] at t2 HQ
    have e1 : IntKind.i64.wrap a = a := wr64 (by omega) (by omega)
    have e2 : IntKind.i64.wrap b = b := wr64 (by omega) (by omega)
    clear HZ z0
    go_wp2_with fail
    go_region_held3 (fun _ => True) (trivial) (fail)
    clear e1 e2 ha hb
    go_wp2_with fail
    have PR := Lib.hid ((Blk.at_ (g := w.heap.size) w 35 #[.int .i64 0, .int .i64 0] rfl).alloc (.cells #[.int .i64 a, .int .i64 b] 35))
    have PL := Lib.hid (Blk.at_ (g := w.heap.size + 1) (w.alloc (.cells #[.int .i64 0, .int .i64 0] 35)) 35 #[.int .i64 a, .int .i64 b] (by simp))
    have BB := Lib.hid (((Below.refl w.heap.size w).alloc (Nat.le_refl _) (.cells #[.int .i64 0, .int .i64 0] 35)).alloc (by simp) (.cells #[.int .i64 a, .int .i64 b] 35))
    refine (isValidQ_spec a b _).mono ?_
    rintro e w2 ⟨rfl, b2⟩
    have PR2 : Hid (Blk w2 w.heap.size 35 #[.int .i64 0, .int .i64 0]) := PR.out.onDrew b2
    have PL2 : Hid (Blk w2 (w.heap.size + 1) 35 #[.int .i64 a, .int .i64 b]) := PL.out.onDrew b2
    have BB2 : Hid (Below w.heap.size w w2) := BB.out.drew.trans (b2.mono BB.out.drew.size)
    clear PR PL BB b2
    have q0 := PR2.out.get 0 (.int .i64 0) rfl
    have q1 := PR2.out.get 1 (.int .i64 0) rfl
    have q2 := PL2.out.get 0 (.int .i64 a) rfl
    have q3 := PL2.out.get 1 (.int .i64 b) rfl
    have f0 := PR2.out.frozen 0
    have f1 := PR2.out.frozen 1
    cases hv : validQ a b
    · have HQ2 : Hid (makeQ n d = (0, 0, false)) := by show _ = _; have := HQ.out; rw [hv] at this; simpa using this
      go_wp2_with fail
      refine bodyPost_ret (v := .tuple #[.agg #[.int .i64 0, .int .i64 0], .bool false]) (by simp [results, Try.results107, go_sem, q0, q1]) rfl ⟨by rw [HQ2.out], ?_⟩
      exact (BB2.out.setCell (p := ⟨w.heap.size, 0, none⟩) (Nat.le_refl _) _).setCell (p := ⟨w.heap.size, 1, none⟩) (Nat.le_refl _) _
    · have HQ2 : Hid (makeQ n d = (a, b, true)) := by show _ = _; have := HQ.out; rw [hv] at this; simpa using this
      go_wp2_with fail
      refine bodyPost_ret (v := .tuple #[.agg #[.int .i64 a, .int .i64 b], .bool true]) (by simp [results, Try.results107, go_sem, q0, q1]) rfl ⟨by rw [HQ2.out], ?_⟩
      exact (BB2.out.setCell (p := ⟨w.heap.size, 0, none⟩) (Nat.le_refl _) _).setCell (p := ⟨w.heap.size, 1, none⟩) (Nat.le_refl _) _

set_option maxRecDepth 100000 in
set_option maxHeartbeats 1600000 in
theorem make_impl0 (n d : Int) (w : World) (hn : -9223372036854775807 ≤ n ∧ n ≤ 9223372036854775807) (hd : -9223372036854775807 ≤ d ∧ d ≤ 9223372036854775807) (h0 : ¬ d = 0) (hnn : (n == -n) = false) :
    Calls Try.prog 114 #[.int .i64 n, .int .i64 d] w (RetQ (makeQ n d) w) := by
  have hd0 : (d == 0) = false := by simpa using h0
  have hdd : (d == -d) = false := by simp; omega
  rcases Int.lt_or_le d 0 with hs | hs
  · have HQ := Lib.hid (makeQ_neg (n := n) hs rfl)
    have c1 : -9223372036854775807 ≤ -n ∧ -n ≤ 9223372036854775807 := by omega
    have c2 : 1 ≤ -d ∧ -d ≤ 9223372036854775807 := by omega
    have hg1 := gcd_pos (n := -n) (d := -d) (by omega)
    have hg2 := gcd_le (n := -n) (d := -d) (by omega)
    have hg3 : (Int.gcd (-n) (-d) : Int) ≤ 9223372036854775807 := by omega
    clear hg2
    go_enter Try.func114, Try.ntmps114
    go_wp2_with fail
    generalize -n = n1 at *
    generalize -d = d1 at *
    clear hs hd0 h0 hn hd hdd hnn
    refine (gcd_impl n1 d1 _ c1 (by omega)).mono ?_
    rintro e w1 ⟨rfl, m, hw1⟩
    have PR : Hid (Blk w1 w.heap.size 35 #[.int .i64 0, .int .i64 0]) := by rw [hw1]; exact Blk.at_ (g := w.heap.size) w 35 #[.int .i64 0, .int .i64 0] rfl
    have BB : Hid (Below w.heap.size w w1) := by rw [hw1]; exact below_drewN ((Below.refl w.heap.size w).alloc (Nat.le_refl _) (.cells #[.int .i64 0, .int .i64 0] 35)) m
    clear hw1
    have t1 := tdiv_bnd n1 (Int.gcd n1 d1) c1
    have t2 := tdiv_bnd d1 (Int.gcd n1 d1) (by omega)
    generalize (Int.gcd n1 d1 : Int) = g at *
    have g0 : (g == 0) = false := by simp; omega
    have g1 : g ≠ 0 := by omega
    obtain ⟨a, ha⟩ : ∃ a : Int, n1.tdiv g = a := ⟨_, rfl⟩
    obtain ⟨b, hb⟩ : ∃ b : Int, d1.tdiv g = b := ⟨_, rfl⟩
    rw [ha] at t1 HQ
    rw [hb] at t2 HQ
    have e1 : IntKind.i64.wrap a = a := wr64 (by omega) (by omega)
    have e2 : IntKind.i64.wrap b = b := wr64 (by omega) (by omega)
    go_wp2_with fail
    go_region_held3 (fun _ => True) (trivial) (fail)
    clear e1 e2 ha hb
    go_wp2_with fail
    have PR1 := Lib.hid (PR.out.alloc (.cells #[.int .i64 a, .int .i64 b] 35))
    have PL := Lib.hid (Blk.at_ (g := w1.heap.size) w1 35 #[.int .i64 a, .int .i64 b] rfl)
    have BB1 := Lib.hid (BB.out.alloc BB.out.size (.cells #[.int .i64 a, .int .i64 b] 35))
    refine (isValidQ_impl a b _).mono ?_
    rintro e w2 ⟨rfl, b2⟩
    have PR2 : Hid (Blk w2 w.heap.size 35 #[.int .i64 0, .int .i64 0]) := PR1.out.onDrew b2
    have PL2 : Hid (Blk w2 w1.heap.size 35 #[.int .i64 a, .int .i64 b]) := PL.out.onDrew b2
    have BB2 : Hid (Below w.heap.size w w2) := BB1.out.drew.trans (b2.mono BB1.out.drew.size)
    clear PR PR1 PL BB BB1 b2
    have q0 := PR2.out.get 0 (.int .i64 0) rfl
    have q1 := PR2.out.get 1 (.int .i64 0) rfl
    have q2 := PL2.out.get 0 (.int .i64 a) rfl
    have q3 := PL2.out.get 1 (.int .i64 b) rfl
    have f0 := PR2.out.frozen 0
    have f1 := PR2.out.frozen 1
    cases hv : validQ a b
    · have HQ2 : Hid (makeQ n d = (0, 0, false)) := by show _ = _; have := HQ.out; rw [hv] at this; simpa using this
      go_wp2_with fail
      refine bodyPost_ret (v := .tuple #[.agg #[.int .i64 0, .int .i64 0], .bool false]) (by simp [results, Try.results114, go_sem, q0, q1]) rfl ⟨by rw [HQ2.out], ?_⟩
      exact (BB2.out.setCell (p := ⟨w.heap.size, 0, none⟩) (Nat.le_refl _) _).setCell (p := ⟨w.heap.size, 1, none⟩) (Nat.le_refl _) _
    · have HQ2 : Hid (makeQ n d = (a, b, true)) := by show _ = _; have := HQ.out; rw [hv] at this; simpa using this
      go_wp2_with fail
      refine bodyPost_ret (v := .tuple #[.agg #[.int .i64 a, .int .i64 b], .bool true]) (by simp [results, Try.results114, go_sem, q0, q1]) rfl ⟨by rw [HQ2.out], ?_⟩
      exact (BB2.out.setCell (p := ⟨w.heap.size, 0, none⟩) (Nat.le_refl _) _).setCell (p := ⟨w.heap.size, 1, none⟩) (Nat.le_refl _) _
  · have HQ := Lib.hid (makeQ_pos (n := n) (d := d) (by omega) rfl)
    have c1 : -9223372036854775807 ≤ n ∧ n ≤ 9223372036854775807 := by omega
    have c2 : 1 ≤ d ∧ d ≤ 9223372036854775807 := by omega
    have hg1 := gcd_pos (n := n) (d := d) (by omega)
    have hg2 := gcd_le (n := n) (d := d) (by omega)
    have hg3 : (Int.gcd (n) (d) : Int) ≤ 9223372036854775807 := by omega
    clear hg2
    go_enter Try.func114, Try.ntmps114
    go_wp2_with fail
    clear hs hd0 h0 hn hd hdd hnn
    refine (gcd_impl n d _ c1 (by omega)).mono ?_
    rintro e w1 ⟨rfl, m, hw1⟩
    have PR : Hid (Blk w1 w.heap.size 35 #[.int .i64 0, .int .i64 0]) := by rw [hw1]; exact Blk.at_ (g := w.heap.size) w 35 #[.int .i64 0, .int .i64 0] rfl
    have BB : Hid (Below w.heap.size w w1) := by rw [hw1]; exact below_drewN ((Below.refl w.heap.size w).alloc (Nat.le_refl _) (.cells #[.int .i64 0, .int .i64 0] 35)) m
    clear hw1
    have t1 := tdiv_bnd n (Int.gcd n d) c1
    have t2 := tdiv_bnd d (Int.gcd n d) (by omega)
    generalize (Int.gcd n d : Int) = g at *
    have g0 : (g == 0) = false := by simp; omega
    have g1 : g ≠ 0 := by omega
    obtain ⟨a, ha⟩ : ∃ a : Int, n.tdiv g = a := ⟨_, rfl⟩
    obtain ⟨b, hb⟩ : ∃ b : Int, d.tdiv g = b := ⟨_, rfl⟩
    rw [ha] at t1 HQ
    rw [hb] at t2 HQ
    have e1 : IntKind.i64.wrap a = a := wr64 (by omega) (by omega)
    have e2 : IntKind.i64.wrap b = b := wr64 (by omega) (by omega)
    go_wp2_with fail
    go_region_held3 (fun _ => True) (trivial) (fail)
    clear e1 e2 ha hb
    go_wp2_with fail
    have PR1 := Lib.hid (PR.out.alloc (.cells #[.int .i64 a, .int .i64 b] 35))
    have PL := Lib.hid (Blk.at_ (g := w1.heap.size) w1 35 #[.int .i64 a, .int .i64 b] rfl)
    have BB1 := Lib.hid (BB.out.alloc BB.out.size (.cells #[.int .i64 a, .int .i64 b] 35))
    refine (isValidQ_impl a b _).mono ?_
    rintro e w2 ⟨rfl, b2⟩
    have PR2 : Hid (Blk w2 w.heap.size 35 #[.int .i64 0, .int .i64 0]) := PR1.out.onDrew b2
    have PL2 : Hid (Blk w2 w1.heap.size 35 #[.int .i64 a, .int .i64 b]) := PL.out.onDrew b2
    have BB2 : Hid (Below w.heap.size w w2) := BB1.out.drew.trans (b2.mono BB1.out.drew.size)
    clear PR PR1 PL BB BB1 b2
    have q0 := PR2.out.get 0 (.int .i64 0) rfl
    have q1 := PR2.out.get 1 (.int .i64 0) rfl
    have q2 := PL2.out.get 0 (.int .i64 a) rfl
    have q3 := PL2.out.get 1 (.int .i64 b) rfl
    have f0 := PR2.out.frozen 0
    have f1 := PR2.out.frozen 1
    cases hv : validQ a b
    · have HQ2 : Hid (makeQ n d = (0, 0, false)) := by show _ = _; have := HQ.out; rw [hv] at this; simpa using this
      go_wp2_with fail
      refine bodyPost_ret (v := .tuple #[.agg #[.int .i64 0, .int .i64 0], .bool false]) (by simp [results, Try.results114, go_sem, q0, q1]) rfl ⟨by rw [HQ2.out], ?_⟩
      exact (BB2.out.setCell (p := ⟨w.heap.size, 0, none⟩) (Nat.le_refl _) _).setCell (p := ⟨w.heap.size, 1, none⟩) (Nat.le_refl _) _
    · have HQ2 : Hid (makeQ n d = (a, b, true)) := by show _ = _; have := HQ.out; rw [hv] at this; simpa using this
      go_wp2_with fail
      refine bodyPost_ret (v := .tuple #[.agg #[.int .i64 a, .int .i64 b], .bool true]) (by simp [results, Try.results114, go_sem, q0, q1]) rfl ⟨by rw [HQ2.out], ?_⟩
      exact (BB2.out.setCell (p := ⟨w.heap.size, 0, none⟩) (Nat.le_refl _) _).setCell (p := ⟨w.heap.size, 1, none⟩) (Nat.le_refl _) _

set_option maxRecDepth 100000 in
set_option maxHeartbeats 1600000 in
theorem make_impl1 (n d : Int) (w : World) (hn : -9223372036854775807 ≤ n ∧ n ≤ 9223372036854775807) (hd : -9223372036854775807 ≤ d ∧ d ≤ 9223372036854775807) (h0 : ¬ d = 0) (hnn : (n == -n) = true) (hnz : (n != 0) = false) :
    Calls Try.prog 114 #[.int .i64 n, .int .i64 d] w (RetQ (makeQ n d) w) := by
  have hd0 : (d == 0) = false := by simpa using h0
  have hdd : (d == -d) = false := by simp; omega
  rcases Int.lt_or_le d 0 with hs | hs
  · have HQ := Lib.hid (makeQ_neg (n := n) hs rfl)
    have c1 : -9223372036854775807 ≤ -n ∧ -n ≤ 9223372036854775807 := by omega
    have c2 : 1 ≤ -d ∧ -d ≤ 9223372036854775807 := by omega
    have hg1 := gcd_pos (n := -n) (d := -d) (by omega)
    have hg2 := gcd_le (n := -n) (d := -d) (by omega)
    have hg3 : (Int.gcd (-n) (-d) : Int) ≤ 9223372036854775807 := by omega
    clear hg2
    go_enter Try.func114, Try.ntmps114
    go_wp2_with fail
    generalize -n = n1 at *
    generalize -d = d1 at *
    clear hs hd0 h0 hn hd hdd hnn hnz
    refine (gcd_impl n1 d1 _ c1 (by omega)).mono ?_
    rintro e w1 ⟨rfl, m, hw1⟩
    have PR : Hid (Blk w1 w.heap.size 35 #[.int .i64 0, .int .i64 0]) := by rw [hw1]; exact Blk.at_ (g := w.heap.size) w 35 #[.int .i64 0, .int .i64 0] rfl
    have BB : Hid (Below w.heap.size w w1) := by rw [hw1]; exact below_drewN ((Below.refl w.heap.size w).alloc (Nat.le_refl _) (.cells #[.int .i64 0, .int .i64 0] 35)) m
    clear hw1
    have t1 := tdiv_bnd n1 (Int.gcd n1 d1) c1
    have t2 := tdiv_bnd d1 (Int.gcd n1 d1) (by omega)
    generalize (Int.gcd n1 d1 : Int) = g at *
    have g0 : (g == 0) = false := by simp; omega
    have g1 : g ≠ 0 := by omega
    obtain ⟨a, ha⟩ : ∃ a : Int, n1.tdiv g = a := ⟨_, rfl⟩
    obtain ⟨b, hb⟩ : ∃ b : Int, d1.tdiv g = b := ⟨_, rfl⟩
    rw [ha] at t1 HQ
    rw [hb] at t2 HQ
    have e1 : IntKind.i64.wrap a = a := wr64 (by omega) (by omega)
    have e2 : IntKind.i64.wrap b = b := wr64 (by omega) (by omega)
    go_wp2_with fail
    go_region_held3 (fun _ => True) (trivial) (fail)
    clear e1 e2 ha hb
    go_wp2_with fail
    have PR1 := Lib.hid (PR.out.alloc (.cells #[.int .i64 a, .int .i64 b] 35))
    have PL := Lib.hid (Blk.at_ (g := w1.heap.size) w1 35 #[.int .i64 a, .int .i64 b] rfl)
    have BB1 := Lib.hid (BB.out.alloc BB.out.size (.cells #[.int .i64 a, .int .i64 b] 35))
    refine (isValidQ_impl a b _).mono ?_
    rintro e w2 ⟨rfl, b2⟩
    have PR2 : Hid (Blk w2 w.heap.size 35 #[.int .i64 0, .int .i64 0]) := PR1.out.onDrew b2
    have PL2 : Hid (Blk w2 w1.heap.size 35 #[.int .i64 a, .int .i64 b]) := PL.out.onDrew b2
    have BB2 : Hid (Below w.heap.size w w2) := BB1.out.drew.trans (b2.mono BB1.out.drew.size)
    clear PR PR1 PL BB BB1 b2
    have q0 := PR2.out.get 0 (.int .i64 0) rfl
    have q1 := PR2.out.get 1 (.int .i64 0) rfl
    have q2 := PL2.out.get 0 (.int .i64 a) rfl
    have q3 := PL2.out.get 1 (.int .i64 b) rfl
    have f0 := PR2.out.frozen 0
    have f1 := PR2.out.frozen 1
    cases hv : validQ a b
    · have HQ2 : Hid (makeQ n d = (0, 0, false)) := by show _ = _; have := HQ.out; rw [hv] at this; simpa using this
      go_wp2_with fail
      refine bodyPost_ret (v := .tuple #[.agg #[.int .i64 0, .int .i64 0], .bool false]) (by simp [results, Try.results114, go_sem, q0, q1]) rfl ⟨by rw [HQ2.out], ?_⟩
      exact (BB2.out.setCell (p := ⟨w.heap.size, 0, none⟩) (Nat.le_refl _) _).setCell (p := ⟨w.heap.size, 1, none⟩) (Nat.le_refl _) _
    · have HQ2 : Hid (makeQ n d = (a, b, true)) := by show _ = _; have := HQ.out; rw [hv] at this; simpa using this
      go_wp2_with fail
      refine bodyPost_ret (v := .tuple #[.agg #[.int .i64 a, .int .i64 b], .bool true]) (by simp [results, Try.results114, go_sem, q0, q1]) rfl ⟨by rw [HQ2.out], ?_⟩
      exact (BB2.out.setCell (p := ⟨w.heap.size, 0, none⟩) (Nat.le_refl _) _).setCell (p := ⟨w.heap.size, 1, none⟩) (Nat.le_refl _) _
  · have HQ := Lib.hid (makeQ_pos (n := n) (d := d) (by omega) rfl)
    have c1 : -9223372036854775807 ≤ n ∧ n ≤ 9223372036854775807 := by omega
    have c2 : 1 ≤ d ∧ d ≤ 9223372036854775807 := by omega
    have hg1 := gcd_pos (n := n) (d := d) (by omega)
    have hg2 := gcd_le (n := n) (d := d) (by omega)
    have hg3 : (Int.gcd (n) (d) : Int) ≤ 9223372036854775807 := by omega
    clear hg2
    go_enter Try.func114, Try.ntmps114
    go_wp2_with fail
    clear hs hd0 h0 hn hd hdd hnn hnz
    refine (gcd_impl n d _ c1 (by omega)).mono ?_
    rintro e w1 ⟨rfl, m, hw1⟩
    have PR : Hid (Blk w1 w.heap.size 35 #[.int .i64 0, .int .i64 0]) := by rw [hw1]; exact Blk.at_ (g := w.heap.size) w 35 #[.int .i64 0, .int .i64 0] rfl
    have BB : Hid (Below w.heap.size w w1) := by rw [hw1]; exact below_drewN ((Below.refl w.heap.size w).alloc (Nat.le_refl _) (.cells #[.int .i64 0, .int .i64 0] 35)) m
    clear hw1
    have t1 := tdiv_bnd n (Int.gcd n d) c1
    have t2 := tdiv_bnd d (Int.gcd n d) (by omega)
    generalize (Int.gcd n d : Int) = g at *
    have g0 : (g == 0) = false := by simp; omega
    have g1 : g ≠ 0 := by omega
    obtain ⟨a, ha⟩ : ∃ a : Int, n.tdiv g = a := ⟨_, rfl⟩
    obtain ⟨b, hb⟩ : ∃ b : Int, d.tdiv g = b := ⟨_, rfl⟩
    rw [ha] at t1 HQ
    rw [hb] at t2 HQ
    have e1 : IntKind.i64.wrap a = a := wr64 (by omega) (by omega)
    have e2 : IntKind.i64.wrap b = b := wr64 (by omega) (by omega)
    go_wp2_with fail
    go_region_held3 (fun _ => True) (trivial) (fail)
    clear e1 e2 ha hb
    go_wp2_with fail
    have PR1 := Lib.hid (PR.out.alloc (.cells #[.int .i64 a, .int .i64 b] 35))
    have PL := Lib.hid (Blk.at_ (g := w1.heap.size) w1 35 #[.int .i64 a, .int .i64 b] rfl)
    have BB1 := Lib.hid (BB.out.alloc BB.out.size (.cells #[.int .i64 a, .int .i64 b] 35))
    refine (isValidQ_impl a b _).mono ?_
    rintro e w2 ⟨rfl, b2⟩
    have PR2 : Hid (Blk w2 w.heap.size 35 #[.int .i64 0, .int .i64 0]) := PR1.out.onDrew b2
    have PL2 : Hid (Blk w2 w1.heap.size 35 #[.int .i64 a, .int .i64 b]) := PL.out.onDrew b2
    have BB2 : Hid (Below w.heap.size w w2) := BB1.out.drew.trans (b2.mono BB1.out.drew.size)
    clear PR PR1 PL BB BB1 b2
    have q0 := PR2.out.get 0 (.int .i64 0) rfl
    have q1 := PR2.out.get 1 (.int .i64 0) rfl
    have q2 := PL2.out.get 0 (.int .i64 a) rfl
    have q3 := PL2.out.get 1 (.int .i64 b) rfl
    have f0 := PR2.out.frozen 0
    have f1 := PR2.out.frozen 1
    cases hv : validQ a b
    · have HQ2 : Hid (makeQ n d = (0, 0, false)) := by show _ = _; have := HQ.out; rw [hv] at this; simpa using this
      go_wp2_with fail
      refine bodyPost_ret (v := .tuple #[.agg #[.int .i64 0, .int .i64 0], .bool false]) (by simp [results, Try.results114, go_sem, q0, q1]) rfl ⟨by rw [HQ2.out], ?_⟩
      exact (BB2.out.setCell (p := ⟨w.heap.size, 0, none⟩) (Nat.le_refl _) _).setCell (p := ⟨w.heap.size, 1, none⟩) (Nat.le_refl _) _
    · have HQ2 : Hid (makeQ n d = (a, b, true)) := by show _ = _; have := HQ.out; rw [hv] at this; simpa using this
      go_wp2_with fail
      refine bodyPost_ret (v := .tuple #[.agg #[.int .i64 a, .int .i64 b], .bool true]) (by simp [results, Try.results114, go_sem, q0, q1]) rfl ⟨by rw [HQ2.out], ?_⟩
      exact (BB2.out.setCell (p := ⟨w.heap.size, 0, none⟩) (Nat.le_refl _) _).setCell (p := ⟨w.heap.size, 1, none⟩) (Nat.le_refl _) _

set_option maxRecDepth 100000 in
set_option maxHeartbeats 1600000 in
theorem make_impl (n d : Int) (w : World) (hn : -9223372036854775807 ≤ n ∧ n ≤ 9223372036854775807) (hd : -9223372036854775807 ≤ d ∧ d ≤ 9223372036854775807) :
    Calls Try.prog 114 #[.int .i64 n, .int .i64 d] w (RetQ (makeQ n d) w) := by
  by_cases h0 : d = 0
  · subst h0
    go_enter Try.func114, Try.ntmps114
    go_wp2_with fail
    exact bodyPost_ret (v := .tuple #[.agg #[.int .i64 0, .int .i64 0], .bool false]) (by simp [results, Try.results114, go_sem]) rfl ⟨by rw [makeQ_zero], (Below.refl _ _).alloc (Nat.le_refl _) _⟩
  by_cases hz : n = 0
  · exact make_impl1 n d w hn hd h0 (by simp [hz]) (by simp [hz])
  · exact make_impl0 n d w hn hd h0 (by simp; omega)
end Go.Proofs.Ytcgjlddpbkponaa
