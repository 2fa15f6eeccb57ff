/-
  Dividing and subtracting rationals.
-/
import Derived.Test.YtcgjlddpbkponaaQ5
namespace Go.Proofs.Ytcgjlddpbkponaa
open Go.ChangeShapes Go.WideShapes Go.ChangeAt Go.RowKit

set_option maxRecDepth 100000 in
set_option maxHeartbeats 1600000 in
theorem div_spec (a b c d : Int) (w : World) : Calls Try.prog 93 #[qv a b, qv c d] w (RetQ (divQ a b c d) w) := by
  have B0 := Lib.hid ((((Below.refl w.heap.size w).alloc (Nat.le_refl _) (.cells #[.int .i64 a, .int .i64 b] 35)).alloc (by simp) (.cells #[.int .i64 c, .int .i64 d] 35)).alloc (by simp; omega) (.cells #[.int .i64 0, .int .i64 0] 35))
  have P0 := Lib.hid (((Blk.at_ (g := w.heap.size) w 35 #[.int .i64 a, .int .i64 b] rfl).alloc (.cells #[.int .i64 c, .int .i64 d] 35)).alloc (.cells #[.int .i64 0, .int .i64 0] 35))
  have P1 := Lib.hid ((Blk.at_ (g := w.heap.size + 1) (w.alloc (.cells #[.int .i64 a, .int .i64 b] 35)) 35 #[.int .i64 c, .int .i64 d] (by simp)).alloc (.cells #[.int .i64 0, .int .i64 0] 35))
  have P2 := Lib.hid (Blk.at_ (g := w.heap.size + 1 + 1) ((w.alloc (.cells #[.int .i64 a, .int .i64 b] 35)).alloc (.cells #[.int .i64 c, .int .i64 d] 35)) 35 #[.int .i64 0, .int .i64 0] (by simp))
  go_enter Try.func93, Try.ntmps93
  go_wp2_with fail
  generalize ((w.alloc (.cells #[.int .i64 a, .int .i64 b] 35)).alloc (.cells #[.int .i64 c, .int .i64 d] 35)).alloc (.cells #[.int .i64 0, .int .i64 0] 35) = W at *
  refine (isValidQ_spec a b _).mono ?_
  rintro e w1 ⟨rfl, b1⟩
  have B1 := Lib.hid (B0.out.trans (b1.mono B0.out.size))
  have P01 := Lib.hid (P0.out.on b1)
  have P11 := Lib.hid (P1.out.on b1)
  have P21 := Lib.hid (P2.out.on b1)
  clear B0 P0 P1 P2 b1
  have p00 := P01.out.get 0 _ rfl
  have p01 := P01.out.get 1 _ rfl
  have p10 := P11.out.get 0 _ rfl
  have p11 := P11.out.get 1 _ rfl
  have p20 := P21.out.get 0 _ rfl
  have p21 := P21.out.get 1 _ rfl
  have f0 := P21.out.frozen 0
  have f1 := P21.out.frozen 1
  have ql := P21.out.lt
  cases hv : validQ a b
  · have GV := Lib.hid hv
    clear hv
    go_wp2_with fail
    refine bodyPost_ret (v := .tuple #[.agg #[.int .i64 0, .int .i64 0], .bool false]) (by simp [results, Try.results93, go_sem, p20, p21]) rfl ⟨by rw [divQ_no (.inl GV.out)], ?_⟩
    exact (B1.out.setCell (p := ⟨w.heap.size + 1 + 1, 0, none⟩) (by show _ ≤ w.heap.size + 1 + 1; omega) _).setCell (p := ⟨w.heap.size + 1 + 1, 1, none⟩) (by show _ ≤ w.heap.size + 1 + 1; omega) _
  have GV := Lib.hid hv
  clear hv
  go_wp2_with fail
  refine (isValidQ_spec c d _).mono ?_
  rintro e w2 ⟨rfl, b1⟩
  clear p00 p01 p10 p11 p20 p21 f0 f1 ql
  have B2 := Lib.hid (B1.out.trans (b1.mono B1.out.size))
  have P02 := Lib.hid (P01.out.on b1)
  have P12 := Lib.hid (P11.out.on b1)
  have P22 := Lib.hid (P21.out.on b1)
  clear B1 P01 P11 P21 b1
  have p00 := P02.out.get 0 _ rfl
  have p01 := P02.out.get 1 _ rfl
  have p10 := P12.out.get 0 _ rfl
  have p11 := P12.out.get 1 _ rfl
  have p20 := P22.out.get 0 _ rfl
  have p21 := P22.out.get 1 _ rfl
  have f0 := P22.out.frozen 0
  have f1 := P22.out.frozen 1
  have ql := P22.out.lt
  cases hv : validQ c d
  · have GW := Lib.hid hv
    clear hv
    go_wp2_with fail
    refine bodyPost_ret (v := .tuple #[.agg #[.int .i64 0, .int .i64 0], .bool false]) (by simp [results, Try.results93, go_sem, p20, p21]) rfl ⟨by rw [divQ_no (.inr GW.out)], ?_⟩
    exact (B2.out.setCell (p := ⟨w.heap.size + 1 + 1, 0, none⟩) (by show _ ≤ w.heap.size + 1 + 1; omega) _).setCell (p := ⟨w.heap.size + 1 + 1, 1, none⟩) (by show _ ≤ w.heap.size + 1 + 1; omega) _
  have GW := Lib.hid hv
  clear hv
  by_cases hz : c = 0
  · subst hz
    go_wp2_with fail
    refine bodyPost_ret (v := .tuple #[.agg #[.int .i64 0, .int .i64 0], .bool false]) (by simp [results, Try.results93, go_sem, p20, p21]) rfl ⟨by rw [divQ_zero], ?_⟩
    exact (B2.out.setCell (p := ⟨w.heap.size + 1 + 1, 0, none⟩) (by show _ ≤ w.heap.size + 1 + 1; omega) _).setCell (p := ⟨w.heap.size + 1 + 1, 1, none⟩) (by show _ ≤ w.heap.size + 1 + 1; omega) _
  have hz0 : (c == 0) = false := by simpa using hz
  have h1 := validQ_bnd GV.out
  have h2 := validQ_bnd GW.out
  have m0 := mul_M (x := a) (y := d) (by omega) (by omega)
  have m1 := mul_M (x := b) (y := c) (by omega) (by omega)
  clear h1 h2
  have HQ := Lib.hid (divQ_yes GV.out GW.out)
  go_wp2_with fail
  refine (make_spec (a * d) (b * c) _ (by omega) (by omega)).mono ?_
  rintro e w3 ⟨rfl, b1⟩
  generalize makeQ (a * d) (b * c) = q at *
  obtain ⟨x, y, z⟩ := q
  clear p00 p01 p10 p11 p20 p21 f0 f1 ql
  have B3 := Lib.hid (B2.out.trans (b1.mono B2.out.size))
  have P03 := Lib.hid (P02.out.on b1)
  have P13 := Lib.hid (P12.out.on b1)
  have P23 := Lib.hid (P22.out.on b1)
  clear B2 P02 P12 P22 b1
  have p00 := P03.out.get 0 _ rfl
  have p01 := P03.out.get 1 _ rfl
  have p10 := P13.out.get 0 _ rfl
  have p11 := P13.out.get 1 _ rfl
  have p20 := P23.out.get 0 _ rfl
  have p21 := P23.out.get 1 _ rfl
  have f0 := P23.out.frozen 0
  have f1 := P23.out.frozen 1
  have ql := P23.out.lt
  clear m0 m1
  go_wp2_with fail
  have R := ((P23.out.store 0 (.int .i64 x)).store 1 (.int .i64 y)).alloc (.cells #[.int .i64 x, .int .i64 y] 35)
  have r0 := R.get 0 (.int .i64 x) rfl
  have r1 := R.get 1 (.int .i64 y) rfl
  refine bodyPost_ret (v := .tuple #[.agg #[.int .i64 x, .int .i64 y], .bool z]) (by simp [results, Try.results93, go_sem, r0, r1]) rfl ⟨by rw [HQ.out], ?_⟩
  exact ((B3.out.setCell (p := ⟨w.heap.size + 1 + 1, 0, none⟩) (by show _ ≤ w.heap.size + 1 + 1; omega) _).setCell (p := ⟨w.heap.size + 1 + 1, 1, none⟩) (by show _ ≤ w.heap.size + 1 + 1; omega) _).alloc (by simp [World.setCell]; omega) _
set_option maxRecDepth 100000 in
set_option maxHeartbeats 1600000 in
theorem div_impl (a b c d : Int) (w : World) : Calls Try.prog 108 #[qv a b, qv c d] w (RetQ (divQ a b c d) w) := by
  have B0 := Lib.hid ((((Below.refl w.heap.size w).alloc (Nat.le_refl _) (.cells #[.int .i64 a, .int .i64 b] 35)).alloc (by simp) (.cells #[.int .i64 c, .int .i64 d] 35)).alloc (by simp; omega) (.cells #[.int .i64 0, .int .i64 0] 35))
  have P0 := Lib.hid (((Blk.at_ (g := w.heap.size) w 35 #[.int .i64 a, .int .i64 b] rfl).alloc (.cells #[.int .i64 c, .int .i64 d] 35)).alloc (.cells #[.int .i64 0, .int .i64 0] 35))
  have P1 := Lib.hid ((Blk.at_ (g := w.heap.size + 1) (w.alloc (.cells #[.int .i64 a, .int .i64 b] 35)) 35 #[.int .i64 c, .int .i64 d] (by simp)).alloc (.cells #[.int .i64 0, .int .i64 0] 35))
  have P2 := Lib.hid (Blk.at_ (g := w.heap.size + 1 + 1) ((w.alloc (.cells #[.int .i64 a, .int .i64 b] 35)).alloc (.cells #[.int .i64 c, .int .i64 d] 35)) 35 #[.int .i64 0, .int .i64 0] (by simp))
  go_enter Try.func108, Try.ntmps108
  go_wp2_with fail
  generalize ((w.alloc (.cells #[.int .i64 a, .int .i64 b] 35)).alloc (.cells #[.int .i64 c, .int .i64 d] 35)).alloc (.cells #[.int .i64 0, .int .i64 0] 35) = W at *
  refine (isValidQ_impl a b _).mono ?_
  rintro e w1 ⟨rfl, b1⟩
  have B1 := Lib.hid (B0.out.trans (b1.mono B0.out.size))
  have P01 := Lib.hid (P0.out.on b1)
  have P11 := Lib.hid (P1.out.on b1)
  have P21 := Lib.hid (P2.out.on b1)
  clear B0 P0 P1 P2 b1
  have p00 := P01.out.get 0 _ rfl
  have p01 := P01.out.get 1 _ rfl
  have p10 := P11.out.get 0 _ rfl
  have p11 := P11.out.get 1 _ rfl
  have p20 := P21.out.get 0 _ rfl
  have p21 := P21.out.get 1 _ rfl
  have f0 := P21.out.frozen 0
  have f1 := P21.out.frozen 1
  have ql := P21.out.lt
  cases hv : validQ a b
  · have GV := Lib.hid hv
    clear hv
    go_wp2_with fail
    refine bodyPost_ret (v := .tuple #[.agg #[.int .i64 0, .int .i64 0], .bool false]) (by simp [results, Try.results108, go_sem, p20, p21]) rfl ⟨by rw [divQ_no (.inl GV.out)], ?_⟩
    exact (B1.out.setCell (p := ⟨w.heap.size + 1 + 1, 0, none⟩) (by show _ ≤ w.heap.size + 1 + 1; omega) _).setCell (p := ⟨w.heap.size + 1 + 1, 1, none⟩) (by show _ ≤ w.heap.size + 1 + 1; omega) _
  have GV := Lib.hid hv
  clear hv
  go_wp2_with fail
  refine (isValidQ_impl c d _).mono ?_
  rintro e w2 ⟨rfl, b1⟩
  clear p00 p01 p10 p11 p20 p21 f0 f1 ql
  have B2 := Lib.hid (B1.out.trans (b1.mono B1.out.size))
  have P02 := Lib.hid (P01.out.on b1)
  have P12 := Lib.hid (P11.out.on b1)
  have P22 := Lib.hid (P21.out.on b1)
  clear B1 P01 P11 P21 b1
  have p00 := P02.out.get 0 _ rfl
  have p01 := P02.out.get 1 _ rfl
  have p10 := P12.out.get 0 _ rfl
  have p11 := P12.out.get 1 _ rfl
  have p20 := P22.out.get 0 _ rfl
  have p21 := P22.out.get 1 _ rfl
  have f0 := P22.out.frozen 0
  have f1 := P22.out.frozen 1
  have ql := P22.out.lt
  cases hv : validQ c d
  · have GW := Lib.hid hv
    clear hv
    go_wp2_with fail
    refine bodyPost_ret (v := .tuple #[.agg #[.int .i64 0, .int .i64 0], .bool false]) (by simp [results, Try.results108, go_sem, p20, p21]) rfl ⟨by rw [divQ_no (.inr GW.out)], ?_⟩
    exact (B2.out.setCell (p := ⟨w.heap.size + 1 + 1, 0, none⟩) (by show _ ≤ w.heap.size + 1 + 1; omega) _).setCell (p := ⟨w.heap.size + 1 + 1, 1, none⟩) (by show _ ≤ w.heap.size + 1 + 1; omega) _
  have GW := Lib.hid hv
  clear hv
  have h1 := validQ_bnd GV.out
  have h2 := validQ_bnd GW.out
  have m0 := mul_M (x := a) (y := d) (by omega) (by omega)
  have m1 := mul_M (x := b) (y := c) (by omega) (by omega)
  clear h1 h2
  have HQ := Lib.hid (divQ_yes GV.out GW.out)
  go_wp2_with fail
  refine (make_impl (a * d) (b * c) _ (by omega) (by omega)).mono ?_
  rintro e w3 ⟨rfl, b1⟩
  generalize makeQ (a * d) (b * c) = q at *
  obtain ⟨x, y, z⟩ := q
  clear p00 p01 p10 p11 p20 p21 f0 f1 ql
  have B3 := Lib.hid (B2.out.trans (b1.mono B2.out.size))
  have P03 := Lib.hid (P02.out.on b1)
  have P13 := Lib.hid (P12.out.on b1)
  have P23 := Lib.hid (P22.out.on b1)
  clear B2 P02 P12 P22 b1
  have p00 := P03.out.get 0 _ rfl
  have p01 := P03.out.get 1 _ rfl
  have p10 := P13.out.get 0 _ rfl
  have p11 := P13.out.get 1 _ rfl
  have p20 := P23.out.get 0 _ rfl
  have p21 := P23.out.get 1 _ rfl
  have f0 := P23.out.frozen 0
  have f1 := P23.out.frozen 1
  have ql := P23.out.lt
  clear m0 m1
  go_wp2_with fail
  refine bodyPost_ret (v := .tuple #[.agg #[.int .i64 x, .int .i64 y], .bool z]) (by simp [results, Try.results108, go_sem, p20, p21]) rfl ⟨by rw [HQ.out], ?_⟩
  exact (B3.out.setCell (p := ⟨w.heap.size + 1 + 1, 0, none⟩) (by show _ ≤ w.heap.size + 1 + 1; omega) _).setCell (p := ⟨w.heap.size + 1 + 1, 1, none⟩) (by show _ ≤ w.heap.size + 1 + 1; omega) _
set_option maxRecDepth 100000 in
set_option maxHeartbeats 1600000 in
theorem sub_spec (a b c d : Int) (w : World) : Calls Try.prog 113 #[qv a b, qv c d] w (RetQ (subQ a b c d) w) := by
  have B0 := Lib.hid ((((Below.refl w.heap.size w).alloc (Nat.le_refl _) (.cells #[.int .i64 a, .int .i64 b] 35)).alloc (by simp) (.cells #[.int .i64 c, .int .i64 d] 35)).alloc (by simp; omega) (.cells #[.int .i64 0, .int .i64 0] 35))
  have P0 := Lib.hid (((Blk.at_ (g := w.heap.size) w 35 #[.int .i64 a, .int .i64 b] rfl).alloc (.cells #[.int .i64 c, .int .i64 d] 35)).alloc (.cells #[.int .i64 0, .int .i64 0] 35))
  have P1 := Lib.hid ((Blk.at_ (g := w.heap.size + 1) (w.alloc (.cells #[.int .i64 a, .int .i64 b] 35)) 35 #[.int .i64 c, .int .i64 d] (by simp)).alloc (.cells #[.int .i64 0, .int .i64 0] 35))
  have P2 := Lib.hid (Blk.at_ (g := w.heap.size + 1 + 1) ((w.alloc (.cells #[.int .i64 a, .int .i64 b] 35)).alloc (.cells #[.int .i64 c, .int .i64 d] 35)) 35 #[.int .i64 0, .int .i64 0] (by simp))
  go_enter Try.func113, Try.ntmps113
  go_wp2_with fail
  generalize ((w.alloc (.cells #[.int .i64 a, .int .i64 b] 35)).alloc (.cells #[.int .i64 c, .int .i64 d] 35)).alloc (.cells #[.int .i64 0, .int .i64 0] 35) = W at *
  refine (isValidQ_spec a b _).mono ?_
  rintro e w1 ⟨rfl, b1⟩
  have B1 := Lib.hid (B0.out.trans (b1.mono B0.out.size))
  have P01 := Lib.hid (P0.out.on b1)
  have P11 := Lib.hid (P1.out.on b1)
  have P21 := Lib.hid (P2.out.on b1)
  clear B0 P0 P1 P2 b1
  have p00 := P01.out.get 0 _ rfl
  have p01 := P01.out.get 1 _ rfl
  have p10 := P11.out.get 0 _ rfl
  have p11 := P11.out.get 1 _ rfl
  have p20 := P21.out.get 0 _ rfl
  have p21 := P21.out.get 1 _ rfl
  have f0 := P21.out.frozen 0
  have f1 := P21.out.frozen 1
  have ql := P21.out.lt
  cases hv : validQ a b
  · have GV := Lib.hid hv
    clear hv
    go_wp2_with fail
    refine bodyPost_ret (v := .tuple #[.agg #[.int .i64 0, .int .i64 0], .bool false]) (by simp [results, Try.results113, go_sem, p20, p21]) rfl ⟨by rw [subQ_no (.inl GV.out)], ?_⟩
    exact (B1.out.setCell (p := ⟨w.heap.size + 1 + 1, 0, none⟩) (by show _ ≤ w.heap.size + 1 + 1; omega) _).setCell (p := ⟨w.heap.size + 1 + 1, 1, none⟩) (by show _ ≤ w.heap.size + 1 + 1; omega) _
  have GV := Lib.hid hv
  clear hv
  go_wp2_with fail
  refine (isValidQ_spec c d _).mono ?_
  rintro e w2 ⟨rfl, b1⟩
  clear p00 p01 p10 p11 p20 p21 f0 f1 ql
  have B2 := Lib.hid (B1.out.trans (b1.mono B1.out.size))
  have P02 := Lib.hid (P01.out.on b1)
  have P12 := Lib.hid (P11.out.on b1)
  have P22 := Lib.hid (P21.out.on b1)
  clear B1 P01 P11 P21 b1
  have p00 := P02.out.get 0 _ rfl
  have p01 := P02.out.get 1 _ rfl
  have p10 := P12.out.get 0 _ rfl
  have p11 := P12.out.get 1 _ rfl
  have p20 := P22.out.get 0 _ rfl
  have p21 := P22.out.get 1 _ rfl
  have f0 := P22.out.frozen 0
  have f1 := P22.out.frozen 1
  have ql := P22.out.lt
  cases hv : validQ c d
  · have GW := Lib.hid hv
    clear hv
    go_wp2_with fail
    refine bodyPost_ret (v := .tuple #[.agg #[.int .i64 0, .int .i64 0], .bool false]) (by simp [results, Try.results113, go_sem, p20, p21]) rfl ⟨by rw [subQ_no (.inr GW.out)], ?_⟩
    exact (B2.out.setCell (p := ⟨w.heap.size + 1 + 1, 0, none⟩) (by show _ ≤ w.heap.size + 1 + 1; omega) _).setCell (p := ⟨w.heap.size + 1 + 1, 1, none⟩) (by show _ ≤ w.heap.size + 1 + 1; omega) _
  have GW := Lib.hid hv
  clear hv
  have h1 := validQ_bnd GV.out
  have h2 := validQ_bnd GW.out
  have m0 := mul_M (x := a) (y := d) (by omega) (by omega)
  have m1 := mul_M (x := c) (y := b) (by omega) (by omega)
  have m2 := mul_M (x := b) (y := d) (by omega) (by omega)
  clear h1 h2
  have HQ := Lib.hid (subQ_yes GV.out GW.out)
  go_wp2_with fail
  refine (make_spec (a * d - c * b) (b * d) _ (by omega) (by omega)).mono ?_
  rintro e w3 ⟨rfl, b1⟩
  generalize makeQ (a * d - c * b) (b * d) = q at *
  obtain ⟨x, y, z⟩ := q
  clear p00 p01 p10 p11 p20 p21 f0 f1 ql
  have B3 := Lib.hid (B2.out.trans (b1.mono B2.out.size))
  have P03 := Lib.hid (P02.out.on b1)
  have P13 := Lib.hid (P12.out.on b1)
  have P23 := Lib.hid (P22.out.on b1)
  clear B2 P02 P12 P22 b1
  have p00 := P03.out.get 0 _ rfl
  have p01 := P03.out.get 1 _ rfl
  have p10 := P13.out.get 0 _ rfl
  have p11 := P13.out.get 1 _ rfl
  have p20 := P23.out.get 0 _ rfl
  have p21 := P23.out.get 1 _ rfl
  have f0 := P23.out.frozen 0
  have f1 := P23.out.frozen 1
  have ql := P23.out.lt
  clear m0 m1 m2
  go_wp2_with fail
  have R := ((P23.out.store 0 (.int .i64 x)).store 1 (.int .i64 y)).alloc (.cells #[.int .i64 x, .int .i64 y] 35)
  have r0 := R.get 0 (.int .i64 x) rfl
  have r1 := R.get 1 (.int .i64 y) rfl
  refine bodyPost_ret (v := .tuple #[.agg #[.int .i64 x, .int .i64 y], .bool z]) (by simp [results, Try.results113, go_sem, r0, r1]) rfl ⟨by rw [HQ.out], ?_⟩
  exact ((B3.out.setCell (p := ⟨w.heap.size + 1 + 1, 0, none⟩) (by show _ ≤ w.heap.size + 1 + 1; omega) _).setCell (p := ⟨w.heap.size + 1 + 1, 1, none⟩) (by show _ ≤ w.heap.size + 1 + 1; omega) _).alloc (by simp [World.setCell]; omega) _
end Go.Proofs.Ytcgjlddpbkponaa
