/-
  The walk of FnExactIsValidBox.
-/
import Derived.Test.YtacegpmgicebfaaBox2
namespace Go.Proofs.Ytacegpmgicebfaa.fnExactIsValidBox
open Go.ChangeShapes Go.WideShapes Go.ChangeAt Go.RowKit
set_option linter.unusedVariables false

theorem box_cells {w : World} {cs : Array Value} {b : BoxD} (h : BoxR w cs.toList b) : ∃ c0 c1, cs = #[c0, c1] ∧ BoxR w [c0, c1] b := by
  obtain ⟨c0, c1, hcs, h0, h1⟩ := h
  obtain ⟨l⟩ := cs
  simp only at hcs
  subst hcs
  exact ⟨c0, c1, rfl, c0, c1, rfl, h0, h1⟩

set_option maxHeartbeats 800000 in
theorem walk (w : World) (cs : Array Value) (b : BoxD) (h : BoxR w cs.toList b) :
    Calls Try.prog 6 #[.agg cs] w fun e w' => e = .returned (.bool true) ∧ Below w.heap.size w w' := by
  obtain ⟨c0, c1, rfl, h⟩ := box_cells h
  have H := Lib.hid h
  clear h
  have B0 := Lib.hid ((Below.refl w.heap.size w).alloc (Nat.le_refl _) (.cells #[c0, c1] 30))
  have P0 := Lib.hid (Blk.at_ (g := w.heap.size) w 30 #[c0, c1] rfl)
  go_enter Try.func6, Try.ntmps6
  go_wp2_with fail
  generalize w.alloc (.cells #[c0, c1] 30) = W at *
  refine (szBox_any _ _ b 1048576 _ (mono_box _ _ _ _ (Kept.below B0.out (Nat.le_refl _)) H.out) (by omega) (by omega)).mono ?_
  rintro e w1 ⟨rfl, b1⟩
  have B1 := Lib.hid (B0.out.trans (b1.mono B0.out.size))
  have P1 := Lib.hid (P0.out.on b1)
  clear B0 P0 b1 W
  by_cases hs : (b.count : Int) ≤ 1048576
  · rw [szStep_yes hs]
    have q0 := P1.out.get 0 c0 rfl
    have q1 := P1.out.get 1 c1 rfl
    go_wp2_with fail
    have hl0 : b.low.length ≤ 1048576 := by unfold BoxD.count at hs; omega
    have hl1 : b.high.length ≤ 1048576 := by unfold BoxD.count at hs; omega
    refine (toBox_any _ _ b _ (mono_box _ _ _ _ (Kept.below B1.out (Nat.le_refl _)) H.out) (by omega) (by omega)).mono ?_
    rintro e w2 ⟨F2, v2, rfl, o2, nd2, lo2, b2⟩
    obtain ⟨d0, d1, rfl, r2⟩ := box_cells (reads_box _ _ _ _ o2)
    have B2 := Lib.hid (B1.out.trans (b2.mono B1.out.size))
    have P2 := Lib.hid (P1.out.on b2)
    have R2 := Lib.hid r2
    clear B1 P1 b2 r2 q0 q1 o2 nd2 lo2
    go_wp2_with fail
    refine (isValidBox_spec _ _ b _ R2.out).mono ?_
    rintro e w3 ⟨rfl, b3⟩
    have B3 := Lib.hid (B2.out.trans (b3.mono B2.out.size))
    have P3 := Lib.hid (P2.out.on b3)
    clear B2 P2 b3 R2 w2
    have q0 := P3.out.get 0 c0 rfl
    have q1 := P3.out.get 1 c1 rfl
    go_wp2_with fail
    refine (toBox_any _ _ b _ (mono_box _ _ _ _ (Kept.below B3.out (Nat.le_refl _)) H.out) (by omega) (by omega)).mono ?_
    rintro e w4 ⟨F4, v4, rfl, o4, nd4, lo4, b4⟩
    obtain ⟨e0, e1, rfl, r4⟩ := box_cells (reads_box _ _ _ _ o4)
    have B4 := Lib.hid (B3.out.trans (b4.mono B3.out.size))
    have P4 := Lib.hid (P3.out.on b4)
    have R4 := Lib.hid r4
    clear B3 P3 b4 r4 q0 q1 nd4 lo4 w3 o4
    obtain ⟨f0, f1⟩ := R4.out.two
    obtain ⟨a0, k0, rfl, _⟩ := f0.form
    obtain ⟨a1, k1, rfl, _⟩ := f1.form
    clear f0 f1
    go_wp2_with fail
    have B5 := Lib.hid (B4.out.alloc B4.out.size (.cells #[.slice a0 b.low.length k0, .slice a1 b.high.length k1] 33))
    have P5 := Lib.hid (P4.out.alloc (.cells #[.slice a0 b.low.length k0, .slice a1 b.high.length k1] 33))
    have X5 := Lib.hid (Blk.at_ (g := w4.heap.size) w4 33 #[.slice a0 b.low.length k0, .slice a1 b.high.length k1] rfl)
    have R5 := Lib.hid (mono_box _ _ _ _ (Kept.alloc w4 (.cells #[.slice a0 b.low.length k0, .slice a1 b.high.length k1] 33)) R4.out)
    clear B4 P4 R4
    generalize w4.alloc (.cells #[.slice a0 b.low.length k0, .slice a1 b.high.length k1] 33) = W5 at *
    refine (isValidBox_impl _ _ b _ R5.out).mono ?_
    rintro e w6 ⟨rfl, b6⟩
    have B6 := Lib.hid (B5.out.trans (b6.mono B5.out.size))
    have P6 := Lib.hid (P5.out.on b6)
    have X6 := Lib.hid (X5.out.on b6)
    have R6 := Lib.hid (mono_box _ _ _ _ (Kept.below b6 (Nat.le_refl _)) R5.out)
    clear B5 P5 R5 X5 b6 W5
    go_wp2_with fail
    have q0 := P6.out.get 0 c0 rfl
    have q1 := P6.out.get 1 c1 rfl
    have q2 := X6.out.get 0 (.slice a0 b.low.length k0) rfl
    have q3 := X6.out.get 1 (.slice a1 b.high.length k1) rfl
    go_region_held3 (fun w' => w'.cell? ⟨w.heap.size, 0, none⟩ = some c0 ∧ w'.cell? ⟨w.heap.size, 1, none⟩ = some c1 ∧ w'.cell? ⟨w4.heap.size, 0, none⟩ = some (.slice a0 b.low.length k0) ∧ w'.cell? ⟨w4.heap.size, 1, none⟩ = some (.slice a1 b.high.length k1))
      (first | exact ⟨q0, q1, q2, q3⟩ | exact ⟨keep_drew q0 b7, keep_drew q1 b7, keep_drew q2 b7, keep_drew q3 b7⟩ | exact ⟨keep_cell (keep_drew q0 b7) b8, keep_cell (keep_drew q1 b7) b8, keep_cell (keep_drew q2 b7) b8, keep_cell (keep_drew q3 b7) b8⟩)
      (first | (go_at_call 23; refine (toBox_any _ _ b _ (mono_box _ _ _ _ (Kept.below B6.out.drew (Nat.le_refl _)) H.out) (by omega) (by omega)).mono ?_; rintro e w7 ⟨F7, v7, rfl, o7, nd7, lo7, b7⟩; obtain ⟨g0, g1, rfl, r7⟩ := box_cells (reads_box _ _ _ _ o7); clear o7 nd7 lo7) | (go_at_call 25; refine (eqBox_self _ _ _ _ b _ (mono_box _ _ _ _ (Kept.below b7 (Nat.le_refl _)) R6.out) r7).mono ?_; rintro e w8 ⟨rfl, b8⟩))
    go_wp2_with fail
    go_ret
    exact ⟨rfl, (B6.out.drew.trans (b7.mono B6.out.drew.size)).trans (b8.mono (Nat.le_trans B6.out.drew.size b7.size))⟩
  · rw [szStep_no hs]
    go_wp2_with fail
    go_ret
    exact ⟨rfl, B1.out⟩
end Go.Proofs.Ytacegpmgicebfaa.fnExactIsValidBox
