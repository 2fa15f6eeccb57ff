/-
  Contracts of EqualBoxes, IsValidBox and IsInBox, program and reference.
-/
import Derived.Test.YtacegpmgicebfaaBox
namespace Go.Proofs.Ytacegpmgicebfaa
open Go.ChangeShapes Go.WideShapes Go.ChangeAt Go.RowKit

def eqBx (b b' : BoxD) : Bool := eqL b.low b'.low && eqL b.high b'.high
def okBx (b : BoxD) : Bool := isLoc b.low && isLoc b.high && decide (0 < b.low.length) && dom b.high b.low
def inBx (b : BoxD) (l : List Int) : Bool := okBx b && dom l b.low && dom b.high l
theorem eqL_cmp {a b : List Int} : (cmpR a b == 0) = eqL a b := by
  rw [Bool.eq_iff_iff]
  simp [eqL, cmpR_zero]
theorem BoxR.two {w : World} {c0 c1 : Value} {b : BoxD} (h : BoxR w [c0, c1] b) : IntsR w c0 b.low ∧ IntsR w c1 b.high := by
  obtain ⟨_, _, hcs, h0, h1⟩ := h
  simp only [List.cons.injEq, and_true] at hcs
  obtain ⟨rfl, rfl⟩ := hcs
  exact ⟨h0, h1⟩

set_option maxHeartbeats 800000 in
theorem equalBoxes_spec (c0 c1 d0 d1 : Value) (b b' : BoxD) (w : World) (h : BoxR w [c0, c1] b) (h' : BoxR w [d0, d1] b') :
    Calls Try.prog 22 #[.agg #[c0, c1], .agg #[d0, d1]] w fun e w' => e = .returned (.bool (eqBx b b')) ∧ Below w.heap.size w w' := by
  obtain ⟨h0, h1⟩ := h.two
  obtain ⟨h0', h1'⟩ := h'.two
  have H0 := Lib.hid h0
  have H1 := Lib.hid h1
  have H0' := Lib.hid h0'
  have H1' := Lib.hid h1'
  clear h0 h1 h0' h1' h h'
  cases hL : eqL b.low b'.low
  · have HL := Lib.hid hL
    clear hL
    go_enter Try.func22, Try.ntmps22
    go_wp2_with fail
    refine (compareRows_any _ _ b.low b'.low _ (H0.out.kept ((Kept.alloc _ _).trans (Kept.alloc _ _))) (H0'.out.kept ((Kept.alloc _ _).trans (Kept.alloc _ _)))).mono ?_
    rintro e w1 ⟨rfl, n, rfl⟩
    have hz := HL.out; rw [← eqL_cmp] at hz; generalize cmpR b.low b'.low = z at *
    go_wp2_with fail
    go_ret
    exact ⟨ret_bool (by rw [eqBx, HL.out]; rfl), below_drewN (((Below.refl _ _).alloc (Nat.le_refl _) _).alloc (by simp) _) n⟩
  · have HL := Lib.hid hL
    clear hL
    go_enter Try.func22, Try.ntmps22
    go_wp2_with fail
    refine (compareRows_any _ _ b.low b'.low _ (H0.out.kept ((Kept.alloc _ _).trans (Kept.alloc _ _))) (H0'.out.kept ((Kept.alloc _ _).trans (Kept.alloc _ _)))).mono ?_
    rintro e w1 ⟨rfl, n, rfl⟩
    have hz := HL.out; rw [← eqL_cmp] at hz; generalize cmpR b.low b'.low = z at *
    go_wp2_with fail
    refine (compareRows_any _ _ b.high b'.high _ (H1.out.kept (((Kept.alloc _ _).trans (Kept.alloc _ _)).trans (Kept.drewN _ _))) (H1'.out.kept (((Kept.alloc _ _).trans (Kept.alloc _ _)).trans (Kept.drewN _ _)))).mono ?_
    rintro e w1 ⟨rfl, m, rfl⟩
    cases hR : eqL b.high b'.high
    all_goals
      have HR := Lib.hid hR
      clear hR
      have hz := HR.out; rw [← eqL_cmp] at hz; generalize cmpR b.high b'.high = z at *
      go_wp2_with fail
      go_ret
      exact ⟨ret_bool (by rw [eqBx, HL.out, HR.out]; rfl), below_drewN (((Below.refl _ _).alloc (Nat.le_refl _) _).alloc (by simp) _) (n + m)⟩

set_option maxHeartbeats 800000 in
theorem equalBoxes_impl (c0 c1 d0 d1 : Value) (b b' : BoxD) (w : World) (h : BoxR w [c0, c1] b) (h' : BoxR w [d0, d1] b') :
    Calls Try.prog 24 #[.agg #[c0, c1], .agg #[d0, d1]] w fun e w' => e = .returned (.bool (eqBx b b')) ∧ Below w.heap.size w w' := by
  obtain ⟨h0, h1⟩ := h.two
  obtain ⟨h0', h1'⟩ := h'.two
  have H0 := Lib.hid h0
  have H1 := Lib.hid h1
  have H0' := Lib.hid h0'
  have H1' := Lib.hid h1'
  clear h0 h1 h0' h1' h h'
  cases hL : eqL b.low b'.low
  · have HL := Lib.hid hL
    clear hL
    go_enter Try.func24, Try.ntmps24
    go_wp2_with fail
    refine (slicesEqual_any _ _ b.low b'.low _ (H0.out.kept ((Kept.alloc _ _).trans (Kept.alloc _ _))) (H0'.out.kept ((Kept.alloc _ _).trans (Kept.alloc _ _)))).mono ?_
    rintro e w1 ⟨rfl, n, rfl⟩
    rw [HL.out]
    go_wp2_with fail
    go_ret
    exact ⟨ret_bool (by rw [eqBx, HL.out]; rfl), below_drewN (((Below.refl _ _).alloc (Nat.le_refl _) _).alloc (by simp) _) n⟩
  · have HL := Lib.hid hL
    clear hL
    go_enter Try.func24, Try.ntmps24
    go_wp2_with fail
    refine (slicesEqual_any _ _ b.low b'.low _ (H0.out.kept ((Kept.alloc _ _).trans (Kept.alloc _ _))) (H0'.out.kept ((Kept.alloc _ _).trans (Kept.alloc _ _)))).mono ?_
    rintro e w1 ⟨rfl, n, rfl⟩
    rw [HL.out]
    go_wp2_with fail
    refine (slicesEqual_any _ _ b.high b'.high _ (H1.out.kept (((Kept.alloc _ _).trans (Kept.alloc _ _)).trans (Kept.drewN _ _))) (H1'.out.kept (((Kept.alloc _ _).trans (Kept.alloc _ _)).trans (Kept.drewN _ _)))).mono ?_
    rintro e w1 ⟨rfl, m, rfl⟩
    cases hR : eqL b.high b'.high
    all_goals
      have HR := Lib.hid hR
      clear hR
      skip
      go_wp2_with fail
      go_ret
      exact ⟨ret_bool (by rw [eqBx, HL.out, HR.out]; rfl), below_drewN (((Below.refl _ _).alloc (Nat.le_refl _) _).alloc (by simp) _) (n + m)⟩

set_option maxHeartbeats 800000 in
theorem isValidBox_spec (c0 c1 : Value) (b : BoxD) (w : World) (h : BoxR w [c0, c1] b) :
    Calls Try.prog 26 #[.agg #[c0, c1]] w fun e w' => e = .returned (.bool (okBx b)) ∧ Below w.heap.size w w' := by
  obtain ⟨h0, h1⟩ := h.two
  obtain ⟨A, c, rfl, hc1, hc2⟩ := h0.form
  unfold maxLen at hc2
  have H0 := Lib.hid h0
  have H1 := Lib.hid h1
  clear h0 h1 h
  cases hlen : decide (0 < b.low.length)
  · have Glen := Lib.hid hlen
    have hlen' : ¬ 0 < b.low.length := by simpa using hlen
    clear hlen
    go_enter Try.func26, Try.ntmps26
    go_wp2_with fail
    go_ret
    exact ⟨ret_bool (by simp [okBx, Glen.out]), (Below.refl _ _).alloc (Nat.le_refl _) _⟩
  · have Glen := Lib.hid hlen
    have hlen' : 0 < b.low.length := by simpa using hlen
    clear hlen
    cases hlow : isLoc b.low
    · have Glow := Lib.hid hlow
      clear hlow
      go_enter Try.func26, Try.ntmps26
      go_wp2_with fail
      refine (isLocation_spec _ b.low _ (H0.out.kept (Kept.alloc _ _))).mono ?_
      rintro e w1 ⟨rfl, rfl⟩
      rw [Glow.out]
      go_wp2_with fail
      go_ret
      exact ⟨ret_bool (by simp [okBx, Glen.out, Glow.out]), (Below.refl _ _).alloc (Nat.le_refl _) _⟩
    · have Glow := Lib.hid hlow
      clear hlow
      cases hhigh : isLoc b.high
      · have Ghigh := Lib.hid hhigh
        clear hhigh
        go_enter Try.func26, Try.ntmps26
        go_wp2_with fail
        refine (isLocation_spec _ b.low _ (H0.out.kept (Kept.alloc _ _))).mono ?_
        rintro e w1 ⟨rfl, rfl⟩
        rw [Glow.out]
        go_wp2_with fail
        refine (isLocation_spec _ b.high _ (H1.out.kept (Kept.alloc _ _))).mono ?_
        rintro e w1 ⟨rfl, rfl⟩
        rw [Ghigh.out]
        go_wp2_with fail
        go_ret
        exact ⟨ret_bool (by simp [okBx, Glen.out, Glow.out, Ghigh.out]), (Below.refl _ _).alloc (Nat.le_refl _) _⟩
      · have Ghigh := Lib.hid hhigh
        clear hhigh
        cases hdom : dom b.high b.low
        · have Gdom := Lib.hid hdom
          clear hdom
          go_enter Try.func26, Try.ntmps26
          go_wp2_with fail
          refine (isLocation_spec _ b.low _ (H0.out.kept (Kept.alloc _ _))).mono ?_
          rintro e w1 ⟨rfl, rfl⟩
          rw [Glow.out]
          go_wp2_with fail
          refine (isLocation_spec _ b.high _ (H1.out.kept (Kept.alloc _ _))).mono ?_
          rintro e w1 ⟨rfl, rfl⟩
          rw [Ghigh.out]
          go_wp2_with fail
          refine (dominates_spec _ _ b.high b.low _ (H1.out.kept (Kept.alloc _ _)) (H0.out.kept (Kept.alloc _ _))).mono ?_
          rintro e w1 ⟨rfl, n, rfl⟩
          rw [Gdom.out]
          go_wp2_with fail
          go_ret
          exact ⟨ret_bool (by simp [okBx, Glen.out, Glow.out, Ghigh.out, Gdom.out]), below_drewN ((Below.refl _ _).alloc (Nat.le_refl _) _) n⟩
        · have Gdom := Lib.hid hdom
          clear hdom
          go_enter Try.func26, Try.ntmps26
          go_wp2_with fail
          refine (isLocation_spec _ b.low _ (H0.out.kept (Kept.alloc _ _))).mono ?_
          rintro e w1 ⟨rfl, rfl⟩
          rw [Glow.out]
          go_wp2_with fail
          refine (isLocation_spec _ b.high _ (H1.out.kept (Kept.alloc _ _))).mono ?_
          rintro e w1 ⟨rfl, rfl⟩
          rw [Ghigh.out]
          go_wp2_with fail
          refine (dominates_spec _ _ b.high b.low _ (H1.out.kept (Kept.alloc _ _)) (H0.out.kept (Kept.alloc _ _))).mono ?_
          rintro e w1 ⟨rfl, n, rfl⟩
          rw [Gdom.out]
          go_wp2_with fail
          go_ret
          exact ⟨ret_bool (by simp [okBx, Glen.out, Glow.out, Ghigh.out, Gdom.out]), below_drewN ((Below.refl _ _).alloc (Nat.le_refl _) _) n⟩

set_option maxHeartbeats 800000 in
theorem isValidBox_impl (c0 c1 : Value) (b : BoxD) (w : World) (h : BoxR w [c0, c1] b) :
    Calls Try.prog 27 #[.agg #[c0, c1]] w fun e w' => e = .returned (.bool (okBx b)) ∧ Below w.heap.size w w' := by
  obtain ⟨h0, h1⟩ := h.two
  obtain ⟨A, c, rfl, hc1, hc2⟩ := h0.form
  unfold maxLen at hc2
  have H0 := Lib.hid h0
  have H1 := Lib.hid h1
  clear h0 h1 h
  cases hlow : isLoc b.low
  · have Glow := Lib.hid hlow
    clear hlow
    go_enter Try.func27, Try.ntmps27
    go_wp2_with fail
    refine (isLocation_impl _ b.low _ (H0.out.kept (Kept.alloc _ _))).mono ?_
    rintro e w1 ⟨rfl, rfl⟩
    rw [Glow.out]
    go_wp2_with fail
    go_ret
    exact ⟨ret_bool (by simp [okBx, Glow.out]), (Below.refl _ _).alloc (Nat.le_refl _) _⟩
  · have Glow := Lib.hid hlow
    clear hlow
    cases hhigh : isLoc b.high
    · have Ghigh := Lib.hid hhigh
      clear hhigh
      go_enter Try.func27, Try.ntmps27
      go_wp2_with fail
      refine (isLocation_impl _ b.low _ (H0.out.kept (Kept.alloc _ _))).mono ?_
      rintro e w1 ⟨rfl, rfl⟩
      rw [Glow.out]
      go_wp2_with fail
      refine (isLocation_impl _ b.high _ (H1.out.kept (Kept.alloc _ _))).mono ?_
      rintro e w1 ⟨rfl, rfl⟩
      rw [Ghigh.out]
      go_wp2_with fail
      go_ret
      exact ⟨ret_bool (by simp [okBx, Glow.out, Ghigh.out]), (Below.refl _ _).alloc (Nat.le_refl _) _⟩
    · have Ghigh := Lib.hid hhigh
      clear hhigh
      cases hlen : decide (0 < b.low.length)
      · have Glen := Lib.hid hlen
        have hlen' : ¬ 0 < b.low.length := by simpa using hlen
        clear hlen
        go_enter Try.func27, Try.ntmps27
        go_wp2_with fail
        refine (isLocation_impl _ b.low _ (H0.out.kept (Kept.alloc _ _))).mono ?_
        rintro e w1 ⟨rfl, rfl⟩
        rw [Glow.out]
        go_wp2_with fail
        refine (isLocation_impl _ b.high _ (H1.out.kept (Kept.alloc _ _))).mono ?_
        rintro e w1 ⟨rfl, rfl⟩
        rw [Ghigh.out]
        go_wp2_with fail
        go_ret
        exact ⟨ret_bool (by simp [okBx, Glow.out, Ghigh.out, Glen.out]), (Below.refl _ _).alloc (Nat.le_refl _) _⟩
      · have Glen := Lib.hid hlen
        have hlen' : 0 < b.low.length := by simpa using hlen
        clear hlen
        cases hdom : dom b.high b.low
        · have Gdom := Lib.hid hdom
          clear hdom
          go_enter Try.func27, Try.ntmps27
          go_wp2_with fail
          refine (isLocation_impl _ b.low _ (H0.out.kept (Kept.alloc _ _))).mono ?_
          rintro e w1 ⟨rfl, rfl⟩
          rw [Glow.out]
          go_wp2_with fail
          refine (isLocation_impl _ b.high _ (H1.out.kept (Kept.alloc _ _))).mono ?_
          rintro e w1 ⟨rfl, rfl⟩
          rw [Ghigh.out]
          go_wp2_with fail
          refine (dominates_impl _ _ b.high b.low _ (H1.out.kept (Kept.alloc _ _)) (H0.out.kept (Kept.alloc _ _))).mono ?_
          rintro e w1 ⟨rfl, n, rfl⟩
          rw [Gdom.out]
          go_wp2_with fail
          go_ret
          exact ⟨ret_bool (by simp [okBx, Glow.out, Ghigh.out, Glen.out, Gdom.out]), below_drewN ((Below.refl _ _).alloc (Nat.le_refl _) _) n⟩
        · have Gdom := Lib.hid hdom
          clear hdom
          go_enter Try.func27, Try.ntmps27
          go_wp2_with fail
          refine (isLocation_impl _ b.low _ (H0.out.kept (Kept.alloc _ _))).mono ?_
          rintro e w1 ⟨rfl, rfl⟩
          rw [Glow.out]
          go_wp2_with fail
          refine (isLocation_impl _ b.high _ (H1.out.kept (Kept.alloc _ _))).mono ?_
          rintro e w1 ⟨rfl, rfl⟩
          rw [Ghigh.out]
          go_wp2_with fail
          refine (dominates_impl _ _ b.high b.low _ (H1.out.kept (Kept.alloc _ _)) (H0.out.kept (Kept.alloc _ _))).mono ?_
          rintro e w1 ⟨rfl, n, rfl⟩
          rw [Gdom.out]
          go_wp2_with fail
          go_ret
          exact ⟨ret_bool (by simp [okBx, Glow.out, Ghigh.out, Glen.out, Gdom.out]), below_drewN ((Below.refl _ _).alloc (Nat.le_refl _) _) n⟩

set_option maxHeartbeats 800000 in
theorem isInBox_spec (c0 c1 v : Value) (b : BoxD) (l : List Int) (w : World) (h : BoxR w [c0, c1] b) (hl : IntsR w v l) :
    Calls Try.prog 28 #[.agg #[c0, c1], v] w fun e w' => e = .returned (.bool (inBx b l)) ∧ Below w.heap.size w w' := by
  obtain ⟨h0, h1⟩ := h.two
  have H0 := Lib.hid h0
  have H1 := Lib.hid h1
  have H := Lib.hid h
  have HL := Lib.hid hl
  clear h0 h1 h hl
  have B0 := Lib.hid ((Below.refl w.heap.size w).alloc (Nat.le_refl _) (.cells #[c0, c1] 33))
  have P0 := Lib.hid (Blk.at_ (g := w.heap.size) w 33 #[c0, c1] rfl)
  go_enter Try.func28, Try.ntmps28
  go_wp2_with fail
  generalize w.alloc (.cells #[c0, c1] 33) = W at *
  refine (isValidBox_spec _ _ b _ (mono_box _ _ _ _ (Kept.below B0.out (Nat.le_refl _)) H.out)).mono ?_
  rintro e w1 ⟨rfl, b1⟩
  have B1 := Lib.hid (B0.out.trans (b1.mono B0.out.size))
  have P1 := Lib.hid (P0.out.on b1)
  clear B0 P0 b1 W
  have q0 := P1.out.get 0 c0 rfl
  have q1 := P1.out.get 1 c1 rfl
  cases hv : okBx b
  · have GV := Lib.hid hv
    clear hv
    go_wp2_with fail
    go_ret
    exact ⟨ret_bool (by simp [inBx, GV.out]), B1.out⟩
  · have GV := Lib.hid hv
    clear hv
    go_wp2_with fail
    refine (dominates_spec _ _ l b.low _ (HL.out.below B1.out (Nat.le_refl _)) (H0.out.below B1.out (Nat.le_refl _))).mono ?_
    rintro e w2 ⟨rfl, n, rfl⟩
    cases hd : dom l b.low
    · have GD := Lib.hid hd
      clear hd
      go_wp2_with fail
      go_ret
      exact ⟨ret_bool (by simp [inBx, GV.out, GD.out]), below_drewN B1.out n⟩
    · have GD := Lib.hid hd
      clear hd
      go_wp2_with fail
      refine (dominates_spec _ _ b.high l _ (H1.out.below (below_drewN B1.out n) (Nat.le_refl _)) (HL.out.below (below_drewN B1.out n) (Nat.le_refl _))).mono ?_
      rintro e w3 ⟨rfl, m, rfl⟩
      cases he : dom b.high l
      all_goals
        have GE := Lib.hid he
        clear he
        go_wp2_with fail
        go_ret
        exact ⟨ret_bool (by simp [inBx, GV.out, GD.out, GE.out]), below_drewN B1.out (n + m)⟩

set_option maxHeartbeats 800000 in
theorem isInBox_impl (c0 c1 v : Value) (b : BoxD) (l : List Int) (w : World) (h : BoxR w [c0, c1] b) (hl : IntsR w v l) :
    Calls Try.prog 29 #[.agg #[c0, c1], v] w fun e w' => e = .returned (.bool (inBx b l)) ∧ Below w.heap.size w w' := by
  obtain ⟨h0, h1⟩ := h.two
  have H0 := Lib.hid h0
  have H1 := Lib.hid h1
  have H := Lib.hid h
  have HL := Lib.hid hl
  clear h0 h1 h hl
  have B0 := Lib.hid ((Below.refl w.heap.size w).alloc (Nat.le_refl _) (.cells #[c0, c1] 33))
  have P0 := Lib.hid (Blk.at_ (g := w.heap.size) w 33 #[c0, c1] rfl)
  go_enter Try.func29, Try.ntmps29
  go_wp2_with fail
  generalize w.alloc (.cells #[c0, c1] 33) = W at *
  refine (isValidBox_impl _ _ b _ (mono_box _ _ _ _ (Kept.below B0.out (Nat.le_refl _)) H.out)).mono ?_
  rintro e w1 ⟨rfl, b1⟩
  have B1 := Lib.hid (B0.out.trans (b1.mono B0.out.size))
  have P1 := Lib.hid (P0.out.on b1)
  clear B0 P0 b1 W
  have q0 := P1.out.get 0 c0 rfl
  have q1 := P1.out.get 1 c1 rfl
  cases hv : okBx b
  · have GV := Lib.hid hv
    clear hv
    go_wp2_with fail
    go_ret
    exact ⟨ret_bool (by simp [inBx, GV.out]), B1.out⟩
  · have GV := Lib.hid hv
    clear hv
    go_wp2_with fail
    refine (dominates_impl _ _ l b.low _ (HL.out.below B1.out (Nat.le_refl _)) (H0.out.below B1.out (Nat.le_refl _))).mono ?_
    rintro e w2 ⟨rfl, n, rfl⟩
    cases hd : dom l b.low
    · have GD := Lib.hid hd
      clear hd
      go_wp2_with fail
      go_ret
      exact ⟨ret_bool (by simp [inBx, GV.out, GD.out]), below_drewN B1.out n⟩
    · have GD := Lib.hid hd
      clear hd
      go_wp2_with fail
      refine (dominates_impl _ _ b.high l _ (H1.out.below (below_drewN B1.out n) (Nat.le_refl _)) (HL.out.below (below_drewN B1.out n) (Nat.le_refl _))).mono ?_
      rintro e w3 ⟨rfl, m, rfl⟩
      cases he : dom b.high l
      all_goals
        have GE := Lib.hid he
        clear he
        go_wp2_with fail
        go_ret
        exact ⟨ret_bool (by simp [inBx, GV.out, GD.out, GE.out]), below_drewN B1.out (n + m)⟩
end Go.Proofs.Ytacegpmgicebfaa
