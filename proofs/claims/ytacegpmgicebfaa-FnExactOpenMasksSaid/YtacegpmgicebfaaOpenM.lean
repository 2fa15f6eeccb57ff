/-
  Contracts of OpenMasks, program and reference.
-/
import Derived.Test.YtacegpmgicebfaaBox2
namespace Go.Proofs.Ytacegpmgicebfaa
open Go.ChangeShapes Go.WideShapes Go.ChangeAt Go.RowKit

/-- The open sides among the first k. -/
def openK (b : BoxD) : Nat → List Int
  | 0 => []
  | k + 1 => if (b.low.getD k 0) < (b.high.getD k 0) then openK b k ++ [(k : Int)] else openK b k
def openM (b : BoxD) : List Int := if okBx b = true then openK b b.low.length else []
theorem openK_len (b : BoxD) : ∀ k, (openK b k).length ≤ k
  | 0 => Nat.le_refl _
  | k + 1 => by have := openK_len b k; unfold openK; split <;> simp <;> omega
theorem openK_mem (b : BoxD) : ∀ k, ∀ x ∈ openK b k, 0 ≤ x ∧ x < k
  | 0, x, h => by simp [openK] at h
  | k + 1, x, h => by
    have ih := openK_mem b k
    unfold openK at h
    split at h
    · rcases List.mem_append.1 h with h | h
      · have := ih x h; omega
      · simp at h; omega
    · have := ih x h; omega
theorem openK_yes {b : BoxD} {k : Nat} {l h : Int} (hl : Hid (b.low[k]? = some l)) (hh : Hid (b.high[k]? = some h)) (hlt : l < h) : openK b (k + 1) = openK b k ++ [(k : Int)] := by
  have e1 := hl.out; have e2 := hh.out
  rw [openK, if_pos (by simp [List.getD, e1, e2, hlt])]
theorem openK_no {b : BoxD} {k : Nat} {l h : Int} (hl : Hid (b.low[k]? = some l)) (hh : Hid (b.high[k]? = some h)) (hlt : ¬ l < h) : openK b (k + 1) = openK b k := by
  have e1 := hl.out; have e2 := hh.out
  rw [openK, if_neg (by simp [List.getD, e1, e2]; omega)]
theorem okLen {b : BoxD} (h : okBx b = true) : b.high.length = b.low.length ∧ b.low.length ≤ 16 := by
  simp only [okBx, isLoc, dom, Bool.and_eq_true, decide_eq_true_eq] at h
  obtain ⟨⟨⟨⟨h1, h2⟩, h3, h4⟩, h5⟩, h6, h7⟩ := h
  exact ⟨h6, h2⟩
theorem made_at {w : World} {n : Nat} (h : w.heap.size = n) : OwnI (w.alloc (.cells #[] 3)) w.heap.size (.slice (some ⟨n, 0, none⟩) 0 0) [] := by
  have := World.ownsRow_made (base := w.heap.size) (e := 3) (size := 1) w #[] 0 (Nat.le_refl _) (Nat.zero_le _) rfl
  rw [show (⟨w.heap.size, 0, none⟩ : Addr) = ⟨n, 0, none⟩ by rw [h]] at this
  exact this
theorem new_of_own {w w' : World} {v : Value} {l : List Int} (ho : OwnI w' w.heap.size v l) (hf : ∀ x ∈ l, Fits x) (hb : Below w.heap.size w w') : NewS IntsO w l (.returned v) w' := NewInts.new ⟨v, rfl, ho, hb⟩ hf

theorem append_one {w wr w1 : World} {B : Nat} {o : Obj} {v v' : Value} {l : List Int} {x : Int} (hB : B ≤ wr.heap.size) (hown : OwnI wr B v l) (hb : Below B w wr)
    (hown' : w1.ownsRow B 3 1 v' (l.length + 1) (vals l ++ [.int .i64 x])) (hgrow : (wr.alloc o).grownBy w1 v.ownBlock) : OwnI w1 B v' (l ++ [x]) ∧ Below B w w1 ∧ wr.heap.size ≤ w1.heap.size :=
  ⟨by simpa [OwnI, vals] using hown', (hb.alloc hB o).grown hgrow (by simp; omega) (fun j hj => (hown.lt j hj).1), by have := hgrow.size; simp at this; omega⟩

set_option maxHeartbeats 1600000 in
theorem openMasks_impl (c0 c1 : Value) (b : BoxD) (w : World) (h : BoxR w [c0, c1] b) :
    Calls Try.prog 51 #[.agg #[c0, c1]] w (NewS IntsO w (openM b)) := by
  obtain ⟨i0, hi, hz0, hz1, hz2⟩ := info_parts info_int
  obtain ⟨h0, h1⟩ := h.two
  obtain ⟨A0, k0, rfl, hn0, hm0⟩ := h0.form
  obtain ⟨A1, k1, rfl, hn1, hm1⟩ := h1.form
  have H0 := Lib.hid h0
  have H1 := Lib.hid h1
  have H := Lib.hid h
  clear h0 h1 h
  have B0 := Lib.hid ((Below.refl w.heap.size w).alloc (Nat.le_refl _) (.cells #[.slice A0 b.low.length k0, .slice A1 b.high.length k1] 33))
  have P0 := Lib.hid (Blk.at_ (g := w.heap.size) w 33 #[.slice A0 b.low.length k0, .slice A1 b.high.length k1] rfl)
  go_enter Try.func51, Try.ntmps51
  go_wp2_with fail
  generalize w.alloc (.cells #[.slice A0 b.low.length k0, .slice A1 b.high.length k1] 33) = W at *
  refine (isValidBox_impl _ _ b _ (mono_box _ _ _ _ (Kept.below B0.out (Nat.le_refl _)) H.out)).mono ?_
  rintro e w1 ⟨rfl, b1⟩
  have B1 := Lib.hid (B0.out.trans (b1.mono B0.out.size))
  have P1 := Lib.hid (P0.out.on b1)
  clear B0 P0 b1 W
  cases hv : okBx b
  · have GV := Lib.hid hv
    clear hv
    go_wp2_with fail
    go_ret
    have e : openM b = [] := by rw [openM, GV.out]; rfl
    rw [e]
    exact new_of_own (v := .slice none 0 0) (World.ownsRow_nil _ _ _ _) (by simp) B1.out
  · have GV := Lib.hid hv
    clear hv
    have ok := okLen GV.out
    have HL := Lib.hid ok.1
    have hshort := ok.2
    clear ok
    have q0 := P1.out.get 0 (.slice A0 b.low.length k0) rfl
    have q1 := P1.out.get 1 (.slice A1 b.high.length k1) rfl
    have ql := P1.out.lt
    go_wp2_with fail
    go_loopw [3, 12] (fun v i wr => ∃ k : Nat, k ≤ b.low.length ∧ i = .int .i64 k ∧ OwnI wr w1.heap.size v (openK b k) ∧ Below w1.heap.size w1 wr) (fun _ i _ => b.low.length - (intOf i).toNat)
    case atStart => exact ⟨0, Nat.zero_le _, rfl, World.ownsRow_made w1 #[] 0 (Nat.le_refl _) (Nat.zero_le _) rfl, (Below.refl _ _).alloc (Nat.le_refl _) _⟩
    case round =>
      clear q0 q1 ql
      obtain ⟨k, hk, rfl, hown, hb⟩ := hrel
      by_cases hlt : k < b.low.length
      · obtain ⟨g, off, x, rfl, hx, hf, hbs, hcell⟩ := (H0.out.below (B1.out.trans (hb.mono B1.out.size)) (Nat.le_refl _)).at_ (k := k) hlt
        obtain ⟨g', off', x', rfl, hx', hf', hbs', hcell'⟩ := (H1.out.below (B1.out.trans (hb.mono B1.out.size)) (Nat.le_refl _)).at_ (k := k) (by have := HL.out; omega)
        have P2 := P1.out.on hb
        have q0 := P2.get 0 (.slice (some ⟨g, off, none⟩) b.low.length k0) rfl
        have q1 := P2.get 1 (.slice (some ⟨g', off', none⟩) b.high.length k1) rfl
        have il0 : (k : Int) < (b.low.length : Int) := by omega
        have il1 : (k : Int) < (b.high.length : Int) := by have := HL.out; omega
        have ik : (0 : Int) ≤ (k : Int) := by omega
        have HO := Lib.hid hown
        have HB := Lib.hid hb
        clear hown hb P2
        by_cases hxx : x < x'
        · have HK := Lib.hid (openK_yes hx hx' hxx)
          go_wp2
          go_quiet (fail)
          have HO' : Hid (OwnI (wr.drewN nq) w1.heap.size u3 (openK b k)) := HO.out
          have HB' : Hid (Below w1.heap.size w1 (wr.drewN nq)) := below_drewN HB.out nq
          have hsz : w1.heap.size ≤ (wr.drewN nq).heap.size := HB'.out.size
          clear HO HB hcell hcell' q0 q1 hbs hbs'
          generalize wr.drewN nq = wq at *
          have hol := openK_len b k
          go_wp2_with (at_builtin; refine wpList_append_own _ rfl _ _ 24 rfl w1.heap.size 3 i0 (.int .i64 0) 1 8 Try.underlying24 hi hz0 hz1 hz2 rfl (by decide) _ _ _ rfl (HO'.out.alloc _) ⟨wq.heap.size, 0, none⟩ 1 1 [.int .i64 k] rfl rfl ?c1 ?c2 ?c3 ?c4 ?c5 ?_)
          case c1 => exact cell_one_new _ _ _
          case c2 => simp [Value.oneCell']
          case c3 => unfold maxLen; omega
          case c4 => omega
          case c5 => simp; omega
          intro v' w2 hown2 hgrow2 _
          have HA := Lib.hid (append_one hsz HO'.out HB'.out hown2 hgrow2)
          clear hown2 hgrow2
          go_wp2
          exact ⟨⟨k + 1, by omega, by go_num, by rw [HK.out]; exact HA.out.1, HA.out.2.1⟩, by simp [intOf]; omega⟩
        · have HK := Lib.hid (openK_no hx hx' hxx)
          have hd : decide (x < x') = false := by simpa using hxx
          go_wp2
          go_quiet (fail)
          go_wp2
          exact ⟨⟨k + 1, by omega, by go_num, by rw [HK.out]; exact HO.out, below_drewN HB.out nq⟩, by simp [intOf]; omega⟩
      · have q0 := (P1.out.on hb).get 0 (.slice A0 b.low.length k0) rfl
        have HO := Lib.hid hown
        have HB := Lib.hid hb
        clear hown hb
        go_wp2
        go_ret
        have e : openM b = openK b b.low.length := by rw [openM, GV.out]; rfl
        rw [e]
        obtain rfl : k = b.low.length := by omega
        exact new_of_own (owns_base HO.out (fun g hg => by have := (owns_lt HO.out g hg).1; have := B1.out.size; omega)) (fun x hx => by have := openK_mem b _ x hx; unfold Fits; omega) (B1.out.trans (HB.out.mono B1.out.size))

set_option maxHeartbeats 1600000 in
theorem openMasks_spec (c0 c1 : Value) (b : BoxD) (w : World) (h : BoxR w [c0, c1] b) :
    Calls Try.prog 50 #[.agg #[c0, c1]] w (NewS IntsO w (openM b)) := by
  obtain ⟨i0, hi, hz0, hz1, hz2⟩ := info_parts info_int
  obtain ⟨h0, h1⟩ := h.two
  obtain ⟨A0, k0, rfl, hn0, hm0⟩ := h0.form
  obtain ⟨A1, k1, rfl, hn1, hm1⟩ := h1.form
  unfold maxLen at hm0
  have H0 := Lib.hid h0
  have H1 := Lib.hid h1
  have H := Lib.hid h
  clear h0 h1 h
  have B1 := Lib.hid ((Below.refl w.heap.size w).alloc (Nat.le_refl _) (.cells #[.slice A0 b.low.length k0, .slice A1 b.high.length k1] 33))
  have P1 := Lib.hid (Blk.at_ (g := w.heap.size) w 33 #[.slice A0 b.low.length k0, .slice A1 b.high.length k1] rfl)
  have HZ : Hid ((w.alloc (.cells #[.slice A0 b.low.length k0, .slice A1 b.high.length k1] 33)).heap.size = w.heap.size + 1) := by show _ = _; simp
  cases hv : okBx b
  · have GV := Lib.hid hv
    clear hv
    go_enter Try.func50, Try.ntmps50
    go_wp2_with fail
    generalize w.alloc (.cells #[.slice A0 b.low.length k0, .slice A1 b.high.length k1] 33) = w1 at *
    go_loopw [3, 4] (fun v i wr => i = .int .i64 0 ∧ OwnI wr w1.heap.size v [] ∧ Below w1.heap.size w1 wr) (fun _ i _ => 0)
    case atStart => exact ⟨rfl, made_at HZ.out, (Below.refl _ _).alloc (Nat.le_refl _) _⟩
    case round =>
      obtain ⟨rfl, hown, hb⟩ := hrel
      have P2 := P1.out.on hb
      have q0 := P2.get 0 (.slice A0 b.low.length k0) rfl
      have q1 := P2.get 1 (.slice A1 b.high.length k1) rfl
      have HO := Lib.hid hown
      have HB := Lib.hid hb
      clear hown hb P2
      have e : Hid (openM b = []) := by show _ = _; rw [openM, GV.out]; rfl
      by_cases hlt : 0 < b.low.length
      · go_wp2_with fail
        refine (isValidBox_spec _ _ b _ (mono_box _ _ _ _ (Kept.below (B1.out.trans (HB.out.mono B1.out.size)) (Nat.le_refl _)) H.out)).mono ?_
        rintro e w3 ⟨rfl, b3⟩
        rw [GV.out]
        have HB3 := Lib.hid (HB.out.trans (b3.mono HB.out.size))
        have HO3 := Lib.hid (owns_keptOn HO.out (KeptOn.below b3 (fun g hg => (owns_lt HO.out g hg).2)))
        clear b3 HB HO q0 q1
        go_wp2_with fail
        go_ret
        rw [e.out]
        exact new_of_own (owns_base HO3.out (fun g hg => by have := (owns_lt HO3.out g hg).1; have := B1.out.size; omega)) (by simp) (B1.out.trans (HB3.out.mono B1.out.size))
      · go_wp2_with fail
        go_ret
        rw [e.out]
        exact new_of_own (owns_base HO.out (fun g hg => by have := (owns_lt HO.out g hg).1; have := B1.out.size; omega)) (by simp) (B1.out.trans (HB.out.mono B1.out.size))
  · have GV := Lib.hid hv
    clear hv
    have ok := okLen GV.out
    have HL := Lib.hid ok.1
    have hshort := ok.2
    clear ok
    go_enter Try.func50, Try.ntmps50
    go_wp2_with fail
    generalize w.alloc (.cells #[.slice A0 b.low.length k0, .slice A1 b.high.length k1] 33) = w1 at *
    go_loopw [3, 4] (fun v i wr => ∃ k : Nat, k ≤ b.low.length ∧ i = .int .i64 k ∧ OwnI wr w1.heap.size v (openK b k) ∧ Below w1.heap.size w1 wr) (fun _ i _ => b.low.length - (intOf i).toNat)
    case atStart => exact ⟨0, Nat.zero_le _, rfl, made_at HZ.out, (Below.refl _ _).alloc (Nat.le_refl _) _⟩
    case round =>
      obtain ⟨k, hk, rfl, hown, hb⟩ := hrel
      by_cases hlt : k < b.low.length
      · have P2 := P1.out.on hb
        have q0 := P2.get 0 (.slice A0 b.low.length k0) rfl
        have q1 := P2.get 1 (.slice A1 b.high.length k1) rfl
        have HO := Lib.hid hown
        have HB := Lib.hid hb
        clear hown hb P2
        go_wp2_with fail
        refine (isValidBox_spec _ _ b _ (mono_box _ _ _ _ (Kept.below (B1.out.trans (HB.out.mono B1.out.size)) (Nat.le_refl _)) H.out)).mono ?_
        rintro e w3 ⟨rfl, b3⟩
        rw [GV.out]
        have HB3 := Lib.hid (HB.out.trans (b3.mono HB.out.size))
        have HO3 := Lib.hid (owns_keptOn HO.out (KeptOn.below b3 (fun g hg => (owns_lt HO.out g hg).2)))
        clear b3 HB HO q0 q1
        obtain ⟨g, off, x, rfl, hx, hf, hbs, hcell⟩ := (H0.out.below (B1.out.trans (HB3.out.mono B1.out.size)) (Nat.le_refl _)).at_ (k := k) hlt
        obtain ⟨g', off', x', rfl, hx', hf', hbs', hcell'⟩ := (H1.out.below (B1.out.trans (HB3.out.mono B1.out.size)) (Nat.le_refl _)).at_ (k := k) (by have := HL.out; omega)
        have P3 := P1.out.on HB3.out
        have q0 := P3.get 0 (.slice (some ⟨g, off, none⟩) b.low.length k0) rfl
        have q1 := P3.get 1 (.slice (some ⟨g', off', none⟩) b.high.length k1) rfl
        have il0 : (k : Int) < (b.low.length : Int) := by omega
        have il1 : (k : Int) < (b.high.length : Int) := by have := HL.out; omega
        have ik : (0 : Int) ≤ (k : Int) := by omega
        clear P3
        by_cases hxx : x < x'
        · have HK := Lib.hid (openK_yes hx hx' hxx)
          go_wp2_with fail
          go_quiet (fail)
          have HO' : Hid (OwnI (w3.drewN nq) w1.heap.size u3 (openK b k)) := HO3.out
          have HB' : Hid (Below w1.heap.size w1 (w3.drewN nq)) := below_drewN HB3.out nq
          have hsz : w1.heap.size ≤ (w3.drewN nq).heap.size := HB'.out.size
          clear HO3 HB3 hcell hcell' q0 q1 hbs hbs'
          generalize w3.drewN nq = wq at *
          have hol := openK_len b k
          go_wp2_with (at_builtin; refine wpList_append_own _ rfl _ _ 24 rfl w1.heap.size 3 i0 (.int .i64 0) 1 8 Try.underlying24 hi hz0 hz1 hz2 rfl (by decide) _ _ _ rfl (HO'.out.alloc _) ⟨wq.heap.size, 0, none⟩ 1 1 [.int .i64 k] rfl rfl ?c1 ?c2 ?c3 ?c4 ?c5 ?_)
          case c1 => exact cell_one_new _ _ _
          case c2 => simp [Value.oneCell']
          case c3 => unfold maxLen; omega
          case c4 => omega
          case c5 => simp; omega
          intro v' w2 hown2 hgrow2 _
          have HA := Lib.hid (append_one hsz HO'.out HB'.out hown2 hgrow2)
          clear hown2 hgrow2
          go_wp2
          exact ⟨⟨k + 1, by omega, by go_num, by rw [HK.out]; exact HA.out.1, HA.out.2.1⟩, by simp [intOf]; omega⟩
        · have HK := Lib.hid (openK_no hx hx' hxx)
          have hd : decide (x < x') = false := by simpa using hxx
          go_wp2_with fail
          go_quiet (fail)
          go_wp2
          exact ⟨⟨k + 1, by omega, by go_num, by rw [HK.out]; exact HO3.out, below_drewN HB3.out nq⟩, by simp [intOf]; omega⟩
      · have q0 := (P1.out.on hb).get 0 (.slice A0 b.low.length k0) rfl
        have HO := Lib.hid hown
        have HB := Lib.hid hb
        clear hown hb
        go_wp2_with fail
        go_ret
        have e : openM b = openK b b.low.length := by rw [openM, GV.out]; rfl
        rw [e]
        obtain rfl : k = b.low.length := by omega
        exact new_of_own (owns_base HO.out (fun g hg => by have := (owns_lt HO.out g hg).1; have := B1.out.size; omega)) (fun x hx => by have := openK_mem b _ x hx; unfold Fits; omega) (B1.out.trans (HB.out.mono B1.out.size))
theorem openM_len (b : BoxD) : (openM b).length ≤ 16 := by
  unfold openM
  split
  · rename_i h
    exact Nat.le_trans (openK_len b _) (okLen h).2
  · simp
end Go.Proofs.Ytacegpmgicebfaa
