/-
  Merged: IntRowsTo IntRowsEq IntRowsSz IntRowsMark
-/
import Derived.Test.YtcgjlddpbkponaaBase
namespace Go.Proofs.Ytcgjlddpbkponaa
open Go.ChangeShapes Go.WideShapes Go.ChangeAt Go.RowKit
set_option linter.unusedVariables false
set_option linter.unusedSimpArgs false

/- Slices of slices of ints: copying. -/
theorem info_IntSS : (Try.prog.info? 22).map (fun i => (i.zero, i.size, i.bytes)) = some (some (.slice none 0 0), 1, 24) := by kernel_rfl
set_option maxRecDepth 100000 in
theorem open_IntSS {H : Type} {enc : TypeId × Value → H} {w : World} {base : Nat} {spare : Nat → Bool} {held : Bool} {fuel : Nat} {cs : List Value} {x : DataW H × List MemPlace} (h : DataW.trod enc Try.prog w base spare held fuel 23 cs = some x) : ∃ l, SliceR 1 (SliceR 1 IntR) w cs l :=
  trod_slice Try.underlying23 (by kernel_rfl) (by omega) (fun _ _ _ h => open_ints h) h
set_option maxRecDepth 100000 in
set_option maxHeartbeats 1600000 in
theorem toIntSS_new (v : Value) (x : List (List Int)) (w : World) (h : SliceR 1 (SliceR 1 IntR) w [v] x) (hc : cntL List.length x ≤ 1048576) : Calls Try.prog 61 #[v] w (NewS (SliceO 22 1 IntsO) w x) := by
  obtain ⟨i0, hi, hz0, hz1, hz2⟩ := info_parts info_IntSS
  obtain ⟨A, c, hv, hc1, hc2⟩ := slice_form h
  subst hv
  have H := Lib.hid h
  clear h
  have hlen : x.length ≤ 1048576 := Nat.le_trans (cntL_len _ _) hc
  have HC := Lib.hid hc
  clear hc
  go_enter Try.func61, Try.ntmps61
  go_wp2_with (at_make; refine wpList_make_full _ rfl _ _ 23 rfl w.heap.size 22 i0 (.slice none 0 0) 1 Try.underlying23 hi hz0 hz1 .i64 .i64 _ _ x.length rfl rfl rfl rfl ?c1 ?c2 ?c3 ?_)
  case c1 => rw [hz2]; omega
  case c2 => unfold maxLen; omega
  case c3 => exact Nat.le_refl _
  intro w1 hown hg
  have hb1 := Lib.hid ((Below.refl w.heap.size w).grown hg (Nat.le_refl _) (by simp))
  have hp1 := Lib.hid (Pre.start (O := IntsO) hown)
  clear hg hown
  go_wp2_with fail
  go_loopw [4] (fun i wr => ∃ k : Nat, k ≤ x.length ∧ i = .int .i64 k ∧ Pre (IntsO) 22 1 w.heap.size wr w.heap.size x.length (x.take k) ∧ Below w.heap.size w wr) (fun i _ => x.length - (intOf i).toNat)
  case atStart => exact ⟨0, Nat.zero_le _, rfl, hp1.out, hb1.out⟩
  case round =>
    clear hb1 hp1 w1
    obtain ⟨k, hk, rfl, hp, hb⟩ := hrel
    have HP := Lib.hid hp
    have HB := Lib.hid hb
    clear hp hb
    have HT : Hid ((x.take k).length = k) := by show _ = _; simp; omega
    by_cases hlt : k < x.length
    · skip
      obtain ⟨b, off, cs, y, rfl, hy, hl, hc, hr⟩ := SliceR.at_ ((mono_slice (mono_slice mono_int)) _ _ _ _ (Kept.below HB.out (Nat.le_refl _)) H.out) hlt
      obtain ⟨sa, sk, zz, nn, mm⟩ := slice_form' hr
      subst zz
      have qc_0 := hc 0 (.slice sa y.length sk) rfl
      simp only [Nat.add_zero, Nat.mul_one] at qc_0
      have HR := Lib.hid hr
      clear hr hc hl
      go_wp2_with fail
      refine (toIntS_new _ y _ HR.out (Nat.le_trans (cntL_mem _ hy.out) HC.out)).mono ?_
      rintro e w2 ⟨F, av, kv, rfl, oo, nd, lo, bb⟩
      have HS := Lib.hid (HP.out.step mono_intsO inside_intsO (by rw [HT.out]; exact hlt) bb oo nd lo rfl)
      have PG := HP.out.grow mono_intsO bb
      obtain ⟨⟨u0, g0⟩, f0⟩ := PG.cell (by rw [HT.out]; exact hlt) 0 (by omega)
      rw [HT.out] at g0 f0
      simp only [Nat.add_zero, Nat.mul_one] at g0 f0
      have HS2 : Hid (Pre (IntsO) 22 1 w.heap.size (setCells w2 w.heap.size (k * 1) [.slice av y.length kv]) w.heap.size x.length (x.take (k + 1))) := by have := HS.out; rw [HT.out, ← take_snoc hy.out] at this; exact this
      have HB2 := Lib.hid (setCells_below (g := w.heap.size) (o := k * 1) [.slice av y.length kv] (HB.out.trans (bb.mono HB.out.size)) (Nat.le_refl _))
      clear HS PG oo nd lo bb HP HB qc_0
      rw [Nat.mul_one] at HS2 HB2
      go_wp2_with fail
      exact ⟨⟨k + 1, by omega, by go_num, HS2.out, HB2.out⟩, by simp [intOf]; omega⟩
    · have HE : Hid (x.take k = x) := by show _ = _; exact List.take_of_length_le (by omega)
      go_wp2_with fail
      go_ret
      have := HP.out
      rw [HE.out] at this
      exact this.done rfl HB.out (Nat.le_refl _)

/- Slices of slices of ints: comparing. -/
set_option maxRecDepth 100000 in
set_option maxHeartbeats 1600000 in
theorem eqIntSS_self (v v' : Value) (x : List (List Int)) (w : World) (h : SliceR 1 (SliceR 1 IntR) w [v] x) (g : SliceR 1 (SliceR 1 IntR) w [v'] x) : Calls Try.prog 64 #[v, v'] w fun e w' => e = .returned (.bool true) ∧ Below w.heap.size w w' := by
  obtain ⟨A, c, hv, hc1, hc2⟩ := slice_form h
  subst hv
  obtain ⟨A', c', hv, hc1', hc2'⟩ := slice_form g
  subst hv
  unfold maxLen at hc2
  have H := Lib.hid h
  have G := Lib.hid g
  clear h g
  go_enter Try.func64, Try.ntmps64
  go_wp2_with fail
  go_loopw [5] (fun i wr => ∃ k : Nat, k ≤ x.length ∧ i = .int .i64 k ∧ Below w.heap.size w wr) (fun i _ => x.length - (intOf i).toNat)
  case atStart => exact ⟨0, Nat.zero_le _, rfl, Below.refl _ _⟩
  case round =>
    obtain ⟨k, hk, rfl, hb⟩ := hrel
    have HB := Lib.hid hb
    clear hb
    by_cases hlt : k < x.length
    · skip
      obtain ⟨b, off, cs, y, rfl, hy, hl, hc, hr⟩ := SliceR.at_ ((mono_slice (mono_slice mono_int)) _ _ _ _ (Kept.below HB.out (Nat.le_refl _)) H.out) hlt
      obtain ⟨sa, sk, zz, nn, mm⟩ := slice_form' hr
      subst zz
      have qc_0 := hc 0 (.slice sa y.length sk) rfl
      simp only [Nat.add_zero, Nat.mul_one] at qc_0
      have HR := Lib.hid hr
      clear hr hc hl
      obtain ⟨b', off', cs', y', rfl, hy', hl', hc', hr'⟩ := SliceR.at_ ((mono_slice (mono_slice mono_int)) _ _ _ _ (Kept.below HB.out (Nat.le_refl _)) G.out) hlt
      obtain ⟨sa', sk', zz', nn', mm'⟩ := slice_form' hr'
      subst zz'
      have qc'_0 := hc' 0 (.slice sa' y'.length sk') rfl
      simp only [Nat.add_zero, Nat.mul_one] at qc'_0
      have HR' := Lib.hid hr'
      clear hr' hc' hl'
      have HY : y = y' := by have := hy.out.symm.trans hy'.out; simp at this; exact this
      subst HY
      clear hy'
      have ik : (0 : Int) ≤ (k : Int) := by omega
      have il : (k : Int) < (x.length : Int) := by omega
      go_wp2_with fail
      go_region_held3 (fun w' => w'.cell? ⟨b, off + k, none⟩ = some (.slice sa y.length sk) ∧ w'.cell? ⟨b', off' + k, none⟩ = some (.slice sa' y.length sk'))
        (first | exact ⟨qc_0, qc'_0⟩ | exact ⟨keep_drew qc_0 bb, keep_drew qc'_0 bb⟩)
        (first | (go_at_call 63; refine (eqIntS_self _ _ y _ ((mono_slice mono_int) _ _ _ _ (Kept.drew _) HR.out) ((mono_slice mono_int) _ _ _ _ (Kept.drew _) HR'.out)).mono ?_; rintro e w2 ⟨rfl, bb⟩))
      have HB2 := Lib.hid (HB.out.drew.trans (bb.mono HB.out.drew.size))
      clear HB bb qc_0 qc'_0
      go_wp2_with fail
      exact ⟨⟨k + 1, by omega, by go_num, HB2.out⟩, by simp [intOf]; omega⟩
    · go_wp2_with fail
      go_ret
      exact ⟨rfl, HB.out⟩

/- Slices of slices of ints: sizes. -/
theorem szIntS_cnt (v : Value) (x : List Int) (m : Int) (w : World) (h : SliceR 1 IntR w [v] x) (hm : 0 ≤ m) (hm' : m ≤ 1048576) :
    Calls Try.prog 57 #[v, .int .i64 m] w fun e w' => e = .returned (.int .i64 (szStep x.length m)) ∧ Below w.heap.size w w' :=
  (szIntS_any v x m w h hm hm' (by obtain ⟨_, _, _, h1, h2⟩ := slice_form h; unfold maxLen at h2; omega)).mono fun _ _ ⟨he, hw⟩ => ⟨he, hw ▸ Below.refl _ _⟩
set_option maxRecDepth 100000 in
set_option maxHeartbeats 1600000 in
theorem szIntSS_any (v : Value) (x : List (List Int)) (m : Int) (w : World) (h : SliceR 1 (SliceR 1 IntR) w [v] x) (hm : 0 ≤ m) (hm' : m ≤ 1048576) :
    Calls Try.prog 58 #[v, .int .i64 m] w fun e w' => e = .returned (.int .i64 (szStep (cntL List.length x) m)) ∧ Below w.heap.size w w' := by
  obtain ⟨A, c, hv, hc1, hc2⟩ := slice_form h
  subst hv
  unfold maxLen at hc2
  have H := Lib.hid h
  clear h
  have hle := cntL_len List.length x
  have HC : Hid (cntL List.length x = x.length + sumL List.length x) := rfl
  rcases Int.lt_or_le m x.length with hlt | hlt
  · go_enter Try.func58, Try.ntmps58
    go_wp2_with fail
    go_ret
    exact ⟨ret_int (szStep_no (by omega)).symm, Below.refl _ _⟩
  generalize cntL List.length x = N at *
  go_enter Try.func58, Try.ntmps58
  go_wp2_with fail
  go_loopw [1, 5] (fun t i wr => ∃ k : Nat, k ≤ x.length ∧ i = .int .i64 k ∧ t = .int .i64 (m - x.length - (sumL List.length (x.take k) : Nat)) ∧ 0 ≤ m - x.length - (sumL List.length (x.take k) : Nat) ∧ Below w.heap.size w wr) (fun _ i _ => x.length - (intOf i).toNat)
  case atStart => exact ⟨0, Nat.zero_le _, rfl, by simp [sumL], by simp [sumL]; omega, Below.refl _ _⟩
  case round =>
    obtain ⟨k, hk, rfl, rfl, hpos, hb⟩ := hrel
    have HB := Lib.hid hb
    clear hb
    have hsl := sumL_le List.length x k
    by_cases hlt2 : k < x.length
    · skip
      obtain ⟨b, off, cs, y, rfl, hy, hl, hc, hr⟩ := SliceR.at_ ((mono_slice (mono_slice mono_int)) _ _ _ _ (Kept.below HB.out (Nat.le_refl _)) H.out) hlt2
      obtain ⟨sa, sk, zz, nn, mm⟩ := slice_form' hr
      subst zz
      have qc_0 := hc 0 (.slice sa y.length sk) rfl
      simp only [Nat.add_zero, Nat.mul_one] at qc_0
      have HR := Lib.hid hr
      clear hr hc hl
      have HS := Lib.hid (sumL_snoc List.length hy.out)
      have hsl2 := sumL_le List.length x (k + 1)
      have HL : Hid (sumL List.length (x.take (k + 1)) ≤ sumL List.length x) := hsl2
      clear hsl2
      generalize sumL List.length (x.take k) = s at *
      go_wp2_with fail
      refine (szIntS_cnt _ y (m - x.length - (s : Nat)) _ HR.out (by omega) (by omega)).mono ?_
      rintro e w2 ⟨rfl, bb⟩
      have HB2 := Lib.hid (HB.out.trans (bb.mono HB.out.size))
      clear HB bb qc_0
      rcases Int.lt_or_le (m - x.length - (s : Nat)) (List.length y : Nat) with hs | hs
      · rw [szStep_no (by omega)]
        go_wp2_with fail
        go_ret
        exact ⟨ret_int (szStep_no (by have := HC.out; have := HS.out; have := HL.out; omega)).symm, HB2.out⟩
      rw [szStep_yes (by omega)]
      go_wp2_with fail
      exact ⟨⟨k + 1, by omega, by go_num, by rw [HS.out]; congr 1; simp; omega, by rw [HS.out]; simp; omega, HB2.out⟩, by simp [intOf]; omega⟩
    · obtain rfl : k = x.length := by omega
      have HE : Hid (sumL List.length (x.take x.length) = sumL List.length x) := by show _ = _; rw [List.take_length]
      go_wp2_with fail
      go_ret
      exact ⟨ret_int (by have := HC.out; have := HE.out; rw [szStep_yes (by omega)]; omega), HB.out⟩

/- Slices of slices of ints: marks. -/
abbrev markIntSS (k : Int) (x : List (List Int)) : List (List Int) := markL iotaL List.length k x
set_option maxRecDepth 100000 in
set_option maxHeartbeats 1600000 in
theorem markIntSS_own (v : Value) (x : List (List Int)) (Q : List Nat) (k : Int) (w : World) (h : SliceO 22 1 IntsO w Q [v] x) (nd : Q.Nodup) (h0 : 0 ≤ k) (hk : k + (sumL List.length x : Nat) ≤ 4611686018427387904) :
    Calls Try.prog 73 #[v, .int .i64 k] w (MarkO (SliceO 22 1 IntsO) Q [v] (markL iotaL List.length k x) (k + (sumL List.length x : Nat)) w) := by
  have H := Lib.hid h
  have hmax := slice_max h
  obtain ⟨A, c, hv⟩ := slice_shape h
  subst hv
  clear h
  have ND := Lib.hid nd
  clear nd
  go_enter Try.func73, Try.ntmps73
  go_wp2_with fail
  go_loopw [1, 5] (fun t i wr => ∃ j : Nat, j ≤ x.length ∧ i = .int .i64 j ∧ t = .int .i64 (k + (sumL List.length (x.take j) : Nat)) ∧ SliceO 22 1 IntsO wr Q [.slice A x.length c] (markPre iotaL List.length k x j) ∧ Only Q w wr) (fun _ i _ => x.length - (intOf i).toNat)
  case atStart => exact ⟨0, Nat.zero_le _, rfl, by simp [sumL], by rw [markPre_zero]; exact H.out, Only.refl _ _⟩
  case round =>
    obtain ⟨j, hj, rfl, rfl, hx, hon⟩ := hrel
    have HX := Lib.hid hx
    have HU := Lib.hid hon
    clear hx hon
    have hsl := sumL_le List.length x j
    by_cases hlt : j < x.length
    · skip
      have HY : Hid (x[j]? = some x[j]) := List.getElem?_eq_getElem hlt
      generalize x[j] = y at *
      obtain ⟨Fj, cj, oj, ndj, hlj, hsub, ⟨g, c', hv, hc⟩, hset⟩ := SliceO.focus mono_intsO inside_intsO HX.out ND.out ((markPre_get iotaL List.length k x j (by omega)).trans HY.out)
      rw [markPre_len _ _ _ _ _ (by omega)] at hv
      simp only [Value.slice.injEq, true_and] at hv
      obtain ⟨rfl, rfl⟩ := hv
      obtain ⟨c0, rfl⟩ : ∃ c0, cj = [c0] := by match cj, hlj with | [c0], _ => exact ⟨c0, rfl⟩
      obtain ⟨a1, k1, hs1⟩ := ints_shape oj
      subst hs1
      have q0 := hc 0 _ rfl
      simp only [Nat.mul_one, Nat.add_zero, Nat.zero_add] at q0
      have OJ := Lib.hid oj
      have SET := Lib.hid hset
      have SUB := Lib.hid hsub
      have NJ := Lib.hid ndj
      clear oj hset hsub ndj hc
      have HS := Lib.hid (sumL_snoc List.length HY.out)
      have hsl2 := Lib.hid (sumL_le List.length x (j + 1))
      have HM := Lib.hid (markPre_set iotaL List.length k x j y HY.out)
      generalize sumL List.length (x.take j) = s at *
      have hbnd : k + (s : Nat) + ((List.length y : Nat) : Int) ≤ 4611686018427387904 := by have := HS.out; have := hsl2.out; omega
      go_wp2_with fail
      refine (markIntS_own _ y Fj (k + (s : Nat)) _ OJ.out (by omega) (by have hb := hbnd; skip; omega)).mono ?_
      rintro e w2 ⟨rfl, o2, u2⟩
      have HN := Lib.hid (SET.out w2 _ u2 o2)
      have HU2 := Lib.hid (HU.out.trans (u2.mono SUB.out))
      clear o2 u2 SET OJ HX HU q0
      go_wp2_with fail
      exact ⟨⟨j + 1, by omega, by go_num, by rw [HS.out]; congr 1; simp; omega, by rw [← HM.out]; exact HN.out, HU2.out⟩, by simp [intOf]; omega⟩
    · obtain rfl : j = x.length := by omega
      have HE : Hid (sumL List.length (x.take x.length) = sumL List.length x) := by show _ = _; rw [List.take_length]
      go_wp2_with fail
      go_ret
      exact ⟨ret_int (by rw [HE.out]), by have := HX.out; rw [markPre_done] at this; exact this, HU.out⟩

end Go.Proofs.Ytcgjlddpbkponaa
