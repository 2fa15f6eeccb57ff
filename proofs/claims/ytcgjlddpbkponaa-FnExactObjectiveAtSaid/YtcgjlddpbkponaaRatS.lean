/-
  Slices of rationals: copying, comparing, sizes.
-/
import Derived.Test.YtcgjlddpbkponaaRatD
namespace Go.Proofs.Ytcgjlddpbkponaa
open Go.ChangeShapes Go.WideShapes Go.ChangeAt Go.RowKit
theorem info_RationalS : (Try.prog.info? 35).map (fun i => (i.zero, i.size, i.bytes)) = some (some (.agg #[.int .i64 0, .int .i64 0]), 2, 16) := by kernel_rfl
set_option maxRecDepth 100000 in
theorem open_RationalS {H : Type} {enc : TypeId × Value → H} {w : World} {base : Nat} {spare : Nat → Bool} {held : Bool} {fuel : Nat} {cs : List Value} {x : DataW H × List MemPlace} (h : DataW.trod enc Try.prog w base spare held fuel 32 cs = some x) : ∃ l, SliceR 2 RationalR w cs l :=
  trod_slice Try.underlying32 (by kernel_rfl) (by omega) (fun _ _ _ h => open_rational h) h
set_option maxRecDepth 100000 in
set_option maxHeartbeats 1600000 in
theorem toRationalS_new (v : Value) (x : List RationalD) (w : World) (h : SliceR 2 RationalR w [v] x) (hc : x.length ≤ 1048576) : Calls Try.prog 22 #[v] w (NewS (SliceO 35 2 RationalO) w x) := by
  obtain ⟨i0, hi, hz0, hz1, hz2⟩ := info_parts info_RationalS
  obtain ⟨A, c, hv, hc1, hc2⟩ := slice_form h
  subst hv
  have H := Lib.hid h
  clear h
  have hlen : x.length ≤ 1048576 := hc
  have HC := Lib.hid hc
  clear hc
  go_enter Try.func22, Try.ntmps22
  go_wp2_with (at_make; refine wpList_make_full _ rfl _ _ 38 rfl w.heap.size 35 i0 (.agg #[.int .i64 0, .int .i64 0]) 2 Try.underlying38 hi hz0 hz1 .i64 .i64 _ _ x.length rfl rfl rfl rfl ?c1 ?c2 ?c3 ?_)
  case c1 => rw [hz2]; omega
  case c2 => unfold maxLen; omega
  case c3 => exact Nat.le_refl _
  intro w1 hown hg
  have hb1 := Lib.hid ((Below.refl w.heap.size w).grown hg (Nat.le_refl _) (by simp))
  have hp1 := Lib.hid (Pre.start (O := RationalO) hown)
  clear hg hown
  go_wp2_with fail
  go_loopw [4] (fun i wr => ∃ k : Nat, k ≤ x.length ∧ i = .int .i64 k ∧ Pre (RationalO) 35 2 w.heap.size wr w.heap.size x.length (x.take k) ∧ Below w.heap.size w wr) (fun i _ => x.length - (intOf i).toNat)
  case atStart => exact ⟨0, Nat.zero_le _, rfl, hp1.out, hb1.out⟩
  case round =>
    clear hb1 hp1 w1
    obtain ⟨k, hk, rfl, hp, hb⟩ := hrel
    have HP := Lib.hid hp
    have HB := Lib.hid hb
    clear hp hb
    have HT : Hid ((x.take k).length = k) := by show _ = _; simp; omega
    by_cases hlt : k < x.length
    · skip
      obtain ⟨b, off, cs, y, rfl, hy, hl, hc, hr⟩ := SliceR.at_ ((mono_slice mono_rational) _ _ _ _ (Kept.below HB.out (Nat.le_refl _)) H.out) hlt
      obtain ⟨rfl, _, _⟩ := id hr
      have qc_0 := hc 0 (.int .i64 y.num) rfl
      have qc_1 := hc 1 (.int .i64 y.den) rfl
      simp only [Nat.add_zero] at qc_0 qc_1
      have HR := Lib.hid hr
      clear hr hc hl
      go_wp2_with fail
      refine (toRational_new _ _ y _ HR.out).mono ?_
      rintro e w2 ⟨F, cc, rfl, oo, nd, lo, bb⟩
      have hcc := rational_form oo
      subst hcc
      have HS := Lib.hid (HP.out.step mono_rationalO inside_rational (by rw [HT.out]; exact hlt) bb oo nd lo rfl)
      have PG := HP.out.grow mono_rationalO bb
      obtain ⟨⟨u0, g0⟩, f0⟩ := PG.cell (by rw [HT.out]; exact hlt) 0 (by omega)
      obtain ⟨⟨u1, g1⟩, f1⟩ := PG.cell (by rw [HT.out]; exact hlt) 1 (by omega)
      rw [HT.out] at g0 f0 g1 f1
      simp only [Nat.add_zero] at g0 f0 g1 f1
      have HS2 : Hid (Pre (RationalO) 35 2 w.heap.size (setCells w2 w.heap.size (k * 2) [.int .i64 y.num, .int .i64 y.den]) w.heap.size x.length (x.take (k + 1))) := by have := HS.out; rw [HT.out, ← take_snoc hy.out] at this; exact this
      have HB2 := Lib.hid (setCells_below (g := w.heap.size) (o := k * 2) [.int .i64 y.num, .int .i64 y.den] (HB.out.trans (bb.mono HB.out.size)) (Nat.le_refl _))
      clear HS PG oo nd lo bb HP HB qc_0 qc_1
      go_wp2_with fail
      exact ⟨⟨k + 1, by omega, by go_num, HS2.out, HB2.out⟩, by simp [intOf]; omega⟩
    · have HE : Hid (x.take k = x) := by show _ = _; exact List.take_of_length_le (by omega)
      go_wp2_with fail
      go_ret
      have := HP.out
      rw [HE.out] at this
      exact this.done rfl HB.out (Nat.le_refl _)
set_option maxRecDepth 100000 in
set_option maxHeartbeats 1600000 in
theorem eqRationalS_self (v v' : Value) (x : List RationalD) (w : World) (h : SliceR 2 RationalR w [v] x) (g : SliceR 2 RationalR w [v'] x) : Calls Try.prog 25 #[v, v'] w fun e w' => e = .returned (.bool true) ∧ Below w.heap.size w w' := by
  obtain ⟨A, c, hv, hc1, hc2⟩ := slice_form h
  subst hv
  obtain ⟨A', c', hv, hc1', hc2'⟩ := slice_form g
  subst hv
  unfold maxLen at hc2
  have H := Lib.hid h
  have G := Lib.hid g
  clear h g
  go_enter Try.func25, Try.ntmps25
  go_wp2_with fail
  go_loopw [5] (fun i wr => ∃ k : Nat, k ≤ x.length ∧ i = .int .i64 k ∧ Below w.heap.size w wr) (fun i _ => x.length - (intOf i).toNat)
  case atStart => exact ⟨0, Nat.zero_le _, rfl, Below.refl _ _⟩
  case round =>
    obtain ⟨k, hk, rfl, hb⟩ := hrel
    have HB := Lib.hid hb
    clear hb
    by_cases hlt : k < x.length
    · skip
      obtain ⟨b, off, cs, y, rfl, hy, hl, hc, hr⟩ := SliceR.at_ ((mono_slice mono_rational) _ _ _ _ (Kept.below HB.out (Nat.le_refl _)) H.out) hlt
      obtain ⟨rfl, _, _⟩ := id hr
      have qc_0 := hc 0 (.int .i64 y.num) rfl
      have qc_1 := hc 1 (.int .i64 y.den) rfl
      simp only [Nat.add_zero] at qc_0 qc_1
      have HR := Lib.hid hr
      clear hr hc hl
      obtain ⟨b', off', cs', y', rfl, hy', hl', hc', hr'⟩ := SliceR.at_ ((mono_slice mono_rational) _ _ _ _ (Kept.below HB.out (Nat.le_refl _)) G.out) hlt
      obtain ⟨rfl, _, _⟩ := id hr'
      have qc'_0 := hc' 0 (.int .i64 y'.num) rfl
      have qc'_1 := hc' 1 (.int .i64 y'.den) rfl
      simp only [Nat.add_zero] at qc'_0 qc'_1
      have HR' := Lib.hid hr'
      clear hr' hc' hl'
      have HY : y = y' := by have := hy.out.symm.trans hy'.out; simp at this; exact this
      subst HY
      clear hy'
      have ik : (0 : Int) ≤ (k : Int) := by omega
      have il : (k : Int) < (x.length : Int) := by omega
      go_wp2_with fail
      go_region_held3 (fun w' => w'.cell? ⟨b, off + k * 2, none⟩ = some (.int .i64 y.num) ∧ w'.cell? ⟨b, off + k * 2 + 1, none⟩ = some (.int .i64 y.den) ∧ w'.cell? ⟨b', off' + k * 2, none⟩ = some (.int .i64 y.num) ∧ w'.cell? ⟨b', off' + k * 2 + 1, none⟩ = some (.int .i64 y.den))
        (first | exact ⟨qc_0, qc_1, qc'_0, qc'_1⟩ | exact ⟨keep_drew qc_0 bb, keep_drew qc_1 bb, keep_drew qc'_0 bb, keep_drew qc'_1 bb⟩)
        (first | (go_at_call 24; refine (eqRational_self _ _ _ _ y _ (mono_rational _ _ _ _ (Kept.drew _) HR.out) (mono_rational _ _ _ _ (Kept.drew _) HR'.out)).mono ?_; rintro e w2 ⟨rfl, bb⟩))
      have HB2 := Lib.hid (HB.out.drew.trans (bb.mono HB.out.drew.size))
      clear HB bb qc_0 qc_1 qc'_0 qc'_1
      go_wp2_with fail
      exact ⟨⟨k + 1, by omega, by go_num, HB2.out⟩, by simp [intOf]; omega⟩
    · go_wp2_with fail
      go_ret
      exact ⟨rfl, HB.out⟩
theorem szRationalS_any (v : Value) (x : List RationalD) (m : Int) (w : World) (h : SliceR 2 RationalR w [v] x) (hm : 0 ≤ m) (hm' : m ≤ 1048576) :
    Calls Try.prog 20 #[v, .int .i64 m] w fun e w' => e = .returned (.int .i64 (szStep x.length m)) ∧ Below w.heap.size w w' := by
  obtain ⟨A, c, rfl, hc1, hc2⟩ := slice_form h
  unfold maxLen at hc2
  rcases Int.lt_or_le m x.length with hlt | hlt
  · go_enter Try.func20, Try.ntmps20
    go_wp2
    go_ret
    exact ⟨ret_int (szStep_no (by omega)).symm, Below.refl _ _⟩
  · go_enter Try.func20, Try.ntmps20
    go_wp2
    go_ret
    exact ⟨ret_int (szStep_yes (by omega)).symm, Below.refl _ _⟩
end Go.Proofs.Ytcgjlddpbkponaa
