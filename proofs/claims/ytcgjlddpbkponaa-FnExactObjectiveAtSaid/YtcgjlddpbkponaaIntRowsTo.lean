/-
  Slices of slices of ints: copying.
-/
import Derived.Test.YtcgjlddpbkponaaFocus
import Derived.Test.YtcgjlddpbkponaaEqSelf
namespace Go.Proofs.Ytcgjlddpbkponaa
open Go.ChangeShapes Go.WideShapes Go.ChangeAt Go.RowKit
theorem info_IntSS : (Try.prog.info? 22).map (fun i => (i.zero, i.size, i.bytes)) = some (some (.slice none 0 0), 1, 24) := by kernel_rfl
set_option maxRecDepth 100000 in
theorem open_IntSS {H : Type} {enc : TypeId × Value → H} {w : World} {base : Nat} {spare : Nat → Bool} {held : Bool} {fuel : Nat} {cs : List Value} {x : DataW H × List MemPlace} (h : DataW.trod enc Try.prog w base spare held fuel 23 cs = some x) : ∃ l, SliceR 1 (SliceR 1 IntR) w cs l :=
  trod_slice Try.underlying23 (by kernel_rfl) (by omega) (fun _ _ _ h => open_ints h) h
set_option maxRecDepth 100000 in
set_option maxHeartbeats 1600000 in
theorem toIntSS_new (v : Value) (x : List (List Int)) (w : World) (h : SliceR 1 (SliceR 1 IntR) w [v] x) (hc : cntL List.length x ≤ 1048576) : Calls Try.prog 61 #[v] w (NewS (SliceO 22 1 IntsO) w x) := by
  obtain ⟨i0, hi, hz0, hz1, hz2⟩ := info_parts info_IntSS
  obtain ⟨A, c, hv, hc1, hc2⟩ := slice_form h
  subst hv
  have H := Lib.hid h
  clear h
  have hlen : x.length ≤ 1048576 := Nat.le_trans (cntL_len _ _) hc
  have HC := Lib.hid hc
  clear hc
  go_enter Try.func61, Try.ntmps61
  go_wp2_with (at_make; refine wpList_make_full _ rfl _ _ 23 rfl w.heap.size 22 i0 (.slice none 0 0) 1 Try.underlying23 hi hz0 hz1 .i64 .i64 _ _ x.length rfl rfl rfl rfl ?c1 ?c2 ?c3 ?_)
  case c1 => rw [hz2]; omega
  case c2 => unfold maxLen; omega
  case c3 => exact Nat.le_refl _
  intro w1 hown hg
  have hb1 := Lib.hid ((Below.refl w.heap.size w).grown hg (Nat.le_refl _) (by simp))
  have hp1 := Lib.hid (Pre.start (O := IntsO) hown)
  clear hg hown
  go_wp2_with fail
  go_loopw [4] (fun i wr => ∃ k : Nat, k ≤ x.length ∧ i = .int .i64 k ∧ Pre (IntsO) 22 1 w.heap.size wr w.heap.size x.length (x.take k) ∧ Below w.heap.size w wr) (fun i _ => x.length - (intOf i).toNat)
  case atStart => exact ⟨0, Nat.zero_le _, rfl, hp1.out, hb1.out⟩
  case round =>
    clear hb1 hp1 w1
    obtain ⟨k, hk, rfl, hp, hb⟩ := hrel
    have HP := Lib.hid hp
    have HB := Lib.hid hb
    clear hp hb
    have HT : Hid ((x.take k).length = k) := by show _ = _; simp; omega
    by_cases hlt : k < x.length
    · skip
      obtain ⟨b, off, cs, y, rfl, hy, hl, hc, hr⟩ := SliceR.at_ ((mono_slice (mono_slice mono_int)) _ _ _ _ (Kept.below HB.out (Nat.le_refl _)) H.out) hlt
      obtain ⟨sa, sk, zz, nn, mm⟩ := slice_form' hr
      subst zz
      have qc_0 := hc 0 (.slice sa y.length sk) rfl
      simp only [Nat.add_zero, Nat.mul_one] at qc_0
      have HR := Lib.hid hr
      clear hr hc hl
      go_wp2_with fail
      refine (toIntS_new _ y _ HR.out (Nat.le_trans (cntL_mem _ hy.out) HC.out)).mono ?_
      rintro e w2 ⟨F, av, kv, rfl, oo, nd, lo, bb⟩
      have HS := Lib.hid (HP.out.step mono_intsO inside_intsO (by rw [HT.out]; exact hlt) bb oo nd lo rfl)
      have PG := HP.out.grow mono_intsO bb
      obtain ⟨⟨u0, g0⟩, f0⟩ := PG.cell (by rw [HT.out]; exact hlt) 0 (by omega)
      rw [HT.out] at g0 f0
      simp only [Nat.add_zero, Nat.mul_one] at g0 f0
      have HS2 : Hid (Pre (IntsO) 22 1 w.heap.size (setCells w2 w.heap.size (k * 1) [.slice av y.length kv]) w.heap.size x.length (x.take (k + 1))) := by have := HS.out; rw [HT.out, ← take_snoc hy.out] at this; exact this
      have HB2 := Lib.hid (setCells_below (g := w.heap.size) (o := k * 1) [.slice av y.length kv] (HB.out.trans (bb.mono HB.out.size)) (Nat.le_refl _))
      clear HS PG oo nd lo bb HP HB qc_0
      rw [Nat.mul_one] at HS2 HB2
      go_wp2_with fail
      exact ⟨⟨k + 1, by omega, by go_num, HS2.out, HB2.out⟩, by simp [intOf]; omega⟩
    · have HE : Hid (x.take k = x) := by show _ = _; exact List.take_of_length_le (by omega)
      go_wp2_with fail
      go_ret
      have := HP.out
      rw [HE.out] at this
      exact this.done rfl HB.out (Nat.le_refl _)
end Go.Proofs.Ytcgjlddpbkponaa
