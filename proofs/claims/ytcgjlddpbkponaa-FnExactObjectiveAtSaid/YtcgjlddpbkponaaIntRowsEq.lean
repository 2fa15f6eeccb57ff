/-
  Slices of slices of ints: comparing.
-/
import Derived.Test.YtcgjlddpbkponaaFocus
import Derived.Test.YtcgjlddpbkponaaEqSelf
namespace Go.Proofs.Ytcgjlddpbkponaa
open Go.ChangeShapes Go.WideShapes Go.ChangeAt Go.RowKit
set_option maxRecDepth 100000 in
set_option maxHeartbeats 1600000 in
theorem eqIntSS_self (v v' : Value) (x : List (List Int)) (w : World) (h : SliceR 1 (SliceR 1 IntR) w [v] x) (g : SliceR 1 (SliceR 1 IntR) w [v'] x) : Calls Try.prog 64 #[v, v'] w fun e w' => e = .returned (.bool true) ∧ Below w.heap.size w w' := by
  obtain ⟨A, c, hv, hc1, hc2⟩ := slice_form h
  subst hv
  obtain ⟨A', c', hv, hc1', hc2'⟩ := slice_form g
  subst hv
  unfold maxLen at hc2
  have H := Lib.hid h
  have G := Lib.hid g
  clear h g
  go_enter Try.func64, Try.ntmps64
  go_wp2_with fail
  go_loopw [5] (fun i wr => ∃ k : Nat, k ≤ x.length ∧ i = .int .i64 k ∧ Below w.heap.size w wr) (fun i _ => x.length - (intOf i).toNat)
  case atStart => exact ⟨0, Nat.zero_le _, rfl, Below.refl _ _⟩
  case round =>
    obtain ⟨k, hk, rfl, hb⟩ := hrel
    have HB := Lib.hid hb
    clear hb
    by_cases hlt : k < x.length
    · skip
      obtain ⟨b, off, cs, y, rfl, hy, hl, hc, hr⟩ := SliceR.at_ ((mono_slice (mono_slice mono_int)) _ _ _ _ (Kept.below HB.out (Nat.le_refl _)) H.out) hlt
      obtain ⟨sa, sk, zz, nn, mm⟩ := slice_form' hr
      subst zz
      have qc_0 := hc 0 (.slice sa y.length sk) rfl
      simp only [Nat.add_zero, Nat.mul_one] at qc_0
      have HR := Lib.hid hr
      clear hr hc hl
      obtain ⟨b', off', cs', y', rfl, hy', hl', hc', hr'⟩ := SliceR.at_ ((mono_slice (mono_slice mono_int)) _ _ _ _ (Kept.below HB.out (Nat.le_refl _)) G.out) hlt
      obtain ⟨sa', sk', zz', nn', mm'⟩ := slice_form' hr'
      subst zz'
      have qc'_0 := hc' 0 (.slice sa' y'.length sk') rfl
      simp only [Nat.add_zero, Nat.mul_one] at qc'_0
      have HR' := Lib.hid hr'
      clear hr' hc' hl'
      have HY : y = y' := by have := hy.out.symm.trans hy'.out; simp at this; exact this
      subst HY
      clear hy'
      have ik : (0 : Int) ≤ (k : Int) := by omega
      have il : (k : Int) < (x.length : Int) := by omega
      go_wp2_with fail
      go_region_held3 (fun w' => w'.cell? ⟨b, off + k, none⟩ = some (.slice sa y.length sk) ∧ w'.cell? ⟨b', off' + k, none⟩ = some (.slice sa' y.length sk'))
        (first | exact ⟨qc_0, qc'_0⟩ | exact ⟨keep_drew qc_0 bb, keep_drew qc'_0 bb⟩)
        (first | (go_at_call 63; refine (eqIntS_self _ _ y _ ((mono_slice mono_int) _ _ _ _ (Kept.drew _) HR.out) ((mono_slice mono_int) _ _ _ _ (Kept.drew _) HR'.out)).mono ?_; rintro e w2 ⟨rfl, bb⟩))
      have HB2 := Lib.hid (HB.out.drew.trans (bb.mono HB.out.drew.size))
      clear HB bb qc_0 qc'_0
      go_wp2_with fail
      exact ⟨⟨k + 1, by omega, by go_num, HB2.out⟩, by simp [intOf]; omega⟩
    · go_wp2_with fail
      go_ret
      exact ⟨rfl, HB.out⟩
end Go.Proofs.Ytcgjlddpbkponaa
