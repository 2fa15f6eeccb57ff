/-
  Slices of slices of ints: sizes.
-/
import Derived.Test.YtcgjlddpbkponaaFocus
namespace Go.Proofs.Ytcgjlddpbkponaa
open Go.ChangeShapes Go.WideShapes Go.ChangeAt Go.RowKit
theorem szIntS_cnt (v : Value) (x : List Int) (m : Int) (w : World) (h : SliceR 1 IntR w [v] x) (hm : 0 ≤ m) (hm' : m ≤ 1048576) :
    Calls Try.prog 57 #[v, .int .i64 m] w fun e w' => e = .returned (.int .i64 (szStep x.length m)) ∧ Below w.heap.size w w' :=
  (szIntS_any v x m w h hm hm' (by obtain ⟨_, _, _, h1, h2⟩ := slice_form h; unfold maxLen at h2; omega)).mono fun _ _ ⟨he, hw⟩ => ⟨he, hw ▸ Below.refl _ _⟩
set_option maxRecDepth 100000 in
set_option maxHeartbeats 1600000 in
theorem szIntSS_any (v : Value) (x : List (List Int)) (m : Int) (w : World) (h : SliceR 1 (SliceR 1 IntR) w [v] x) (hm : 0 ≤ m) (hm' : m ≤ 1048576) :
    Calls Try.prog 58 #[v, .int .i64 m] w fun e w' => e = .returned (.int .i64 (szStep (cntL List.length x) m)) ∧ Below w.heap.size w w' := by
  obtain ⟨A, c, hv, hc1, hc2⟩ := slice_form h
  subst hv
  unfold maxLen at hc2
  have H := Lib.hid h
  clear h
  have hle := cntL_len List.length x
  have HC : Hid (cntL List.length x = x.length + sumL List.length x) := rfl
  rcases Int.lt_or_le m x.length with hlt | hlt
  · go_enter Try.func58, Try.ntmps58
    go_wp2_with fail
    go_ret
    exact ⟨ret_int (szStep_no (by omega)).symm, Below.refl _ _⟩
  generalize cntL List.length x = N at *
  go_enter Try.func58, Try.ntmps58
  go_wp2_with fail
  go_loopw [1, 5] (fun t i wr => ∃ k : Nat, k ≤ x.length ∧ i = .int .i64 k ∧ t = .int .i64 (m - x.length - (sumL List.length (x.take k) : Nat)) ∧ 0 ≤ m - x.length - (sumL List.length (x.take k) : Nat) ∧ Below w.heap.size w wr) (fun _ i _ => x.length - (intOf i).toNat)
  case atStart => exact ⟨0, Nat.zero_le _, rfl, by simp [sumL], by simp [sumL]; omega, Below.refl _ _⟩
  case round =>
    obtain ⟨k, hk, rfl, rfl, hpos, hb⟩ := hrel
    have HB := Lib.hid hb
    clear hb
    have hsl := sumL_le List.length x k
    by_cases hlt2 : k < x.length
    · skip
      obtain ⟨b, off, cs, y, rfl, hy, hl, hc, hr⟩ := SliceR.at_ ((mono_slice (mono_slice mono_int)) _ _ _ _ (Kept.below HB.out (Nat.le_refl _)) H.out) hlt2
      obtain ⟨sa, sk, zz, nn, mm⟩ := slice_form' hr
      subst zz
      have qc_0 := hc 0 (.slice sa y.length sk) rfl
      simp only [Nat.add_zero, Nat.mul_one] at qc_0
      have HR := Lib.hid hr
      clear hr hc hl
      have HS := Lib.hid (sumL_snoc List.length hy.out)
      have hsl2 := sumL_le List.length x (k + 1)
      have HL : Hid (sumL List.length (x.take (k + 1)) ≤ sumL List.length x) := hsl2
      clear hsl2
      generalize sumL List.length (x.take k) = s at *
      go_wp2_with fail
      refine (szIntS_cnt _ y (m - x.length - (s : Nat)) _ HR.out (by omega) (by omega)).mono ?_
      rintro e w2 ⟨rfl, bb⟩
      have HB2 := Lib.hid (HB.out.trans (bb.mono HB.out.size))
      clear HB bb qc_0
      rcases Int.lt_or_le (m - x.length - (s : Nat)) (List.length y : Nat) with hs | hs
      · rw [szStep_no (by omega)]
        go_wp2_with fail
        go_ret
        exact ⟨ret_int (szStep_no (by have := HC.out; have := HS.out; have := HL.out; omega)).symm, HB2.out⟩
      rw [szStep_yes (by omega)]
      go_wp2_with fail
      exact ⟨⟨k + 1, by omega, by go_num, by rw [HS.out]; congr 1; simp; omega, by rw [HS.out]; simp; omega, HB2.out⟩, by simp [intOf]; omega⟩
    · obtain rfl : k = x.length := by omega
      have HE : Hid (sumL List.length (x.take x.length) = sumL List.length x) := by show _ = _; rw [List.take_length]
      go_wp2_with fail
      go_ret
      exact ⟨ret_int (by have := HC.out; have := HE.out; rw [szStep_yes (by omega)]; omega), HB.out⟩
end Go.Proofs.Ytcgjlddpbkponaa
