/-
  The walk of FnExactBoxIndex.
-/
import Derived.Test.YtacegpmgicebfaaBoxVol
namespace Go.Proofs.Ytacegpmgicebfaa.fnExactBoxIndex
open Go.ChangeShapes Go.WideShapes Go.ChangeAt Go.RowKit
set_option linter.unusedVariables false

set_option maxRecDepth 100000 in
set_option maxHeartbeats 3200000 in
theorem walk (w : World) (cs0 : Array Value) (x0 : BoxD) (h0 : BoxR w cs0.toList x0) (v1 : Value) (x1 : List Int) (h1 : SliceR 1 IntR w [v1] x1) :
    Calls Try.prog 11 #[.agg cs0, v1] w fun e w' => e = .returned (.bool true) ∧ Below w.heap.size w w' := by
  obtain ⟨c0a, c0b, rfl, h0⟩ := box_cells h0
  have H0 := Lib.hid h0
  clear h0
  obtain ⟨sa1, sk1, hv1, hn1, hm1⟩ := slice_form h1
  unfold maxLen at hm1
  subst hv1
  have H1 := Lib.hid h1
  clear h1
  have b0 := Lib.hid (Below.refl w.heap.size w)
  rcases Nat.lt_or_ge 1048576 x1.length with hc1 | hc1
  · go_enter Try.func11, Try.ntmps11
    go_wp2_with fail
    go_ret
    exact ⟨rfl, (Below.refl _ _).alloc (by simp) _⟩
  go_enter Try.func11, Try.ntmps11
  go_wp2_with fail
  have f1 := Lib.hid ((b0.out).alloc b0.out.size (.cells #[c0a, c0b] 30))
  clear b0
  have p2 := Lib.hid (Blk.at_ (g := w.heap.size) w 30 #[c0a, c0b] rfl)
  generalize (w.alloc (.cells #[c0a, c0b] 30)) = W4 at *
  refine (szBox_any _ _ x0 (1048576) _ (mono_box _ _ _ _ (Kept.below f1.out (Nat.le_refl _)) H0.out) (by omega) (by omega)).mono ?_
  rintro e w5 ⟨rfl, bb⟩
  have f6 := Lib.hid (f1.out.trans (bb.mono f1.out.size))
  have f7 := Lib.hid (p2.out.on bb)
  clear f1 p2
  clear bb
  rcases Int.lt_or_le (1048576) (x0.count) with hs0 | hs0
  · rw [szStep_no (by omega)]
    go_wp2_with fail
    go_ret
    exact ⟨rfl, f6.out⟩
  rw [szStep_yes (by omega)]
  have hc0 : x0.count ≤ 1048576 := by omega
  have q8 := f7.out.lt
  have q9 := f7.out.get 0 (c0a) rfl
  have q10 := f7.out.get 1 (c0b) rfl
  go_wp2_with fail
  clear q8 q9 q10
  refine (toBox_new _ _ x0 _ (mono_box _ _ _ _ (Kept.below f6.out (Nat.le_refl _)) H0.out) hc0).mono ?_
  rintro e w11 ⟨F12, cc, rfl, oo, ndF12, loF12, b13⟩
  obtain ⟨a15, k16, b17, m18, hcc⟩ := box_form oo
  subst hcc
  have o14 := Lib.hid oo
  clear oo
  clear ndF12 loF12
  have f19 := Lib.hid (f6.out.trans (b13.mono f6.out.size))
  have f20 := Lib.hid (f7.out.on b13)
  clear f6 f7
  clear b13
  have q22 := f20.out.lt
  have q23 := f20.out.get 0 (c0a) rfl
  have q24 := f20.out.get 1 (c0b) rfl
  go_wp2_with fail
  clear q22 q23 q24
  refine (toIntS_new _ x1 _ ((mono_slice mono_int) _ _ _ _ (Kept.below f19.out (Nat.le_refl _)) H1.out) hc1).mono ?_
  rintro e w25 ⟨F26, a29, k30, rfl, oo, ndF26, loF26, b27⟩
  have o28 := Lib.hid oo
  clear oo
  clear ndF26 loF26
  have f31 := Lib.hid (f19.out.trans (b27.mono f19.out.size))
  have f32 := Lib.hid (f20.out.on b27)
  have f33 := Lib.hid (grow_of mono_boxO inside_box o14.out b27)
  clear f19 f20 o14
  clear b27
  go_wp2_with fail
  refine (boxIndex_spec _ _ _ _ _ _ (reads_box _ _ _ _ f33.out) (reads_ints _ _ _ _ o28.out) ).mono ?_
  rintro e w35 ⟨rfl, bb⟩
  have f36 := Lib.hid (f31.out.trans (bb.mono f31.out.size))
  have f37 := Lib.hid (f32.out.on bb)
  clear f31 f32
  clear bb
  have q38 := f37.out.lt
  have q39 := f37.out.get 0 (c0a) rfl
  have q40 := f37.out.get 1 (c0b) rfl
  go_wp2_with fail
  clear q38 q39 q40
  refine (toBox_new _ _ x0 _ (mono_box _ _ _ _ (Kept.below f36.out (Nat.le_refl _)) H0.out) hc0).mono ?_
  rintro e w41 ⟨F42, cc, rfl, oo, ndF42, loF42, b43⟩
  obtain ⟨a45, k46, b47, m48, hcc⟩ := box_form oo
  subst hcc
  have o44 := Lib.hid oo
  clear oo
  have f49 := Lib.hid (f36.out.trans (b43.mono f36.out.size))
  have f50 := Lib.hid (f37.out.on b43)
  clear f36 f37
  clear b43
  have q52 := f50.out.lt
  have q53 := f50.out.get 0 (c0a) rfl
  have q54 := f50.out.get 1 (c0b) rfl
  go_wp2_with fail
  clear q52 q53 q54
  have f55 := Lib.hid ((f49.out).alloc f49.out.size (.cells #[.slice a45 x0.low.length k46, .slice b47 x0.high.length m48] 33))
  have f56 := Lib.hid ((f50.out).alloc (.cells #[.slice a45 x0.low.length k46, .slice b47 x0.high.length m48] 33))
  have f57 := Lib.hid (grow_of mono_boxO inside_box (o44.out) ((Below.refl _ _).alloc (Nat.le_refl _) (.cells #[.slice a45 x0.low.length k46, .slice b47 x0.high.length m48] 33)))
  clear f49 f50 o44
  have p58 := Lib.hid (Blk.at_ (g := w41.heap.size) w41 33 #[.slice a45 x0.low.length k46, .slice b47 x0.high.length m48] rfl)
  generalize (w41.alloc (.cells #[.slice a45 x0.low.length k46, .slice b47 x0.high.length m48] 33)) = W60 at *
  refine (toIntS_new _ x1 _ ((mono_slice mono_int) _ _ _ _ (Kept.below f55.out (Nat.le_refl _)) H1.out) hc1).mono ?_
  rintro e w61 ⟨F62, a65, k66, rfl, oo, ndF62, loF62, b63⟩
  have o64 := Lib.hid oo
  clear oo
  have f67 := Lib.hid (f55.out.trans (b63.mono f55.out.size))
  have f68 := Lib.hid (f56.out.on b63)
  have f69 := Lib.hid (grow_of mono_boxO inside_box f57.out b63)
  have f70 := Lib.hid (p58.out.on b63)
  clear f55 f56 f57 p58
  clear b63
  have q72 := f70.out.lt
  have q73 := f70.out.get 0 (.slice a45 x0.low.length k46) rfl
  have q74 := f70.out.get 1 (.slice b47 x0.high.length m48) rfl
  go_wp2_with fail
  clear q72 q73 q74
  refine (boxIndex_impl _ _ _ _ _ _ (reads_box _ _ _ _ f69.out) (reads_ints _ _ _ _ o64.out) ).mono ?_
  rintro e w75 ⟨rfl, bb⟩
  have f76 := Lib.hid (f67.out.trans (bb.mono f67.out.size))
  have f77 := Lib.hid (f68.out.on bb)
  have f78 := Lib.hid (grow_of mono_boxO inside_box f69.out bb)
  have f79 := Lib.hid (f70.out.on bb)
  have f80 := Lib.hid (grow_of mono_intsO inside_intsO o64.out bb)
  clear f67 f68 f69 f70 o64
  clear bb
  go_wp2_with fail
  have q81 := f77.out.lt
  have q82 := f77.out.get 0 (c0a) rfl
  have q83 := f77.out.get 1 (c0b) rfl
  have q84 := f79.out.lt
  have q85 := f79.out.get 0 (.slice a45 x0.low.length k46) rfl
  have q86 := f79.out.get 1 (.slice b47 x0.high.length m48) rfl
  go_region_held3 (fun w' => w'.cell? ⟨w.heap.size, 0, none⟩ = some (c0a) ∧ w'.cell? ⟨w.heap.size, 1, none⟩ = some (c0b) ∧ w'.cell? ⟨w41.heap.size, 0, none⟩ = some (.slice a45 x0.low.length k46) ∧ w'.cell? ⟨w41.heap.size, 1, none⟩ = some (.slice b47 x0.high.length m48))
    (first | exact ⟨q82, q83, q85, q86⟩ | exact ⟨keep_drew q82 b89, keep_drew q83 b89, keep_drew q85 b89, keep_drew q86 b89⟩ | exact ⟨keep_cell (keep_drew q82 b89) b96, keep_cell (keep_drew q83 b89) b96, keep_cell (keep_drew q85 b89) b96, keep_cell (keep_drew q86 b89) b96⟩)
    (first | (go_at_call 23; refine (toBox_new _ _ x0 _ (mono_box _ _ _ _ (Kept.below f76.out.drew (Nat.le_refl _)) H0.out) hc0).mono ?_; rintro e w87 ⟨F88, cc, rfl, oo, ndF88, loF88, b89⟩; obtain ⟨a91, k92, b93, m94, hcc⟩ := box_form oo; subst hcc; have o90 := Lib.hid oo; clear oo; clear ndF88 loF88) | (go_at_call 25; refine (eqBox_self _ _ _ _ x0 _ (reads_box _ _ _ _ (grow_drew mono_boxO inside_box f78.out b89)) (reads_box _ _ _ _ o90.out)).mono ?_; rintro e w95 ⟨rfl, b96⟩))
  have bb97 : Below w75.heap.size w75 w95 := ((Below.refl _ _).drew.trans b89).trans (b96.mono b89.size)
  clear b89 b96 o90
  clear q82 q83 q85 q86
  have f98 := Lib.hid (f76.out.trans (bb97.mono f76.out.size))
  have f99 := Lib.hid (f77.out.on bb97)
  have f100 := Lib.hid (grow_of mono_boxO inside_box f78.out bb97)
  have f101 := Lib.hid (f79.out.on bb97)
  have f102 := Lib.hid (grow_of mono_intsO inside_intsO f80.out bb97)
  clear f76 f77 f78 f79 f80
  clear bb97
  go_wp2_with fail
  refine (toIntS_new _ x1 _ ((mono_slice mono_int) _ _ _ _ (Kept.below f98.out (Nat.le_refl _)) H1.out) hc1).mono ?_
  rintro e w103 ⟨F104, a107, k108, rfl, oo, ndF104, loF104, b105⟩
  have o106 := Lib.hid oo
  clear oo
  clear ndF104 loF104
  have f109 := Lib.hid (f98.out.trans (b105.mono f98.out.size))
  have f110 := Lib.hid (f99.out.on b105)
  have f111 := Lib.hid (grow_of mono_boxO inside_box f100.out b105)
  have f112 := Lib.hid (f101.out.on b105)
  have f113 := Lib.hid (grow_of mono_intsO inside_intsO f102.out b105)
  clear f98 f99 f100 f101 f102
  clear b105
  go_wp2_with fail
  refine (eqIntS_self _ _ x1 _ (reads_ints _ _ _ _ f113.out) (reads_ints _ _ _ _ o106.out)).mono ?_
  rintro e w114 ⟨rfl, bb⟩
  clear o106
  have f115 := Lib.hid (f109.out.trans (bb.mono f109.out.size))
  have f116 := Lib.hid (f110.out.on bb)
  have f117 := Lib.hid (grow_of mono_boxO inside_box f111.out bb)
  have f118 := Lib.hid (f112.out.on bb)
  have f119 := Lib.hid (grow_of mono_intsO inside_intsO f113.out bb)
  clear f109 f110 f111 f112 f113
  clear bb
  go_wp2_with fail
  go_ret
  exact ⟨rfl, f115.out⟩
end Go.Proofs.Ytacegpmgicebfaa.fnExactBoxIndex
