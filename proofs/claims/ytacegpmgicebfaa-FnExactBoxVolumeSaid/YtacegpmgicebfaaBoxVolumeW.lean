/-
  The walk of FnExactBoxVolume.
-/
import Derived.Test.YtacegpmgicebfaaBoxVol
namespace Go.Proofs.Ytacegpmgicebfaa.fnExactBoxVolume
open Go.ChangeShapes Go.WideShapes Go.ChangeAt Go.RowKit
set_option linter.unusedVariables false

set_option maxRecDepth 100000 in
set_option maxHeartbeats 3200000 in
theorem walk (w : World) (cs0 : Array Value) (x0 : BoxD) (h0 : BoxR w cs0.toList x0) :
    Calls Try.prog 9 #[.agg cs0] w fun e w' => e = .returned (.bool true) ∧ Below w.heap.size w w' := by
  obtain ⟨c0a, c0b, rfl, h0⟩ := box_cells h0
  have H0 := Lib.hid h0
  clear h0
  have b0 := Lib.hid (Below.refl w.heap.size w)
  go_enter Try.func9, Try.ntmps9
  go_wp2_with fail
  have f1 := Lib.hid ((b0.out).alloc b0.out.size (.cells #[c0a, c0b] 30))
  clear b0
  have p2 := Lib.hid (Blk.at_ (g := w.heap.size) w 30 #[c0a, c0b] rfl)
  generalize (w.alloc (.cells #[c0a, c0b] 30)) = W4 at *
  refine (szBox_any _ _ x0 (1048576) _ (mono_box _ _ _ _ (Kept.below f1.out (Nat.le_refl _)) H0.out) (by omega) (by omega)).mono ?_
  rintro e w5 ⟨rfl, bb⟩
  have f6 := Lib.hid (f1.out.trans (bb.mono f1.out.size))
  have f7 := Lib.hid (p2.out.on bb)
  clear f1 p2
  clear bb
  rcases Int.lt_or_le (1048576) (x0.count) with hs0 | hs0
  · rw [szStep_no (by omega)]
    go_wp2_with fail
    go_ret
    exact ⟨rfl, f6.out⟩
  rw [szStep_yes (by omega)]
  have hc0 : x0.count ≤ 1048576 := by omega
  have q8 := f7.out.lt
  have q9 := f7.out.get 0 (c0a) rfl
  have q10 := f7.out.get 1 (c0b) rfl
  go_wp2_with fail
  clear q8 q9 q10
  refine (toBox_new _ _ x0 _ (mono_box _ _ _ _ (Kept.below f6.out (Nat.le_refl _)) H0.out) hc0).mono ?_
  rintro e w11 ⟨F12, cc, rfl, oo, ndF12, loF12, b13⟩
  obtain ⟨a15, k16, b17, m18, hcc⟩ := box_form oo
  subst hcc
  have o14 := Lib.hid oo
  clear oo
  clear ndF12 loF12
  have f19 := Lib.hid (f6.out.trans (b13.mono f6.out.size))
  have f20 := Lib.hid (f7.out.on b13)
  clear f6 f7
  clear b13
  go_wp2_with fail
  refine (boxVolume_spec _ _ _ _ (reads_box _ _ _ _ o14.out) ).mono ?_
  rintro e w22 ⟨rfl, bb⟩
  have f23 := Lib.hid (f19.out.trans (bb.mono f19.out.size))
  have f24 := Lib.hid (f20.out.on bb)
  clear f19 f20
  clear bb
  have q25 := f24.out.lt
  have q26 := f24.out.get 0 (c0a) rfl
  have q27 := f24.out.get 1 (c0b) rfl
  go_wp2_with fail
  clear q25 q26 q27
  refine (toBox_new _ _ x0 _ (mono_box _ _ _ _ (Kept.below f23.out (Nat.le_refl _)) H0.out) hc0).mono ?_
  rintro e w28 ⟨F29, cc, rfl, oo, ndF29, loF29, b30⟩
  obtain ⟨a32, k33, b34, m35, hcc⟩ := box_form oo
  subst hcc
  have o31 := Lib.hid oo
  clear oo
  have f36 := Lib.hid (f23.out.trans (b30.mono f23.out.size))
  have f37 := Lib.hid (f24.out.on b30)
  clear f23 f24
  clear b30
  go_wp2_with fail
  have f39 := Lib.hid ((f36.out).alloc f36.out.size (.cells #[.slice a32 x0.low.length k33, .slice b34 x0.high.length m35] 33))
  have f40 := Lib.hid ((f37.out).alloc (.cells #[.slice a32 x0.low.length k33, .slice b34 x0.high.length m35] 33))
  have f41 := Lib.hid (grow_of mono_boxO inside_box (o31.out) ((Below.refl _ _).alloc (Nat.le_refl _) (.cells #[.slice a32 x0.low.length k33, .slice b34 x0.high.length m35] 33)))
  clear f36 f37 o31
  have p42 := Lib.hid (Blk.at_ (g := w28.heap.size) w28 33 #[.slice a32 x0.low.length k33, .slice b34 x0.high.length m35] rfl)
  generalize (w28.alloc (.cells #[.slice a32 x0.low.length k33, .slice b34 x0.high.length m35] 33)) = W44 at *
  refine (boxVolume_impl _ _ _ _ (reads_box _ _ _ _ f41.out) ).mono ?_
  rintro e w45 ⟨rfl, bb⟩
  have f46 := Lib.hid (f39.out.trans (bb.mono f39.out.size))
  have f47 := Lib.hid (f40.out.on bb)
  have f48 := Lib.hid (grow_of mono_boxO inside_box f41.out bb)
  have f49 := Lib.hid (p42.out.on bb)
  clear f39 f40 f41 p42
  clear bb
  go_wp2_with fail
  have q50 := f47.out.lt
  have q51 := f47.out.get 0 (c0a) rfl
  have q52 := f47.out.get 1 (c0b) rfl
  have q53 := f49.out.lt
  have q54 := f49.out.get 0 (.slice a32 x0.low.length k33) rfl
  have q55 := f49.out.get 1 (.slice b34 x0.high.length m35) rfl
  go_region_held3 (fun w' => w'.cell? ⟨w.heap.size, 0, none⟩ = some (c0a) ∧ w'.cell? ⟨w.heap.size, 1, none⟩ = some (c0b) ∧ w'.cell? ⟨w28.heap.size, 0, none⟩ = some (.slice a32 x0.low.length k33) ∧ w'.cell? ⟨w28.heap.size, 1, none⟩ = some (.slice b34 x0.high.length m35))
    (first | exact ⟨q51, q52, q54, q55⟩ | exact ⟨keep_drew q51 b58, keep_drew q52 b58, keep_drew q54 b58, keep_drew q55 b58⟩ | exact ⟨keep_cell (keep_drew q51 b58) b65, keep_cell (keep_drew q52 b58) b65, keep_cell (keep_drew q54 b58) b65, keep_cell (keep_drew q55 b58) b65⟩)
    (first | (go_at_call 23; refine (toBox_new _ _ x0 _ (mono_box _ _ _ _ (Kept.below f46.out.drew (Nat.le_refl _)) H0.out) hc0).mono ?_; rintro e w56 ⟨F57, cc, rfl, oo, ndF57, loF57, b58⟩; obtain ⟨a60, k61, b62, m63, hcc⟩ := box_form oo; subst hcc; have o59 := Lib.hid oo; clear oo; clear ndF57 loF57) | (go_at_call 25; refine (eqBox_self _ _ _ _ x0 _ (reads_box _ _ _ _ (grow_drew mono_boxO inside_box f48.out b58)) (reads_box _ _ _ _ o59.out)).mono ?_; rintro e w64 ⟨rfl, b65⟩))
  have bb66 : Below w45.heap.size w45 w64 := ((Below.refl _ _).drew.trans b58).trans (b65.mono b58.size)
  clear b58 b65 o59
  clear q51 q52 q54 q55
  have f67 := Lib.hid (f46.out.trans (bb66.mono f46.out.size))
  have f68 := Lib.hid (f47.out.on bb66)
  have f69 := Lib.hid (grow_of mono_boxO inside_box f48.out bb66)
  have f70 := Lib.hid (f49.out.on bb66)
  clear f46 f47 f48 f49
  clear bb66
  go_wp2_with fail
  go_ret
  exact ⟨rfl, f67.out⟩
end Go.Proofs.Ytacegpmgicebfaa.fnExactBoxVolume
