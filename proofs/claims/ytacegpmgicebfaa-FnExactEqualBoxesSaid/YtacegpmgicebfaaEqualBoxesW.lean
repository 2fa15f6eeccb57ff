/-
  The walk of FnExactEqualBoxes.
-/
import Derived.Test.YtacegpmgicebfaaBox2
namespace Go.Proofs.Ytacegpmgicebfaa.fnExactEqualBoxes
open Go.ChangeShapes Go.WideShapes Go.ChangeAt Go.RowKit
set_option linter.unusedVariables false

set_option maxRecDepth 100000 in
set_option maxHeartbeats 3200000 in
theorem walk (w : World) (cs0 : Array Value) (x0 : BoxD) (h0 : BoxR w cs0.toList x0) (cs1 : Array Value) (x1 : BoxD) (h1 : BoxR w cs1.toList x1) :
    Calls Try.prog 5 #[.agg cs0, .agg cs1] w fun e w' => e = .returned (.bool true) ∧ Below w.heap.size w w' := by
  obtain ⟨c0a, c0b, rfl, h0⟩ := box_cells h0
  obtain ⟨c1a, c1b, rfl, h1⟩ := box_cells h1
  have H0 := Lib.hid h0
  clear h0
  have H1 := Lib.hid h1
  clear h1
  have b0 := Lib.hid (Below.refl w.heap.size w)
  go_enter Try.func5, Try.ntmps5
  go_wp2_with fail
  have f1 := Lib.hid (((b0.out).alloc b0.out.size (.cells #[c0a, c0b] 30)).alloc (Nat.le_trans b0.out.size (by simp)) (.cells #[c1a, c1b] 30))
  clear b0
  have p2 := Lib.hid ((Blk.at_ (g := w.heap.size) w 30 #[c0a, c0b] rfl).alloc (.cells #[c1a, c1b] 30))
  have p4 := Lib.hid (Blk.at_ (g := w.heap.size + 1) (w.alloc (.cells #[c0a, c0b] 30)) 30 #[c1a, c1b] (by simp))
  generalize ((w.alloc (.cells #[c0a, c0b] 30)).alloc (.cells #[c1a, c1b] 30)) = W6 at *
  refine (szBox_any _ _ x0 (1048576) _ (mono_box _ _ _ _ (Kept.below f1.out (Nat.le_refl _)) H0.out) (by omega) (by omega)).mono ?_
  rintro e w7 ⟨rfl, bb⟩
  have f8 := Lib.hid (f1.out.trans (bb.mono f1.out.size))
  have f9 := Lib.hid (p2.out.on bb)
  have f10 := Lib.hid (p4.out.on bb)
  clear f1 p2 p4
  clear bb
  rcases Int.lt_or_le (1048576) (x0.count) with hs0 | hs0
  · rw [szStep_no (by omega)]
    go_wp2_with fail
    go_ret
    exact ⟨rfl, f8.out⟩
  rw [szStep_yes (by omega)]
  have hc0 : x0.count ≤ 1048576 := by omega
  have q11 := f9.out.lt
  have q12 := f9.out.get 0 (c0a) rfl
  have q13 := f9.out.get 1 (c0b) rfl
  have q14 := f10.out.lt
  have q15 := f10.out.get 0 (c1a) rfl
  have q16 := f10.out.get 1 (c1b) rfl
  go_wp2_with fail
  clear q11 q12 q13 q14 q15 q16
  refine (szBox_any _ _ x1 (1048576 - x0.count) _ (mono_box _ _ _ _ (Kept.below f8.out (Nat.le_refl _)) H1.out) (by omega) (by omega)).mono ?_
  rintro e w17 ⟨rfl, bb⟩
  have f18 := Lib.hid (f8.out.trans (bb.mono f8.out.size))
  have f19 := Lib.hid (f9.out.on bb)
  have f20 := Lib.hid (f10.out.on bb)
  clear f8 f9 f10
  clear bb
  rcases Int.lt_or_le (1048576 - x0.count) (x1.count) with hs1 | hs1
  · rw [szStep_no (by omega)]
    go_wp2_with fail
    go_ret
    exact ⟨rfl, f18.out⟩
  rw [szStep_yes (by omega)]
  have hc1 : x1.count ≤ 1048576 := by omega
  have q21 := f19.out.lt
  have q22 := f19.out.get 0 (c0a) rfl
  have q23 := f19.out.get 1 (c0b) rfl
  have q24 := f20.out.lt
  have q25 := f20.out.get 0 (c1a) rfl
  have q26 := f20.out.get 1 (c1b) rfl
  go_wp2_with fail
  clear q21 q22 q23 q24 q25 q26
  have q27 := f19.out.lt
  have q28 := f19.out.get 0 (c0a) rfl
  have q29 := f19.out.get 1 (c0b) rfl
  have q30 := f20.out.lt
  have q31 := f20.out.get 0 (c1a) rfl
  have q32 := f20.out.get 1 (c1b) rfl
  have tok33 : True := trivial
  have tok43 : True := trivial
  go_region_held3 (fun w' => w'.cell? ⟨w.heap.size, 0, none⟩ = some (c0a) ∧ w'.cell? ⟨w.heap.size, 1, none⟩ = some (c0b) ∧ w'.cell? ⟨w.heap.size + 1, 0, none⟩ = some (c1a) ∧ w'.cell? ⟨w.heap.size + 1, 1, none⟩ = some (c1b))
    (first | exact ⟨q28, q29, q31, q32⟩ | exact ⟨keep_drew q28 b36, keep_drew q29 b36, keep_drew q31 b36, keep_drew q32 b36⟩ | exact ⟨keep_cell (keep_drew q28 b36) b46, keep_cell (keep_drew q29 b36) b46, keep_cell (keep_drew q31 b36) b46, keep_cell (keep_drew q32 b36) b46⟩ | exact ⟨keep_cell (keep_cell (keep_drew q28 b36) b46) b53, keep_cell (keep_cell (keep_drew q29 b36) b46) b53, keep_cell (keep_cell (keep_drew q31 b36) b46) b53, keep_cell (keep_cell (keep_drew q32 b36) b46) b53⟩)
    (first | (go_at_call 23; have _t := tok33; refine (toBox_new _ _ x0 _ (mono_box _ _ _ _ (Kept.below f18.out.drew (Nat.le_refl _)) H0.out) hc0).mono ?_; rintro e w34 ⟨F35, cc, rfl, oo, ndF35, loF35, b36⟩; obtain ⟨a38, k39, b40, m41, hcc⟩ := box_form oo; subst hcc; have o37 := Lib.hid oo; clear oo; have B42 := Lib.hid (f18.out.drew.trans (b36.mono f18.out.drew.size)); clear tok33 _t ndF35 loF35) | (go_at_call 23; have _t := tok43; refine (toBox_new _ _ x1 _ (mono_box _ _ _ _ (Kept.below B42.out (Nat.le_refl _)) H1.out) hc1).mono ?_; rintro e w44 ⟨F45, cc, rfl, oo, ndF45, loF45, b46⟩; obtain ⟨a48, k49, b50, m51, hcc⟩ := box_form oo; subst hcc; have o47 := Lib.hid oo; clear oo; have B52 := Lib.hid (B42.out.trans (b46.mono B42.out.size)); clear tok43 _t ndF45 loF45) | (go_at_call 22; refine (equalBoxes_spec _ _ _ _ _ _ _ (reads_box _ _ _ _ (grow_of mono_boxO inside_box o37.out b46)) (reads_box _ _ _ _ o47.out) ).mono ?_; rintro e w54 ⟨rfl, b53⟩))
  have bb55 : Below w17.heap.size w17 w17.drew := (Below.refl _ _).drew
  have bb56 := bb55.trans (b36.mono bb55.size)
  clear bb55
  have bb57 := bb56.trans (b46.mono bb56.size)
  clear bb56
  have bb58 := bb57.trans (b53.mono bb57.size)
  clear bb57
  clear b36 b46 b53 o37 o47
  clear q28 q29 q31 q32
  have f59 := Lib.hid (f18.out.trans (bb58.mono f18.out.size))
  have f60 := Lib.hid (f19.out.on bb58)
  have f61 := Lib.hid (f20.out.on bb58)
  clear f18 f19 f20
  clear bb58
  have q62 := f60.out.lt
  have q63 := f60.out.get 0 (c0a) rfl
  have q64 := f60.out.get 1 (c0b) rfl
  have q65 := f61.out.lt
  have q66 := f61.out.get 0 (c1a) rfl
  have q67 := f61.out.get 1 (c1b) rfl
  go_wp2_with fail
  clear q62 q63 q64 q65 q66 q67
  refine (toBox_new _ _ x0 _ (mono_box _ _ _ _ (Kept.below f59.out (Nat.le_refl _)) H0.out) hc0).mono ?_
  rintro e w68 ⟨F69, cc, rfl, oo, ndF69, loF69, b70⟩
  obtain ⟨a72, k73, b74, m75, hcc⟩ := box_form oo
  subst hcc
  have o71 := Lib.hid oo
  clear oo
  have f76 := Lib.hid (f59.out.trans (b70.mono f59.out.size))
  have f77 := Lib.hid (f60.out.on b70)
  have f78 := Lib.hid (f61.out.on b70)
  clear f59 f60 f61
  clear b70
  have q80 := f77.out.lt
  have q81 := f77.out.get 0 (c0a) rfl
  have q82 := f77.out.get 1 (c0b) rfl
  have q83 := f78.out.lt
  have q84 := f78.out.get 0 (c1a) rfl
  have q85 := f78.out.get 1 (c1b) rfl
  go_wp2_with fail
  clear q80 q81 q82 q83 q84 q85
  have f86 := Lib.hid ((f76.out).alloc f76.out.size (.cells #[.slice a72 x0.low.length k73, .slice b74 x0.high.length m75] 33))
  have f87 := Lib.hid ((f77.out).alloc (.cells #[.slice a72 x0.low.length k73, .slice b74 x0.high.length m75] 33))
  have f88 := Lib.hid ((f78.out).alloc (.cells #[.slice a72 x0.low.length k73, .slice b74 x0.high.length m75] 33))
  have f89 := Lib.hid (grow_of mono_boxO inside_box (o71.out) ((Below.refl _ _).alloc (Nat.le_refl _) (.cells #[.slice a72 x0.low.length k73, .slice b74 x0.high.length m75] 33)))
  clear f76 f77 f78 o71
  have p90 := Lib.hid (Blk.at_ (g := w68.heap.size) w68 33 #[.slice a72 x0.low.length k73, .slice b74 x0.high.length m75] rfl)
  generalize (w68.alloc (.cells #[.slice a72 x0.low.length k73, .slice b74 x0.high.length m75] 33)) = W92 at *
  refine (toBox_new _ _ x1 _ (mono_box _ _ _ _ (Kept.below f86.out (Nat.le_refl _)) H1.out) hc1).mono ?_
  rintro e w93 ⟨F94, cc, rfl, oo, ndF94, loF94, b95⟩
  obtain ⟨a97, k98, b99, m100, hcc⟩ := box_form oo
  subst hcc
  have o96 := Lib.hid oo
  clear oo
  have f101 := Lib.hid (f86.out.trans (b95.mono f86.out.size))
  have f102 := Lib.hid (f87.out.on b95)
  have f103 := Lib.hid (f88.out.on b95)
  have f104 := Lib.hid (grow_of mono_boxO inside_box f89.out b95)
  have f105 := Lib.hid (p90.out.on b95)
  clear f86 f87 f88 f89 p90
  clear b95
  have q107 := f105.out.lt
  have q108 := f105.out.get 0 (.slice a72 x0.low.length k73) rfl
  have q109 := f105.out.get 1 (.slice b74 x0.high.length m75) rfl
  go_wp2_with fail
  clear q107 q108 q109
  have f110 := Lib.hid ((f101.out).alloc f101.out.size (.cells #[.slice a97 x1.low.length k98, .slice b99 x1.high.length m100] 33))
  have f111 := Lib.hid ((f102.out).alloc (.cells #[.slice a97 x1.low.length k98, .slice b99 x1.high.length m100] 33))
  have f112 := Lib.hid ((f103.out).alloc (.cells #[.slice a97 x1.low.length k98, .slice b99 x1.high.length m100] 33))
  have f113 := Lib.hid (grow_of mono_boxO inside_box (f104.out) ((Below.refl _ _).alloc (Nat.le_refl _) (.cells #[.slice a97 x1.low.length k98, .slice b99 x1.high.length m100] 33)))
  have f114 := Lib.hid ((f105.out).alloc (.cells #[.slice a97 x1.low.length k98, .slice b99 x1.high.length m100] 33))
  have f115 := Lib.hid (grow_of mono_boxO inside_box (o96.out) ((Below.refl _ _).alloc (Nat.le_refl _) (.cells #[.slice a97 x1.low.length k98, .slice b99 x1.high.length m100] 33)))
  clear f101 f102 f103 f104 f105 o96
  have p116 := Lib.hid (Blk.at_ (g := w93.heap.size) w93 33 #[.slice a97 x1.low.length k98, .slice b99 x1.high.length m100] rfl)
  generalize (w93.alloc (.cells #[.slice a97 x1.low.length k98, .slice b99 x1.high.length m100] 33)) = W118 at *
  refine (equalBoxes_impl _ _ _ _ _ _ _ (reads_box _ _ _ _ f113.out) (reads_box _ _ _ _ f115.out) ).mono ?_
  rintro e w119 ⟨rfl, bb⟩
  have f120 := Lib.hid (f110.out.trans (bb.mono f110.out.size))
  have f121 := Lib.hid (f111.out.on bb)
  have f122 := Lib.hid (f112.out.on bb)
  have f123 := Lib.hid (grow_of mono_boxO inside_box f113.out bb)
  have f124 := Lib.hid (f114.out.on bb)
  have f125 := Lib.hid (grow_of mono_boxO inside_box f115.out bb)
  have f126 := Lib.hid (p116.out.on bb)
  clear f110 f111 f112 f113 f114 f115 p116
  clear bb
  go_wp2_with fail
  have q127 := f121.out.lt
  have q128 := f121.out.get 0 (c0a) rfl
  have q129 := f121.out.get 1 (c0b) rfl
  have q130 := f124.out.lt
  have q131 := f124.out.get 0 (.slice a72 x0.low.length k73) rfl
  have q132 := f124.out.get 1 (.slice b74 x0.high.length m75) rfl
  go_region_held3 (fun w' => w'.cell? ⟨w.heap.size, 0, none⟩ = some (c0a) ∧ w'.cell? ⟨w.heap.size, 1, none⟩ = some (c0b) ∧ w'.cell? ⟨w68.heap.size, 0, none⟩ = some (.slice a72 x0.low.length k73) ∧ w'.cell? ⟨w68.heap.size, 1, none⟩ = some (.slice b74 x0.high.length m75))
    (first | exact ⟨q128, q129, q131, q132⟩ | exact ⟨keep_drew q128 b135, keep_drew q129 b135, keep_drew q131 b135, keep_drew q132 b135⟩ | exact ⟨keep_cell (keep_drew q128 b135) b142, keep_cell (keep_drew q129 b135) b142, keep_cell (keep_drew q131 b135) b142, keep_cell (keep_drew q132 b135) b142⟩)
    (first | (go_at_call 23; refine (toBox_new _ _ x0 _ (mono_box _ _ _ _ (Kept.below f120.out.drew (Nat.le_refl _)) H0.out) hc0).mono ?_; rintro e w133 ⟨F134, cc, rfl, oo, ndF134, loF134, b135⟩; obtain ⟨a137, k138, b139, m140, hcc⟩ := box_form oo; subst hcc; have o136 := Lib.hid oo; clear oo; clear ndF134 loF134) | (go_at_call 25; refine (eqBox_self _ _ _ _ x0 _ (reads_box _ _ _ _ (grow_drew mono_boxO inside_box f123.out b135)) (reads_box _ _ _ _ o136.out)).mono ?_; rintro e w141 ⟨rfl, b142⟩))
  have bb143 : Below w119.heap.size w119 w141 := ((Below.refl _ _).drew.trans b135).trans (b142.mono b135.size)
  clear b135 b142 o136
  clear q128 q129 q131 q132
  have f144 := Lib.hid (f120.out.trans (bb143.mono f120.out.size))
  have f145 := Lib.hid (f121.out.on bb143)
  have f146 := Lib.hid (f122.out.on bb143)
  have f147 := Lib.hid (grow_of mono_boxO inside_box f123.out bb143)
  have f148 := Lib.hid (f124.out.on bb143)
  have f149 := Lib.hid (grow_of mono_boxO inside_box f125.out bb143)
  have f150 := Lib.hid (f126.out.on bb143)
  clear f120 f121 f122 f123 f124 f125 f126
  clear bb143
  go_wp2_with fail
  have q151 := f146.out.lt
  have q152 := f146.out.get 0 (c1a) rfl
  have q153 := f146.out.get 1 (c1b) rfl
  have q154 := f150.out.lt
  have q155 := f150.out.get 0 (.slice a97 x1.low.length k98) rfl
  have q156 := f150.out.get 1 (.slice b99 x1.high.length m100) rfl
  go_region_held3 (fun w' => w'.cell? ⟨w.heap.size + 1, 0, none⟩ = some (c1a) ∧ w'.cell? ⟨w.heap.size + 1, 1, none⟩ = some (c1b) ∧ w'.cell? ⟨w93.heap.size, 0, none⟩ = some (.slice a97 x1.low.length k98) ∧ w'.cell? ⟨w93.heap.size, 1, none⟩ = some (.slice b99 x1.high.length m100))
    (first | exact ⟨q152, q153, q155, q156⟩ | exact ⟨keep_drew q152 b159, keep_drew q153 b159, keep_drew q155 b159, keep_drew q156 b159⟩ | exact ⟨keep_cell (keep_drew q152 b159) b166, keep_cell (keep_drew q153 b159) b166, keep_cell (keep_drew q155 b159) b166, keep_cell (keep_drew q156 b159) b166⟩)
    (first | (go_at_call 23; refine (toBox_new _ _ x1 _ (mono_box _ _ _ _ (Kept.below f144.out.drew (Nat.le_refl _)) H1.out) hc1).mono ?_; rintro e w157 ⟨F158, cc, rfl, oo, ndF158, loF158, b159⟩; obtain ⟨a161, k162, b163, m164, hcc⟩ := box_form oo; subst hcc; have o160 := Lib.hid oo; clear oo; clear ndF158 loF158) | (go_at_call 25; refine (eqBox_self _ _ _ _ x1 _ (reads_box _ _ _ _ (grow_drew mono_boxO inside_box f149.out b159)) (reads_box _ _ _ _ o160.out)).mono ?_; rintro e w165 ⟨rfl, b166⟩))
  have bb167 : Below w141.heap.size w141 w165 := ((Below.refl _ _).drew.trans b159).trans (b166.mono b159.size)
  clear b159 b166 o160
  clear q152 q153 q155 q156
  have f168 := Lib.hid (f144.out.trans (bb167.mono f144.out.size))
  have f169 := Lib.hid (f145.out.on bb167)
  have f170 := Lib.hid (f146.out.on bb167)
  have f171 := Lib.hid (grow_of mono_boxO inside_box f147.out bb167)
  have f172 := Lib.hid (f148.out.on bb167)
  have f173 := Lib.hid (grow_of mono_boxO inside_box f149.out bb167)
  have f174 := Lib.hid (f150.out.on bb167)
  clear f144 f145 f146 f147 f148 f149 f150
  clear bb167
  go_wp2_with fail
  go_ret
  exact ⟨rfl, f168.out⟩
end Go.Proofs.Ytacegpmgicebfaa.fnExactEqualBoxes
