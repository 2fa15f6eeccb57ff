/-
  The walk of FnExactOpenMasks.
-/
import Derived.Test.YtacegpmgicebfaaOpenM
import Derived.Test.YtacegpmgicebfaaBoxMark
namespace Go.Proofs.Ytacegpmgicebfaa.fnExactOpenMasks
open Go.ChangeShapes Go.WideShapes Go.ChangeAt Go.RowKit
set_option linter.unusedVariables false

set_option maxRecDepth 100000 in
set_option maxHeartbeats 3200000 in
theorem walk (w : World) (cs0 : Array Value) (x0 : BoxD) (h0 : BoxR w cs0.toList x0) :
    Calls Try.prog 13 #[.agg cs0] w fun e w' => e = .returned (.bool true) ∧ Below w.heap.size w w' := by
  obtain ⟨c0a, c0b, rfl, h0⟩ := box_cells h0
  have H0 := Lib.hid h0
  clear h0
  have b0 := Lib.hid (Below.refl w.heap.size w)
  go_enter Try.func13, Try.ntmps13
  go_wp2_with fail
  have f1 := Lib.hid ((b0.out).alloc b0.out.size (.cells #[c0a, c0b] 30))
  clear b0
  have p2 := Lib.hid (Blk.at_ (g := w.heap.size) w 30 #[c0a, c0b] rfl)
  generalize (w.alloc (.cells #[c0a, c0b] 30)) = W4 at *
  have s5 := Lib.hid (p2.out.lt)
  refine (szBox_any _ _ x0 (1048576) _ (mono_box _ _ _ _ (Kept.below f1.out (Nat.le_refl _)) H0.out) (by omega) (by omega)).mono ?_
  rintro e w6 ⟨rfl, bb⟩
  have s7 : Hid (W4.heap.size ≤ w6.heap.size) := bb.size
  have f8 := Lib.hid (f1.out.trans (bb.mono f1.out.size))
  have f9 := Lib.hid (p2.out.on bb)
  clear f1 p2
  clear bb
  rcases Int.lt_or_le (1048576) (x0.count) with hs0 | hs0
  · rw [szStep_no (by omega)]
    go_wp2_with fail
    go_ret
    exact ⟨rfl, f8.out⟩
  rw [szStep_yes (by omega)]
  have hc0 : x0.count ≤ 1048576 := by omega
  have q10 := f9.out.lt
  have q11 := f9.out.get 0 (c0a) rfl
  have q12 := f9.out.get 1 (c0b) rfl
  go_wp2_with fail
  clear q10 q11 q12
  refine (toBox_new _ _ x0 _ (mono_box _ _ _ _ (Kept.below f8.out (Nat.le_refl _)) H0.out) hc0).mono ?_
  rintro e w13 ⟨F14, cc, rfl, oo, ndF14, loF14, b15⟩
  obtain ⟨a17, k18, b19, m20, hcc⟩ := box_form oo
  subst hcc
  have o16 := Lib.hid oo
  have NF14 := Lib.hid ndF14
  have LF14 := Lib.hid loF14
  have IF14 := Lib.hid (inside_box _ _ _ _ oo)
  clear oo ndF14 loF14
  have s21 : Hid (w6.heap.size ≤ w13.heap.size) := b15.size
  have f22 := Lib.hid (f8.out.trans (b15.mono f8.out.size))
  have f23 := Lib.hid (f9.out.on b15)
  clear f8 f9
  clear b15
  go_wp2_with fail
  refine (openMasks_spec _ _ _ _ (reads_box _ _ _ _ o16.out) ).mono ?_
  rintro e w25 ⟨F27, a29, k30, rfl, oo, ndF27, loF27, b26⟩
  have o28 := Lib.hid oo
  have NF27 := Lib.hid ndF27
  have LF27 := Lib.hid loF27
  have IF27 := Lib.hid (inside_intsO _ _ _ _ oo)
  clear oo ndF27 loF27
  have s31 : Hid (w13.heap.size ≤ w25.heap.size) := b26.size
  have f32 := Lib.hid (f22.out.trans (b26.mono f22.out.size))
  have f33 := Lib.hid (f23.out.on b26)
  clear f22 f23
  clear b26
  have q35 := f33.out.lt
  have q36 := f33.out.get 0 (c0a) rfl
  have q37 := f33.out.get 1 (c0b) rfl
  go_wp2_with fail
  clear q35 q36 q37
  refine (toBox_new _ _ x0 _ (mono_box _ _ _ _ (Kept.below f32.out (Nat.le_refl _)) H0.out) hc0).mono ?_
  rintro e w38 ⟨F39, cc, rfl, oo, ndF39, loF39, b40⟩
  obtain ⟨a42, k43, b44, m45, hcc⟩ := box_form oo
  subst hcc
  have o41 := Lib.hid oo
  have NF39 := Lib.hid ndF39
  have LF39 := Lib.hid loF39
  have IF39 := Lib.hid (inside_box _ _ _ _ oo)
  clear oo ndF39 loF39
  have s46 : Hid (w25.heap.size ≤ w38.heap.size) := b40.size
  have f47 := Lib.hid (f32.out.trans (b40.mono f32.out.size))
  have f48 := Lib.hid (f33.out.on b40)
  have f49 := Lib.hid (grow_of mono_intsO inside_intsO o28.out b40)
  clear f32 f33 o28
  clear b40
  go_wp2_with fail
  have f51 := Lib.hid ((f47.out).alloc f47.out.size (.cells #[.slice a42 x0.low.length k43, .slice b44 x0.high.length m45] 33))
  have f52 := Lib.hid ((f48.out).alloc (.cells #[.slice a42 x0.low.length k43, .slice b44 x0.high.length m45] 33))
  have f53 := Lib.hid (grow_of mono_intsO inside_intsO (f49.out) ((Below.refl _ _).alloc (Nat.le_refl _) (.cells #[.slice a42 x0.low.length k43, .slice b44 x0.high.length m45] 33)))
  have f54 := Lib.hid (grow_of mono_boxO inside_box (o41.out) ((Below.refl _ _).alloc (Nat.le_refl _) (.cells #[.slice a42 x0.low.length k43, .slice b44 x0.high.length m45] 33)))
  clear f47 f48 f49 o41
  have p55 := Lib.hid (Blk.at_ (g := w38.heap.size) w38 33 #[.slice a42 x0.low.length k43, .slice b44 x0.high.length m45] rfl)
  generalize (w38.alloc (.cells #[.slice a42 x0.low.length k43, .slice b44 x0.high.length m45] 33)) = W57 at *
  have s58 := Lib.hid (p55.out.lt)
  refine (openMasks_impl _ _ _ _ (reads_box _ _ _ _ f54.out) ).mono ?_
  rintro e w59 ⟨F61, a63, k64, rfl, oo, ndF61, loF61, b60⟩
  have o62 := Lib.hid oo
  have NF61 := Lib.hid ndF61
  have LF61 := Lib.hid loF61
  have IF61 := Lib.hid (inside_intsO _ _ _ _ oo)
  clear oo ndF61 loF61
  have s65 : Hid (W57.heap.size ≤ w59.heap.size) := b60.size
  have f66 := Lib.hid (f51.out.trans (b60.mono f51.out.size))
  have f67 := Lib.hid (f52.out.on b60)
  have f68 := Lib.hid (grow_of mono_intsO inside_intsO f53.out b60)
  have f69 := Lib.hid (grow_of mono_boxO inside_box f54.out b60)
  have f70 := Lib.hid (p55.out.on b60)
  clear f51 f52 f53 f54 p55
  clear b60
  go_wp2_with fail
  refine (eqIntS_self _ _ (openM x0) _ (reads_ints _ _ _ _ o62.out) (reads_ints _ _ _ _ f68.out)).mono ?_
  rintro e w72 ⟨rfl, bb⟩
  have s73 : Hid (w59.heap.size ≤ w72.heap.size) := bb.size
  have f74 := Lib.hid (f66.out.trans (bb.mono f66.out.size))
  have f75 := Lib.hid (f67.out.on bb)
  have f76 := Lib.hid (grow_of mono_intsO inside_intsO f68.out bb)
  have f77 := Lib.hid (grow_of mono_boxO inside_box f69.out bb)
  have f78 := Lib.hid (f70.out.on bb)
  have f79 := Lib.hid (grow_of mono_intsO inside_intsO o62.out bb)
  clear f66 f67 f68 f69 f70 o62
  clear bb
  go_wp2_with fail
  have q80 := f75.out.lt
  have q81 := f75.out.get 0 (c0a) rfl
  have q82 := f75.out.get 1 (c0b) rfl
  have q83 := f78.out.lt
  have q84 := f78.out.get 0 (.slice a42 x0.low.length k43) rfl
  have q85 := f78.out.get 1 (.slice b44 x0.high.length m45) rfl
  go_region_held3 (fun w' => w'.cell? ⟨w.heap.size, 0, none⟩ = some (c0a) ∧ w'.cell? ⟨w.heap.size, 1, none⟩ = some (c0b) ∧ w'.cell? ⟨w38.heap.size, 0, none⟩ = some (.slice a42 x0.low.length k43) ∧ w'.cell? ⟨w38.heap.size, 1, none⟩ = some (.slice b44 x0.high.length m45))
    (first | exact ⟨q81, q82, q84, q85⟩ | exact ⟨keep_drew q81 b88, keep_drew q82 b88, keep_drew q84 b88, keep_drew q85 b88⟩ | exact ⟨keep_cell (keep_drew q81 b88) b95, keep_cell (keep_drew q82 b88) b95, keep_cell (keep_drew q84 b88) b95, keep_cell (keep_drew q85 b88) b95⟩)
    (first | (go_at_call 23; refine (toBox_new _ _ x0 _ (mono_box _ _ _ _ (Kept.below f74.out.drew (Nat.le_refl _)) H0.out) hc0).mono ?_; rintro e w86 ⟨F87, cc, rfl, oo, ndF87, loF87, b88⟩; obtain ⟨a90, k91, b92, m93, hcc⟩ := box_form oo; subst hcc; have o89 := Lib.hid oo; have NF87 := Lib.hid ndF87; have LF87 := Lib.hid loF87; have IF87 := Lib.hid (inside_box _ _ _ _ oo); clear oo ndF87 loF87) | (go_at_call 25; refine (eqBox_self _ _ _ _ x0 _ (reads_box _ _ _ _ (grow_drew mono_boxO inside_box f77.out b88)) (reads_box _ _ _ _ o89.out)).mono ?_; rintro e w94 ⟨rfl, b95⟩))
  have bb96 : Below w72.heap.size w72 w94 := ((Below.refl _ _).drew.trans b88).trans (b95.mono b88.size)
  clear b88 b95 o89
  clear q81 q82 q84 q85
  have s97 : Hid (w72.heap.size ≤ w94.heap.size) := bb96.size
  have f98 := Lib.hid (f74.out.trans (bb96.mono f74.out.size))
  have f99 := Lib.hid (f75.out.on bb96)
  have f100 := Lib.hid (grow_of mono_intsO inside_intsO f76.out bb96)
  have f101 := Lib.hid (grow_of mono_boxO inside_box f77.out bb96)
  have f102 := Lib.hid (f78.out.on bb96)
  have f103 := Lib.hid (grow_of mono_intsO inside_intsO f79.out bb96)
  clear f74 f75 f76 f77 f78 f79
  clear bb96
  go_wp2_with fail
  refine (markBox_own _ _ x0 F39 (1) _ f101.out NF39.out (by omega) (by have := hc0; omega)).mono ?_
  rintro e w104 ⟨rfl, oo, uu⟩
  clear oo
  have s105 : Hid (w94.heap.size ≤ w104.heap.size) := uu.size
  have f106 := Lib.hid (f98.out.trans (uu.below (fun g hg => by have := LF39.out g hg; have := f98.out.size; have := s5.out; have := s7.out; have := s21.out; have := s31.out; have := s46.out; have := s58.out; have := s65.out; have := s73.out; have := s97.out; omega) f98.out.size))
  have f107 := Lib.hid (f99.out.only uu (fun hm => by have := LF39.out _ hm; have := IF39.out _ hm; have := s5.out; have := s7.out; have := s21.out; have := s31.out; have := s46.out; have := s58.out; have := s65.out; have := s73.out; have := s97.out; omega))
  have f108 := Lib.hid (only_of mono_intsO f100.out uu (fun g hg => ⟨inside_intsO _ _ _ _ f100.out g hg, fun hm => by have := LF39.out g hm; have := IF39.out g hm; have := LF27.out g hg; have := IF27.out g hg; have := s5.out; have := s7.out; have := s21.out; have := s31.out; have := s46.out; have := s58.out; have := s65.out; have := s73.out; have := s97.out; omega⟩))
  have f109 := Lib.hid (f102.out.only uu (fun hm => by have := LF39.out _ hm; have := IF39.out _ hm; have := s5.out; have := s7.out; have := s21.out; have := s31.out; have := s46.out; have := s58.out; have := s65.out; have := s73.out; have := s97.out; omega))
  have f110 := Lib.hid (only_of mono_intsO f103.out uu (fun g hg => ⟨inside_intsO _ _ _ _ f103.out g hg, fun hm => by have := LF39.out g hm; have := IF39.out g hm; have := LF61.out g hg; have := IF61.out g hg; have := s5.out; have := s7.out; have := s21.out; have := s31.out; have := s46.out; have := s58.out; have := s65.out; have := s73.out; have := s97.out; omega⟩))
  clear f98 f99 f100 f102 f103
  clear uu
  go_wp2_with fail
  refine (eqIntS_self _ _ (openM x0) _ (reads_ints _ _ _ _ f110.out) (reads_ints _ _ _ _ f108.out)).mono ?_
  rintro e w111 ⟨rfl, bb⟩
  have s112 : Hid (w104.heap.size ≤ w111.heap.size) := bb.size
  have f113 := Lib.hid (f106.out.trans (bb.mono f106.out.size))
  have f114 := Lib.hid (f107.out.on bb)
  have f115 := Lib.hid (grow_of mono_intsO inside_intsO f108.out bb)
  have f116 := Lib.hid (f109.out.on bb)
  have f117 := Lib.hid (grow_of mono_intsO inside_intsO f110.out bb)
  clear f106 f107 f108 f109 f110
  clear bb
  go_wp2_with fail
  have hbR : 1 + ((openM x0).length : Int) ≤ 4611686018427387904 := by have := openM_len x0; omega
  refine (markIntS_own _ (openM x0) F61 1 _ f117.out (by omega) (by omega)).mono ?_
  rintro e w118 ⟨rfl, oo, uu⟩
  have o119 := Lib.hid oo
  clear oo
  have s120 : Hid (w111.heap.size ≤ w118.heap.size) := uu.size
  have f121 := Lib.hid (f113.out.trans (uu.below (fun g hg => by have := LF61.out g hg; have := f113.out.size; have := s5.out; have := s7.out; have := s21.out; have := s31.out; have := s46.out; have := s58.out; have := s65.out; have := s73.out; have := s97.out; have := s105.out; have := s112.out; omega) f113.out.size))
  have f122 := Lib.hid (f114.out.only uu (fun hm => by have := LF61.out _ hm; have := IF61.out _ hm; have := s5.out; have := s7.out; have := s21.out; have := s31.out; have := s46.out; have := s58.out; have := s65.out; have := s73.out; have := s97.out; have := s105.out; have := s112.out; omega))
  have f123 := Lib.hid (only_of mono_intsO f115.out uu (fun g hg => ⟨inside_intsO _ _ _ _ f115.out g hg, fun hm => by have := LF61.out g hm; have := IF61.out g hm; have := LF27.out g hg; have := IF27.out g hg; have := s5.out; have := s7.out; have := s21.out; have := s31.out; have := s46.out; have := s58.out; have := s65.out; have := s73.out; have := s97.out; have := s105.out; have := s112.out; omega⟩))
  have f124 := Lib.hid (f116.out.only uu (fun hm => by have := LF61.out _ hm; have := IF61.out _ hm; have := s5.out; have := s7.out; have := s21.out; have := s31.out; have := s46.out; have := s58.out; have := s65.out; have := s73.out; have := s97.out; have := s105.out; have := s112.out; omega))
  clear f113 f114 f115 f116
  clear uu
  go_wp2_with fail
  refine (heldIntS_own _ (openM x0) 1 _ (reads_ints _ _ _ _ o119.out) (by omega) (by omega)).mono ?_
  rintro e w125 ⟨rfl, bb⟩
  have s126 : Hid (w118.heap.size ≤ w125.heap.size) := bb.size
  have f127 := Lib.hid (f121.out.trans (bb.mono f121.out.size))
  have f128 := Lib.hid (f122.out.on bb)
  have f129 := Lib.hid (grow_of mono_intsO inside_intsO f123.out bb)
  have f130 := Lib.hid (f124.out.on bb)
  have f131 := Lib.hid (grow_of mono_intsO inside_intsO o119.out bb)
  clear f121 f122 f123 f124 o119
  clear bb
  have q132 := f128.out.lt
  have q133 := f128.out.get 0 (c0a) rfl
  have q134 := f128.out.get 1 (c0b) rfl
  go_wp2_with fail
  clear q132 q133 q134
  refine (toBox_new _ _ x0 _ (mono_box _ _ _ _ (Kept.below f127.out (Nat.le_refl _)) H0.out) hc0).mono ?_
  rintro e w135 ⟨F136, cc, rfl, oo, ndF136, loF136, b137⟩
  obtain ⟨a139, k140, b141, m142, hcc⟩ := box_form oo
  subst hcc
  have o138 := Lib.hid oo
  have NF136 := Lib.hid ndF136
  have LF136 := Lib.hid loF136
  have IF136 := Lib.hid (inside_box _ _ _ _ oo)
  clear oo ndF136 loF136
  have s143 : Hid (w125.heap.size ≤ w135.heap.size) := b137.size
  have f144 := Lib.hid (f127.out.trans (b137.mono f127.out.size))
  have f145 := Lib.hid (f128.out.on b137)
  have f146 := Lib.hid (grow_of mono_intsO inside_intsO f129.out b137)
  have f147 := Lib.hid (f130.out.on b137)
  have f148 := Lib.hid (grow_of mono_intsO inside_intsO f131.out b137)
  clear f127 f128 f129 f130 f131
  clear b137
  go_wp2_with fail
  refine (openMasks_impl _ _ _ _ (reads_box _ _ _ _ o138.out) ).mono ?_
  rintro e w150 ⟨F152, a154, k155, rfl, oo, ndF152, loF152, b151⟩
  have o153 := Lib.hid oo
  have NF152 := Lib.hid ndF152
  have LF152 := Lib.hid loF152
  have IF152 := Lib.hid (inside_intsO _ _ _ _ oo)
  clear oo ndF152 loF152
  have s156 : Hid (w135.heap.size ≤ w150.heap.size) := b151.size
  have f157 := Lib.hid (f144.out.trans (b151.mono f144.out.size))
  have f158 := Lib.hid (f145.out.on b151)
  have f159 := Lib.hid (grow_of mono_intsO inside_intsO f146.out b151)
  have f160 := Lib.hid (f147.out.on b151)
  have f161 := Lib.hid (grow_of mono_intsO inside_intsO f148.out b151)
  clear f144 f145 f146 f147 f148
  clear b151
  go_wp2_with fail
  refine (eqIntS_self _ _ (openM x0) _ (reads_ints _ _ _ _ o153.out) (reads_ints _ _ _ _ f159.out)).mono ?_
  rintro e w163 ⟨rfl, bb⟩
  have s164 : Hid (w150.heap.size ≤ w163.heap.size) := bb.size
  have f165 := Lib.hid (f157.out.trans (bb.mono f157.out.size))
  have f166 := Lib.hid (f158.out.on bb)
  have f167 := Lib.hid (grow_of mono_intsO inside_intsO f159.out bb)
  have f168 := Lib.hid (f160.out.on bb)
  have f169 := Lib.hid (grow_of mono_intsO inside_intsO f161.out bb)
  have f170 := Lib.hid (grow_of mono_intsO inside_intsO o153.out bb)
  clear f157 f158 f159 f160 f161 o153
  clear bb
  go_wp2_with fail
  refine (heldIntS_own _ (openM x0) 1 _ (reads_ints _ _ _ _ f169.out) (by omega) (by omega)).mono ?_
  rintro e w171 ⟨rfl, bb⟩
  have s172 : Hid (w163.heap.size ≤ w171.heap.size) := bb.size
  have f173 := Lib.hid (f165.out.trans (bb.mono f165.out.size))
  have f174 := Lib.hid (f166.out.on bb)
  have f175 := Lib.hid (grow_of mono_intsO inside_intsO f167.out bb)
  have f176 := Lib.hid (f168.out.on bb)
  have f177 := Lib.hid (grow_of mono_intsO inside_intsO f169.out bb)
  have f178 := Lib.hid (grow_of mono_intsO inside_intsO f170.out bb)
  clear f165 f166 f167 f168 f169 f170
  clear bb
  go_wp2_with fail
  go_ret
  exact ⟨rfl, f173.out⟩
end Go.Proofs.Ytacegpmgicebfaa.fnExactOpenMasks
