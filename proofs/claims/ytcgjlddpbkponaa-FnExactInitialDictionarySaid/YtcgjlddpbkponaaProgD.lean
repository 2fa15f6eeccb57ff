/-
  Linear programs: how they read; copying, comparing, sizes.
-/
import Derived.Test.YtcgjlddpbkponaaIntRows
namespace Go.Proofs.Ytcgjlddpbkponaa
open Go.ChangeShapes Go.WideShapes Go.ChangeAt Go.RowKit
structure ProgramD where
  objective : List Int
  rows : List (List Int)
  limits : List Int
def ProgramR : Rd ProgramD := fun w cs x => ∃ c0 c1 c2, cs = [c0, c1, c2] ∧ SliceR 1 IntR w [c0] x.objective ∧ SliceR 1 (SliceR 1 IntR) w [c1] x.rows ∧ SliceR 1 IntR w [c2] x.limits
def ProgramO : Od ProgramD := fun w F cs x => ∃ F0 F1 F2 c0 c1 c2, F = F0 ++ (F1 ++ F2) ∧ cs = [c0, c1, c2] ∧ IntsO w F0 [c0] x.objective ∧ SliceO 22 1 IntsO w F1 [c1] x.rows ∧ IntsO w F2 [c2] x.limits
theorem mono_program : Mono ProgramR := by
  rintro w w' cs x hk ⟨c0, c1, c2, rfl, h0, h1, h2⟩
  exact ⟨c0, c1, c2, rfl, (mono_slice mono_int) _ _ _ _ hk h0, (mono_slice (mono_slice mono_int)) _ _ _ _ hk h1, (mono_slice mono_int) _ _ _ _ hk h2⟩
theorem mono_programO : MonoO ProgramO := by
  rintro w w' F cs x hk ⟨F0, F1, F2, c0, c1, c2, rfl, rfl, h0, h1, h2⟩
  exact ⟨F0, F1, F2, c0, c1, c2, rfl, rfl, mono_intsO _ _ _ _ _ (hk.mono fun g hg => by simp [hg]) h0, (mono_sliceO mono_intsO) _ _ _ _ _ (hk.mono fun g hg => by simp [hg]) h1, mono_intsO _ _ _ _ _ (hk.mono fun g hg => by simp [hg]) h2⟩
theorem reads_program : Reads ProgramO ProgramR := by
  rintro w F cs x ⟨F0, F1, F2, c0, c1, c2, rfl, rfl, h0, h1, h2⟩
  exact ⟨c0, c1, c2, rfl, reads_ints _ _ _ _ h0, (reads_slice reads_ints) _ _ _ _ h1, reads_ints _ _ _ _ h2⟩
theorem inside_program : Inside ProgramO := by
  rintro w F cs x ⟨F0, F1, F2, c0, c1, c2, rfl, rfl, h0, h1, h2⟩ g hg
  simp only [List.mem_append] at hg
  rcases hg with hg | hg | hg
  · exact inside_intsO _ _ _ _ h0 g hg
  · exact (inside_sliceO inside_intsO) _ _ _ _ h1 g hg
  · exact inside_intsO _ _ _ _ h2 g hg
section
variable {H : Type} {enc : TypeId × Value → H} {w : World} {base : Nat} {spare : Nat → Bool} {held : Bool}
set_option maxRecDepth 100000 in
theorem open_program {fuel : Nat} {cs : List Value} {x : DataW H × List MemPlace} (h : DataW.trod enc Try.prog w base spare held fuel 25 cs = some x) : ∃ b, ProgramR w cs b := by
  obtain ⟨xs, n, _, _, hl, hxl, hf⟩ := DataW.trod_struct Try.underlying25 h
  have hl2 : cs.length = 3 := hl.trans (by kernel_rfl)
  match cs, hl2 with
  | [c0, c1, c2], _ =>
    match xs, hxl with
    | [y0, y1, y2], _ =>
      obtain ⟨l0, r0⟩ := open_ints (hf 0 _ rfl)
      obtain ⟨l1, r1⟩ := open_IntSS (hf 1 _ rfl)
      obtain ⟨l2, r2⟩ := open_ints (hf 2 _ rfl)
      exact ⟨⟨l0, l1, l2⟩, c0, c1, c2, rfl, r0, r1, r2⟩
end
theorem program_form {w : World} {F : List Nat} {cs : Array Value} {x : ProgramD} (h : ProgramO w F cs.toList x) : ∃ a0 k0 a1 k1 a2 k2, cs = #[.slice a0 x.objective.length k0, .slice a1 x.rows.length k1, .slice a2 x.limits.length k2] := by
  obtain ⟨F0, F1, F2, c0, c1, c2, _, hcs, h0, h1, h2⟩ := h
  obtain ⟨l⟩ := cs
  simp only at hcs
  subst hcs
  obtain ⟨a0, k0, z0⟩ := ints_shape h0
  subst z0
  obtain ⟨a1, k1, z1⟩ := slice_shape h1
  subst z1
  obtain ⟨a2, k2, z2⟩ := ints_shape h2
  subst z2
  exact ⟨a0, k0, a1, k1, a2, k2, rfl⟩
theorem program_cells {w : World} {cs : Array Value} {x : ProgramD} (h : ProgramR w cs.toList x) : ∃ c0 c1 c2, cs = #[c0, c1, c2] ∧ ProgramR w [c0, c1, c2] x := by
  obtain ⟨c0, c1, c2, hcs, h0, h1, h2⟩ := h
  obtain ⟨l⟩ := cs
  simp only at hcs
  subst hcs
  exact ⟨_, _, _, rfl, c0, c1, c2, rfl, h0, h1, h2⟩
def ProgramD.count (x : ProgramD) : Nat := x.objective.length + cntL List.length x.rows + x.limits.length
set_option maxRecDepth 100000 in
set_option maxHeartbeats 1600000 in
theorem toProgram_new (c0 c1 c2 : Value) (x : ProgramD) (w : World) (h : ProgramR w [c0, c1, c2] x) (hc : x.count ≤ 1048576) : Calls Try.prog 17 #[.agg #[c0, c1, c2]] w (NewA ProgramO w x) := by
  obtain ⟨_, _, _, hcs, h_0, h_1, h_2⟩ := h
  simp only [List.cons.injEq, and_true] at hcs
  obtain ⟨rfl, rfl, rfl⟩ := hcs
  have H0 := Lib.hid h_0
  clear h_0
  have H1 := Lib.hid h_1
  clear h_1
  have H2 := Lib.hid h_2
  clear h_2
  unfold ProgramD.count at hc
  go_enter Try.func17, Try.ntmps17
  go_wp2_with fail
  have b0 := Lib.hid (Below.refl w.heap.size w)
  have f1 := Lib.hid ((((b0.out).alloc b0.out.size (.cells #[c0, c1, c2] 25)).alloc (Nat.le_trans b0.out.size (by simp)) (.cells #[.slice none 0 0, .slice none 0 0, .slice none 0 0] 28)).alloc (Nat.le_trans b0.out.size (by simp; try omega)) (.cells #[.slice none 0 0, .slice none 0 0, .slice none 0 0] 28))
  clear b0
  have p2 := Lib.hid (((Blk.at_ (g := w.heap.size) w 25 #[c0, c1, c2] rfl).alloc (.cells #[.slice none 0 0, .slice none 0 0, .slice none 0 0] 28)).alloc (.cells #[.slice none 0 0, .slice none 0 0, .slice none 0 0] 28))
  have p4 := Lib.hid ((Blk.at_ (g := w.heap.size + 1) (w.alloc (.cells #[c0, c1, c2] 25)) 28 #[.slice none 0 0, .slice none 0 0, .slice none 0 0] (by simp)).alloc (.cells #[.slice none 0 0, .slice none 0 0, .slice none 0 0] 28))
  have p6 := Lib.hid (Blk.at_ (g := w.heap.size + 1 + 1) ((w.alloc (.cells #[c0, c1, c2] 25)).alloc (.cells #[.slice none 0 0, .slice none 0 0, .slice none 0 0] 28)) 28 #[.slice none 0 0, .slice none 0 0, .slice none 0 0] (by simp))
  generalize (((w.alloc (.cells #[c0, c1, c2] 25)).alloc (.cells #[.slice none 0 0, .slice none 0 0, .slice none 0 0] 28)).alloc (.cells #[.slice none 0 0, .slice none 0 0, .slice none 0 0] 28)) = W8 at *
  have s9 := Lib.hid (p2.out.lt)
  have s10 := Lib.hid (p4.out.lt)
  have s11 := Lib.hid (p6.out.lt)
  refine (toIntS_new _ x.objective _ ((mono_slice mono_int) _ _ _ _ (Kept.below f1.out (Nat.le_refl _)) H0.out) (by omega)).mono ?_
  rintro e w12 ⟨F13, av16, kv16, rfl, oo, nd, lo, b14⟩
  have o15 := Lib.hid oo
  have NF13 := Lib.hid nd
  have LF13 := Lib.hid lo
  have IF13 := Lib.hid (inside_intsO _ _ _ _ oo)
  have GF13 := Lib.hid (fun g (hg : g ∈ F13) => Nat.lt_of_lt_of_le p6.out.lt (lo g hg))
  clear oo nd lo
  have s17 : Hid (W8.heap.size ≤ w12.heap.size) := b14.size
  have f18 := Lib.hid (f1.out.trans (b14.mono f1.out.size))
  have f19 := Lib.hid (p2.out.on b14)
  have f20 := Lib.hid (p4.out.on b14)
  have f21 := Lib.hid (p6.out.on b14)
  clear f1 p2 p4 p6
  clear b14
  have q23 := f19.out.lt
  have q24 := f19.out.get 0 (c0) rfl
  have q25 := f19.out.get 1 (c1) rfl
  have q26 := f19.out.get 2 (c2) rfl
  have q27 := f20.out.lt
  have q28 := f20.out.get 0 (.slice none 0 0) rfl
  have q29 := f20.out.get 1 (.slice none 0 0) rfl
  have q30 := f20.out.get 2 (.slice none 0 0) rfl
  have q31 := f21.out.lt
  have q32 := f21.out.get 0 (.slice none 0 0) rfl
  have q33 := f21.out.get 1 (.slice none 0 0) rfl
  have q34 := f21.out.get 2 (.slice none 0 0) rfl
  have q35 := f20.out.frozen 0
  have q36 := f20.out.frozen 1
  have q37 := f20.out.frozen 2
  have q38 := f21.out.frozen 0
  have q39 := f21.out.frozen 1
  have q40 := f21.out.frozen 2
  go_wp2_with fail
  clear q23 q24 q25 q26 q27 q28 q29 q30 q31 q32 q33 q34 q35 q36 q37 q38 q39 q40
  have f41 := Lib.hid ((f18.out).setCell (p := ⟨w.heap.size + 1 + 1, 0, none⟩) (by show _ ≤ w.heap.size + 1 + 1; omega) (.slice av16 x.objective.length kv16))
  have f42 := Lib.hid ((f19.out).far (p := ⟨w.heap.size + 1 + 1, 0, none⟩) (by show _ ≠ w.heap.size + 1 + 1; omega) (.slice av16 x.objective.length kv16))
  have f43 := Lib.hid ((f20.out).far (p := ⟨w.heap.size + 1 + 1, 0, none⟩) (by show _ ≠ w.heap.size + 1 + 1; omega) (.slice av16 x.objective.length kv16))
  have f44 := Lib.hid ((f21.out).store 0 (.slice av16 x.objective.length kv16))
  have f45 := Lib.hid (far_of mono_intsO (o15.out) (p := ⟨w.heap.size + 1 + 1, 0, none⟩) (fun g hg => by have := GF13.out g hg; show w.heap.size + 1 + 1 < g; omega) (.slice av16 x.objective.length kv16))
  clear f18 f19 f20 f21 o15
  have s47 : Hid (w12.heap.size ≤ (w12.setCell ⟨w.heap.size + 1 + 1, 0, none⟩ (.slice av16 x.objective.length kv16)).heap.size) := by show _ ≤ _; simp [World.setCell]
  generalize (w12.setCell ⟨w.heap.size + 1 + 1, 0, none⟩ (.slice av16 x.objective.length kv16)) = W46 at *
  refine (toIntSS_new _ x.rows _ ((mono_slice (mono_slice mono_int)) _ _ _ _ (Kept.below f41.out (Nat.le_refl _)) H1.out) (by omega)).mono ?_
  rintro e w48 ⟨F49, av52, kv52, rfl, oo, nd, lo, b50⟩
  have o51 := Lib.hid oo
  have NF49 := Lib.hid nd
  have LF49 := Lib.hid lo
  have IF49 := Lib.hid ((inside_sliceO inside_intsO) _ _ _ _ oo)
  have GF49 := Lib.hid (fun g (hg : g ∈ F49) => Nat.lt_of_lt_of_le f44.out.lt (lo g hg))
  clear oo nd lo
  have s53 : Hid (W46.heap.size ≤ w48.heap.size) := b50.size
  have f54 := Lib.hid (f41.out.trans (b50.mono f41.out.size))
  have f55 := Lib.hid (f42.out.on b50)
  have f56 := Lib.hid (f43.out.on b50)
  have f57 := Lib.hid (f44.out.on b50)
  have f58 := Lib.hid (grow_of mono_intsO inside_intsO f45.out b50)
  clear f41 f42 f43 f44 f45
  clear b50
  have q60 := f55.out.lt
  have q61 := f55.out.get 0 (c0) rfl
  have q62 := f55.out.get 1 (c1) rfl
  have q63 := f55.out.get 2 (c2) rfl
  have q64 := f56.out.lt
  have q65 := f56.out.get 0 (.slice none 0 0) rfl
  have q66 := f56.out.get 1 (.slice none 0 0) rfl
  have q67 := f56.out.get 2 (.slice none 0 0) rfl
  have q68 := f57.out.lt
  have q69 := f57.out.get 0 (.slice av16 x.objective.length kv16) rfl
  have q70 := f57.out.get 1 (.slice none 0 0) rfl
  have q71 := f57.out.get 2 (.slice none 0 0) rfl
  have q72 := f56.out.frozen 0
  have q73 := f56.out.frozen 1
  have q74 := f56.out.frozen 2
  have q75 := f57.out.frozen 0
  have q76 := f57.out.frozen 1
  have q77 := f57.out.frozen 2
  go_wp2_with fail
  clear q60 q61 q62 q63 q64 q65 q66 q67 q68 q69 q70 q71 q72 q73 q74 q75 q76 q77
  have f78 := Lib.hid ((f54.out).setCell (p := ⟨w.heap.size + 1 + 1, 1, none⟩) (by show _ ≤ w.heap.size + 1 + 1; omega) (.slice av52 x.rows.length kv52))
  have f79 := Lib.hid ((f55.out).far (p := ⟨w.heap.size + 1 + 1, 1, none⟩) (by show _ ≠ w.heap.size + 1 + 1; omega) (.slice av52 x.rows.length kv52))
  have f80 := Lib.hid ((f56.out).far (p := ⟨w.heap.size + 1 + 1, 1, none⟩) (by show _ ≠ w.heap.size + 1 + 1; omega) (.slice av52 x.rows.length kv52))
  have f81 := Lib.hid ((f57.out).store 1 (.slice av52 x.rows.length kv52))
  have f82 := Lib.hid (far_of mono_intsO (f58.out) (p := ⟨w.heap.size + 1 + 1, 1, none⟩) (fun g hg => by have := GF13.out g hg; show w.heap.size + 1 + 1 < g; omega) (.slice av52 x.rows.length kv52))
  have f83 := Lib.hid (far_of (mono_sliceO mono_intsO) (o51.out) (p := ⟨w.heap.size + 1 + 1, 1, none⟩) (fun g hg => by have := GF49.out g hg; show w.heap.size + 1 + 1 < g; omega) (.slice av52 x.rows.length kv52))
  clear f54 f55 f56 f57 f58 o51
  have s85 : Hid (w48.heap.size ≤ (w48.setCell ⟨w.heap.size + 1 + 1, 1, none⟩ (.slice av52 x.rows.length kv52)).heap.size) := by show _ ≤ _; simp [World.setCell]
  generalize (w48.setCell ⟨w.heap.size + 1 + 1, 1, none⟩ (.slice av52 x.rows.length kv52)) = W84 at *
  refine (toIntS_new _ x.limits _ ((mono_slice mono_int) _ _ _ _ (Kept.below f78.out (Nat.le_refl _)) H2.out) (by omega)).mono ?_
  rintro e w86 ⟨F87, av90, kv90, rfl, oo, nd, lo, b88⟩
  have o89 := Lib.hid oo
  have NF87 := Lib.hid nd
  have LF87 := Lib.hid lo
  have IF87 := Lib.hid (inside_intsO _ _ _ _ oo)
  have GF87 := Lib.hid (fun g (hg : g ∈ F87) => Nat.lt_of_lt_of_le f81.out.lt (lo g hg))
  clear oo nd lo
  have s91 : Hid (W84.heap.size ≤ w86.heap.size) := b88.size
  have f92 := Lib.hid (f78.out.trans (b88.mono f78.out.size))
  have f93 := Lib.hid (f79.out.on b88)
  have f94 := Lib.hid (f80.out.on b88)
  have f95 := Lib.hid (f81.out.on b88)
  have f96 := Lib.hid (grow_of mono_intsO inside_intsO f82.out b88)
  have f97 := Lib.hid (grow_of (mono_sliceO mono_intsO) (inside_sliceO inside_intsO) f83.out b88)
  clear f78 f79 f80 f81 f82 f83
  clear b88
  have q99 := f93.out.lt
  have q100 := f93.out.get 0 (c0) rfl
  have q101 := f93.out.get 1 (c1) rfl
  have q102 := f93.out.get 2 (c2) rfl
  have q103 := f94.out.lt
  have q104 := f94.out.get 0 (.slice none 0 0) rfl
  have q105 := f94.out.get 1 (.slice none 0 0) rfl
  have q106 := f94.out.get 2 (.slice none 0 0) rfl
  have q107 := f95.out.lt
  have q108 := f95.out.get 0 (.slice av16 x.objective.length kv16) rfl
  have q109 := f95.out.get 1 (.slice av52 x.rows.length kv52) rfl
  have q110 := f95.out.get 2 (.slice none 0 0) rfl
  have q111 := f94.out.frozen 0
  have q112 := f94.out.frozen 1
  have q113 := f94.out.frozen 2
  have q114 := f95.out.frozen 0
  have q115 := f95.out.frozen 1
  have q116 := f95.out.frozen 2
  go_wp2_with fail
  refine bodyPost_ret (v := .agg #[.slice av16 x.objective.length kv16, .slice av52 x.rows.length kv52, .slice av90 x.limits.length kv90]) (by simp [results, Try.results17, go_sem, q104, q105, q106]) rfl ?_
  clear q99 q100 q101 q102 q103 q104 q105 q106 q107 q108 q109 q110 q111 q112 q113 q114 q115 q116
  have f117 := Lib.hid (((((f92.out).setCell (p := ⟨w.heap.size + 1 + 1, 2, none⟩) (by show _ ≤ w.heap.size + 1 + 1; omega) (.slice av90 x.limits.length kv90)).setCell (p := ⟨w.heap.size + 1, 0, none⟩) (by show _ ≤ w.heap.size + 1; omega) (.slice av16 x.objective.length kv16)).setCell (p := ⟨w.heap.size + 1, 1, none⟩) (by show _ ≤ w.heap.size + 1; omega) (.slice av52 x.rows.length kv52)).setCell (p := ⟨w.heap.size + 1, 2, none⟩) (by show _ ≤ w.heap.size + 1; omega) (.slice av90 x.limits.length kv90))
  have f118 := Lib.hid (((((f93.out).far (p := ⟨w.heap.size + 1 + 1, 2, none⟩) (by show _ ≠ w.heap.size + 1 + 1; omega) (.slice av90 x.limits.length kv90)).far (p := ⟨w.heap.size + 1, 0, none⟩) (by show _ ≠ w.heap.size + 1; omega) (.slice av16 x.objective.length kv16)).far (p := ⟨w.heap.size + 1, 1, none⟩) (by show _ ≠ w.heap.size + 1; omega) (.slice av52 x.rows.length kv52)).far (p := ⟨w.heap.size + 1, 2, none⟩) (by show _ ≠ w.heap.size + 1; omega) (.slice av90 x.limits.length kv90))
  have f119 := Lib.hid (((((f94.out).far (p := ⟨w.heap.size + 1 + 1, 2, none⟩) (by show _ ≠ w.heap.size + 1 + 1; omega) (.slice av90 x.limits.length kv90)).store 0 (.slice av16 x.objective.length kv16)).store 1 (.slice av52 x.rows.length kv52)).store 2 (.slice av90 x.limits.length kv90))
  have f120 := Lib.hid (((((f95.out).store 2 (.slice av90 x.limits.length kv90)).far (p := ⟨w.heap.size + 1, 0, none⟩) (by show _ ≠ w.heap.size + 1; omega) (.slice av16 x.objective.length kv16)).far (p := ⟨w.heap.size + 1, 1, none⟩) (by show _ ≠ w.heap.size + 1; omega) (.slice av52 x.rows.length kv52)).far (p := ⟨w.heap.size + 1, 2, none⟩) (by show _ ≠ w.heap.size + 1; omega) (.slice av90 x.limits.length kv90))
  have f121 := Lib.hid (far_of mono_intsO (far_of mono_intsO (far_of mono_intsO (far_of mono_intsO (f96.out) (p := ⟨w.heap.size + 1 + 1, 2, none⟩) (fun g hg => by have := GF13.out g hg; show w.heap.size + 1 + 1 < g; omega) (.slice av90 x.limits.length kv90)) (p := ⟨w.heap.size + 1, 0, none⟩) (fun g hg => by have := GF13.out g hg; show w.heap.size + 1 < g; omega) (.slice av16 x.objective.length kv16)) (p := ⟨w.heap.size + 1, 1, none⟩) (fun g hg => by have := GF13.out g hg; show w.heap.size + 1 < g; omega) (.slice av52 x.rows.length kv52)) (p := ⟨w.heap.size + 1, 2, none⟩) (fun g hg => by have := GF13.out g hg; show w.heap.size + 1 < g; omega) (.slice av90 x.limits.length kv90))
  have f122 := Lib.hid (far_of (mono_sliceO mono_intsO) (far_of (mono_sliceO mono_intsO) (far_of (mono_sliceO mono_intsO) (far_of (mono_sliceO mono_intsO) (f97.out) (p := ⟨w.heap.size + 1 + 1, 2, none⟩) (fun g hg => by have := GF49.out g hg; show w.heap.size + 1 + 1 < g; omega) (.slice av90 x.limits.length kv90)) (p := ⟨w.heap.size + 1, 0, none⟩) (fun g hg => by have := GF49.out g hg; show w.heap.size + 1 < g; omega) (.slice av16 x.objective.length kv16)) (p := ⟨w.heap.size + 1, 1, none⟩) (fun g hg => by have := GF49.out g hg; show w.heap.size + 1 < g; omega) (.slice av52 x.rows.length kv52)) (p := ⟨w.heap.size + 1, 2, none⟩) (fun g hg => by have := GF49.out g hg; show w.heap.size + 1 < g; omega) (.slice av90 x.limits.length kv90))
  have f123 := Lib.hid (far_of mono_intsO (far_of mono_intsO (far_of mono_intsO (far_of mono_intsO (o89.out) (p := ⟨w.heap.size + 1 + 1, 2, none⟩) (fun g hg => by have := GF87.out g hg; show w.heap.size + 1 + 1 < g; omega) (.slice av90 x.limits.length kv90)) (p := ⟨w.heap.size + 1, 0, none⟩) (fun g hg => by have := GF87.out g hg; show w.heap.size + 1 < g; omega) (.slice av16 x.objective.length kv16)) (p := ⟨w.heap.size + 1, 1, none⟩) (fun g hg => by have := GF87.out g hg; show w.heap.size + 1 < g; omega) (.slice av52 x.rows.length kv52)) (p := ⟨w.heap.size + 1, 2, none⟩) (fun g hg => by have := GF87.out g hg; show w.heap.size + 1 < g; omega) (.slice av90 x.limits.length kv90))
  clear f92 f93 f94 f95 f96 f97 o89
  refine ⟨F13 ++ (F49 ++ F87), _, rfl, ⟨F13, F49, F87, _, _, _, rfl, rfl, f121.out, f122.out, f123.out⟩, ?_, ?_, f117.out⟩
  · skip
    refine nodup_new NF13.out ?_ IF13.out ?_
    rotate_left
    · intro g hg
      simp only [List.mem_append] at hg
      rcases hg with hg | hg
      · have := LF49.out g hg; have := s9.out; have := s10.out; have := s11.out; have := s17.out; have := s47.out; have := s53.out; have := s85.out; have := s91.out; omega
      · have := LF87.out g hg; have := s9.out; have := s10.out; have := s11.out; have := s17.out; have := s47.out; have := s53.out; have := s85.out; have := s91.out; omega
    refine nodup_new NF49.out ?_ IF49.out ?_
    rotate_left
    · intro g hg
      have := LF87.out g hg; have := s9.out; have := s10.out; have := s11.out; have := s17.out; have := s47.out; have := s53.out; have := s85.out; have := s91.out; omega
    exact NF87.out
  · intro g hg
    simp only [List.mem_append] at hg
    rcases hg with hg | hg | hg
    · have := GF13.out g hg; omega
    · have := GF49.out g hg; omega
    · have := GF87.out g hg; omega
set_option maxRecDepth 100000 in
set_option maxHeartbeats 1600000 in
theorem eqProgram_self (c0 c1 c2 d0 d1 d2 : Value) (x : ProgramD) (w : World) (h : ProgramR w [c0, c1, c2] x) (g : ProgramR w [d0, d1, d2] x) : Calls Try.prog 19 #[.agg #[c0, c1, c2], .agg #[d0, d1, d2]] w fun e w' => e = .returned (.bool true) ∧ Below w.heap.size w w' := by
  obtain ⟨_, _, _, hcs, h_0, h_1, h_2⟩ := h
  simp only [List.cons.injEq, and_true] at hcs
  obtain ⟨rfl, rfl, rfl⟩ := hcs
  obtain ⟨_, _, _, hcs, g_0, g_1, g_2⟩ := g
  simp only [List.cons.injEq, and_true] at hcs
  obtain ⟨rfl, rfl, rfl⟩ := hcs
  have H0 := Lib.hid h_0
  have G0 := Lib.hid g_0
  clear h_0 g_0
  have H1 := Lib.hid h_1
  have G1 := Lib.hid g_1
  clear h_1 g_1
  have H2 := Lib.hid h_2
  have G2 := Lib.hid g_2
  clear h_2 g_2
  go_enter Try.func19, Try.ntmps19
  go_wp2_with fail
  have b0 := Lib.hid (Below.refl w.heap.size w)
  have f1 := Lib.hid (((b0.out).alloc b0.out.size (.cells #[c0, c1, c2] 28)).alloc (Nat.le_trans b0.out.size (by simp)) (.cells #[d0, d1, d2] 28))
  clear b0
  have p2 := Lib.hid ((Blk.at_ (g := w.heap.size) w 28 #[c0, c1, c2] rfl).alloc (.cells #[d0, d1, d2] 28))
  have p4 := Lib.hid (Blk.at_ (g := w.heap.size + 1) (w.alloc (.cells #[c0, c1, c2] 28)) 28 #[d0, d1, d2] (by simp))
  generalize ((w.alloc (.cells #[c0, c1, c2] 28)).alloc (.cells #[d0, d1, d2] 28)) = W6 at *
  refine (eqIntS_self _ _ x.objective _ ((mono_slice mono_int) _ _ _ _ (Kept.below f1.out (Nat.le_refl _)) H0.out) ((mono_slice mono_int) _ _ _ _ (Kept.below f1.out (Nat.le_refl _)) G0.out)).mono ?_
  rintro e w7 ⟨rfl, bb⟩
  have f8 := Lib.hid (f1.out.trans (bb.mono f1.out.size))
  have f9 := Lib.hid (p2.out.on bb)
  have f10 := Lib.hid (p4.out.on bb)
  clear f1 p2 p4
  clear bb
  have q11 := f9.out.lt
  have q12 := f9.out.get 0 (c0) rfl
  have q13 := f9.out.get 1 (c1) rfl
  have q14 := f9.out.get 2 (c2) rfl
  have q15 := f10.out.lt
  have q16 := f10.out.get 0 (d0) rfl
  have q17 := f10.out.get 1 (d1) rfl
  have q18 := f10.out.get 2 (d2) rfl
  go_wp2_with fail
  clear q11 q12 q13 q14 q15 q16 q17 q18
  refine (eqIntSS_self _ _ x.rows _ ((mono_slice (mono_slice mono_int)) _ _ _ _ (Kept.below f8.out (Nat.le_refl _)) H1.out) ((mono_slice (mono_slice mono_int)) _ _ _ _ (Kept.below f8.out (Nat.le_refl _)) G1.out)).mono ?_
  rintro e w19 ⟨rfl, bb⟩
  have f20 := Lib.hid (f8.out.trans (bb.mono f8.out.size))
  have f21 := Lib.hid (f9.out.on bb)
  have f22 := Lib.hid (f10.out.on bb)
  clear f8 f9 f10
  clear bb
  have q23 := f21.out.lt
  have q24 := f21.out.get 0 (c0) rfl
  have q25 := f21.out.get 1 (c1) rfl
  have q26 := f21.out.get 2 (c2) rfl
  have q27 := f22.out.lt
  have q28 := f22.out.get 0 (d0) rfl
  have q29 := f22.out.get 1 (d1) rfl
  have q30 := f22.out.get 2 (d2) rfl
  go_wp2_with fail
  clear q23 q24 q25 q26 q27 q28 q29 q30
  refine (eqIntS_self _ _ x.limits _ ((mono_slice mono_int) _ _ _ _ (Kept.below f20.out (Nat.le_refl _)) H2.out) ((mono_slice mono_int) _ _ _ _ (Kept.below f20.out (Nat.le_refl _)) G2.out)).mono ?_
  rintro e w31 ⟨rfl, bb⟩
  have f32 := Lib.hid (f20.out.trans (bb.mono f20.out.size))
  have f33 := Lib.hid (f21.out.on bb)
  have f34 := Lib.hid (f22.out.on bb)
  clear f20 f21 f22
  clear bb
  have q35 := f33.out.lt
  have q36 := f33.out.get 0 (c0) rfl
  have q37 := f33.out.get 1 (c1) rfl
  have q38 := f33.out.get 2 (c2) rfl
  have q39 := f34.out.lt
  have q40 := f34.out.get 0 (d0) rfl
  have q41 := f34.out.get 1 (d1) rfl
  have q42 := f34.out.get 2 (d2) rfl
  go_wp2_with fail
  clear q35 q36 q37 q38 q39 q40 q41 q42
  go_ret
  exact ⟨rfl, f32.out⟩
set_option maxRecDepth 100000 in
set_option maxHeartbeats 1600000 in
theorem szProgram_any (c0 c1 c2 : Value) (x : ProgramD) (m : Int) (w : World) (h : ProgramR w [c0, c1, c2] x) (hm : 0 ≤ m) (hm' : m ≤ 1048576) : Calls Try.prog 15 #[.agg #[c0, c1, c2], .int .i64 m] w fun e w' => e = .returned (.int .i64 (szStep x.count m)) ∧ Below w.heap.size w w' := by
  obtain ⟨_, _, _, hcs, h_0, h_1, h_2⟩ := h
  simp only [List.cons.injEq, and_true] at hcs
  obtain ⟨rfl, rfl, rfl⟩ := hcs
  have H0 := Lib.hid h_0
  clear h_0
  have H1 := Lib.hid h_1
  clear h_1
  have H2 := Lib.hid h_2
  clear h_2
  have HC : Hid (x.count = x.objective.length + cntL List.length x.rows + x.limits.length) := rfl
  generalize x.count = cnt at *
  have HN0 : Hid (x.objective.length = x.objective.length) := rfl
  clear HN0
  have HN1 : Hid (cntL List.length x.rows = cntL List.length x.rows) := rfl
  clear HN1
  have HN2 : Hid (x.limits.length = x.limits.length) := rfl
  clear HN2
  have b0 := Lib.hid (Below.refl w.heap.size w)
  go_enter Try.func15, Try.ntmps15
  go_wp2_with fail
  have f1 := Lib.hid ((b0.out).alloc b0.out.size (.cells #[c0, c1, c2] 25))
  clear b0
  have p2 := Lib.hid (Blk.at_ (g := w.heap.size) w 25 #[c0, c1, c2] rfl)
  generalize (w.alloc (.cells #[c0, c1, c2] 25)) = W4 at *
  refine (szIntS_cnt _ x.objective (m) _ ((mono_slice mono_int) _ _ _ _ (Kept.below f1.out (Nat.le_refl _)) H0.out) (by omega) (by omega)).mono ?_
  rintro e w5 ⟨rfl, bb⟩
  have f6 := Lib.hid (f1.out.trans (bb.mono f1.out.size))
  have f7 := Lib.hid (p2.out.on bb)
  clear f1 p2
  clear bb
  rcases Int.lt_or_le (m) (x.objective.length) with hs0 | hs0
  · rw [szStep_no (by omega)]
    go_wp2_with fail
    go_ret
    exact ⟨ret_int (by have := HC.out; rw [szStep_no (by omega)]), f6.out⟩
  rw [szStep_yes (by omega)]
  have q8 := f7.out.lt
  have q9 := f7.out.get 0 (c0) rfl
  have q10 := f7.out.get 1 (c1) rfl
  have q11 := f7.out.get 2 (c2) rfl
  go_wp2_with fail
  clear q8 q9 q10 q11
  refine (szIntSS_any _ x.rows (m - x.objective.length) _ ((mono_slice (mono_slice mono_int)) _ _ _ _ (Kept.below f6.out (Nat.le_refl _)) H1.out) (by omega) (by omega)).mono ?_
  rintro e w12 ⟨rfl, bb⟩
  have f13 := Lib.hid (f6.out.trans (bb.mono f6.out.size))
  have f14 := Lib.hid (f7.out.on bb)
  clear f6 f7
  clear bb
  rcases Int.lt_or_le (m - x.objective.length) (cntL List.length x.rows) with hs1 | hs1
  · rw [szStep_no (by omega)]
    go_wp2_with fail
    go_ret
    exact ⟨ret_int (by have := HC.out; rw [szStep_no (by omega)]), f13.out⟩
  rw [szStep_yes (by omega)]
  have q15 := f14.out.lt
  have q16 := f14.out.get 0 (c0) rfl
  have q17 := f14.out.get 1 (c1) rfl
  have q18 := f14.out.get 2 (c2) rfl
  go_wp2_with fail
  clear q15 q16 q17 q18
  refine (szIntS_cnt _ x.limits (m - x.objective.length - cntL List.length x.rows) _ ((mono_slice mono_int) _ _ _ _ (Kept.below f13.out (Nat.le_refl _)) H2.out) (by omega) (by omega)).mono ?_
  rintro e w19 ⟨rfl, bb⟩
  have f20 := Lib.hid (f13.out.trans (bb.mono f13.out.size))
  have f21 := Lib.hid (f14.out.on bb)
  clear f13 f14
  clear bb
  rcases Int.lt_or_le (m - x.objective.length - cntL List.length x.rows) (x.limits.length) with hs2 | hs2
  · rw [szStep_no (by omega)]
    go_wp2_with fail
    go_ret
    exact ⟨ret_int (by have := HC.out; rw [szStep_no (by omega)]), f20.out⟩
  rw [szStep_yes (by omega)]
  have q22 := f21.out.lt
  have q23 := f21.out.get 0 (c0) rfl
  have q24 := f21.out.get 1 (c1) rfl
  have q25 := f21.out.get 2 (c2) rfl
  go_wp2_with fail
  clear q22 q23 q24 q25
  go_ret
  exact ⟨ret_int (by have := HC.out; rw [szStep_yes (by omega)]; omega), f20.out⟩
end Go.Proofs.Ytcgjlddpbkponaa
