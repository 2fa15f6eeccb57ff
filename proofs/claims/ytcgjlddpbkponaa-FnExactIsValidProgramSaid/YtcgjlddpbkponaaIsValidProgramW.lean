/-
  The walk of FnExactIsValidProgram.
-/
import Derived.Test.YtcgjlddpbkponaaProgV2
namespace Go.Proofs.Ytcgjlddpbkponaa.fnExactIsValidProgram
open Go.ChangeShapes Go.WideShapes Go.ChangeAt Go.RowKit
set_option linter.unusedVariables false

set_option maxRecDepth 100000 in
set_option maxHeartbeats 3200000 in
theorem walk (w : World) (cs0 : Array Value) (x0 : ProgramD) (h0 : ProgramR w cs0.toList x0) :
    Calls Try.prog 3 #[.agg cs0] w fun e w' => e = .returned (.bool true) ∧ Below w.heap.size w w' := by
  obtain ⟨c0a, c0b, c0c, rfl, h0⟩ := program_cells h0
  have H0 := Lib.hid h0
  clear h0
  have b0 := Lib.hid (Below.refl w.heap.size w)
  go_enter Try.func3, Try.ntmps3
  go_wp2_with fail
  have f1 := Lib.hid ((b0.out).alloc b0.out.size (.cells #[c0a, c0b, c0c] 25))
  clear b0
  have p2 := Lib.hid (Blk.at_ (g := w.heap.size) w 25 #[c0a, c0b, c0c] rfl)
  generalize (w.alloc (.cells #[c0a, c0b, c0c] 25)) = W4 at *
  refine (szProgram_any _ _ _ x0 (1048576) _ (mono_program _ _ _ _ (Kept.below f1.out (Nat.le_refl _)) H0.out) (by omega) (by omega)).mono ?_
  rintro e w5 ⟨rfl, bb⟩
  have f6 := Lib.hid (f1.out.trans (bb.mono f1.out.size))
  have f7 := Lib.hid (p2.out.on bb)
  clear f1 p2
  clear bb
  rcases Int.lt_or_le (1048576) (x0.count) with hs0 | hs0
  · rw [szStep_no (by omega)]
    go_wp2_with fail
    go_ret
    exact ⟨rfl, f6.out⟩
  rw [szStep_yes (by omega)]
  have hc0 : x0.count ≤ 1048576 := by omega
  have q8 := f7.out.lt
  have q9 := f7.out.get 0 (c0a) rfl
  have q10 := f7.out.get 1 (c0b) rfl
  have q11 := f7.out.get 2 (c0c) rfl
  go_wp2_with fail
  clear q8 q9 q10 q11
  refine (toProgram_new _ _ _ x0 _ (mono_program _ _ _ _ (Kept.below f6.out (Nat.le_refl _)) H0.out) hc0).mono ?_
  rintro e w12 ⟨F13, cc, rfl, oo, ndF13, loF13, b14⟩
  obtain ⟨a016, k017, a118, k119, a220, k221, hcc⟩ := program_form oo
  subst hcc
  have o15 := Lib.hid oo
  have NF13 := Lib.hid ndF13
  have LF13 := Lib.hid loF13
  have IF13 := Lib.hid (inside_program _ _ _ _ oo)
  clear oo ndF13 loF13
  have f22 := Lib.hid (f6.out.trans (b14.mono f6.out.size))
  have f23 := Lib.hid (f7.out.on b14)
  clear f6 f7
  clear b14
  go_wp2_with fail
  refine (isValidProgram_spec _ _ _ _ _ (reads_program _ _ _ _ o15.out) ).mono ?_
  rintro e w25 ⟨rfl, bb⟩
  have f26 := Lib.hid (f22.out.trans (bb.mono f22.out.size))
  have f27 := Lib.hid (f23.out.on bb)
  clear f22 f23
  clear bb
  have q28 := f27.out.lt
  have q29 := f27.out.get 0 (c0a) rfl
  have q30 := f27.out.get 1 (c0b) rfl
  have q31 := f27.out.get 2 (c0c) rfl
  go_wp2_with fail
  clear q28 q29 q30 q31
  refine (toProgram_new _ _ _ x0 _ (mono_program _ _ _ _ (Kept.below f26.out (Nat.le_refl _)) H0.out) hc0).mono ?_
  rintro e w32 ⟨F33, cc, rfl, oo, ndF33, loF33, b34⟩
  obtain ⟨a036, k037, a138, k139, a240, k241, hcc⟩ := program_form oo
  subst hcc
  have o35 := Lib.hid oo
  have NF33 := Lib.hid ndF33
  have LF33 := Lib.hid loF33
  have IF33 := Lib.hid (inside_program _ _ _ _ oo)
  clear oo ndF33 loF33
  have f42 := Lib.hid (f26.out.trans (b34.mono f26.out.size))
  have f43 := Lib.hid (f27.out.on b34)
  clear f26 f27
  clear b34
  go_wp2_with fail
  have f45 := Lib.hid ((f42.out).alloc f42.out.size (.cells #[.slice a036 x0.objective.length k037, .slice a138 x0.rows.length k139, .slice a240 x0.limits.length k241] 28))
  have f46 := Lib.hid ((f43.out).alloc (.cells #[.slice a036 x0.objective.length k037, .slice a138 x0.rows.length k139, .slice a240 x0.limits.length k241] 28))
  have f47 := Lib.hid (grow_of mono_programO inside_program (o35.out) ((Below.refl _ _).alloc (Nat.le_refl _) (.cells #[.slice a036 x0.objective.length k037, .slice a138 x0.rows.length k139, .slice a240 x0.limits.length k241] 28)))
  clear f42 f43 o35
  have p48 := Lib.hid (Blk.at_ (g := w32.heap.size) w32 28 #[.slice a036 x0.objective.length k037, .slice a138 x0.rows.length k139, .slice a240 x0.limits.length k241] rfl)
  generalize (w32.alloc (.cells #[.slice a036 x0.objective.length k037, .slice a138 x0.rows.length k139, .slice a240 x0.limits.length k241] 28)) = W50 at *
  refine (isValidProgram_impl _ _ _ _ _ (reads_program _ _ _ _ f47.out) ).mono ?_
  rintro e w51 ⟨rfl, bb⟩
  have f52 := Lib.hid (f45.out.trans (bb.mono f45.out.size))
  have f53 := Lib.hid (f46.out.on bb)
  have f54 := Lib.hid (grow_of mono_programO inside_program f47.out bb)
  have f55 := Lib.hid (p48.out.on bb)
  clear f45 f46 f47 p48
  clear bb
  go_wp2_with fail
  have q56 := f53.out.lt
  have q57 := f53.out.get 0 (c0a) rfl
  have q58 := f53.out.get 1 (c0b) rfl
  have q59 := f53.out.get 2 (c0c) rfl
  have q60 := f55.out.lt
  have q61 := f55.out.get 0 (.slice a036 x0.objective.length k037) rfl
  have q62 := f55.out.get 1 (.slice a138 x0.rows.length k139) rfl
  have q63 := f55.out.get 2 (.slice a240 x0.limits.length k241) rfl
  go_region_held3 (fun w' => w'.cell? ⟨w.heap.size, 0, none⟩ = some (c0a) ∧ w'.cell? ⟨w.heap.size, 1, none⟩ = some (c0b) ∧ w'.cell? ⟨w.heap.size, 2, none⟩ = some (c0c) ∧ w'.cell? ⟨w32.heap.size, 0, none⟩ = some (.slice a036 x0.objective.length k037) ∧ w'.cell? ⟨w32.heap.size, 1, none⟩ = some (.slice a138 x0.rows.length k139) ∧ w'.cell? ⟨w32.heap.size, 2, none⟩ = some (.slice a240 x0.limits.length k241))
    (first | exact ⟨q57, q58, q59, q61, q62, q63⟩ | exact ⟨keep_drew q57 b66, keep_drew q58 b66, keep_drew q59 b66, keep_drew q61 b66, keep_drew q62 b66, keep_drew q63 b66⟩ | exact ⟨keep_cell (keep_drew q57 b66) b75, keep_cell (keep_drew q58 b66) b75, keep_cell (keep_drew q59 b66) b75, keep_cell (keep_drew q61 b66) b75, keep_cell (keep_drew q62 b66) b75, keep_cell (keep_drew q63 b66) b75⟩)
    (first | (go_at_call 17; refine (toProgram_new _ _ _ x0 _ (mono_program _ _ _ _ (Kept.below f52.out.drew (Nat.le_refl _)) H0.out) hc0).mono ?_; rintro e w64 ⟨F65, cc, rfl, oo, ndF65, loF65, b66⟩; obtain ⟨a068, k069, a170, k171, a272, k273, hcc⟩ := program_form oo; subst hcc; have o67 := Lib.hid oo; have NF65 := Lib.hid ndF65; have LF65 := Lib.hid loF65; have IF65 := Lib.hid (inside_program _ _ _ _ oo); clear oo ndF65 loF65) | (go_at_call 19; refine (eqProgram_self _ _ _ _ _ _ x0 _ (reads_program _ _ _ _ (grow_drew mono_programO inside_program f54.out b66)) (reads_program _ _ _ _ o67.out)).mono ?_; rintro e w74 ⟨rfl, b75⟩))
  have bb76 : Below w51.heap.size w51 w74 := ((Below.refl _ _).drew.trans b66).trans (b75.mono b66.size)
  clear b66 b75 o67
  clear q57 q58 q59 q61 q62 q63
  have f77 := Lib.hid (f52.out.trans (bb76.mono f52.out.size))
  have f78 := Lib.hid (f53.out.on bb76)
  have f79 := Lib.hid (grow_of mono_programO inside_program f54.out bb76)
  have f80 := Lib.hid (f55.out.on bb76)
  clear f52 f53 f54 f55
  clear bb76
  go_wp2_with fail
  go_ret
  exact ⟨rfl, f77.out⟩
end Go.Proofs.Ytcgjlddpbkponaa.fnExactIsValidProgram
