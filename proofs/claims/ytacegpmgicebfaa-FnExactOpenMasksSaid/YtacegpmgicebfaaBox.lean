/-
  Boxes: how one reads, and the contracts of the laws' helpers szBox, toBox, eqBox.
-/
import Derived.Test.YtacegpmgicebfaaLoc
import Derived.Test.YtacegpmgicebfaaOpen
import Derived.Deep.RegionHeld3
namespace Go.Proofs.Ytacegpmgicebfaa
open Go.ChangeShapes Go.WideShapes Go.ChangeAt Go.RowKit

structure BoxD where
  low : List Int
  high : List Int

def BoxR : Rd BoxD := fun w cs b => ∃ c0 c1, cs = [c0, c1] ∧ IntsR w c0 b.low ∧ IntsR w c1 b.high
def BoxO : Od BoxD := fun w F cs b => ∃ F0 F1 c0 c1, F = F0 ++ F1 ∧ cs = [c0, c1] ∧ IntsO w F0 [c0] b.low ∧ IntsO w F1 [c1] b.high
theorem mono_box : Mono BoxR := by
  rintro w w' cs b hk ⟨c0, c1, rfl, h0, h1⟩
  exact ⟨c0, c1, rfl, h0.kept hk, h1.kept hk⟩
theorem mono_boxO : MonoO BoxO := by
  rintro w w' F cs b hk ⟨F0, F1, c0, c1, rfl, rfl, h0, h1⟩
  exact ⟨F0, F1, c0, c1, rfl, rfl, mono_intsO _ _ _ _ _ (hk.mono fun g hg => List.mem_append_left _ hg) h0, mono_intsO _ _ _ _ _ (hk.mono fun g hg => List.mem_append_right _ hg) h1⟩
theorem reads_box : Reads BoxO BoxR := by
  rintro w F cs b ⟨F0, F1, c0, c1, rfl, rfl, h0, h1⟩
  exact ⟨c0, c1, rfl, reads_ints _ _ _ _ h0, reads_ints _ _ _ _ h1⟩
theorem inside_box : Inside BoxO := by
  rintro w F cs b ⟨F0, F1, c0, c1, rfl, rfl, h0, h1⟩ g hg
  rcases List.mem_append.1 hg with hg | hg
  · exact inside_intsO _ _ _ _ h0 g hg
  · exact inside_intsO _ _ _ _ h1 g hg

section
variable {H : Type} {enc : TypeId × Value → H} {w : World} {base : Nat} {spare : Nat → Bool} {held : Bool}
theorem cells_ints : Try.prog.cellsOf 24 = 1 := by kernel_rfl
theorem open_box {fuel : Nat} {cs : List Value} {x : DataW H × List MemPlace} (h : DataW.trod enc Try.prog w base spare held fuel 30 cs = some x) : ∃ b, BoxR w cs b := by
  obtain ⟨xs, n, _, _, hl, hxl, hf⟩ := DataW.trod_struct Try.underlying30 h
  have hl2 : cs.length = 2 := hl.trans (by kernel_rfl)
  match cs, hl2 with
  | [c0, c1], _ =>
    match xs, hxl with
    | [y0, y1], _ =>
      have h0 := hf 0 _ rfl
      have h1 := hf 1 _ rfl
      obtain ⟨l0, r0⟩ := open_ints h0
      obtain ⟨l1, r1⟩ := open_ints h1
      exact ⟨⟨l0, l1⟩, c0, c1, rfl, r0, r1⟩
end

def BoxD.count (b : BoxD) : Nat := b.low.length + b.high.length

set_option maxHeartbeats 400000 in
theorem szBox_any (c0 c1 : Value) (b : BoxD) (m : Int) (w : World) (h : BoxR w [c0, c1] b) (hm : 0 ≤ m) (hm' : m ≤ 1048576) :
    Calls Try.prog 21 #[.agg #[c0, c1], .int .i64 m] w fun e w' => e = .returned (.int .i64 (szStep b.count m)) ∧ Below w.heap.size w w' := by
  obtain ⟨_, _, hcs, h0, h1⟩ := h
  simp only [List.cons.injEq, and_true] at hcs
  obtain ⟨rfl, rfl⟩ := hcs
  have H0 := Lib.hid h0
  have H1 := Lib.hid h1
  have hl0 : b.low.length ≤ 9223372036854775807 := by obtain ⟨_, _, _, h1, h2⟩ := h0.form; unfold maxLen at h2; omega
  have hl1 : b.high.length ≤ 9223372036854775807 := by obtain ⟨_, _, _, h1, h2⟩ := h1.form; unfold maxLen at h2; omega
  clear h0 h1
  have HC : Hid (b.count = b.low.length + b.high.length) := rfl
  generalize b.count = n at *
  by_cases hlt : (b.low.length : Int) ≤ m
  · go_enter Try.func21, Try.ntmps21
    go_wp2_with fail
    refine (szIntS_any _ b.low m _ (H0.out.kept (Kept.alloc _ _)) hm hm' hl0).mono ?_
    rintro e w' ⟨rfl, rfl⟩
    rw [szStep_yes hlt]
    go_wp2_with fail
    refine (szIntS_any _ b.high (m - b.low.length) _ (H1.out.kept (Kept.alloc _ _)) (by omega) (by omega) hl1).mono ?_
    rintro e w' ⟨rfl, rfl⟩
    by_cases hlt2 : (b.high.length : Int) ≤ m - b.low.length
    · rw [szStep_yes hlt2]
      go_wp2_with fail
      go_ret
      exact ⟨ret_int (by rw [HC.out, szStep_yes (by omega)]; omega), (Below.refl _ _).alloc (Nat.le_refl _) _⟩
    · rw [szStep_no hlt2]
      go_wp2_with fail
      go_ret
      exact ⟨ret_int (by rw [HC.out, szStep_no (by omega)]), (Below.refl _ _).alloc (Nat.le_refl _) _⟩
  · go_enter Try.func21, Try.ntmps21
    go_wp2_with fail
    refine (szIntS_any _ b.low m _ (H0.out.kept (Kept.alloc _ _)) hm hm' hl0).mono ?_
    rintro e w' ⟨rfl, rfl⟩
    rw [szStep_no (by omega)]
    go_wp2_with fail
    go_ret
    exact ⟨ret_int (by rw [HC.out, szStep_no (by omega)]), (Below.refl _ _).alloc (Nat.le_refl _) _⟩

/-- What is known of the cells and marks below in a world that has only grown. -/
theorem below_cells {W w1 : World} (hb : Below W.heap.size W w1) : (∀ b o, b < W.heap.size → w1.cell? ⟨b, o, none⟩ = W.cell? ⟨b, o, none⟩) ∧ (∀ b o, b < W.heap.size → w1.frozen? ⟨b, o, none⟩ = W.frozen? ⟨b, o, none⟩) :=
  ⟨fun b o h => hb.cell (p := ⟨b, o, none⟩) h, fun b o h => hb.frozen (p := ⟨b, o, none⟩) h⟩

set_option maxHeartbeats 400000 in
theorem toBox_any (c0 c1 : Value) (b : BoxD) (w : World) (h : BoxR w [c0, c1] b) (hl : b.low.length ≤ 17592186044416) (hl' : b.high.length ≤ 17592186044416) :
    Calls Try.prog 23 #[.agg #[c0, c1]] w (NewA BoxO w b) := by
  obtain ⟨_, _, hcs, h0, h1⟩ := h
  simp only [List.cons.injEq, and_true] at hcs
  obtain ⟨rfl, rfl⟩ := hcs
  have H0 := Lib.hid h0
  have H1 := Lib.hid h1
  clear h0 h1
  go_enter Try.func23, Try.ntmps23
  go_wp2_with fail
  have B0 := Lib.hid ((((Below.refl w.heap.size w).alloc (Nat.le_refl _) (.cells #[c0, c1] 30)).alloc (by simp) (.cells #[.slice none 0 0, .slice none 0 0] 33)).alloc (by simp; omega) (.cells #[.slice none 0 0, .slice none 0 0] 33))
  have A0 := Lib.hid (((Blk.at_ (g := w.heap.size) w 30 #[c0, c1] rfl).alloc (.cells #[.slice none 0 0, .slice none 0 0] 33)).alloc (.cells #[.slice none 0 0, .slice none 0 0] 33))
  have R0 := Lib.hid ((Blk.at_ (g := w.heap.size + 1) (w.alloc (.cells #[c0, c1] 30)) 33 #[.slice none 0 0, .slice none 0 0] (by simp)).alloc (.cells #[.slice none 0 0, .slice none 0 0] 33))
  have L0 := Lib.hid (Blk.at_ (g := w.heap.size + 1 + 1) ((w.alloc (.cells #[c0, c1] 30)).alloc (.cells #[.slice none 0 0, .slice none 0 0] 33)) 33 #[.slice none 0 0, .slice none 0 0] (by simp))
  generalize ((w.alloc (.cells #[c0, c1] 30)).alloc (.cells #[.slice none 0 0, .slice none 0 0] 33)).alloc (.cells #[.slice none 0 0, .slice none 0 0] 33) = W0 at *
  refine (toIntS_any _ b.low _ (H0.out.below B0.out (Nat.le_refl _)) hl).mono ?_
  rintro e w1 hn
  obtain ⟨F0, a0, k0, rfl, o0, nd0, lo0, b0⟩ := hn.new H0.out.fits
  clear hn
  have A1 := Lib.hid (A0.out.on b0)
  have R1 := Lib.hid (R0.out.on b0)
  have L1 := Lib.hid (L0.out.on b0)
  have B1 := Lib.hid (B0.out.trans (b0.mono B0.out.size))
  have lo0' := Lib.hid (fun g hg => Nat.le_trans L0.out.lt (lo0 g hg))
  have O0 := Lib.hid o0
  clear A0 R0 L0 B0 b0 lo0 o0 W0
  have q0 := A1.out.get 1 c1 rfl
  have q1 := L1.out.get 0 _ rfl
  have q2 := L1.out.frozen 0
  go_wp2_with fail
  clear q0 q1 q2
  have A2 := Lib.hid (A1.out.far (p := ⟨w.heap.size + 1 + 1, 0, none⟩) (by show _ ≠ w.heap.size + 1 + 1; omega) (.slice a0 b.low.length k0))
  have R2 := Lib.hid (R1.out.far (p := ⟨w.heap.size + 1 + 1, 0, none⟩) (by show _ ≠ w.heap.size + 1 + 1; omega) (.slice a0 b.low.length k0))
  have L2 := Lib.hid (L1.out.store 0 (.slice a0 b.low.length k0))
  have B2 := Lib.hid (B1.out.setCell (p := ⟨w.heap.size + 1 + 1, 0, none⟩) (by show _ ≤ w.heap.size + 1 + 1; omega) (.slice a0 b.low.length k0))
  have O0' := Lib.hid (mono_intsO _ (w1.setCell ⟨w.heap.size + 1 + 1, 0, none⟩ (.slice a0 b.low.length k0)) _ _ _ (fun g hg => Below.heap_setCell w1 ⟨w.heap.size + 1 + 1, 0, none⟩ _ g (by have := lo0'.out g hg; show g ≠ w.heap.size + 1 + 1; omega)) O0.out)
  clear A1 R1 L1 B1 O0
  generalize w1.setCell ⟨w.heap.size + 1 + 1, 0, none⟩ (.slice a0 b.low.length k0) = W1 at *
  refine (toIntS_any _ b.high _ (H1.out.below B2.out (Nat.le_refl _)) hl').mono ?_
  rintro e w2 hn
  obtain ⟨F1, a1, k1, rfl, o1, nd1, lo1, b1⟩ := hn.new H1.out.fits
  clear hn
  have A3 := Lib.hid (A2.out.on b1)
  have R3 := Lib.hid (R2.out.on b1)
  have L3 := Lib.hid (L2.out.on b1)
  have B3 := Lib.hid (B2.out.trans (b1.mono B2.out.size))
  have lo1' := Lib.hid (fun g hg => Nat.le_trans L2.out.lt (lo1 g hg))
  have ND := Lib.hid (fun g hg (hg' : g ∈ F1) => Nat.lt_irrefl _ (Nat.lt_of_lt_of_le (inside_intsO _ _ _ _ O0'.out g hg) (lo1 g hg')))
  have O0 := Lib.hid (mono_intsO _ _ _ _ _ (KeptOn.below b1 (inside_intsO _ _ _ _ O0'.out)) O0'.out)
  have O1 := Lib.hid o1
  clear A2 R2 L2 B2 b1 lo1 o1 O0' W1
  have q1 := L3.out.get 1 (.slice none 0 0) rfl
  have q2 := L3.out.frozen 1
  have q3 := L3.out.get 0 (.slice a0 b.low.length k0) rfl
  have q4 := R3.out.get 0 (.slice none 0 0) rfl
  have q5 := R3.out.get 1 (.slice none 0 0) rfl
  have q6 := R3.out.frozen 0
  have q7 := R3.out.frozen 1
  go_wp2_with fail
  refine bodyPost_ret (v := .agg #[.slice a0 b.low.length k0, .slice a1 b.high.length k1]) (by simp [results, Try.results23, go_sem, q4, q5]) rfl ⟨F0 ++ F1, _, rfl, ⟨F0, F1, _, _, rfl, rfl, ?_, ?_⟩, ?_, ?_, ?_⟩
  · exact far_of mono_intsO (far_of mono_intsO (far_of mono_intsO O0.out (fun g hg => by have := lo0'.out g hg; show w.heap.size + 1 + 1 < g; omega) _) (fun g hg => by have := lo0'.out g hg; show w.heap.size + 1 < g; omega) _) (fun g hg => by have := lo0'.out g hg; show w.heap.size + 1 < g; omega) _
  · exact far_of mono_intsO (far_of mono_intsO (far_of mono_intsO O1.out (fun g hg => by have := lo1'.out g hg; show w.heap.size + 1 + 1 < g; omega) _) (fun g hg => by have := lo1'.out g hg; show w.heap.size + 1 < g; omega) _) (fun g hg => by have := lo1'.out g hg; show w.heap.size + 1 < g; omega) _
  · rw [List.nodup_append]
    exact ⟨nd0, nd1, fun a ha b hb e => ND.out a ha (e ▸ hb)⟩
  · intro g hg
    rcases List.mem_append.1 hg with hg | hg
    · have := lo0'.out g hg; omega
    · have := lo1'.out g hg; omega
  · exact ((B3.out.setCell (p := ⟨w.heap.size + 1 + 1, 1, none⟩) (by show _ ≤ w.heap.size + 1 + 1; omega) _).setCell (p := ⟨w.heap.size + 1, 0, none⟩) (by show _ ≤ w.heap.size + 1; omega) _).setCell (p := ⟨w.heap.size + 1, 1, none⟩) (by show _ ≤ w.heap.size + 1; omega) _

theorem box_form {w : World} {F : List Nat} {cs : Array Value} {b : BoxD} (h : BoxO w F cs.toList b) : ∃ a k a' k', cs = #[.slice a b.low.length k, .slice a' b.high.length k'] := by
  obtain ⟨F0, F1, c0, c1, _, hcs, h0, h1⟩ := h
  obtain ⟨l⟩ := cs
  simp only at hcs
  subst hcs
  obtain ⟨_, e0, o0, _⟩ := h0
  obtain ⟨_, e1, o1, _⟩ := h1
  simp only [List.cons.injEq, and_true] at e0 e1
  subst e0
  subst e1
  obtain ⟨a, k, rfl, _⟩ := owns_shape o0
  obtain ⟨a', k', rfl, _⟩ := owns_shape o1
  exact ⟨a, k, a', k', rfl⟩
theorem box_cells {w : World} {cs : Array Value} {b : BoxD} (h : BoxR w cs.toList b) : ∃ c0 c1, cs = #[c0, c1] ∧ BoxR w [c0, c1] b := by
  obtain ⟨c0, c1, hcs, h0, h1⟩ := h
  obtain ⟨l⟩ := cs
  simp only at hcs
  subst hcs
  exact ⟨c0, c1, rfl, c0, c1, rfl, h0, h1⟩
theorem toBox_new (c0 c1 : Value) (b : BoxD) (w : World) (h : BoxR w [c0, c1] b) (hc : b.count ≤ 1048576) : Calls Try.prog 23 #[.agg #[c0, c1]] w (NewA BoxO w b) :=
  toBox_any c0 c1 b w h (by unfold BoxD.count at hc; omega) (by unfold BoxD.count at hc; omega)

theorem eqIntS_self (v v' : Value) (l : List Int) (w : World) (h : IntsR w v l) (h' : IntsR w v' l) : Calls Try.prog 20 #[v, v'] w fun e w' => e = .returned (.bool true) ∧ Below w.heap.size w w' :=
  (eqIntS_any v v' l l w h h').mono fun _ _ ⟨he, n, hn⟩ => ⟨by rw [he, eqL_self], by rw [hn]; exact below_drewN (Below.refl _ _) n⟩

set_option maxHeartbeats 400000 in
theorem eqBox_self (c0 c1 d0 d1 : Value) (b : BoxD) (w : World) (h : BoxR w [c0, c1] b) (h' : BoxR w [d0, d1] b) :
    Calls Try.prog 25 #[.agg #[c0, c1], .agg #[d0, d1]] w fun e w' => e = .returned (.bool true) ∧ Below w.heap.size w w' := by
  obtain ⟨_, _, hcs, h0, h1⟩ := h
  simp only [List.cons.injEq, and_true] at hcs
  obtain ⟨rfl, rfl⟩ := hcs
  obtain ⟨_, _, hcs, h0', h1'⟩ := h'
  simp only [List.cons.injEq, and_true] at hcs
  obtain ⟨rfl, rfl⟩ := hcs
  have H0 := Lib.hid h0
  have H1 := Lib.hid h1
  have H0' := Lib.hid h0'
  have H1' := Lib.hid h1'
  clear h0 h1 h0' h1'
  go_enter Try.func25, Try.ntmps25
  go_wp2_with fail
  have B0 := Lib.hid (((Below.refl w.heap.size w).alloc (Nat.le_refl _) (.cells #[c0, c1] 33)).alloc (by simp) (.cells #[d0, d1] 33))
  have P0 := Lib.hid ((Blk.at_ (g := w.heap.size) w 33 #[c0, c1] rfl).alloc (.cells #[d0, d1] 33))
  have P1 := Lib.hid (Blk.at_ (g := w.heap.size + 1) (w.alloc (.cells #[c0, c1] 33)) 33 #[d0, d1] (by simp))
  generalize (w.alloc (.cells #[c0, c1] 33)).alloc (.cells #[d0, d1] 33) = W at *
  refine (eqIntS_self _ _ b.low _ (H0.out.below B0.out (Nat.le_refl _)) (H0'.out.below B0.out (Nat.le_refl _))).mono ?_
  rintro e w1 ⟨rfl, b1⟩
  have B1 := Lib.hid (B0.out.trans (b1.mono B0.out.size))
  have q0 := (P0.out.on b1).get 1 c1 rfl
  have q1 := (P1.out.on b1).get 1 d1 rfl
  clear P0 P1 B0 b1 W
  go_wp2_with fail
  refine (eqIntS_self _ _ b.high _ (H1.out.below B1.out (Nat.le_refl _)) (H1'.out.below B1.out (Nat.le_refl _))).mono ?_
  rintro e w2 ⟨rfl, b2⟩
  have B2 := Lib.hid (B1.out.trans (b2.mono B1.out.size))
  clear B1 b2 q0 q1
  go_wp2_with fail
  go_ret
  exact ⟨rfl, B2.out⟩
end Go.Proofs.Ytacegpmgicebfaa
