/-
  The mark on a box.
-/
import Derived.Test.YtacegpmgicebfaaMark
import Derived.Test.YtacegpmgicebfaaBox
namespace Go.Proofs.Ytacegpmgicebfaa
open Go.ChangeShapes Go.WideShapes Go.ChangeAt Go.RowKit

def markBx (k : Int) (b : BoxD) : BoxD := ⟨iota k b.low.length, iota (k + b.low.length) b.high.length⟩
set_option maxHeartbeats 400000 in
theorem markBox_own (c0 c1 : Value) (b : BoxD) (F : List Nat) (k : Int) (w : World) (h : BoxO w F [c0, c1] b) (nd : F.Nodup) (h0 : 0 ≤ k) (hk : k + b.count ≤ 4611686018427387904) :
    Calls Try.prog 52 #[.agg #[c0, c1], .int .i64 k] w (MarkO BoxO F [c0, c1] (markBx k b) (k + b.count) w) := by
  obtain ⟨F0, F1, _, _, rfl, hcs, o0, o1⟩ := h
  simp only [List.cons.injEq, and_true] at hcs
  obtain ⟨rfl, rfl⟩ := hcs
  have I0 := Lib.hid (inside_intsO _ _ _ _ o0)
  have I1 := Lib.hid (inside_intsO _ _ _ _ o1)
  have O0 := Lib.hid (grow_of mono_intsO inside_intsO o0 ((Below.refl _ _).alloc (Nat.le_refl _) (.cells #[c0, c1] 33)))
  have O1 := Lib.hid (grow_of mono_intsO inside_intsO o1 ((Below.refl _ _).alloc (Nat.le_refl _) (.cells #[c0, c1] 33)))
  have P0 := Lib.hid (Blk.at_ (g := w.heap.size) w 33 #[c0, c1] rfl)
  have N0 := Lib.hid (Only.of_below (S := F0 ++ F1) ((Below.refl _ w).alloc (Nat.le_refl _) (.cells #[c0, c1] 33)))
  have ND := Lib.hid nd
  clear o0 o1 nd
  unfold BoxD.count at hk ⊢
  go_enter Try.func52, Try.ntmps52
  go_wp2_with fail
  generalize w.alloc (.cells #[c0, c1] 33) = W at *
  refine (markIntS_own _ b.low F0 k _ O0.out h0 (by omega)).mono ?_
  rintro e w1 ⟨rfl, o0', u0⟩
  have O0' := Lib.hid o0'
  have O1' := Lib.hid (only_of mono_intsO O1.out u0 (fun g hg => ⟨inside_intsO _ _ _ _ O1.out g hg, disj_of_nodup ND.out g hg⟩))
  have P1 := Lib.hid (P0.out.only u0 (fun hm => Nat.lt_irrefl _ (I0.out _ hm)))
  have N1 := Lib.hid (N0.out.trans (u0.mono fun g hg => List.mem_append_left _ hg))
  clear O0 O1 P0 N0 o0' u0 W
  have q1 := P1.out.get 1 c1 rfl
  go_wp2_with fail
  refine (markIntS_own _ b.high F1 (k + b.low.length) _ O1'.out (by omega) (by omega)).mono ?_
  rintro e w2 ⟨rfl, o1', u1⟩
  have O1 := Lib.hid o1'
  have O0 := Lib.hid (only_of mono_intsO O0'.out u1 (fun g hg => ⟨inside_intsO _ _ _ _ O0'.out g hg, disj_of_nodup' ND.out g hg⟩))
  have N2 := Lib.hid (N1.out.trans (u1.mono fun g hg => List.mem_append_right _ hg))
  clear O0' O1' P1 N1 o1' u1 q1
  go_wp2_with fail
  go_ret
  exact ⟨ret_int (by omega), ⟨F0, F1, _, _, rfl, rfl, O0.out, O1.out⟩, N2.out⟩
end Go.Proofs.Ytacegpmgicebfaa
