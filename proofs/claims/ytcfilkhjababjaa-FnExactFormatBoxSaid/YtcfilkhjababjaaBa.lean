/-
  Valid boxes, both sides.
-/
import Derived.Test.YtcfilkhjababjaaQa
import Derived.Test.YtcfilkhjababjaaDm
namespace Go.Proofs.Ytcfilkhjababjaa
open Go.ChangeShapes Go.WideShapes Go.ChangeAt Go.RowKit
set_option linter.unusedVariables false
set_option linter.unusedSimpArgs false
def okCl (x : Int) : Bool := decide (0 ≤ x ∧ x ≤ 7)
def okLoc (l : List Int) : Bool := l.all okCl && decide ((l.length : Int) ≤ 16)
def domL : List Int → List Int → Bool
  | [], [] => true
  | a :: l, b :: m => !decide (a < b) && domL l m
  | _, _ => false
theorem domL_len : ∀ {l m : List Int}, domL l m = true → l.length = m.length
  | [], [], _ => rfl
  | [], _ :: _, h => by simp [domL] at h
  | _ :: _, [], h => by simp [domL] at h
  | a :: l, b :: m, h => by
    simp only [domL, Bool.and_eq_true] at h
    simp [domL_len h.2]
theorem domL_ne {l m : List Int} (h : ¬ (l.length : Int) = m.length) : domL l m = false := by
  cases e : domL l m with
  | false => rfl
  | true => exact absurd (by rw [domL_len e]) h
theorem okLoc_bnd {l : List Int} (h : okLoc l = true) : (∀ x ∈ l, 0 ≤ x ∧ x ≤ 7) ∧ l.length ≤ 16 := by
  simp only [okLoc, Bool.and_eq_true, decide_eq_true_eq, List.all_eq_true] at h
  refine ⟨fun x hx => ?_, by omega⟩
  have := h.1 x hx
  simpa [okCl] using this
def okBox (b : BoxD) : Bool := decide (0 < (b.low.length : Int)) && (okLoc b.low && (okLoc b.high && domL b.high b.low))
def dig (x : Int) : Int := IntKind.u8.wrap (48 + x)
def digs (l : List Int) : ByteArray := strOf (l.map dig)
def fmtLoc (l : List Int) : ByteArray := if okLoc l = true then digs l else ⟨#[]⟩
def fmtBox (b : BoxD) : ByteArray := if okBox b = true then fmtLoc b.low ++ (⟨#[46, 46]⟩ : ByteArray) ++ fmtLoc b.high else ⟨#[]⟩
theorem strOf_app (a b : List Int) : strOf (a ++ b) = strOf a ++ strOf b := by
  apply ByteArray.ext
  simp [strOf, ByteArray.data_append]
theorem digs_app (a b : List Int) : digs (a ++ b) = digs a ++ digs b := by rw [digs, List.map_append, strOf_app]; rfl
theorem digs_size (l : List Int) : (digs l).size = l.length := by simp [digs, strOf_size]
theorem fmtLoc_size (l : List Int) : (fmtLoc l).size ≤ 16 := by
  unfold fmtLoc
  split
  · rename_i h
    have := (okLoc_bnd h).2
    rw [digs_size]; exact this
  · exact Nat.zero_le _
theorem tmod10 {n : Int} (h0 : 0 ≤ n) (h9 : n ≤ 9) : Int.tmod n 10 = n := by rw [Int.tmod_eq_emod_of_nonneg h0]; omega
theorem tdiv10 {n : Int} (h0 : 0 ≤ n) (h9 : n ≤ 9) : Int.tdiv n 10 = 0 := by rw [Int.tdiv_eq_ediv_of_nonneg h0]; omega
theorem app_nil (s : ByteArray) : s ++ (⟨#[]⟩ : ByteArray) = s := by
  apply ByteArray.ext
  simp [ByteArray.data_append]
theorem dom_at {l m : List Int} {k : Nat} {x y : Int} (hx : l[k]? = some x) (hy : m[k]? = some y) : domL (l.drop k) (m.drop k) = (!decide (x < y) && domL (l.drop (k + 1)) (m.drop (k + 1))) := by
  have e1 : l.drop k = x :: l.drop (k + 1) := by
    obtain ⟨hk, rfl⟩ := List.getElem?_eq_some_iff.1 hx
    exact List.drop_eq_getElem_cons hk
  have e2 : m.drop k = y :: m.drop (k + 1) := by
    obtain ⟨hk, rfl⟩ := List.getElem?_eq_some_iff.1 hy
    exact List.drop_eq_getElem_cons hk
  rw [e1, e2]; rfl
theorem dom_end {l m : List Int} {k : Nat} (h : l.length ≤ k) (hl : l.length = m.length) : domL (l.drop k) (m.drop k) = true := by
  rw [List.drop_eq_nil_of_le h, List.drop_eq_nil_of_le (by omega)]; rfl
theorem fmt_end {l : List Int} {k : Nat} {s : ByteArray} (hs : s = digs (l.take k)) (hk : l.length ≤ k) (hz : k = 0 ∨ okLoc l = true) : s = fmtLoc l := by
  rw [hs, List.take_of_length_le hk, fmtLoc]
  rcases hz with rfl | hz
  · obtain rfl : l = [] := List.eq_nil_of_length_eq_zero (by omega)
    rfl
  · rw [if_pos hz]
theorem fmt_bad {l : List Int} {k : Nat} {s : ByteArray} (hs : s = digs (l.take k)) (hz : k = 0 ∨ okLoc l = true) (h : okLoc l = false) : s = fmtLoc l := by
  rw [h] at hz
  obtain rfl : k = 0 := by simpa using hz
  rw [hs, fmtLoc, if_neg (by simp [h])]; rfl

set_option maxRecDepth 100000 in
set_option maxHeartbeats 4000000 in
theorem loc_impl (l : List Int) : Con Try.prog 158 [.one (.sl 3 1 (l.map intD))] (vB (okLoc l)) [] := by
  refine con_x tbOk mixedW Try.func158 (by kernel_rfl) (.len l.length <| .loop Nat (Q1 Nat) [4, 7, 8, 9, 10, 11, 12, 13, 14] [] (fun k => [(7, vI (k : Int))]) (fun k => []) (fun k => k ≤ l.length ∧ (l.take k).all okCl = true) (fun k => l.length - k) (fun k => .br (.elem Int intD l (fun e9 => .call (vB (decide ((0 : Int) ≤ e9 ∧ e9 ≤ (7 : Int)))) [] <| .br (.fin []) (.back []))) (.len l.length <| .fin []))) ?_
  refine Eq.mpr (by kernel_rfl : _ = ((l.map intD).length ≤ 9223372036854775807 → (l.map intD).length = l.length ∧ ((∃ (k : Nat), (0 : Int) = (k : Int) ∧ k ≤ l.length ∧ (l.take k).all okCl = true) ∧ ∀ (k : Nat), (k ≤ l.length ∧ (l.take k).all okCl = true) → ((decide ((k : Int) < ((l.length : Nat) : Int))) = true → 0 ≤ (k : Int) ∧ (l.map intD = l.map intD ∧ k < l.length ∧ ∀ e9, l[k]? = some e9 → (Con Try.prog 93 [.one (.int .i64 e9), .one (.int .i64 (0 : Int)), .one (.int .i64 (7 : Int))] (vB (decide ((0 : Int) ≤ e9 ∧ e9 ≤ (7 : Int)))) []) ∧ (((!(decide ((0 : Int) ≤ e9 ∧ e9 ≤ (7 : Int)))) = true → (false) = (okLoc l) ∧ True) ∧ ((!(decide ((0 : Int) ≤ e9 ∧ e9 ≤ (7 : Int)))) = false → inR ((k : Int) + (1 : Int)) ∧ ∃ (k' : Nat), ((k : Int) + (1 : Int)) = (k' : Int) ∧ (k' ≤ l.length ∧ (l.take k').all okCl = true) ∧ l.length - k' < l.length - k)))) ∧ ((decide ((k : Int) < ((l.length : Nat) : Int))) = false → (l.map intD).length = l.length ∧ (decide (((l.length : Nat) : Int) ≤ (16 : Int))) = (okLoc l) ∧ True)))) ?_
  intro n0
  simp only [List.length_map] at n0
  refine ⟨List.length_map _, ?_⟩
  refine ⟨⟨0, rfl, Nat.zero_le _, rfl⟩, fun k ⟨hk, ha⟩ => ?_⟩
  refine ⟨fun c0 => ?_, fun c0 => ?_⟩
  · replace c0 := of_decide_eq_true c0
    refine ⟨by omega, ?_⟩
    refine ⟨rfl, by omega, fun e9 h9 => ?_⟩
    refine ⟨in_impl _ _ _, ?_⟩
    refine ⟨fun c1 => ?_, fun c1 => ?_⟩
    · replace c1 := of_decide_eq_false (nt c1)
      refine ⟨?_, trivial⟩
      · first | (rw [okLoc, all_stop h9 (decide_eq_false c1)]; rfl) | (rw [okLoc, all_done (by omega) ha]; simp; done) | (rw [okLoc, all_done (by omega) ha]; rfl)
    · replace c1 := of_decide_eq_true (nf c1)
      refine ⟨⟨by omega, by omega⟩, ?_⟩
      exact ⟨k + 1, rfl, ⟨by omega, all_snoc h9 ha (decide_eq_true c1)⟩, by omega⟩
  · replace c0 := of_decide_eq_false c0
    refine ⟨List.length_map _, ?_⟩
    refine ⟨?_, trivial⟩
    · first | (rw [okLoc, all_stop h9 (decide_eq_false c1)]; rfl) | (rw [okLoc, all_done (by omega) ha]; simp; done) | (rw [okLoc, all_done (by omega) ha]; rfl)

set_option maxRecDepth 100000 in
set_option maxHeartbeats 4000000 in
theorem loc_spec (l : List Int) : Con Try.prog 155 [.one (.sl 3 1 (l.map intD))] (vB (okLoc l)) [] := by
  refine con_x tbOk mixedW Try.func155 (by kernel_rfl) (.loop Nat (Q1 Nat) [3, 4, 5, 6, 7, 8, 9, 10, 11, 12, 13, 14, 15] [] (fun k => [(3, vI (k : Int))]) (fun k => []) (fun k => k ≤ l.length ∧ (l.take k).all okCl = true) (fun k => l.length - k) (fun k => .len l.length <| .br (.elem Int intD l (fun e12 => .call (vB (decide ((0 : Int) ≤ e12 ∧ e12 ≤ (7 : Int)))) [] <| .br (.fin []) (.back []))) (.len l.length <| .fin []))) ?_
  refine Eq.mpr (by kernel_rfl : _ = ((l.map intD).length ≤ 9223372036854775807 → (∃ (k : Nat), (0 : Int) = (k : Int) ∧ k ≤ l.length ∧ (l.take k).all okCl = true) ∧ ∀ (k : Nat), (k ≤ l.length ∧ (l.take k).all okCl = true) → (l.map intD).length = l.length ∧ (((decide ((k : Int) < ((l.length : Nat) : Int))) = true → 0 ≤ (k : Int) ∧ (l.map intD = l.map intD ∧ k < l.length ∧ ∀ e12, l[k]? = some e12 → (Con Try.prog 91 [.one (.int .i64 e12), .one (.int .i64 (0 : Int)), .one (.int .i64 (7 : Int))] (vB (decide ((0 : Int) ≤ e12 ∧ e12 ≤ (7 : Int)))) []) ∧ (((!(decide ((0 : Int) ≤ e12 ∧ e12 ≤ (7 : Int)))) = true → (false) = (okLoc l) ∧ True) ∧ ((!(decide ((0 : Int) ≤ e12 ∧ e12 ≤ (7 : Int)))) = false → inR ((k : Int) + (1 : Int)) ∧ ∃ (k' : Nat), ((k : Int) + (1 : Int)) = (k' : Int) ∧ (k' ≤ l.length ∧ (l.take k').all okCl = true) ∧ l.length - k' < l.length - k)))) ∧ ((decide ((k : Int) < ((l.length : Nat) : Int))) = false → (l.map intD).length = l.length ∧ (decide (((l.length : Nat) : Int) ≤ (16 : Int))) = (okLoc l) ∧ True)))) ?_
  intro n0
  simp only [List.length_map] at n0
  refine ⟨⟨0, rfl, Nat.zero_le _, rfl⟩, fun k ⟨hk, ha⟩ => ?_⟩
  refine ⟨List.length_map _, ?_⟩
  refine ⟨fun c0 => ?_, fun c0 => ?_⟩
  · replace c0 := of_decide_eq_true c0
    refine ⟨by omega, ?_⟩
    refine ⟨rfl, by omega, fun e12 h12 => ?_⟩
    refine ⟨in_spec _ _ _, ?_⟩
    refine ⟨fun c1 => ?_, fun c1 => ?_⟩
    · replace c1 := of_decide_eq_false (nt c1)
      refine ⟨?_, trivial⟩
      · first | (rw [okLoc, all_stop h12 (decide_eq_false c1)]; rfl) | (rw [okLoc, all_done (by omega) ha]; simp; done) | (rw [okLoc, all_done (by omega) ha]; rfl)
    · replace c1 := of_decide_eq_true (nf c1)
      refine ⟨⟨by omega, by omega⟩, ?_⟩
      exact ⟨k + 1, rfl, ⟨by omega, all_snoc h12 ha (decide_eq_true c1)⟩, by omega⟩
  · replace c0 := of_decide_eq_false c0
    refine ⟨List.length_map _, ?_⟩
    refine ⟨?_, trivial⟩
    · first | (rw [okLoc, all_stop h12 (decide_eq_false c1)]; rfl) | (rw [okLoc, all_done (by omega) ha]; simp; done) | (rw [okLoc, all_done (by omega) ha]; rfl)

set_option maxRecDepth 100000 in
set_option maxHeartbeats 4000000 in
theorem dom_impl (l m : List Int) : Con Try.prog 159 [.one (.sl 3 1 (l.map intD)), .one (.sl 3 1 (m.map intD))] (vB (domL l m)) [] := by
  refine con_x tbOk mixedW Try.func159 (by kernel_rfl) (.len l.length <| .len m.length <| .br (.fin []) (.len l.length <| .loop Nat (Q1 Nat) [5, 13, 14, 15, 16, 17, 18, 19, 20, 21, 22, 23, 24, 25] [] (fun k => [(13, vI (k : Int))]) (fun k => []) (fun k => k ≤ l.length ∧ domL (l.drop k) (m.drop k) = domL l m) (fun k => l.length - k) (fun k => .br (.elem Int intD l (fun e18 => .elem Int intD m (fun e22 => .br (.fin []) (.back [])))) (.fin [])))) ?_
  refine Eq.mpr (by kernel_rfl : _ = ((l.map intD).length ≤ 9223372036854775807 → (m.map intD).length ≤ 9223372036854775807 → (l.map intD).length = l.length ∧ ((m.map intD).length = m.length ∧ (((!(decide (((l.length : Nat) : Int) = ((m.length : Nat) : Int)))) = true → (false) = (domL l m) ∧ True) ∧ ((!(decide (((l.length : Nat) : Int) = ((m.length : Nat) : Int)))) = false → (l.map intD).length = l.length ∧ ((∃ (k : Nat), (0 : Int) = (k : Int) ∧ k ≤ l.length ∧ domL (l.drop k) (m.drop k) = domL l m) ∧ ∀ (k : Nat), (k ≤ l.length ∧ domL (l.drop k) (m.drop k) = domL l m) → ((decide ((k : Int) < ((l.length : Nat) : Int))) = true → 0 ≤ (k : Int) ∧ (l.map intD = l.map intD ∧ k < l.length ∧ ∀ e18, l[k]? = some e18 → 0 ≤ (k : Int) ∧ (m.map intD = m.map intD ∧ k < m.length ∧ ∀ e22, m[k]? = some e22 → ((decide (e18 < e22)) = true → (false) = (domL l m) ∧ True) ∧ ((decide (e18 < e22)) = false → inR ((k : Int) + (1 : Int)) ∧ ∃ (k' : Nat), ((k : Int) + (1 : Int)) = (k' : Int) ∧ (k' ≤ l.length ∧ domL (l.drop k') (m.drop k') = domL l m) ∧ l.length - k' < l.length - k)))) ∧ ((decide ((k : Int) < ((l.length : Nat) : Int))) = false → (true) = (domL l m) ∧ True))))))) ?_
  intro n0 n1
  simp only [List.length_map] at n0 n1
  refine ⟨List.length_map _, ?_⟩
  refine ⟨List.length_map _, ?_⟩
  refine ⟨fun c0 => ?_, fun c0 => ?_⟩
  · replace c0 := of_decide_eq_false (nt c0)
    refine ⟨?_, trivial⟩
    · first | (rw [domL_ne c0]; done) | (rw [← hd, dom_at h18 h22]; simp [c2]; done) | (rw [← hd, dom_end (by omega) hl]; done)
  · replace c0 := of_decide_eq_true (nf c0)
    have hl : l.length = m.length := by omega
    refine ⟨List.length_map _, ?_⟩
    refine ⟨⟨0, rfl, Nat.zero_le _, rfl⟩, fun k ⟨hk, hd⟩ => ?_⟩
    refine ⟨fun c1 => ?_, fun c1 => ?_⟩
    · replace c1 := of_decide_eq_true c1
      refine ⟨by omega, ?_⟩
      refine ⟨rfl, by omega, fun e18 h18 => ?_⟩
      refine ⟨by omega, ?_⟩
      refine ⟨rfl, by omega, fun e22 h22 => ?_⟩
      refine ⟨fun c2 => ?_, fun c2 => ?_⟩
      · replace c2 := of_decide_eq_true c2
        refine ⟨?_, trivial⟩
        · first | (rw [domL_ne c0]; done) | (rw [← hd, dom_at h18 h22]; simp [c2]; done) | (rw [← hd, dom_end (by omega) hl]; done)
      · replace c2 := of_decide_eq_false c2
        refine ⟨⟨by omega, by omega⟩, ?_⟩
        exact ⟨k + 1, rfl, ⟨by omega, by rw [← hd, dom_at h18 h22]; simp [c2]⟩, by omega⟩
    · replace c1 := of_decide_eq_false c1
      refine ⟨?_, trivial⟩
      · first | (rw [domL_ne c0]; done) | (rw [← hd, dom_at h18 h22]; simp [c2]; done) | (rw [← hd, dom_end (by omega) hl]; done)

set_option maxRecDepth 100000 in
set_option maxHeartbeats 4000000 in
theorem dom_spec (l m : List Int) : Con Try.prog 156 [.one (.sl 3 1 (l.map intD)), .one (.sl 3 1 (m.map intD))] (vB (domL l m)) [] := by
  refine con_x tbOk mixedW Try.func156 (by kernel_rfl) (.len l.length <| .len m.length <| .br (.fin []) (.loop Nat (Q1 Nat) [5, 11, 12, 13, 14, 15, 16, 17, 18, 19, 20, 21, 22, 23, 24, 25] [] (fun k => [(5, vI (k : Int))]) (fun k => []) (fun k => k ≤ l.length ∧ domL (l.drop k) (m.drop k) = domL l m) (fun k => l.length - k) (fun k => .len l.length <| .br (.elem Int intD l (fun e19 => .elem Int intD m (fun e23 => .br (.fin []) (.back [])))) (.fin [])))) ?_
  refine Eq.mpr (by kernel_rfl : _ = ((l.map intD).length ≤ 9223372036854775807 → (m.map intD).length ≤ 9223372036854775807 → (l.map intD).length = l.length ∧ ((m.map intD).length = m.length ∧ (((!(decide (((l.length : Nat) : Int) = ((m.length : Nat) : Int)))) = true → (false) = (domL l m) ∧ True) ∧ ((!(decide (((l.length : Nat) : Int) = ((m.length : Nat) : Int)))) = false → (∃ (k : Nat), (0 : Int) = (k : Int) ∧ k ≤ l.length ∧ domL (l.drop k) (m.drop k) = domL l m) ∧ ∀ (k : Nat), (k ≤ l.length ∧ domL (l.drop k) (m.drop k) = domL l m) → (l.map intD).length = l.length ∧ (((decide ((k : Int) < ((l.length : Nat) : Int))) = true → 0 ≤ (k : Int) ∧ (l.map intD = l.map intD ∧ k < l.length ∧ ∀ e19, l[k]? = some e19 → 0 ≤ (k : Int) ∧ (m.map intD = m.map intD ∧ k < m.length ∧ ∀ e23, m[k]? = some e23 → ((decide (e19 < e23)) = true → (false) = (domL l m) ∧ True) ∧ ((decide (e19 < e23)) = false → inR ((k : Int) + (1 : Int)) ∧ ∃ (k' : Nat), ((k : Int) + (1 : Int)) = (k' : Int) ∧ (k' ≤ l.length ∧ domL (l.drop k') (m.drop k') = domL l m) ∧ l.length - k' < l.length - k)))) ∧ ((decide ((k : Int) < ((l.length : Nat) : Int))) = false → (true) = (domL l m) ∧ True))))))) ?_
  intro n0 n1
  simp only [List.length_map] at n0 n1
  refine ⟨List.length_map _, ?_⟩
  refine ⟨List.length_map _, ?_⟩
  refine ⟨fun c0 => ?_, fun c0 => ?_⟩
  · replace c0 := of_decide_eq_false (nt c0)
    refine ⟨?_, trivial⟩
    · first | (rw [domL_ne c0]; done) | (rw [← hd, dom_at h19 h23]; simp [c2]; done) | (rw [← hd, dom_end (by omega) hl]; done)
  · replace c0 := of_decide_eq_true (nf c0)
    have hl : l.length = m.length := by omega
    refine ⟨⟨0, rfl, Nat.zero_le _, rfl⟩, fun k ⟨hk, hd⟩ => ?_⟩
    refine ⟨List.length_map _, ?_⟩
    refine ⟨fun c1 => ?_, fun c1 => ?_⟩
    · replace c1 := of_decide_eq_true c1
      refine ⟨by omega, ?_⟩
      refine ⟨rfl, by omega, fun e19 h19 => ?_⟩
      refine ⟨by omega, ?_⟩
      refine ⟨rfl, by omega, fun e23 h23 => ?_⟩
      refine ⟨fun c2 => ?_, fun c2 => ?_⟩
      · replace c2 := of_decide_eq_true c2
        refine ⟨?_, trivial⟩
        · first | (rw [domL_ne c0]; done) | (rw [← hd, dom_at h19 h23]; simp [c2]; done) | (rw [← hd, dom_end (by omega) hl]; done)
      · replace c2 := of_decide_eq_false c2
        refine ⟨⟨by omega, by omega⟩, ?_⟩
        exact ⟨k + 1, rfl, ⟨by omega, by rw [← hd, dom_at h19 h23]; simp [c2]⟩, by omega⟩
    · replace c1 := of_decide_eq_false c1
      refine ⟨?_, trivial⟩
      · first | (rw [domL_ne c0]; done) | (rw [← hd, dom_at h19 h23]; simp [c2]; done) | (rw [← hd, dom_end (by omega) hl]; done)

set_option maxRecDepth 100000 in
set_option maxHeartbeats 4000000 in
theorem box_impl (b : BoxD) : Con Try.prog 103 [.agg [.sl 3 1 (b.low.map intD), .sl 3 1 (b.high.map intD)]] (vB (okBox b)) [] := by
  refine con_x tbOk mixedW Try.func103 (by kernel_rfl) (.call (vB (okLoc b.low)) [] <| .br (.call (vB (okLoc b.high)) [] <| .lit <| .br (.len b.low.length <| .lit <| .lit <| .br (.call (vB (domL b.high b.low)) [] <| .fin []) (.fin [])) (.fin [])) (.fin [])) ?_
  refine Eq.mpr (by kernel_rfl : _ = ((b.low.map intD).length ≤ 9223372036854775807 → (b.high.map intD).length ≤ 9223372036854775807 → Con Try.prog 158 [.one (.sl 3 1 (b.low.map intD))] (vB (okLoc b.low)) [] ∧ (((okLoc b.low) = true → Con Try.prog 158 [.one (.sl 3 1 (b.high.map intD))] (vB (okLoc b.high)) [] ∧ (((okLoc b.high) = true → (b.low.map intD).length = b.low.length ∧ (((decide ((0 : Int) < ((b.low.length : Nat) : Int))) = true → Con Try.prog 159 [.one (.sl 3 1 (b.high.map intD)), .one (.sl 3 1 (b.low.map intD))] (vB (domL b.high b.low)) [] ∧ (domL b.high b.low) = (okBox b) ∧ True) ∧ ((decide ((0 : Int) < ((b.low.length : Nat) : Int))) = false → (false) = (okBox b) ∧ True))) ∧ ((okLoc b.high) = false → (false) = (okBox b) ∧ True))) ∧ ((okLoc b.low) = false → (false) = (okBox b) ∧ True)))) ?_
  intro n0 n1
  simp only [List.length_map] at n0 n1
  refine ⟨loc_impl _, ?_⟩
  refine ⟨fun g6 => ?_, fun g6 => ?_⟩
  · refine ⟨loc_impl _, ?_⟩
    refine ⟨fun g11 => ?_, fun g11 => ?_⟩
    · refine ⟨List.length_map _, ?_⟩
      refine ⟨fun g17 => ?_, fun g17 => ?_⟩
      · replace g17 := of_decide_eq_true g17
        refine ⟨dom_impl _ _, ?_⟩
        refine ⟨?_, trivial⟩
        · simp [okBox, *]; try omega
      · replace g17 := of_decide_eq_false g17
        refine ⟨?_, trivial⟩
        · simp [okBox, *]; try omega
    · refine ⟨?_, trivial⟩
      · simp [okBox, *]; try omega
  · refine ⟨?_, trivial⟩
    · simp [okBox, *]; try omega

set_option maxRecDepth 100000 in
set_option maxHeartbeats 4000000 in
theorem box_spec (b : BoxD) : Con Try.prog 101 [.agg [.sl 3 1 (b.low.map intD), .sl 3 1 (b.high.map intD)]] (vB (okBox b)) [] := by
  refine con_x tbOk mixedW Try.func101 (by kernel_rfl) (.len b.low.length <| .br (.call (vB (okLoc b.low)) [] <| .lit <| .br (.call (vB (okLoc b.high)) [] <| .lit <| .br (.call (vB (domL b.high b.low)) [] <| .fin []) (.fin [])) (.fin [])) (.fin [])) ?_
  refine Eq.mpr (by kernel_rfl : _ = ((b.low.map intD).length ≤ 9223372036854775807 → (b.high.map intD).length ≤ 9223372036854775807 → (b.low.map intD).length = b.low.length ∧ (((decide ((0 : Int) < ((b.low.length : Nat) : Int))) = true → Con Try.prog 155 [.one (.sl 3 1 (b.low.map intD))] (vB (okLoc b.low)) [] ∧ (((okLoc b.low) = true → Con Try.prog 155 [.one (.sl 3 1 (b.high.map intD))] (vB (okLoc b.high)) [] ∧ (((okLoc b.high) = true → Con Try.prog 156 [.one (.sl 3 1 (b.high.map intD)), .one (.sl 3 1 (b.low.map intD))] (vB (domL b.high b.low)) [] ∧ (domL b.high b.low) = (okBox b) ∧ True) ∧ ((okLoc b.high) = false → (false) = (okBox b) ∧ True))) ∧ ((okLoc b.low) = false → (false) = (okBox b) ∧ True))) ∧ ((decide ((0 : Int) < ((b.low.length : Nat) : Int))) = false → (false) = (okBox b) ∧ True)))) ?_
  intro n0 n1
  simp only [List.length_map] at n0 n1
  refine ⟨List.length_map _, ?_⟩
  refine ⟨fun g7 => ?_, fun g7 => ?_⟩
  · replace g7 := of_decide_eq_true g7
    refine ⟨loc_spec _, ?_⟩
    refine ⟨fun g12 => ?_, fun g12 => ?_⟩
    · refine ⟨loc_spec _, ?_⟩
      refine ⟨fun g17 => ?_, fun g17 => ?_⟩
      · refine ⟨dom_spec _ _, ?_⟩
        refine ⟨?_, trivial⟩
        · simp [okBox, *]; try omega
      · refine ⟨?_, trivial⟩
        · simp [okBox, *]; try omega
    · refine ⟨?_, trivial⟩
      · simp [okBox, *]; try omega
  · replace g7 := of_decide_eq_false g7
    refine ⟨?_, trivial⟩
    · simp [okBox, *]; try omega
end Go.Proofs.Ytcfilkhjababjaa
