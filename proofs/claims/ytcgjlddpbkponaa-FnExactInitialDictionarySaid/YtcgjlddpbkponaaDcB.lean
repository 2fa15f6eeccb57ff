/-
  Helpers: bounds, copies, membership.
-/
import Derived.Test.YtcgjlddpbkponaaDcA
namespace Go.Proofs.Ytcgjlddpbkponaa
open Go.ChangeShapes Go.WideShapes Go.ChangeAt Go.RowKit
set_option linter.unusedVariables false
set_option linter.unusedSimpArgs false
theorem arsRd_i3 {a b c : Int} {A : Nat → Prop} {w : World} {us : List Value} (h : ArsRd A w [.one (.int .i64 a), .one (.int .i64 b), .one (.int .i64 c)] us) : us = #[.int .i64 a, .int .i64 b, .int .i64 c].toList := by
  obtain ⟨v, vs, rfl, h1, v', vs', rfl, h2, v'', vs'', rfl, h3, h4⟩ := h
  simp only [ArRd] at h1 h2 h3
  unfold RdV at h1 h2 h3
  rw [h1, h2, h3, show vs'' = [] from h4]
theorem c_within {n a b : Int} {t : Bool} (h : inB n a b = t) : Con Try.prog 62 [.one (.int .i64 n), .one (.int .i64 a), .one (.int .i64 b)] (.p none (.bool t)) [] := by
  subst h
  exact con_calls (v := .bool (inB n a b)) (by kernel_rfl) (fun A w us h => arsRd_i3 h) (fun K φ w => by unfold MatchV RdV; rfl) (fun w => (within_any n a b w).mono fun _ _ ⟨he, hw⟩ => ⟨he, hw ▸ Below.refl _ _⟩)
theorem c_l1In {n a b : Int} {t : Bool} (h : inB n a b = t) : Con Try.prog 59 [.one (.int .i64 n), .one (.int .i64 a), .one (.int .i64 b)] (.p none (.bool t)) [] := by
  subst h
  exact con_calls (v := .bool (inB n a b)) (by kernel_rfl) (fun A w us h => arsRd_i3 h) (fun K φ w => by unfold MatchV RdV; rfl) (fun w => (l1In_any n a b w).mono fun _ _ ⟨he, hw⟩ => ⟨he, hw ▸ Below.refl _ _⟩)
theorem flats_ints : ∀ (l : List Int), Flats (l.map intD) (l.map fun n => [Value.int .i64 n])
  | [] => rfl
  | n :: l => ⟨_, _, rfl, rfl, flats_ints l⟩

set_option maxRecDepth 100000 in
set_option maxHeartbeats 4000000 in
theorem c_copyInts (l : List Int) (hl : l.length ≤ 1048576) :
    Con Try.prog 88 [.one (ints l)] (.own 0) [(0, .arr 3 1 true (l.map intD))] := by
  refine con_of (N := 6) Try.func88 rfl rfl (by decide) (Nat.le_of_ble_eq_true rfl) ?_
  refine VC_seq (fun K1 k1 => ?_)
  refine VC_lit ?_
  refine goV (sd_assign (v := .nil) rfl) (Nat.le_of_ble_eq_true rfl) ?_
  refine op_nil ?_
  refine k1 _ ?_
  refine VC_seq (fun K2 k2 => ?_)
  refine VC_lit ?_
  refine goN (sd_slice0 Try.underlying22 ty3 rfl) (Nat.le_of_ble_eq_true rfl) ?_
  refine goV (sd_move (v := .p none (.sl _ _ _)) rfl) (Nat.le_of_ble_eq_true rfl) ?_
  refine goA (sd_appF Try.underlying22 ty3 (Nat.le_of_ble_eq_true rfl) ⟨rfl, rfl⟩ ⟨trivial, rfl, rfl⟩ (flats_ints l) ?_ ?_ rfl rfl) (Nat.le_of_ble_eq_true rfl) ?_; (focus (first | (simp; done) | (simp; omega) | (simp at *; omega))); (focus (unfold maxLen; first | (simp; done) | (simp; omega) | (simp at *; omega)))
  refine goV (sd_assign (v := .own _) rfl) (Nat.le_of_ble_eq_true rfl) ?_
  refine op_nil ?_
  refine k2 _ ?_
  refine VC_ret ?_
  show Fin _ _ _ _ _ _
  exact fin1 (xs := [.own _]) (fun h => 500) (.inr rfl) ⟨_, _, rfl, rfl, rfl⟩ rfl ⟨⟨rfl, rfl⟩, trivial⟩ rfl

theorem any_stop {α : Type} {p : α → Bool} {l : List α} {k : Nat} {x : α} (h : l[k]? = some x) (hp : p x = true) : l.any p = true := List.any_eq_true.2 ⟨x, List.mem_of_getElem? h, hp⟩
theorem any_snoc {α : Type} {p : α → Bool} {l : List α} {k : Nat} {x : α} (h : l[k]? = some x) (ha : (l.take k).any p = false) (hp : p x = false) : (l.take (k + 1)).any p = false := by
  rw [List.take_add_one, h]
  simp [ha, hp]
theorem any_done {α : Type} {p : α → Bool} {l : List α} {k : Nat} (hge : l.length ≤ k) (ha : (l.take k).any p = false) : l.any p = false := by rwa [List.take_of_length_le hge] at ha

set_option maxRecDepth 100000 in
set_option maxHeartbeats 4000000 in
theorem c_l7Has0 (l : List Int) (n : Int) (hl : l.length ≤ 9223372036854775807) :
    Con Try.prog 84 [.one (ints l), .one (.int .i64 n)] (.p none (.bool (l.any fun x => decide (x = n)))) [] := by
  refine con_of (N := 18) Try.func84 rfl rfl (by decide) (Nat.le_of_ble_eq_true rfl) ?_
  refine VC_seq (fun K1 k1 => ?_)
  refine VC_lit ?_
  refine goV (sd_assign (v := .p none _) rfl) (Nat.le_of_ble_eq_true rfl) ?_
  refine op_nil ?_
  refine k1 _ ?_
  refine VC_seq (fun K2 k2 => ?_)
  refine VC_seq (fun K3 k3 => ?_)
  refine VC_lit ?_
  refine goV (sd_assign (v := .p none _) rfl) (Nat.le_of_ble_eq_true rfl) ?_
  refine op_nil ?_
  refine k3 _ ?_
  refine VC_block ?_
  refine VC_le (S' := mk [(0, .p none (ints l)), (1, .p none (.int .i64 n)), (4, .p none (.bool false)), (5, .p none (.int .i64 ((0) : Int)))] []) id (le_mk ⟨(by first | rfl | (simp [findS, findO, mapA, mapR]; done)), (by first | rfl | (simp [findS, findO, mapA, mapR]; done)), (by first | rfl | (simp [findS, findO, mapA, mapR]; done)), (by first | rfl | (simp [findS, findO, mapA, mapR]; done)), trivial⟩ trivial rfl) ?_
  refine VC_loop (fun nn SS => ∃ (k : Nat), SS = mk [(0, .p none (ints l)), (1, .p none (.int .i64 n)), (4, .p none (.bool false)), (5, .p none (.int .i64 (k : Int)))] [] ∧ nn = l.length - k ∧ k ≤ l.length ∧ (l.take k).any (fun x => decide (x = n)) = false) _ ⟨0, rfl, rfl, Nat.zero_le _, rfl⟩ (fun nn SS hI => ?_)
  obtain ⟨k, rfl, rfl, hk, ha⟩ := hI
  refine VC_seq (fun K4 k4 => ?_)
  refine VC_seq (fun K5 k5 => ?_)
  refine VC_lit ?_
  refine goV (sd_move (v := .p none (.int _ _)) rfl) (Nat.le_of_ble_eq_true rfl) ?_
  refine goV (sd_move (v := .p none (.sl _ _ _)) rfl) (Nat.le_of_ble_eq_true rfl) ?_
  refine goV (sd_len Try.underlying22 len_pm) (Nat.le_of_ble_eq_true rfl) ?_
  refine goV (sd_lss rfl rfl) (Nat.le_of_ble_eq_true rfl) ?_
  refine op_nil ?_
  refine k5 _ ?_
  refine VC_cond rfl (fun c0 => ?_) (fun c0 => ?_)
  · have hlt : k < l.length := by simpa using c0
    obtain ⟨x, hx⟩ : ∃ x, l[k]? = some x := ⟨_, List.getElem?_eq_getElem hlt⟩
    refine VC_skip ?_
    refine k4 _ ?_
    refine VC_seq (fun K6 k6 => ?_)
    refine VC_block ?_
    refine VC_seq (fun K7 k7 => ?_)
    refine VC_lit ?_
    refine goV (sd_move (v := .p none (.sl _ _ _)) rfl) (Nat.le_of_ble_eq_true rfl) ?_
    refine goV (sd_move (v := .p none (.int _ _)) rfl) (Nat.le_of_ble_eq_true rfl) ?_
    refine goV (sd_index Try.underlying22 ty3 rfl rfl ?_ (map_at hx)) (Nat.le_of_ble_eq_true rfl) ?_; (focus (omega))
    refine goV (sd_loadR1 (v := .p none (.int _ _)) ty3 rfl rfl rfl) (Nat.le_of_ble_eq_true rfl) ?_
    refine goV (sd_move (v := .p none (.int _ _)) rfl) (Nat.le_of_ble_eq_true rfl) ?_
    refine goV (sd_eql rfl rfl) (Nat.le_of_ble_eq_true rfl) ?_
    refine op_nil ?_
    refine k7 _ ?_
    refine VC_cond rfl (fun c1 => ?_) (fun c1 => ?_)
    · refine VC_seq (fun K8 k8 => ?_)
      refine VC_lit ?_
      refine goV (sd_assign (v := .p none _) rfl) (Nat.le_of_ble_eq_true rfl) ?_
      refine op_nil ?_
      refine k8 _ ?_
      refine VC_ret ?_
      show Fin _ _ _ _ _ _
      refine fin0 (xs := [.p none (.bool _)]) (.inr rfl) ⟨_, _, rfl, rfl, rfl⟩ ?_
      show AV.p none (.bool _) = _
      first | rw [any_stop hx c1] | rw [any_done hge ha]
    · refine VC_skip ?_
      refine k6 _ ?_
      refine VC_lit ?_
      refine goV (sd_move (v := .p none (.int _ _)) rfl) (Nat.le_of_ble_eq_true rfl) ?_
      refine goV (sd_addI rfl rfl ?_) (Nat.le_of_ble_eq_true rfl) ?_; (focus (first | omega | (constructor <;> omega)))
      refine goV (sd_assign (v := .p none (.int _ _)) rfl) (Nat.le_of_ble_eq_true rfl) ?_
      refine op_nil ?_
      exact ⟨_, id, mk [(0, .p none (ints l)), (1, .p none (.int .i64 n)), (4, .p none (.bool false)), (5, .p none (.int .i64 ((k + 1) : Int)))] [], by omega, le_mk ⟨(by first | rfl | (simp [findS, findO, mapA, mapR]; done)), (by first | rfl | (simp [findS, findO, mapA, mapR]; done)), (by first | rfl | (simp [findS, findO, mapA, mapR]; done)), (by first | rfl | (simp [findS, findO, mapA, mapR]; done)), trivial⟩ trivial rfl, k + 1, rfl, rfl, hlt, any_snoc hx ha c1⟩
  · have hge : l.length ≤ k := by simpa using c0
    refine VC_exit ?_
    refine k2 _ ?_
    refine VC_seq (fun K9 k9 => ?_)
    refine VC_lit ?_
    refine goV (sd_assign (v := .p none _) rfl) (Nat.le_of_ble_eq_true rfl) ?_
    refine op_nil ?_
    refine k9 _ ?_
    refine VC_ret ?_
    show Fin _ _ _ _ _ _
    refine fin0 (xs := [.p none (.bool _)]) (.inr rfl) ⟨_, _, rfl, rfl, rfl⟩ ?_
    show AV.p none (.bool _) = _
    first | rw [any_stop hx c1] | rw [any_done hge ha]

theorem c_l7Has {l : List Int} {n : Int} {t : Bool} (hl : l.length ≤ 9223372036854775807) (h : l.any (fun x => decide (x = n)) = t) : Con Try.prog 84 [.one (ints l), .one (.int .i64 n)] (.p none (.bool t)) [] := by
  subst h
  exact c_l7Has0 l n hl
end Go.Proofs.Ytcgjlddpbkponaa
