/-
  Valid dictionaries: the program's walk.
-/
import Derived.Test.YtcgjlddpbkponaaDcC
import Derived.Test.YtcgjlddpbkponaaEngS
import Derived.Test.YtcgjlddpbkponaaSortI
namespace Go.Proofs.Ytcgjlddpbkponaa
open Go.ChangeShapes Go.WideShapes Go.ChangeAt Go.RowKit
set_option linter.unusedVariables false
set_option linter.unusedSimpArgs false
def SmallD (d : DictionaryD) : Prop := d.basic.length ≤ 1048576 ∧ d.others.length ≤ 1048576 ∧ (∀ r ∈ d.table, r.length ≤ 9223372036854775807) ∧ d.consts.length ≤ 1048576 ∧ d.costs.length ≤ 1048576
theorem c_validRats' {l : List RationalD} {n : Int} {t : Bool} (hl : l.length ≤ 9223372036854775807) (h : okRats l n = t) : Con Try.prog 90 [.one (rats l), .one (.int .i64 n)] (.p none (.bool t)) [] := by
  subst h
  exact c_validRats l n hl
theorem c_all' {l : List RationalD} {t : Bool} (hl : l.length ≤ 9223372036854775807) (h : l.all okRat = t) : Con Try.prog 85 [.one (rats l)] (.p none (.bool t)) [] := by
  subst h
  exact c_all l hl
theorem sort_con (l : List Int) (hl : l.length ≤ 1048576) (blk cap : Nat) (w : World) (h1 : Go.Sort.Holds (Value.int .i64) w blk 0 l.toArray) (h2 : blk < w.heap.size) : Calls Try.prog 89 #[.slice (some ⟨blk, 0, none⟩) l.length cap] w (fun ex w' => ex = .returned (.tuple #[]) ∧ ∃ n os, w' = Go.Sort.grow (Go.Sort.putRow (Value.int .i64) (Go.Sort.ahead w n) blk 0 (sortI l).toArray) os) :=
  Try.slices_Sort_int blk 0 cap l w h1 h2 (by omega)

theorem sorted_snoc {l : List Int} {k : Nat} {x : Int} (ha : ∀ i, i < k → l[i]? = some (i : Int)) (hx : l[k]? = some x) (hc : (!decide (x = (k : Int))) = false) : ∀ i, i < k + 1 → l[i]? = some (i : Int) := by
  intro i hi
  rcases Nat.lt_or_eq_of_le (Nat.le_of_lt_succ hi) with h | rfl
  · exact ha i h
  · rw [hx]
    have : x = (i : Int) := by simpa using hc
    rw [this]

set_option maxRecDepth 100000 in
set_option maxHeartbeats 4000000 in
theorem c_okDic_impl0 (d : DictionaryD) (hs : SmallD d) :
    Con Try.prog 46 [.agg (dicD d)] (.p none (.bool (okDic d))) [] := by
  obtain ⟨s0, s1, s2, s3, s4⟩ := hs
  refine con_of (N := 76) Try.func46 rfl rfl (by decide) (Nat.le_of_ble_eq_true rfl) ?_
  refine VC_seq (fun K1 k1 => ?_)
  refine VC_lit ?_
  refine goN (sd_box (cs := [_, _, _, _, _, .p none (.int _ _), .p none (.int _ _)]) (by first | exact trivial | exact ⟨_, rfl⟩) rfl rfl) (Nat.le_of_ble_eq_true rfl) ?_
  refine goV (sd_assign (v := .p none _) rfl) (Nat.le_of_ble_eq_true rfl) ?_
  refine op_nil ?_
  refine k1 _ ?_
  refine VC_seq (fun K2 k2 => ?_)
  refine VC_drawn mixed ?_
  refine dgo (sd_fieldP fl45_0 rfl rfl) (by kernel_rfl) (dstOk (Nat.le_of_ble_eq_true rfl)) (by kernel_rfl) ?_
  refine dgo (sd_loadB1 (v := .p none (.sl _ _ _)) ty22 rfl rfl rfl) (by kernel_rfl) (dstOk (Nat.le_of_ble_eq_true rfl)) (by kernel_rfl) ?_
  refine dgo (sd_len Try.underlying22 len_pm) (by kernel_rfl) (dstOk (Nat.le_of_ble_eq_true rfl)) (by kernel_rfl) ?_
  refine dgo (sd_fieldP fl45_1 rfl rfl) (by kernel_rfl) (dstOk (Nat.le_of_ble_eq_true rfl)) (by kernel_rfl) ?_
  refine dgo (sd_loadB1 (v := .p none (.sl _ _ _)) ty22 rfl rfl rfl) (by kernel_rfl) (dstOk (Nat.le_of_ble_eq_true rfl)) (by kernel_rfl) ?_
  refine dgo (sd_len Try.underlying22 len_pm) (by kernel_rfl) (dstOk (Nat.le_of_ble_eq_true rfl)) (by kernel_rfl) ?_
  refine dgo (sd_assign (v := .p none (.int _ _)) rfl) (by kernel_rfl) (dstOk (Nat.le_of_ble_eq_true rfl)) (by kernel_rfl) ?_
  refine dgo (sd_assign (v := .p none (.int _ _)) rfl) (by kernel_rfl) (dstOk (Nat.le_of_ble_eq_true rfl)) (by kernel_rfl) ?_
  refine dnil ⟨by kernel_rfl, ?_⟩
  refine k2 _ ?_
  refine VC_seq (fun K3 k3 => ?_)
  refine VC_seq (fun K4 k4 => ?_)
  rcases chain3 (decide (d.basic.length ≤ 64)) (inB d.others.length 1 15) (decide (d.table.length = d.basic.length)) with q0 | ⟨q0, q1⟩ | ⟨q0, q1, q2⟩ | ⟨q0, q1, q2⟩
  · have g0 : decide ((64 : Int) < (d.basic.length : Int)) = true := by simp at q0 ⊢; omega
    refine VC_lit ?_
    refine goV (sd_move (v := .p none (.int _ _)) rfl) (Nat.le_of_ble_eq_true rfl) ?_
    refine goV (sd_gtr rfl rfl) (Nat.le_of_ble_eq_true rfl) ?_
    refine goV (sd_move (v := .p none (.bool _)) rfl) (Nat.le_of_ble_eq_true rfl) ?_
    refine op_gnoE rfl (Nat.le_of_ble_eq_true rfl) rfl g0 (Nat.le_of_ble_eq_true rfl) ?_
    refine op_gnoE rfl (Nat.le_of_ble_eq_true rfl) rfl g0 (Nat.le_of_ble_eq_true rfl) ?_
    refine op_gnoE rfl (Nat.le_of_ble_eq_true rfl) rfl g0 (Nat.le_of_ble_eq_true rfl) ?_
    refine goV (sd_pickH (v := .p none (.bool _)) rfl g0 rfl) (Nat.le_of_ble_eq_true rfl) ?_
    refine goV (sd_move (v := .p none (.bool _)) rfl) (Nat.le_of_ble_eq_true rfl) ?_
    refine op_gnoE rfl (Nat.le_of_ble_eq_true rfl) rfl rfl (Nat.le_of_ble_eq_true rfl) ?_
    refine op_gnoE rfl (Nat.le_of_ble_eq_true rfl) rfl rfl (Nat.le_of_ble_eq_true rfl) ?_
    refine op_gnoE rfl (Nat.le_of_ble_eq_true rfl) rfl rfl (Nat.le_of_ble_eq_true rfl) ?_
    refine op_gnoE rfl (Nat.le_of_ble_eq_true rfl) rfl rfl (Nat.le_of_ble_eq_true rfl) ?_
    refine op_gnoE rfl (Nat.le_of_ble_eq_true rfl) rfl rfl (Nat.le_of_ble_eq_true rfl) ?_
    refine goV (sd_pick (v := .p none (.bool _)) rfl rfl) (Nat.le_of_ble_eq_true rfl) ?_
    refine op_nil ?_
    refine k4 _ ?_
    refine VC_cond rfl (fun c0 => ?_) (fun c0 => absurd c0 (by first | decide | simp))
    refine VC_seq (fun K5 k5 => ?_)
    refine VC_lit ?_
    refine goV (sd_assign (v := .p none _) rfl) (Nat.le_of_ble_eq_true rfl) ?_
    refine op_nil ?_
    refine k5 _ ?_
    refine VC_ret ?_
    show Fin _ _ _ _ _ _
    refine fin0 (xs := [.p none (.bool _)]) (.inr rfl) ⟨_, _, rfl, rfl, rfl⟩ ?_
    show AV.p none (.bool _) = _
    first | (rw [okDic, q0]; rfl) | (rw [okDic, q0, q1]; rfl) | (rw [okDic, q0, q1, q2]; rfl) | (rw [okDic, q0, q1, q2, hp]; rfl) | (rw [okDic, q0, q1, q2, hp, all_stop hx (by simpa using c4)]; rfl) | (rw [okDic, q0, q1, q2, hp, all_done hge ha, r0]; rfl) | (rw [okDic, q0, q1, q2, hp, all_done hge ha, r0, r1]; rfl) | (rw [okDic, q0, q1, q2, hp, all_done hge ha, r0, r1, r2]; rfl)
  · have g0 : decide ((64 : Int) < (d.basic.length : Int)) = false := by simp at q0 ⊢; omega
    refine VC_lit ?_
    refine goV (sd_move (v := .p none (.int _ _)) rfl) (Nat.le_of_ble_eq_true rfl) ?_
    refine goV (sd_gtr rfl rfl) (Nat.le_of_ble_eq_true rfl) ?_
    refine goV (sd_move (v := .p none (.bool _)) rfl) (Nat.le_of_ble_eq_true rfl) ?_
    refine op_gyes rfl (Nat.le_of_ble_eq_true rfl) rfl g0 ?_; refine goV (sd_move (v := .p none (.int _ _)) rfl) (Nat.le_of_ble_eq_true rfl) ?_
    refine op_gyes rfl (Nat.le_of_ble_eq_true rfl) rfl g0 ?_; refine goV (sd_callF (v := .p none (.bool _)) rfl (c_within q1) (.inl rfl) rfl rfl rfl) (Nat.le_of_ble_eq_true rfl) ?_
    refine op_gyes rfl (Nat.le_of_ble_eq_true rfl) rfl g0 ?_; refine goV (sd_not rfl) (Nat.le_of_ble_eq_true rfl) ?_
    refine goV (sd_pickH (v := .p none (.bool _)) rfl g0 rfl) (Nat.le_of_ble_eq_true rfl) ?_
    refine goV (sd_move (v := .p none (.bool _)) rfl) (Nat.le_of_ble_eq_true rfl) ?_
    refine op_gnoE rfl (Nat.le_of_ble_eq_true rfl) rfl rfl (Nat.le_of_ble_eq_true rfl) ?_
    refine op_gnoE rfl (Nat.le_of_ble_eq_true rfl) rfl rfl (Nat.le_of_ble_eq_true rfl) ?_
    refine op_gnoE rfl (Nat.le_of_ble_eq_true rfl) rfl rfl (Nat.le_of_ble_eq_true rfl) ?_
    refine op_gnoE rfl (Nat.le_of_ble_eq_true rfl) rfl rfl (Nat.le_of_ble_eq_true rfl) ?_
    refine op_gnoE rfl (Nat.le_of_ble_eq_true rfl) rfl rfl (Nat.le_of_ble_eq_true rfl) ?_
    refine goV (sd_pick (v := .p none (.bool _)) rfl rfl) (Nat.le_of_ble_eq_true rfl) ?_
    refine op_nil ?_
    refine k4 _ ?_
    refine VC_cond rfl (fun c0 => ?_) (fun c0 => absurd c0 (by first | decide | simp))
    refine VC_seq (fun K6 k6 => ?_)
    refine VC_lit ?_
    refine goV (sd_assign (v := .p none _) rfl) (Nat.le_of_ble_eq_true rfl) ?_
    refine op_nil ?_
    refine k6 _ ?_
    refine VC_ret ?_
    show Fin _ _ _ _ _ _
    refine fin0 (xs := [.p none (.bool _)]) (.inr rfl) ⟨_, _, rfl, rfl, rfl⟩ ?_
    show AV.p none (.bool _) = _
    first | (rw [okDic, q0]; rfl) | (rw [okDic, q0, q1]; rfl) | (rw [okDic, q0, q1, q2]; rfl) | (rw [okDic, q0, q1, q2, hp]; rfl) | (rw [okDic, q0, q1, q2, hp, all_stop hx (by simpa using c4)]; rfl) | (rw [okDic, q0, q1, q2, hp, all_done hge ha, r0]; rfl) | (rw [okDic, q0, q1, q2, hp, all_done hge ha, r0, r1]; rfl) | (rw [okDic, q0, q1, q2, hp, all_done hge ha, r0, r1, r2]; rfl)
  · have g0 : decide ((64 : Int) < (d.basic.length : Int)) = false := by simp at q0 ⊢; omega
    have g2 : (!decide ((d.table.length : Int) = (d.basic.length : Int))) = true := by simp at q2 ⊢; omega
    refine VC_lit ?_
    refine goV (sd_move (v := .p none (.int _ _)) rfl) (Nat.le_of_ble_eq_true rfl) ?_
    refine goV (sd_gtr rfl rfl) (Nat.le_of_ble_eq_true rfl) ?_
    refine goV (sd_move (v := .p none (.bool _)) rfl) (Nat.le_of_ble_eq_true rfl) ?_
    refine op_gyes rfl (Nat.le_of_ble_eq_true rfl) rfl g0 ?_; refine goV (sd_move (v := .p none (.int _ _)) rfl) (Nat.le_of_ble_eq_true rfl) ?_
    refine op_gyes rfl (Nat.le_of_ble_eq_true rfl) rfl g0 ?_; refine goV (sd_callF (v := .p none (.bool _)) rfl (c_within q1) (.inl rfl) rfl rfl rfl) (Nat.le_of_ble_eq_true rfl) ?_
    refine op_gyes rfl (Nat.le_of_ble_eq_true rfl) rfl g0 ?_; refine goV (sd_not rfl) (Nat.le_of_ble_eq_true rfl) ?_
    refine goV (sd_pickH (v := .p none (.bool _)) rfl g0 rfl) (Nat.le_of_ble_eq_true rfl) ?_
    refine goV (sd_move (v := .p none (.bool _)) rfl) (Nat.le_of_ble_eq_true rfl) ?_
    refine op_gyes rfl (Nat.le_of_ble_eq_true rfl) rfl rfl ?_; refine goV (sd_fieldP fl45_2 rfl rfl) (Nat.le_of_ble_eq_true rfl) ?_
    refine op_gyes rfl (Nat.le_of_ble_eq_true rfl) rfl rfl ?_; refine goV (sd_loadB1 (v := .p none (.sl _ _ _)) ty43 rfl rfl rfl) (Nat.le_of_ble_eq_true rfl) ?_
    refine op_gyes rfl (Nat.le_of_ble_eq_true rfl) rfl rfl ?_; refine goV (sd_len Try.underlying43 len_pm) (Nat.le_of_ble_eq_true rfl) ?_
    refine op_gyes rfl (Nat.le_of_ble_eq_true rfl) rfl rfl ?_; refine goV (sd_move (v := .p none (.int _ _)) rfl) (Nat.le_of_ble_eq_true rfl) ?_
    refine op_gyes rfl (Nat.le_of_ble_eq_true rfl) rfl rfl ?_; refine goV (sd_neq rfl rfl) (Nat.le_of_ble_eq_true rfl) ?_
    refine goV (sd_pick (v := .p none (.bool _)) rfl rfl) (Nat.le_of_ble_eq_true rfl) ?_
    refine op_nil ?_
    refine k4 _ ?_
    refine VC_cond rfl (fun c0 => ?_) (fun c0 => absurd c0 (by rw [g2]; decide))
    refine VC_seq (fun K7 k7 => ?_)
    refine VC_lit ?_
    refine goV (sd_assign (v := .p none _) rfl) (Nat.le_of_ble_eq_true rfl) ?_
    refine op_nil ?_
    refine k7 _ ?_
    refine VC_ret ?_
    show Fin _ _ _ _ _ _
    refine fin0 (xs := [.p none (.bool _)]) (.inr rfl) ⟨_, _, rfl, rfl, rfl⟩ ?_
    show AV.p none (.bool _) = _
    first | (rw [okDic, q0]; rfl) | (rw [okDic, q0, q1]; rfl) | (rw [okDic, q0, q1, q2]; rfl) | (rw [okDic, q0, q1, q2, hp]; rfl) | (rw [okDic, q0, q1, q2, hp, all_stop hx (by simpa using c4)]; rfl) | (rw [okDic, q0, q1, q2, hp, all_done hge ha, r0]; rfl) | (rw [okDic, q0, q1, q2, hp, all_done hge ha, r0, r1]; rfl) | (rw [okDic, q0, q1, q2, hp, all_done hge ha, r0, r1, r2]; rfl)
  · have g0 : decide ((64 : Int) < (d.basic.length : Int)) = false := by simp at q0 ⊢; omega
    have g2 : (!decide ((d.table.length : Int) = (d.basic.length : Int))) = false := by simp at q2 ⊢; omega
    have hin := inB_true q1
    have h64 : d.basic.length ≤ 64 := by simpa using q0
    have htl : d.table.length = d.basic.length := by simpa using q2
    obtain ⟨srt, hsrt⟩ : ∃ s, sortI (d.basic ++ d.others) = s := ⟨_, rfl⟩
    have hsort := sort_con (d.basic ++ d.others) (by simp; omega)
    rw [hsrt] at hsort
    have hsl : srt.length = (d.basic ++ d.others).length := by rw [← hsrt]; simp
    have hsl' : srt.length = d.basic.length + d.others.length := by rw [hsl]; simp
    have hpos : 0 < (d.basic ++ d.others).length := by simp; omega
    refine VC_lit ?_
    refine goV (sd_move (v := .p none (.int _ _)) rfl) (Nat.le_of_ble_eq_true rfl) ?_
    refine goV (sd_gtr rfl rfl) (Nat.le_of_ble_eq_true rfl) ?_
    refine goV (sd_move (v := .p none (.bool _)) rfl) (Nat.le_of_ble_eq_true rfl) ?_
    refine op_gyes rfl (Nat.le_of_ble_eq_true rfl) rfl g0 ?_; refine goV (sd_move (v := .p none (.int _ _)) rfl) (Nat.le_of_ble_eq_true rfl) ?_
    refine op_gyes rfl (Nat.le_of_ble_eq_true rfl) rfl g0 ?_; refine goV (sd_callF (v := .p none (.bool _)) rfl (c_within q1) (.inl rfl) rfl rfl rfl) (Nat.le_of_ble_eq_true rfl) ?_
    refine op_gyes rfl (Nat.le_of_ble_eq_true rfl) rfl g0 ?_; refine goV (sd_not rfl) (Nat.le_of_ble_eq_true rfl) ?_
    refine goV (sd_pickH (v := .p none (.bool _)) rfl g0 rfl) (Nat.le_of_ble_eq_true rfl) ?_
    refine goV (sd_move (v := .p none (.bool _)) rfl) (Nat.le_of_ble_eq_true rfl) ?_
    refine op_gyes rfl (Nat.le_of_ble_eq_true rfl) rfl rfl ?_; refine goV (sd_fieldP fl45_2 rfl rfl) (Nat.le_of_ble_eq_true rfl) ?_
    refine op_gyes rfl (Nat.le_of_ble_eq_true rfl) rfl rfl ?_; refine goV (sd_loadB1 (v := .p none (.sl _ _ _)) ty43 rfl rfl rfl) (Nat.le_of_ble_eq_true rfl) ?_
    refine op_gyes rfl (Nat.le_of_ble_eq_true rfl) rfl rfl ?_; refine goV (sd_len Try.underlying43 len_pm) (Nat.le_of_ble_eq_true rfl) ?_
    refine op_gyes rfl (Nat.le_of_ble_eq_true rfl) rfl rfl ?_; refine goV (sd_move (v := .p none (.int _ _)) rfl) (Nat.le_of_ble_eq_true rfl) ?_
    refine op_gyes rfl (Nat.le_of_ble_eq_true rfl) rfl rfl ?_; refine goV (sd_neq rfl rfl) (Nat.le_of_ble_eq_true rfl) ?_
    refine goV (sd_pick (v := .p none (.bool _)) rfl rfl) (Nat.le_of_ble_eq_true rfl) ?_
    refine op_nil ?_
    refine k4 _ ?_
    refine VC_cond rfl (fun c0 => absurd c0 (by rw [g2]; decide)) (fun c0 => ?_)
    refine VC_skip ?_
    refine k3 _ ?_
    refine VC_seq (fun K8 k8 => ?_)
    refine VC_drawn mixed ?_
    refine dgo (sd_fieldP fl45_0 rfl rfl) (by kernel_rfl) (dstOk (Nat.le_of_ble_eq_true rfl)) (by kernel_rfl) ?_
    refine dgo (sd_loadB1 (v := .p none (.sl _ _ _)) ty22 rfl rfl rfl) (by kernel_rfl) (dstOk (Nat.le_of_ble_eq_true rfl)) (by kernel_rfl) ?_
    refine dgo (sd_callF (v := .own _) rfl (c_copyInts d.basic s0) (.inl rfl) rfl rfl rfl) (by kernel_rfl) (dstOk (Nat.le_of_ble_eq_true rfl)) (by kernel_rfl) ?_
    refine dgo (sd_fieldP fl45_1 rfl rfl) (by kernel_rfl) (dstOk (Nat.le_of_ble_eq_true rfl)) (by kernel_rfl) ?_
    refine dgo (sd_loadB1 (v := .p none (.sl _ _ _)) ty22 rfl rfl rfl) (by kernel_rfl) (dstOk (Nat.le_of_ble_eq_true rfl)) (by kernel_rfl) ?_
    refine dgo (sd_appF Try.underlying22 ty3 (Nat.le_of_ble_eq_true rfl) ⟨rfl, rfl⟩ ⟨trivial, rfl, rfl⟩ (flats_ints d.others) ?_ ?_ (List.map_append (f := intD)).symm rfl) (by kernel_rfl) (dstOk (Nat.le_of_ble_eq_true rfl)) (by kernel_rfl) ?_; (focus (first | (simp; done) | (simp; omega) | (simp at *; omega))); (focus (unfold maxLen; first | (simp; done) | (simp; omega) | (simp at *; omega)))
    refine dgo (sd_assign (v := .own _) rfl) (by kernel_rfl) (dstOk (Nat.le_of_ble_eq_true rfl)) (by kernel_rfl) ?_
    refine dnil ⟨by kernel_rfl, ?_⟩
    refine k8 _ ?_
    refine VC_seq (fun K9 k9 => ?_)
    refine VC_lit ?_
    refine goV (sd_move (v := .own _) rfl) (Nat.le_of_ble_eq_true rfl) ?_
    refine goA (sd_sort (m := srt) (by kernel_rfl) hsort hsl hpos rfl rfl) (Nat.le_of_ble_eq_true rfl) ?_
    refine op_nil ?_
    refine k9 _ ?_
    refine VC_seq (fun K10 k10 => ?_)
    refine VC_seq (fun K11 k11 => ?_)
    refine VC_lit ?_
    refine goV (sd_move (v := .own _) rfl) (Nat.le_of_ble_eq_true rfl) ?_
    refine goV (sd_len Try.underlying22 (len_om rfl)) (Nat.le_of_ble_eq_true rfl) ?_
    refine goV (sd_move (v := .p none _) rfl) (Nat.le_of_ble_eq_true rfl) ?_
    refine op_nil ?_
    refine k11 _ ?_
    refine VC_block ?_
    refine VC_le (S' := mk [(1, .ptr 100 0), (3, .p none (.int .i64 (d.basic.length : Int))), (4, .p none (.int .i64 (d.others.length : Int))), (38, .own 3500), (39, .p none (.int .i64 (srt.length : Int))), (40, .p none (.int .i64 ((0) : Int)))] [(100, some (.box 45 [.p none (ints d.basic), .p none (ints d.others), .p none (ratss d.table), .p none (rats d.consts), .p none (rats d.costs), .p none (.int .i64 d.value.num), .p none (.int .i64 d.value.den)])), (3500, some (.arr 3 1 true (srt.map rowI)))]) id (le_mk ⟨(by first | rfl | (simp [findS, findO, mapA, mapR]; done)), (by first | rfl | (simp [findS, findO, mapA, mapR]; done)), (by first | rfl | (simp [findS, findO, mapA, mapR]; done)), (by first | rfl | (simp [findS, findO, mapA, mapR]; done)), (by first | rfl | (simp [findS, findO, mapA, mapR]; done)), (by first | rfl | (simp [findS, findO, mapA, mapR]; done)), trivial⟩ ⟨(by first | rfl | (simp [findS, findO, mapA, mapR]; done)), (by first | rfl | (simp [findS, findO, mapA, mapR]; done)), trivial⟩ rfl) ?_
    refine VC_loop (fun nn SS => ∃ (k : Nat), SS = mk [(1, .ptr 100 0), (3, .p none (.int .i64 (d.basic.length : Int))), (4, .p none (.int .i64 (d.others.length : Int))), (38, .own 3500), (39, .p none (.int .i64 (srt.length : Int))), (40, .p none (.int .i64 (k : Int)))] [(100, some (.box 45 [.p none (ints d.basic), .p none (ints d.others), .p none (ratss d.table), .p none (rats d.consts), .p none (rats d.costs), .p none (.int .i64 d.value.num), .p none (.int .i64 d.value.den)])), (3500, some (.arr 3 1 true (srt.map rowI)))] ∧ nn = srt.length - k ∧ k ≤ srt.length ∧ ∀ i, i < k → srt[i]? = some (i : Int)) _ ⟨0, rfl, rfl, Nat.zero_le _, fun i h => absurd h (Nat.not_lt_zero _)⟩ (fun nn SS hI => ?_)
    obtain ⟨k, rfl, rfl, hk, ha⟩ := hI
    refine VC_seq (fun K12 k12 => ?_)
    refine VC_lit ?_
    refine goV (sd_lss rfl rfl) (Nat.le_of_ble_eq_true rfl) ?_
    refine op_nil ?_
    refine k12 _ ?_
    refine VC_seq (fun K13 k13 => ?_)
    refine VC_cond rfl (fun c1 => ?_) (fun c1 => ?_)
    · have hlt : k < srt.length := by simpa using c1
      obtain ⟨x, hx⟩ : ∃ x, srt[k]? = some x := ⟨_, List.getElem?_eq_getElem hlt⟩
      refine VC_skip ?_
      refine k13 _ ?_
      refine VC_seq (fun K14 k14 => ?_)
      refine VC_block ?_
      refine VC_seq (fun K15 k15 => ?_)
      refine VC_lit ?_
      refine goV (sd_move (v := .p none (.int _ _)) rfl) (Nat.le_of_ble_eq_true rfl) ?_
      refine goV (sd_indexO Try.underlying22 ty3 rfl rfl rfl ?_ ?_) (Nat.le_of_ble_eq_true rfl) ?_; (focus (omega)); (focus (first | omega | (simp; omega)))
      refine goV (sd_loadE1 (v := .p none (.int _ _)) ty3 rfl rfl (map_at hx) rfl rfl) (Nat.le_of_ble_eq_true rfl) ?_
      refine goV (sd_assign (v := .p none (.int _ _)) rfl) (Nat.le_of_ble_eq_true rfl) ?_
      refine goV (sd_assign (v := .p none (.int _ _)) rfl) (Nat.le_of_ble_eq_true rfl) ?_
      refine op_nil ?_
      refine k15 _ ?_
      refine VC_seq (fun K16 k16 => ?_)
      refine VC_lit ?_
      refine goV (sd_move (v := .p none (.int _ _)) rfl) (Nat.le_of_ble_eq_true rfl) ?_
      refine goV (sd_move (v := .p none (.int _ _)) rfl) (Nat.le_of_ble_eq_true rfl) ?_
      refine goV (sd_neq rfl rfl) (Nat.le_of_ble_eq_true rfl) ?_
      refine op_nil ?_
      refine k16 _ ?_
      refine VC_cond rfl (fun c2 => ?_) (fun c2 => ?_)
      · have hp : okPerm (d.basic ++ d.others) = false := okPerm_no (k := k) (x := x) (by omega) (by rw [hsrt]; exact hx) (by simpa using c2)
        refine VC_seq (fun K17 k17 => ?_)
        refine VC_lit ?_
        refine goV (sd_assign (v := .p none _) rfl) (Nat.le_of_ble_eq_true rfl) ?_
        refine op_nil ?_
        refine k17 _ ?_
        refine VC_ret ?_
        show Fin _ _ _ _ _ _
        refine fin0 (xs := [.p none (.bool _)]) (.inr rfl) ⟨_, _, rfl, rfl, rfl⟩ ?_
        show AV.p none (.bool _) = _
        first | (rw [okDic, q0]; rfl) | (rw [okDic, q0, q1]; rfl) | (rw [okDic, q0, q1, q2]; rfl) | (rw [okDic, q0, q1, q2, hp]; rfl) | (rw [okDic, q0, q1, q2, hp, all_stop hx (by simpa using c4)]; rfl) | (rw [okDic, q0, q1, q2, hp, all_done hge ha, r0]; rfl) | (rw [okDic, q0, q1, q2, hp, all_done hge ha, r0, r1]; rfl) | (rw [okDic, q0, q1, q2, hp, all_done hge ha, r0, r1, r2]; rfl)
      · refine VC_skip ?_
        refine k14 _ ?_
        refine VC_lit ?_
        refine goV (sd_addI rfl rfl ?_) (Nat.le_of_ble_eq_true rfl) ?_; (focus (first | omega | (constructor <;> omega)))
        refine goV (sd_move (v := .p none (.int _ _)) rfl) (Nat.le_of_ble_eq_true rfl) ?_
        refine op_nil ?_
        exact ⟨_, id, mk [(1, .ptr 100 0), (3, .p none (.int .i64 (d.basic.length : Int))), (4, .p none (.int .i64 (d.others.length : Int))), (38, .own 3500), (39, .p none (.int .i64 (srt.length : Int))), (40, .p none (.int .i64 ((k + 1) : Int)))] [(100, some (.box 45 [.p none (ints d.basic), .p none (ints d.others), .p none (ratss d.table), .p none (rats d.consts), .p none (rats d.costs), .p none (.int .i64 d.value.num), .p none (.int .i64 d.value.den)])), (3500, some (.arr 3 1 true (srt.map rowI)))], by omega, le_mk ⟨(by first | rfl | (simp [findS, findO, mapA, mapR]; done)), (by first | rfl | (simp [findS, findO, mapA, mapR]; done)), (by first | rfl | (simp [findS, findO, mapA, mapR]; done)), (by first | rfl | (simp [findS, findO, mapA, mapR]; done)), (by first | rfl | (simp [findS, findO, mapA, mapR]; done)), (by first | rfl | (simp [findS, findO, mapA, mapR]; done)), trivial⟩ ⟨(by first | rfl | (simp [findS, findO, mapA, mapR]; done)), (by first | rfl | (simp [findS, findO, mapA, mapR]; done)), trivial⟩ rfl, k + 1, rfl, rfl, hlt, sorted_snoc ha hx c2⟩
    · have hge : srt.length ≤ k := by simpa using c1
      have hp : okPerm (d.basic ++ d.others) = true := (okPerm_iff _).2 (fun i hi => by rw [hsrt]; exact ha i (by omega))
      refine VC_exit ?_
      refine k10 _ ?_
      refine VC_seq (fun K18 k18 => ?_)
      refine VC_seq (fun K19 k19 => ?_)
      refine VC_lit ?_
      refine goV (sd_fieldP fl45_2 rfl rfl) (Nat.le_of_ble_eq_true rfl) ?_
      refine goV (sd_loadB1 (v := .p none (.sl _ _ _)) ty43 rfl rfl rfl) (Nat.le_of_ble_eq_true rfl) ?_
      refine goV (sd_len Try.underlying43 len_pm) (Nat.le_of_ble_eq_true rfl) ?_
      refine goV (sd_move (v := .p none _) rfl) (Nat.le_of_ble_eq_true rfl) ?_
      refine op_nil ?_
      refine k19 _ ?_
      refine VC_block ?_
      refine VC_le (S' := mk [(1, .ptr 100 0), (3, .p none (.int .i64 (d.basic.length : Int))), (4, .p none (.int .i64 (d.others.length : Int))), (50, .p none (ratss d.table)), (51, .p none (.int .i64 (d.table.length : Int))), (52, .p none (.int .i64 ((0) : Int)))] [(100, some (.box 45 [.p none (ints d.basic), .p none (ints d.others), .p none (ratss d.table), .p none (rats d.consts), .p none (rats d.costs), .p none (.int .i64 d.value.num), .p none (.int .i64 d.value.den)]))]) id (le_mk ⟨(by first | rfl | (simp [findS, findO, mapA, mapR]; done)), (by first | rfl | (simp [findS, findO, mapA, mapR]; done)), (by first | rfl | (simp [findS, findO, mapA, mapR]; done)), (by first | rfl | (simp [findS, findO, mapA, mapR]; done)), (by first | rfl | (simp [findS, findO, mapA, mapR]; done)), (by first | rfl | (simp [findS, findO, mapA, mapR]; done)), trivial⟩ ⟨(by first | rfl | (simp [findS, findO, mapA, mapR]; done)), trivial⟩ rfl) ?_
      refine VC_loop (fun nn SS => ∃ (k : Nat), SS = mk [(1, .ptr 100 0), (3, .p none (.int .i64 (d.basic.length : Int))), (4, .p none (.int .i64 (d.others.length : Int))), (50, .p none (ratss d.table)), (51, .p none (.int .i64 (d.table.length : Int))), (52, .p none (.int .i64 (k : Int)))] [(100, some (.box 45 [.p none (ints d.basic), .p none (ints d.others), .p none (ratss d.table), .p none (rats d.consts), .p none (rats d.costs), .p none (.int .i64 d.value.num), .p none (.int .i64 d.value.den)]))] ∧ nn = d.table.length - k ∧ k ≤ d.table.length ∧ (d.table.take k).all (fun r => okRats r d.others.length) = true) _ ⟨0, rfl, rfl, Nat.zero_le _, rfl⟩ (fun nn SS hI => ?_)
      obtain ⟨k, rfl, rfl, hk, ha⟩ := hI
      refine VC_seq (fun K20 k20 => ?_)
      refine VC_lit ?_
      refine goV (sd_lss rfl rfl) (Nat.le_of_ble_eq_true rfl) ?_
      refine op_nil ?_
      refine k20 _ ?_
      refine VC_seq (fun K21 k21 => ?_)
      refine VC_cond rfl (fun c3 => ?_) (fun c3 => ?_)
      · have hlt : k < d.table.length := by simpa using c3
        obtain ⟨x, hx⟩ : ∃ x, d.table[k]? = some x := ⟨_, List.getElem?_eq_getElem hlt⟩
        refine VC_skip ?_
        refine k21 _ ?_
        refine VC_seq (fun K22 k22 => ?_)
        refine VC_block ?_
        refine VC_seq (fun K23 k23 => ?_)
        refine VC_lit ?_
        refine goV (sd_index Try.underlying43 ty38 rfl rfl ?_ (map_at hx)) (Nat.le_of_ble_eq_true rfl) ?_; (focus (omega))
        refine goV (sd_loadR1 (v := .p none (.sl _ _ _)) ty38 rfl rfl rfl) (Nat.le_of_ble_eq_true rfl) ?_
        refine goV (sd_assign (v := .p none (.sl _ _ _)) rfl) (Nat.le_of_ble_eq_true rfl) ?_
        refine op_nil ?_
        refine k23 _ ?_
        refine VC_seq (fun K24 k24 => ?_)
        refine VC_lit ?_
        refine goV (sd_move (v := .p none (.sl _ _ _)) rfl) (Nat.le_of_ble_eq_true rfl) ?_
        refine goV (sd_move (v := .p none (.int _ _)) rfl) (Nat.le_of_ble_eq_true rfl) ?_
        refine goV (sd_callF (v := .p none (.bool _)) rfl (c_validRats x d.others.length (s2 x (List.mem_of_getElem? hx))) (.inl rfl) rfl rfl rfl) (Nat.le_of_ble_eq_true rfl) ?_
        refine goV (sd_not rfl) (Nat.le_of_ble_eq_true rfl) ?_
        refine op_nil ?_
        refine k24 _ ?_
        refine VC_cond rfl (fun c4 => ?_) (fun c4 => ?_)
        · refine VC_seq (fun K25 k25 => ?_)
          refine VC_lit ?_
          refine goV (sd_assign (v := .p none _) rfl) (Nat.le_of_ble_eq_true rfl) ?_
          refine op_nil ?_
          refine k25 _ ?_
          refine VC_ret ?_
          show Fin _ _ _ _ _ _
          refine fin0 (xs := [.p none (.bool _)]) (.inr rfl) ⟨_, _, rfl, rfl, rfl⟩ ?_
          show AV.p none (.bool _) = _
          first | (rw [okDic, q0]; rfl) | (rw [okDic, q0, q1]; rfl) | (rw [okDic, q0, q1, q2]; rfl) | (rw [okDic, q0, q1, q2, hp]; rfl) | (rw [okDic, q0, q1, q2, hp, all_stop hx (by simpa using c4)]; rfl) | (rw [okDic, q0, q1, q2, hp, all_done hge ha, r0]; rfl) | (rw [okDic, q0, q1, q2, hp, all_done hge ha, r0, r1]; rfl) | (rw [okDic, q0, q1, q2, hp, all_done hge ha, r0, r1, r2]; rfl)
        · refine VC_skip ?_
          refine k22 _ ?_
          refine VC_lit ?_
          refine goV (sd_addI rfl rfl ?_) (Nat.le_of_ble_eq_true rfl) ?_; (focus (first | omega | (constructor <;> omega)))
          refine goV (sd_move (v := .p none (.int _ _)) rfl) (Nat.le_of_ble_eq_true rfl) ?_
          refine op_nil ?_
          exact ⟨_, id, mk [(1, .ptr 100 0), (3, .p none (.int .i64 (d.basic.length : Int))), (4, .p none (.int .i64 (d.others.length : Int))), (50, .p none (ratss d.table)), (51, .p none (.int .i64 (d.table.length : Int))), (52, .p none (.int .i64 ((k + 1) : Int)))] [(100, some (.box 45 [.p none (ints d.basic), .p none (ints d.others), .p none (ratss d.table), .p none (rats d.consts), .p none (rats d.costs), .p none (.int .i64 d.value.num), .p none (.int .i64 d.value.den)]))], by omega, le_mk ⟨(by first | rfl | (simp [findS, findO, mapA, mapR]; done)), (by first | rfl | (simp [findS, findO, mapA, mapR]; done)), (by first | rfl | (simp [findS, findO, mapA, mapR]; done)), (by first | rfl | (simp [findS, findO, mapA, mapR]; done)), (by first | rfl | (simp [findS, findO, mapA, mapR]; done)), (by first | rfl | (simp [findS, findO, mapA, mapR]; done)), trivial⟩ ⟨(by first | rfl | (simp [findS, findO, mapA, mapR]; done)), trivial⟩ rfl, k + 1, rfl, rfl, hlt, all_snoc hx ha (by simpa using c4)⟩
      · have hge : d.table.length ≤ k := by simpa using c3
        refine VC_exit ?_
        refine k18 _ ?_
        refine VC_seq (fun K26 k26 => ?_)
        rcases chain3 (okRats d.consts d.basic.length) (okRats d.costs d.others.length) (validQ d.value.num d.value.den) with r0 | ⟨r0, r1⟩ | ⟨r0, r1, r2⟩ | ⟨r0, r1, r2⟩
        · skip
          refine VC_lit ?_
          refine goV (sd_fieldP fl45_3 rfl rfl) (Nat.le_of_ble_eq_true rfl) ?_
          refine goV (sd_loadB1 (v := .p none (.sl _ _ _)) ty38 rfl rfl rfl) (Nat.le_of_ble_eq_true rfl) ?_
          refine goV (sd_move (v := .p none (.int _ _)) rfl) (Nat.le_of_ble_eq_true rfl) ?_
          refine goV (sd_callF (v := .p none (.bool _)) rfl (c_validRats' (l := d.consts) (by omega) r0) (.inl rfl) rfl rfl rfl) (Nat.le_of_ble_eq_true rfl) ?_
          refine goV (sd_move (v := .p none (.bool _)) rfl) (Nat.le_of_ble_eq_true rfl) ?_
          refine op_gnoE rfl (Nat.le_of_ble_eq_true rfl) rfl rfl (Nat.le_of_ble_eq_true rfl) ?_
          refine op_gnoE rfl (Nat.le_of_ble_eq_true rfl) rfl rfl (Nat.le_of_ble_eq_true rfl) ?_
          refine op_gnoE rfl (Nat.le_of_ble_eq_true rfl) rfl rfl (Nat.le_of_ble_eq_true rfl) ?_
          refine op_gnoE rfl (Nat.le_of_ble_eq_true rfl) rfl rfl (Nat.le_of_ble_eq_true rfl) ?_
          refine goV (sd_pick (v := .p none (.bool _)) rfl rfl) (Nat.le_of_ble_eq_true rfl) ?_
          refine goV (sd_move (v := .p none (.bool _)) rfl) (Nat.le_of_ble_eq_true rfl) ?_
          refine op_gnoE rfl (Nat.le_of_ble_eq_true rfl) rfl rfl (Nat.le_of_ble_eq_true rfl) ?_
          refine op_gnoE rfl (Nat.le_of_ble_eq_true rfl) rfl rfl (Nat.le_of_ble_eq_true rfl) ?_
          refine op_gnoE rfl (Nat.le_of_ble_eq_true rfl) rfl rfl (Nat.le_of_ble_eq_true rfl) ?_
          refine goV (sd_pick (v := .p none (.bool _)) rfl rfl) (Nat.le_of_ble_eq_true rfl) ?_
          refine goV (sd_assign (v := .p none (.bool _)) rfl) (Nat.le_of_ble_eq_true rfl) ?_
          refine op_nil ?_
          refine k26 _ ?_
          refine VC_ret ?_
          show Fin _ _ _ _ _ _
          refine fin0 (xs := [.p none (.bool _)]) (.inr rfl) ⟨_, _, rfl, rfl, rfl⟩ ?_
          show AV.p none (.bool _) = _
          first | (rw [okDic, q0]; rfl) | (rw [okDic, q0, q1]; rfl) | (rw [okDic, q0, q1, q2]; rfl) | (rw [okDic, q0, q1, q2, hp]; rfl) | (rw [okDic, q0, q1, q2, hp, all_stop hx (by simpa using c4)]; rfl) | (rw [okDic, q0, q1, q2, hp, all_done hge ha, r0]; rfl) | (rw [okDic, q0, q1, q2, hp, all_done hge ha, r0, r1]; rfl) | (rw [okDic, q0, q1, q2, hp, all_done hge ha, r0, r1, r2]; rfl)
        · skip
          refine VC_lit ?_
          refine goV (sd_fieldP fl45_3 rfl rfl) (Nat.le_of_ble_eq_true rfl) ?_
          refine goV (sd_loadB1 (v := .p none (.sl _ _ _)) ty38 rfl rfl rfl) (Nat.le_of_ble_eq_true rfl) ?_
          refine goV (sd_move (v := .p none (.int _ _)) rfl) (Nat.le_of_ble_eq_true rfl) ?_
          refine goV (sd_callF (v := .p none (.bool _)) rfl (c_validRats' (l := d.consts) (by omega) r0) (.inl rfl) rfl rfl rfl) (Nat.le_of_ble_eq_true rfl) ?_
          refine goV (sd_move (v := .p none (.bool _)) rfl) (Nat.le_of_ble_eq_true rfl) ?_
          refine op_gyes rfl (Nat.le_of_ble_eq_true rfl) rfl rfl ?_; refine goV (sd_fieldP fl45_4 rfl rfl) (Nat.le_of_ble_eq_true rfl) ?_
          refine op_gyes rfl (Nat.le_of_ble_eq_true rfl) rfl rfl ?_; refine goV (sd_loadB1 (v := .p none (.sl _ _ _)) ty38 rfl rfl rfl) (Nat.le_of_ble_eq_true rfl) ?_
          refine op_gyes rfl (Nat.le_of_ble_eq_true rfl) rfl rfl ?_; refine goV (sd_move (v := .p none (.int _ _)) rfl) (Nat.le_of_ble_eq_true rfl) ?_
          refine op_gyes rfl (Nat.le_of_ble_eq_true rfl) rfl rfl ?_; refine goV (sd_callF (v := .p none (.bool _)) rfl (c_validRats' (l := d.costs) (by omega) r1) (.inl rfl) rfl rfl rfl) (Nat.le_of_ble_eq_true rfl) ?_
          refine goV (sd_pick (v := .p none (.bool _)) rfl rfl) (Nat.le_of_ble_eq_true rfl) ?_
          refine goV (sd_move (v := .p none (.bool _)) rfl) (Nat.le_of_ble_eq_true rfl) ?_
          refine op_gnoE rfl (Nat.le_of_ble_eq_true rfl) rfl rfl (Nat.le_of_ble_eq_true rfl) ?_
          refine op_gnoE rfl (Nat.le_of_ble_eq_true rfl) rfl rfl (Nat.le_of_ble_eq_true rfl) ?_
          refine op_gnoE rfl (Nat.le_of_ble_eq_true rfl) rfl rfl (Nat.le_of_ble_eq_true rfl) ?_
          refine goV (sd_pick (v := .p none (.bool _)) rfl rfl) (Nat.le_of_ble_eq_true rfl) ?_
          refine goV (sd_assign (v := .p none (.bool _)) rfl) (Nat.le_of_ble_eq_true rfl) ?_
          refine op_nil ?_
          refine k26 _ ?_
          refine VC_ret ?_
          show Fin _ _ _ _ _ _
          refine fin0 (xs := [.p none (.bool _)]) (.inr rfl) ⟨_, _, rfl, rfl, rfl⟩ ?_
          show AV.p none (.bool _) = _
          first | (rw [okDic, q0]; rfl) | (rw [okDic, q0, q1]; rfl) | (rw [okDic, q0, q1, q2]; rfl) | (rw [okDic, q0, q1, q2, hp]; rfl) | (rw [okDic, q0, q1, q2, hp, all_stop hx (by simpa using c4)]; rfl) | (rw [okDic, q0, q1, q2, hp, all_done hge ha, r0]; rfl) | (rw [okDic, q0, q1, q2, hp, all_done hge ha, r0, r1]; rfl) | (rw [okDic, q0, q1, q2, hp, all_done hge ha, r0, r1, r2]; rfl)
        · skip
          refine VC_lit ?_
          refine goV (sd_fieldP fl45_3 rfl rfl) (Nat.le_of_ble_eq_true rfl) ?_
          refine goV (sd_loadB1 (v := .p none (.sl _ _ _)) ty38 rfl rfl rfl) (Nat.le_of_ble_eq_true rfl) ?_
          refine goV (sd_move (v := .p none (.int _ _)) rfl) (Nat.le_of_ble_eq_true rfl) ?_
          refine goV (sd_callF (v := .p none (.bool _)) rfl (c_validRats' (l := d.consts) (by omega) r0) (.inl rfl) rfl rfl rfl) (Nat.le_of_ble_eq_true rfl) ?_
          refine goV (sd_move (v := .p none (.bool _)) rfl) (Nat.le_of_ble_eq_true rfl) ?_
          refine op_gyes rfl (Nat.le_of_ble_eq_true rfl) rfl rfl ?_; refine goV (sd_fieldP fl45_4 rfl rfl) (Nat.le_of_ble_eq_true rfl) ?_
          refine op_gyes rfl (Nat.le_of_ble_eq_true rfl) rfl rfl ?_; refine goV (sd_loadB1 (v := .p none (.sl _ _ _)) ty38 rfl rfl rfl) (Nat.le_of_ble_eq_true rfl) ?_
          refine op_gyes rfl (Nat.le_of_ble_eq_true rfl) rfl rfl ?_; refine goV (sd_move (v := .p none (.int _ _)) rfl) (Nat.le_of_ble_eq_true rfl) ?_
          refine op_gyes rfl (Nat.le_of_ble_eq_true rfl) rfl rfl ?_; refine goV (sd_callF (v := .p none (.bool _)) rfl (c_validRats' (l := d.costs) (by omega) r1) (.inl rfl) rfl rfl rfl) (Nat.le_of_ble_eq_true rfl) ?_
          refine goV (sd_pick (v := .p none (.bool _)) rfl rfl) (Nat.le_of_ble_eq_true rfl) ?_
          refine goV (sd_move (v := .p none (.bool _)) rfl) (Nat.le_of_ble_eq_true rfl) ?_
          refine op_gyes rfl (Nat.le_of_ble_eq_true rfl) rfl rfl ?_; refine goV (sd_fieldP fl45_5 rfl rfl) (Nat.le_of_ble_eq_true rfl) ?_
          refine op_gyes rfl (Nat.le_of_ble_eq_true rfl) rfl rfl ?_; refine goV (sd_loadB (vs := [.p none (.int _ _), .p none (.int _ _)]) ty35 rfl rfl (Nat.le_of_ble_eq_true rfl) rfl) (Nat.le_of_ble_eq_true rfl) ?_
          refine op_gyes rfl (Nat.le_of_ble_eq_true rfl) rfl rfl ?_; refine goV (sd_callF (v := .p none (.bool _)) rfl (c_valid_impl r2) (.inl rfl) rfl rfl rfl) (Nat.le_of_ble_eq_true rfl) ?_
          refine goV (sd_pick (v := .p none (.bool _)) rfl rfl) (Nat.le_of_ble_eq_true rfl) ?_
          refine goV (sd_assign (v := .p none (.bool _)) rfl) (Nat.le_of_ble_eq_true rfl) ?_
          refine op_nil ?_
          refine k26 _ ?_
          refine VC_ret ?_
          show Fin _ _ _ _ _ _
          refine fin0 (xs := [.p none (.bool _)]) (.inr rfl) ⟨_, _, rfl, rfl, rfl⟩ ?_
          show AV.p none (.bool _) = _
          first | (rw [okDic, q0]; rfl) | (rw [okDic, q0, q1]; rfl) | (rw [okDic, q0, q1, q2]; rfl) | (rw [okDic, q0, q1, q2, hp]; rfl) | (rw [okDic, q0, q1, q2, hp, all_stop hx (by simpa using c4)]; rfl) | (rw [okDic, q0, q1, q2, hp, all_done hge ha, r0]; rfl) | (rw [okDic, q0, q1, q2, hp, all_done hge ha, r0, r1]; rfl) | (rw [okDic, q0, q1, q2, hp, all_done hge ha, r0, r1, r2]; rfl)
        · skip
          refine VC_lit ?_
          refine goV (sd_fieldP fl45_3 rfl rfl) (Nat.le_of_ble_eq_true rfl) ?_
          refine goV (sd_loadB1 (v := .p none (.sl _ _ _)) ty38 rfl rfl rfl) (Nat.le_of_ble_eq_true rfl) ?_
          refine goV (sd_move (v := .p none (.int _ _)) rfl) (Nat.le_of_ble_eq_true rfl) ?_
          refine goV (sd_callF (v := .p none (.bool _)) rfl (c_validRats' (l := d.consts) (by omega) r0) (.inl rfl) rfl rfl rfl) (Nat.le_of_ble_eq_true rfl) ?_
          refine goV (sd_move (v := .p none (.bool _)) rfl) (Nat.le_of_ble_eq_true rfl) ?_
          refine op_gyes rfl (Nat.le_of_ble_eq_true rfl) rfl rfl ?_; refine goV (sd_fieldP fl45_4 rfl rfl) (Nat.le_of_ble_eq_true rfl) ?_
          refine op_gyes rfl (Nat.le_of_ble_eq_true rfl) rfl rfl ?_; refine goV (sd_loadB1 (v := .p none (.sl _ _ _)) ty38 rfl rfl rfl) (Nat.le_of_ble_eq_true rfl) ?_
          refine op_gyes rfl (Nat.le_of_ble_eq_true rfl) rfl rfl ?_; refine goV (sd_move (v := .p none (.int _ _)) rfl) (Nat.le_of_ble_eq_true rfl) ?_
          refine op_gyes rfl (Nat.le_of_ble_eq_true rfl) rfl rfl ?_; refine goV (sd_callF (v := .p none (.bool _)) rfl (c_validRats' (l := d.costs) (by omega) r1) (.inl rfl) rfl rfl rfl) (Nat.le_of_ble_eq_true rfl) ?_
          refine goV (sd_pick (v := .p none (.bool _)) rfl rfl) (Nat.le_of_ble_eq_true rfl) ?_
          refine goV (sd_move (v := .p none (.bool _)) rfl) (Nat.le_of_ble_eq_true rfl) ?_
          refine op_gyes rfl (Nat.le_of_ble_eq_true rfl) rfl rfl ?_; refine goV (sd_fieldP fl45_5 rfl rfl) (Nat.le_of_ble_eq_true rfl) ?_
          refine op_gyes rfl (Nat.le_of_ble_eq_true rfl) rfl rfl ?_; refine goV (sd_loadB (vs := [.p none (.int _ _), .p none (.int _ _)]) ty35 rfl rfl (Nat.le_of_ble_eq_true rfl) rfl) (Nat.le_of_ble_eq_true rfl) ?_
          refine op_gyes rfl (Nat.le_of_ble_eq_true rfl) rfl rfl ?_; refine goV (sd_callF (v := .p none (.bool _)) rfl (c_valid_impl r2) (.inl rfl) rfl rfl rfl) (Nat.le_of_ble_eq_true rfl) ?_
          refine goV (sd_pick (v := .p none (.bool _)) rfl rfl) (Nat.le_of_ble_eq_true rfl) ?_
          refine goV (sd_assign (v := .p none (.bool _)) rfl) (Nat.le_of_ble_eq_true rfl) ?_
          refine op_nil ?_
          refine k26 _ ?_
          refine VC_ret ?_
          show Fin _ _ _ _ _ _
          refine fin0 (xs := [.p none (.bool _)]) (.inr rfl) ⟨_, _, rfl, rfl, rfl⟩ ?_
          show AV.p none (.bool _) = _
          first | (rw [okDic, q0]; rfl) | (rw [okDic, q0, q1]; rfl) | (rw [okDic, q0, q1, q2]; rfl) | (rw [okDic, q0, q1, q2, hp]; rfl) | (rw [okDic, q0, q1, q2, hp, all_stop hx (by simpa using c4)]; rfl) | (rw [okDic, q0, q1, q2, hp, all_done hge ha, r0]; rfl) | (rw [okDic, q0, q1, q2, hp, all_done hge ha, r0, r1]; rfl) | (rw [okDic, q0, q1, q2, hp, all_done hge ha, r0, r1, r2]; rfl)
end Go.Proofs.Ytcgjlddpbkponaa
