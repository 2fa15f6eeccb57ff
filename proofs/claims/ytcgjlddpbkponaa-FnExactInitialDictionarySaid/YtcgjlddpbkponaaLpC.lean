/-
  Walks: products of numbers and rationals.
-/
import Derived.Test.YtcgjlddpbkponaaLpB
import Derived.Test.YtcgjlddpbkponaaDot
namespace Go.Proofs.Ytcgjlddpbkponaa
open Go.ChangeShapes Go.WideShapes Go.ChangeAt Go.RowKit
set_option linter.unusedVariables false
set_option linter.unusedSimpArgs false
set_option maxRecDepth 100000 in
set_option maxHeartbeats 4000000 in
theorem c_product_yes (l : List Int) (xs : List RationalD) (hl : l.length ≤ 9223372036854775807) (hlen : l.length = xs.length) :
    Con Try.prog 67 [.one (ints l), .one (rats xs)] (qT (dotGo l xs 0 1)) [] := by
  refine con_of (N := 53) Try.func67 rfl rfl (by decide) (Nat.le_of_ble_eq_true rfl) ?_
  refine VC_seq (fun K1 k1 => ?_)
  refine VC_lit ?_
  refine goN (sd_alloc (cs := [.p none (.int _ _), .p none (.int _ _)]) ty35 rfl rfl) (Nat.le_of_ble_eq_true rfl) ?_
  refine goV (sd_assign (v := .p none _) rfl) (Nat.le_of_ble_eq_true rfl) ?_
  refine op_nil ?_
  refine k1 _ ?_
  refine VC_seq (fun K2 k2 => ?_)
  refine VC_lit ?_
  refine goV (sd_callF (v := .agg [.p none (.int _ _), .p none (.int _ _)]) rfl (c_whole _) (.inl rfl) rfl rfl rfl) (Nat.le_of_ble_eq_true rfl) ?_
  refine goN (sd_alloc (cs := [.p none (.int _ _), .p none (.int _ _)]) ty35 rfl rfl) (Nat.le_of_ble_eq_true rfl) ?_
  refine goW (sd_storeB (cs' := [.p none (.int _ _), .p none (.int _ _)]) ty35 rfl rfl (by first | exact trivial | exact ⟨_, rfl⟩) rfl (Nat.le_of_ble_eq_true rfl) rfl) ?_
  refine op_nil ?_
  refine k2 _ ?_
  refine VC_seq (fun K3 k3 => ?_)
  refine VC_seq (fun K4 k4 => ?_)
  refine VC_lit ?_
  refine goV (sd_move (v := .p none (.sl _ _ _)) rfl) (Nat.le_of_ble_eq_true rfl) ?_
  refine goV (sd_len Try.underlying22 len_pm) (Nat.le_of_ble_eq_true rfl) ?_
  refine goV (sd_move (v := .p none (.sl _ _ _)) rfl) (Nat.le_of_ble_eq_true rfl) ?_
  refine goV (sd_len Try.underlying38 len_pm) (Nat.le_of_ble_eq_true rfl) ?_
  refine goV (sd_neq rfl rfl) (Nat.le_of_ble_eq_true rfl) ?_
  refine op_nil ?_
  refine k4 _ ?_
  refine VC_cond rfl (fun c0 => absurd c0 (by simp [hlen])) (fun c0 => ?_)
  refine VC_skip ?_
  refine k3 _ ?_
  refine VC_seq (fun K5 k5 => ?_)
  refine VC_seq (fun K6 k6 => ?_)
  refine VC_lit ?_
  refine goV (sd_move (v := .p none (.sl _ _ _)) rfl) (Nat.le_of_ble_eq_true rfl) ?_
  refine goV (sd_len Try.underlying22 len_pm) (Nat.le_of_ble_eq_true rfl) ?_
  refine goV (sd_move (v := .p none _) rfl) (Nat.le_of_ble_eq_true rfl) ?_
  refine op_nil ?_
  refine k6 _ ?_
  refine VC_block ?_
  refine VC_le (S' := mk [(0, .p none (ints l)), (1, .p none (rats xs)), (4, .ptr 400 0), (5, .p none (.bool false)), (6, .ptr 600 0), (20, .p none (ints l)), (21, .p none (.int .i64 (l.length : Int))), (22, .p none (.int .i64 ((0) : Int)))] [(400, some (.box 35 [.p none (.int .i64 0), .p none (.int .i64 0)])), (600, some (.box 35 [.p none (.int .i64 (0)), .p none (.int .i64 (1))]))]) id (le_mk ⟨(by first | rfl | (simp [findS, findO, mapA, mapR]; done)), (by first | rfl | (simp [findS, findO, mapA, mapR]; done)), (by first | rfl | (simp [findS, findO, mapA, mapR]; done)), (by first | rfl | (simp [findS, findO, mapA, mapR]; done)), (by first | rfl | (simp [findS, findO, mapA, mapR]; done)), (by first | rfl | (simp [findS, findO, mapA, mapR]; done)), (by first | rfl | (simp [findS, findO, mapA, mapR]; done)), (by first | rfl | (simp [findS, findO, mapA, mapR]; done)), trivial⟩ ⟨(by first | rfl | (simp [findS, findO, mapA, mapR]; done)), (by first | rfl | (simp [findS, findO, mapA, mapR]; done)), trivial⟩ rfl) ?_
  refine VC_loop (fun nn SS => ∃ (k : Nat) (p : Int) (q : Int), SS = mk [(0, .p none (ints l)), (1, .p none (rats xs)), (4, .ptr 400 0), (5, .p none (.bool false)), (6, .ptr 600 0), (20, .p none (ints l)), (21, .p none (.int .i64 (l.length : Int))), (22, .p none (.int .i64 (k : Int)))] [(400, some (.box 35 [.p none (.int .i64 0), .p none (.int .i64 0)])), (600, some (.box 35 [.p none (.int .i64 p), .p none (.int .i64 q)]))] ∧ nn = l.length - k ∧ k ≤ l.length ∧ dotGo (l.drop k) (xs.drop k) p q = dotGo l xs 0 1) _ ⟨0, 0, 1, rfl, rfl, Nat.zero_le _, rfl⟩ (fun nn SS hI => ?_)
  obtain ⟨k, p, q, rfl, rfl, hk, hd⟩ := hI
  refine VC_seq (fun K7 k7 => ?_)
  refine VC_lit ?_
  refine goV (sd_lss rfl rfl) (Nat.le_of_ble_eq_true rfl) ?_
  refine op_nil ?_
  refine k7 _ ?_
  refine VC_seq (fun K8 k8 => ?_)
  refine VC_cond rfl (fun c1 => ?_) (fun c1 => ?_)
  · have hlt : k < l.length := by simpa using c1
    have hlt' : k < xs.length := by omega
    obtain ⟨n, hn⟩ : ∃ n, l[k]? = some n := ⟨_, List.getElem?_eq_getElem hlt⟩
    obtain ⟨x, hx⟩ : ∃ x, xs[k]? = some x := ⟨_, List.getElem?_eq_getElem hlt'⟩
    obtain ⟨m1, m2, m3, hm⟩ : ∃ m1 m2 m3, mulQ n 1 x.num x.den = (m1, m2, m3) := ⟨_, _, _, rfl⟩
    obtain ⟨s1, s2, s3, hs⟩ : ∃ s1 s2 s3, addQ p q m1 m2 = (s1, s2, s3) := ⟨_, _, _, rfl⟩
    have hstep := dotGo_cons (p := p) (q := q) hn hx hm hs
    simp only at hstep
    refine VC_skip ?_
    refine k8 _ ?_
    refine VC_seq (fun K9 k9 => ?_)
    refine VC_block ?_
    refine VC_seq (fun K10 k10 => ?_)
    refine VC_lit ?_
    refine goV (sd_move (v := .p none (.int _ _)) rfl) (Nat.le_of_ble_eq_true rfl) ?_
    refine goV (sd_index Try.underlying22 ty3 rfl rfl ?_ (map_at hn)) (Nat.le_of_ble_eq_true rfl) ?_; (focus (omega))
    refine goV (sd_loadR1 (v := .p none (.int _ _)) ty3 rfl rfl rfl) (Nat.le_of_ble_eq_true rfl) ?_
    refine goV (sd_assign (v := .p none (.int _ _)) rfl) (Nat.le_of_ble_eq_true rfl) ?_
    refine goV (sd_assign (v := .p none (.int _ _)) rfl) (Nat.le_of_ble_eq_true rfl) ?_
    refine op_nil ?_
    refine k10 _ ?_
    refine VC_seq (fun K11 k11 => ?_)
    refine VC_drawn mixed ?_
    refine dgo (sd_move (v := .p none (.int _ _)) rfl) (by kernel_rfl) (dstOk (Nat.le_of_ble_eq_true rfl)) (by kernel_rfl) ?_
    refine dgo (sd_callF (v := .agg [.p none (.int _ _), .p none (.int _ _)]) rfl (c_whole _) (.inl rfl) rfl rfl rfl) (by kernel_rfl) (dstOk (Nat.le_of_ble_eq_true rfl)) (by kernel_rfl) ?_
    refine dgo (sd_move (v := .p none (.sl _ _ _)) rfl) (by kernel_rfl) (dstOk (Nat.le_of_ble_eq_true rfl)) (by kernel_rfl) ?_
    refine dgo (sd_move (v := .p none (.int _ _)) rfl) (by kernel_rfl) (dstOk (Nat.le_of_ble_eq_true rfl)) (by kernel_rfl) ?_
    refine dgo (sd_index Try.underlying38 ty35 rfl rfl ?_ (map_at hx)) (by kernel_rfl) (dstOk (Nat.le_of_ble_eq_true rfl)) (by kernel_rfl) ?_; (focus (omega))
    refine dgo (sd_loadR (vs := [.p none (.int _ _), .p none (.int _ _)]) ty35 rfl (Nat.le_of_ble_eq_true rfl) rfl) (by kernel_rfl) (dstOk (Nat.le_of_ble_eq_true rfl)) (by kernel_rfl) ?_
    refine dgo (sd_callF (v := .tup _) rfl (c_mul_impl hm) (.inl rfl) rfl rfl rfl) (by kernel_rfl) (dstOk (Nat.le_of_ble_eq_true rfl)) (by kernel_rfl) ?_
    refine dgo (sd_move (v := .tup _) rfl) (by kernel_rfl) (dstOk (Nat.le_of_ble_eq_true rfl)) (by kernel_rfl) ?_
    refine dgo (sd_extract rfl rfl) (by kernel_rfl) (dstOk (Nat.le_of_ble_eq_true rfl)) (by kernel_rfl) ?_
    refine dgo (sd_extract rfl rfl) (by kernel_rfl) (dstOk (Nat.le_of_ble_eq_true rfl)) (by kernel_rfl) ?_
    refine dgo (sd_alloc (cs := [.p none (.int _ _), .p none (.int _ _)]) ty35 rfl rfl) (by kernel_rfl) (dstOk (Nat.le_of_ble_eq_true rfl)) (by kernel_rfl) ?_
    refine dgo (sd_storeB (cs' := [.p none (.int _ _), .p none (.int _ _)]) ty35 rfl rfl (by first | exact trivial | exact ⟨_, rfl⟩) rfl (Nat.le_of_ble_eq_true rfl) rfl) (by kernel_rfl) dstNo (by kernel_rfl) ?_
    refine dgo (sd_assign (v := .p none (.bool _)) rfl) (by kernel_rfl) (dstOk (Nat.le_of_ble_eq_true rfl)) (by kernel_rfl) ?_
    refine dnil ⟨by kernel_rfl, ?_⟩
    refine k11 _ ?_
    refine VC_seq (fun K12 k12 => ?_)
    refine VC_lit ?_
    refine goV (sd_loadB (vs := [.p none (.int _ _), .p none (.int _ _)]) ty35 rfl rfl (Nat.le_of_ble_eq_true rfl) rfl) (Nat.le_of_ble_eq_true rfl) ?_
    refine goV (sd_loadB (vs := [.p none (.int _ _), .p none (.int _ _)]) ty35 rfl rfl (Nat.le_of_ble_eq_true rfl) rfl) (Nat.le_of_ble_eq_true rfl) ?_
    refine goV (sd_callF (v := .tup _) rfl (c_add_impl hs) (.inl rfl) rfl rfl rfl) (Nat.le_of_ble_eq_true rfl) ?_
    refine goV (sd_move (v := .tup _) rfl) (Nat.le_of_ble_eq_true rfl) ?_
    refine goV (sd_extract rfl rfl) (Nat.le_of_ble_eq_true rfl) ?_
    refine goV (sd_extract rfl rfl) (Nat.le_of_ble_eq_true rfl) ?_
    refine goN (sd_alloc (cs := [.p none (.int _ _), .p none (.int _ _)]) ty35 rfl rfl) (Nat.le_of_ble_eq_true rfl) ?_
    refine goW (sd_storeB (cs' := [.p none (.int _ _), .p none (.int _ _)]) ty35 rfl rfl (by first | exact trivial | exact ⟨_, rfl⟩) rfl (Nat.le_of_ble_eq_true rfl) rfl) ?_
    refine goV (sd_assign (v := .p none (.bool _)) rfl) (Nat.le_of_ble_eq_true rfl) ?_
    refine op_nil ?_
    refine k12 _ ?_
    refine VC_seq (fun K13 k13 => ?_)
    refine VC_seq (fun K14 k14 => ?_)
    rcases m3 with _ | _ <;> rcases s3 with _ | _
    · refine VC_lit ?_
      refine goV (sd_move (v := .p none (.bool _)) rfl) (Nat.le_of_ble_eq_true rfl) ?_
      refine goV (sd_not rfl) (Nat.le_of_ble_eq_true rfl) ?_
      refine goV (sd_move (v := .p none (.bool _)) rfl) (Nat.le_of_ble_eq_true rfl) ?_
      refine op_gnoE rfl (Nat.le_of_ble_eq_true rfl) rfl rfl (Nat.le_of_ble_eq_true rfl) ?_
      refine op_gnoE rfl (Nat.le_of_ble_eq_true rfl) rfl rfl (Nat.le_of_ble_eq_true rfl) ?_
      refine goV (sd_pick (v := .p none (.bool _)) rfl rfl) (Nat.le_of_ble_eq_true rfl) ?_
      refine op_nil ?_
      refine k14 _ ?_
      refine VC_cond rfl (fun c2 => ?_) (fun c2 => absurd c2 (by first | decide | simp))
      refine VC_seq (fun K15 k15 => ?_)
      refine VC_lit ?_
      refine goV (sd_build (cs := [.p none (.int _ _), .p none (.int _ _)]) pl35 (by simp) rfl) (Nat.le_of_ble_eq_true rfl) ?_
      refine goW (sd_storeB (cs' := [.p none (.int _ _), .p none (.int _ _)]) ty35 rfl rfl (by first | exact trivial | exact ⟨_, rfl⟩) rfl (Nat.le_of_ble_eq_true rfl) rfl) ?_
      refine goV (sd_assign (v := .p none _) rfl) (Nat.le_of_ble_eq_true rfl) ?_
      refine op_nil ?_
      refine k15 _ ?_
      refine VC_ret ?_
      show Fin _ _ _ _ _ _
      refine fin0 (xs := [.agg [.p none (.int _ _), .p none (.int _ _)], .p none (.bool _)]) (.inr rfl) ⟨_, _, rfl, ⟨_, _, _, _, _, _, _, rfl, rfl, ty35, .inl ⟨rfl, rfl, rfl⟩⟩, ⟨_, _, rfl, rfl, rfl⟩⟩ ?_
      show AV.tup _ = _
      first | (rw [← hd, hstep, if_neg (by simp)]) | (rw [← hd, dotGo_done (by omega)])
    · refine VC_lit ?_
      refine goV (sd_move (v := .p none (.bool _)) rfl) (Nat.le_of_ble_eq_true rfl) ?_
      refine goV (sd_not rfl) (Nat.le_of_ble_eq_true rfl) ?_
      refine goV (sd_move (v := .p none (.bool _)) rfl) (Nat.le_of_ble_eq_true rfl) ?_
      refine op_gnoE rfl (Nat.le_of_ble_eq_true rfl) rfl rfl (Nat.le_of_ble_eq_true rfl) ?_
      refine op_gnoE rfl (Nat.le_of_ble_eq_true rfl) rfl rfl (Nat.le_of_ble_eq_true rfl) ?_
      refine goV (sd_pick (v := .p none (.bool _)) rfl rfl) (Nat.le_of_ble_eq_true rfl) ?_
      refine op_nil ?_
      refine k14 _ ?_
      refine VC_cond rfl (fun c2 => ?_) (fun c2 => absurd c2 (by first | decide | simp))
      refine VC_seq (fun K16 k16 => ?_)
      refine VC_lit ?_
      refine goV (sd_build (cs := [.p none (.int _ _), .p none (.int _ _)]) pl35 (by simp) rfl) (Nat.le_of_ble_eq_true rfl) ?_
      refine goW (sd_storeB (cs' := [.p none (.int _ _), .p none (.int _ _)]) ty35 rfl rfl (by first | exact trivial | exact ⟨_, rfl⟩) rfl (Nat.le_of_ble_eq_true rfl) rfl) ?_
      refine goV (sd_assign (v := .p none _) rfl) (Nat.le_of_ble_eq_true rfl) ?_
      refine op_nil ?_
      refine k16 _ ?_
      refine VC_ret ?_
      show Fin _ _ _ _ _ _
      refine fin0 (xs := [.agg [.p none (.int _ _), .p none (.int _ _)], .p none (.bool _)]) (.inr rfl) ⟨_, _, rfl, ⟨_, _, _, _, _, _, _, rfl, rfl, ty35, .inl ⟨rfl, rfl, rfl⟩⟩, ⟨_, _, rfl, rfl, rfl⟩⟩ ?_
      show AV.tup _ = _
      first | (rw [← hd, hstep, if_neg (by simp)]) | (rw [← hd, dotGo_done (by omega)])
    · refine VC_lit ?_
      refine goV (sd_move (v := .p none (.bool _)) rfl) (Nat.le_of_ble_eq_true rfl) ?_
      refine goV (sd_not rfl) (Nat.le_of_ble_eq_true rfl) ?_
      refine goV (sd_move (v := .p none (.bool _)) rfl) (Nat.le_of_ble_eq_true rfl) ?_
      refine op_gyes rfl (Nat.le_of_ble_eq_true rfl) rfl rfl ?_; refine goV (sd_move (v := .p none (.bool _)) rfl) (Nat.le_of_ble_eq_true rfl) ?_
      refine op_gyes rfl (Nat.le_of_ble_eq_true rfl) rfl rfl ?_; refine goV (sd_not rfl) (Nat.le_of_ble_eq_true rfl) ?_
      refine goV (sd_pick (v := .p none (.bool _)) rfl rfl) (Nat.le_of_ble_eq_true rfl) ?_
      refine op_nil ?_
      refine k14 _ ?_
      refine VC_cond rfl (fun c2 => ?_) (fun c2 => absurd c2 (by first | decide | simp))
      refine VC_seq (fun K17 k17 => ?_)
      refine VC_lit ?_
      refine goV (sd_build (cs := [.p none (.int _ _), .p none (.int _ _)]) pl35 (by simp) rfl) (Nat.le_of_ble_eq_true rfl) ?_
      refine goW (sd_storeB (cs' := [.p none (.int _ _), .p none (.int _ _)]) ty35 rfl rfl (by first | exact trivial | exact ⟨_, rfl⟩) rfl (Nat.le_of_ble_eq_true rfl) rfl) ?_
      refine goV (sd_assign (v := .p none _) rfl) (Nat.le_of_ble_eq_true rfl) ?_
      refine op_nil ?_
      refine k17 _ ?_
      refine VC_ret ?_
      show Fin _ _ _ _ _ _
      refine fin0 (xs := [.agg [.p none (.int _ _), .p none (.int _ _)], .p none (.bool _)]) (.inr rfl) ⟨_, _, rfl, ⟨_, _, _, _, _, _, _, rfl, rfl, ty35, .inl ⟨rfl, rfl, rfl⟩⟩, ⟨_, _, rfl, rfl, rfl⟩⟩ ?_
      show AV.tup _ = _
      first | (rw [← hd, hstep, if_neg (by simp)]) | (rw [← hd, dotGo_done (by omega)])
    · refine VC_lit ?_
      refine goV (sd_move (v := .p none (.bool _)) rfl) (Nat.le_of_ble_eq_true rfl) ?_
      refine goV (sd_not rfl) (Nat.le_of_ble_eq_true rfl) ?_
      refine goV (sd_move (v := .p none (.bool _)) rfl) (Nat.le_of_ble_eq_true rfl) ?_
      refine op_gyes rfl (Nat.le_of_ble_eq_true rfl) rfl rfl ?_; refine goV (sd_move (v := .p none (.bool _)) rfl) (Nat.le_of_ble_eq_true rfl) ?_
      refine op_gyes rfl (Nat.le_of_ble_eq_true rfl) rfl rfl ?_; refine goV (sd_not rfl) (Nat.le_of_ble_eq_true rfl) ?_
      refine goV (sd_pick (v := .p none (.bool _)) rfl rfl) (Nat.le_of_ble_eq_true rfl) ?_
      refine op_nil ?_
      refine k14 _ ?_
      refine VC_cond rfl (fun c2 => absurd c2 (by first | decide | simp)) (fun c2 => ?_)
      refine VC_skip ?_
      refine k13 _ ?_
      refine VC_lit ?_
      refine goV (sd_loadB (vs := [.p none (.int _ _), .p none (.int _ _)]) ty35 rfl rfl (Nat.le_of_ble_eq_true rfl) rfl) (Nat.le_of_ble_eq_true rfl) ?_
      refine goW (sd_storeB (cs' := [.p none (.int _ _), .p none (.int _ _)]) ty35 rfl rfl (by first | exact trivial | exact ⟨_, rfl⟩) rfl (Nat.le_of_ble_eq_true rfl) rfl) ?_
      refine op_nil ?_
      refine k9 _ ?_
      refine VC_lit ?_
      refine goV (sd_addI rfl rfl ?_) (Nat.le_of_ble_eq_true rfl) ?_; (focus (first | omega | (constructor <;> omega)))
      refine goV (sd_move (v := .p none (.int _ _)) rfl) (Nat.le_of_ble_eq_true rfl) ?_
      refine op_nil ?_
      exact ⟨_, id, mk [(0, .p none (ints l)), (1, .p none (rats xs)), (4, .ptr 400 0), (5, .p none (.bool false)), (6, .ptr 600 0), (20, .p none (ints l)), (21, .p none (.int .i64 (l.length : Int))), (22, .p none (.int .i64 ((k + 1) : Int)))] [(400, some (.box 35 [.p none (.int .i64 0), .p none (.int .i64 0)])), (600, some (.box 35 [.p none (.int .i64 (s1)), .p none (.int .i64 (s2))]))], by omega, le_mk ⟨(by first | rfl | (simp [findS, findO, mapA, mapR]; done)), (by first | rfl | (simp [findS, findO, mapA, mapR]; done)), (by first | rfl | (simp [findS, findO, mapA, mapR]; done)), (by first | rfl | (simp [findS, findO, mapA, mapR]; done)), (by first | rfl | (simp [findS, findO, mapA, mapR]; done)), (by first | rfl | (simp [findS, findO, mapA, mapR]; done)), (by first | rfl | (simp [findS, findO, mapA, mapR]; done)), (by first | rfl | (simp [findS, findO, mapA, mapR]; done)), trivial⟩ ⟨(by first | rfl | (simp [findS, findO, mapA, mapR]; done)), (by first | rfl | (simp [findS, findO, mapA, mapR]; done)), trivial⟩ rfl, k + 1, s1, s2, rfl, rfl, hlt, by rw [← hd, hstep, if_pos ⟨rfl, rfl⟩]⟩
  · have hge : l.length ≤ k := by simpa using c1
    refine VC_exit ?_
    refine k5 _ ?_
    refine VC_seq (fun K18 k18 => ?_)
    refine VC_lit ?_
    refine goV (sd_loadB (vs := [.p none (.int _ _), .p none (.int _ _)]) ty35 rfl rfl (Nat.le_of_ble_eq_true rfl) rfl) (Nat.le_of_ble_eq_true rfl) ?_
    refine goW (sd_storeB (cs' := [.p none (.int _ _), .p none (.int _ _)]) ty35 rfl rfl (by first | exact trivial | exact ⟨_, rfl⟩) rfl (Nat.le_of_ble_eq_true rfl) rfl) ?_
    refine goV (sd_assign (v := .p none _) rfl) (Nat.le_of_ble_eq_true rfl) ?_
    refine op_nil ?_
    refine k18 _ ?_
    refine VC_ret ?_
    show Fin _ _ _ _ _ _
    refine fin0 (xs := [.agg [.p none (.int _ _), .p none (.int _ _)], .p none (.bool _)]) (.inr rfl) ⟨_, _, rfl, ⟨_, _, _, _, _, _, _, rfl, rfl, ty35, .inl ⟨rfl, rfl, rfl⟩⟩, ⟨_, _, rfl, rfl, rfl⟩⟩ ?_
    show AV.tup _ = _
    first | (rw [← hd, hstep, if_neg (by simp)]) | (rw [← hd, dotGo_done (by omega)])

set_option maxRecDepth 100000 in
set_option maxHeartbeats 4000000 in
theorem c_product_no (l : List Int) (xs : List RationalD) (hl : l.length ≤ 9223372036854775807) (hlen : l.length ≠ xs.length) :
    Con Try.prog 67 [.one (ints l), .one (rats xs)] (qT (0, 0, false)) [] := by
  refine con_of (N := 53) Try.func67 rfl rfl (by decide) (Nat.le_of_ble_eq_true rfl) ?_
  refine VC_seq (fun K1 k1 => ?_)
  refine VC_lit ?_
  refine goN (sd_alloc (cs := [.p none (.int _ _), .p none (.int _ _)]) ty35 rfl rfl) (Nat.le_of_ble_eq_true rfl) ?_
  refine goV (sd_assign (v := .p none _) rfl) (Nat.le_of_ble_eq_true rfl) ?_
  refine op_nil ?_
  refine k1 _ ?_
  refine VC_seq (fun K2 k2 => ?_)
  refine VC_lit ?_
  refine goV (sd_callF (v := .agg [.p none (.int _ _), .p none (.int _ _)]) rfl (c_whole _) (.inl rfl) rfl rfl rfl) (Nat.le_of_ble_eq_true rfl) ?_
  refine goN (sd_alloc (cs := [.p none (.int _ _), .p none (.int _ _)]) ty35 rfl rfl) (Nat.le_of_ble_eq_true rfl) ?_
  refine goW (sd_storeB (cs' := [.p none (.int _ _), .p none (.int _ _)]) ty35 rfl rfl (by first | exact trivial | exact ⟨_, rfl⟩) rfl (Nat.le_of_ble_eq_true rfl) rfl) ?_
  refine op_nil ?_
  refine k2 _ ?_
  refine VC_seq (fun K3 k3 => ?_)
  refine VC_seq (fun K4 k4 => ?_)
  refine VC_lit ?_
  refine goV (sd_move (v := .p none (.sl _ _ _)) rfl) (Nat.le_of_ble_eq_true rfl) ?_
  refine goV (sd_len Try.underlying22 len_pm) (Nat.le_of_ble_eq_true rfl) ?_
  refine goV (sd_move (v := .p none (.sl _ _ _)) rfl) (Nat.le_of_ble_eq_true rfl) ?_
  refine goV (sd_len Try.underlying38 len_pm) (Nat.le_of_ble_eq_true rfl) ?_
  refine goV (sd_neq rfl rfl) (Nat.le_of_ble_eq_true rfl) ?_
  refine op_nil ?_
  refine k4 _ ?_
  refine VC_cond rfl (fun c0 => ?_) (fun c0 => absurd c0 (by simp; omega))
  refine VC_seq (fun K5 k5 => ?_)
  refine VC_lit ?_
  refine goV (sd_build (cs := [.p none (.int _ _), .p none (.int _ _)]) pl35 (by simp) rfl) (Nat.le_of_ble_eq_true rfl) ?_
  refine goW (sd_storeB (cs' := [.p none (.int _ _), .p none (.int _ _)]) ty35 rfl rfl (by first | exact trivial | exact ⟨_, rfl⟩) rfl (Nat.le_of_ble_eq_true rfl) rfl) ?_
  refine goV (sd_assign (v := .p none _) rfl) (Nat.le_of_ble_eq_true rfl) ?_
  refine op_nil ?_
  refine k5 _ ?_
  refine VC_ret ?_
  show Fin _ _ _ _ _ _
  refine fin0 (xs := [.agg [.p none (.int _ _), .p none (.int _ _)], .p none (.bool _)]) (.inr rfl) ⟨_, _, rfl, ⟨_, _, _, _, _, _, _, rfl, rfl, ty35, .inl ⟨rfl, rfl, rfl⟩⟩, ⟨_, _, rfl, rfl, rfl⟩⟩ ?_
  show AV.tup _ = _
  rfl

set_option maxRecDepth 100000 in
set_option maxHeartbeats 4000000 in
theorem c_dot (l : List Int) (xs : List RationalD) (hl : l.length ≤ 9223372036854775807) :
    Con Try.prog 65 [.one (ints l), .one (rats xs)] (qT (dotGo l xs 0 1)) [] := by
  refine con_of (N := 53) Try.func65 rfl rfl (by decide) (Nat.le_of_ble_eq_true rfl) ?_
  refine VC_seq (fun K1 k1 => ?_)
  refine VC_lit ?_
  refine goN (sd_alloc (cs := [.p none (.int _ _), .p none (.int _ _)]) ty35 rfl rfl) (Nat.le_of_ble_eq_true rfl) ?_
  refine goV (sd_assign (v := .p none _) rfl) (Nat.le_of_ble_eq_true rfl) ?_
  refine op_nil ?_
  refine k1 _ ?_
  refine VC_seq (fun K2 k2 => ?_)
  refine VC_lit ?_
  refine goV (sd_callF (v := .agg [.p none (.int _ _), .p none (.int _ _)]) rfl (c_l15Int _) (.inl rfl) rfl rfl rfl) (Nat.le_of_ble_eq_true rfl) ?_
  refine goN (sd_alloc (cs := [.p none (.int _ _), .p none (.int _ _)]) ty35 rfl rfl) (Nat.le_of_ble_eq_true rfl) ?_
  refine goW (sd_storeB (cs' := [.p none (.int _ _), .p none (.int _ _)]) ty35 rfl rfl (by first | exact trivial | exact ⟨_, rfl⟩) rfl (Nat.le_of_ble_eq_true rfl) rfl) ?_
  refine op_nil ?_
  refine k2 _ ?_
  refine VC_seq (fun K3 k3 => ?_)
  refine VC_seq (fun K4 k4 => ?_)
  refine VC_lit ?_
  refine goV (sd_assign (v := .p none _) rfl) (Nat.le_of_ble_eq_true rfl) ?_
  refine op_nil ?_
  refine k4 _ ?_
  refine VC_block ?_
  refine VC_le (S' := mk [(0, .p none (ints l)), (1, .p none (rats xs)), (4, .ptr 400 0), (5, .p none (.bool false)), (6, .ptr 600 0), (7, .p none (.int .i64 ((0) : Int)))] [(400, some (.box 35 [.p none (.int .i64 0), .p none (.int .i64 0)])), (600, some (.box 35 [.p none (.int .i64 (0)), .p none (.int .i64 (1))]))]) id (le_mk ⟨(by first | rfl | (simp [findS, findO, mapA, mapR]; done)), (by first | rfl | (simp [findS, findO, mapA, mapR]; done)), (by first | rfl | (simp [findS, findO, mapA, mapR]; done)), (by first | rfl | (simp [findS, findO, mapA, mapR]; done)), (by first | rfl | (simp [findS, findO, mapA, mapR]; done)), (by first | rfl | (simp [findS, findO, mapA, mapR]; done)), trivial⟩ ⟨(by first | rfl | (simp [findS, findO, mapA, mapR]; done)), (by first | rfl | (simp [findS, findO, mapA, mapR]; done)), trivial⟩ rfl) ?_
  refine VC_loop (fun nn SS => ∃ (k : Nat) (p : Int) (q : Int), SS = mk [(0, .p none (ints l)), (1, .p none (rats xs)), (4, .ptr 400 0), (5, .p none (.bool false)), (6, .ptr 600 0), (7, .p none (.int .i64 (k : Int)))] [(400, some (.box 35 [.p none (.int .i64 0), .p none (.int .i64 0)])), (600, some (.box 35 [.p none (.int .i64 p), .p none (.int .i64 q)]))] ∧ nn = l.length - k ∧ k ≤ l.length ∧ dotGo (l.drop k) (xs.drop k) p q = dotGo l xs 0 1) _ ⟨0, 0, 1, rfl, rfl, Nat.zero_le _, rfl⟩ (fun nn SS hI => ?_)
  obtain ⟨k, p, q, rfl, rfl, hk, hd⟩ := hI
  refine VC_seq (fun K5 k5 => ?_)
  refine VC_seq (fun K6 k6 => ?_)
  by_cases hlt : k < l.length
  · have e1 : decide ((k : Int) < (l.length : Int)) = true := by simpa using hlt
    refine VC_lit ?_
    refine goV (sd_move (v := .p none (.int _ _)) rfl) (Nat.le_of_ble_eq_true rfl) ?_
    refine goV (sd_move (v := .p none (.sl _ _ _)) rfl) (Nat.le_of_ble_eq_true rfl) ?_
    refine goV (sd_len Try.underlying22 len_pm) (Nat.le_of_ble_eq_true rfl) ?_
    refine goV (sd_lss rfl rfl) (Nat.le_of_ble_eq_true rfl) ?_
    refine goV (sd_move (v := .p none (.bool _)) rfl) (Nat.le_of_ble_eq_true rfl) ?_
    refine op_gyes rfl (Nat.le_of_ble_eq_true rfl) rfl e1 ?_; refine goV (sd_move (v := .p none (.int _ _)) rfl) (Nat.le_of_ble_eq_true rfl) ?_
    refine op_gyes rfl (Nat.le_of_ble_eq_true rfl) rfl e1 ?_; refine goV (sd_move (v := .p none (.sl _ _ _)) rfl) (Nat.le_of_ble_eq_true rfl) ?_
    refine op_gyes rfl (Nat.le_of_ble_eq_true rfl) rfl e1 ?_; refine goV (sd_len Try.underlying38 len_pm) (Nat.le_of_ble_eq_true rfl) ?_
    refine op_gyes rfl (Nat.le_of_ble_eq_true rfl) rfl e1 ?_; refine goV (sd_lss rfl rfl) (Nat.le_of_ble_eq_true rfl) ?_
    refine goV (sd_pickH (v := .p none (.bool _)) rfl e1 rfl) (Nat.le_of_ble_eq_true rfl) ?_
    refine op_nil ?_
    refine k6 _ ?_
    refine VC_cond rfl (fun c0 => ?_) (fun c0 => ?_)
    · have hlt' : k < xs.length := by simpa using c0
      obtain ⟨n, hn⟩ : ∃ n, l[k]? = some n := ⟨_, List.getElem?_eq_getElem hlt⟩
      obtain ⟨x, hx⟩ : ∃ x, xs[k]? = some x := ⟨_, List.getElem?_eq_getElem hlt'⟩
      obtain ⟨m1, m2, m3, hm⟩ : ∃ m1 m2 m3, mulQ n 1 x.num x.den = (m1, m2, m3) := ⟨_, _, _, rfl⟩
      obtain ⟨s1, s2, s3, hs⟩ : ∃ s1 s2 s3, addQ p q m1 m2 = (s1, s2, s3) := ⟨_, _, _, rfl⟩
      have hstep := dotGo_cons (p := p) (q := q) hn hx hm hs
      simp only at hstep
      refine VC_skip ?_
      refine k5 _ ?_
      refine VC_seq (fun K7 k7 => ?_)
      refine VC_block ?_
      refine VC_seq (fun K8 k8 => ?_)
      refine VC_drawn mixed ?_
      refine dgo (sd_move (v := .p none (.sl _ _ _)) rfl) (by kernel_rfl) (dstOk (Nat.le_of_ble_eq_true rfl)) (by kernel_rfl) ?_
      refine dgo (sd_move (v := .p none (.int _ _)) rfl) (by kernel_rfl) (dstOk (Nat.le_of_ble_eq_true rfl)) (by kernel_rfl) ?_
      refine dgo (sd_index Try.underlying22 ty3 rfl rfl ?_ (map_at hn)) (by kernel_rfl) (dstOk (Nat.le_of_ble_eq_true rfl)) (by kernel_rfl) ?_; (focus (omega))
      refine dgo (sd_loadR1 (v := .p none (.int _ _)) ty3 rfl rfl rfl) (by kernel_rfl) (dstOk (Nat.le_of_ble_eq_true rfl)) (by kernel_rfl) ?_
      refine dgo (sd_callF (v := .agg [.p none (.int _ _), .p none (.int _ _)]) rfl (c_l15Int _) (.inl rfl) rfl rfl rfl) (by kernel_rfl) (dstOk (Nat.le_of_ble_eq_true rfl)) (by kernel_rfl) ?_
      refine dgo (sd_move (v := .p none (.sl _ _ _)) rfl) (by kernel_rfl) (dstOk (Nat.le_of_ble_eq_true rfl)) (by kernel_rfl) ?_
      refine dgo (sd_move (v := .p none (.int _ _)) rfl) (by kernel_rfl) (dstOk (Nat.le_of_ble_eq_true rfl)) (by kernel_rfl) ?_
      refine dgo (sd_index Try.underlying38 ty35 rfl rfl ?_ (map_at hx)) (by kernel_rfl) (dstOk (Nat.le_of_ble_eq_true rfl)) (by kernel_rfl) ?_; (focus (omega))
      refine dgo (sd_loadR (vs := [.p none (.int _ _), .p none (.int _ _)]) ty35 rfl (Nat.le_of_ble_eq_true rfl) rfl) (by kernel_rfl) (dstOk (Nat.le_of_ble_eq_true rfl)) (by kernel_rfl) ?_
      refine dgo (sd_callF (v := .tup _) rfl (c_mul_spec hm) (.inl rfl) rfl rfl rfl) (by kernel_rfl) (dstOk (Nat.le_of_ble_eq_true rfl)) (by kernel_rfl) ?_
      refine dgo (sd_move (v := .tup _) rfl) (by kernel_rfl) (dstOk (Nat.le_of_ble_eq_true rfl)) (by kernel_rfl) ?_
      refine dgo (sd_extract rfl rfl) (by kernel_rfl) (dstOk (Nat.le_of_ble_eq_true rfl)) (by kernel_rfl) ?_
      refine dgo (sd_extract rfl rfl) (by kernel_rfl) (dstOk (Nat.le_of_ble_eq_true rfl)) (by kernel_rfl) ?_
      refine dgo (sd_alloc (cs := [.p none (.int _ _), .p none (.int _ _)]) ty35 rfl rfl) (by kernel_rfl) (dstOk (Nat.le_of_ble_eq_true rfl)) (by kernel_rfl) ?_
      refine dgo (sd_storeB (cs' := [.p none (.int _ _), .p none (.int _ _)]) ty35 rfl rfl (by first | exact trivial | exact ⟨_, rfl⟩) rfl (Nat.le_of_ble_eq_true rfl) rfl) (by kernel_rfl) dstNo (by kernel_rfl) ?_
      refine dgo (sd_assign (v := .p none (.bool _)) rfl) (by kernel_rfl) (dstOk (Nat.le_of_ble_eq_true rfl)) (by kernel_rfl) ?_
      refine dnil ⟨by kernel_rfl, ?_⟩
      refine k8 _ ?_
      refine VC_seq (fun K9 k9 => ?_)
      refine VC_lit ?_
      refine goV (sd_loadB (vs := [.p none (.int _ _), .p none (.int _ _)]) ty35 rfl rfl (Nat.le_of_ble_eq_true rfl) rfl) (Nat.le_of_ble_eq_true rfl) ?_
      refine goV (sd_loadB (vs := [.p none (.int _ _), .p none (.int _ _)]) ty35 rfl rfl (Nat.le_of_ble_eq_true rfl) rfl) (Nat.le_of_ble_eq_true rfl) ?_
      refine goV (sd_callF (v := .tup _) rfl (c_add_spec hs) (.inl rfl) rfl rfl rfl) (Nat.le_of_ble_eq_true rfl) ?_
      refine goV (sd_move (v := .tup _) rfl) (Nat.le_of_ble_eq_true rfl) ?_
      refine goV (sd_extract rfl rfl) (Nat.le_of_ble_eq_true rfl) ?_
      refine goV (sd_extract rfl rfl) (Nat.le_of_ble_eq_true rfl) ?_
      refine goN (sd_alloc (cs := [.p none (.int _ _), .p none (.int _ _)]) ty35 rfl rfl) (Nat.le_of_ble_eq_true rfl) ?_
      refine goW (sd_storeB (cs' := [.p none (.int _ _), .p none (.int _ _)]) ty35 rfl rfl (by first | exact trivial | exact ⟨_, rfl⟩) rfl (Nat.le_of_ble_eq_true rfl) rfl) ?_
      refine goV (sd_assign (v := .p none (.bool _)) rfl) (Nat.le_of_ble_eq_true rfl) ?_
      refine op_nil ?_
      refine k9 _ ?_
      refine VC_seq (fun K10 k10 => ?_)
      refine VC_seq (fun K11 k11 => ?_)
      rcases m3 with _ | _ <;> rcases s3 with _ | _
      · refine VC_lit ?_
        refine goV (sd_move (v := .p none (.bool _)) rfl) (Nat.le_of_ble_eq_true rfl) ?_
        refine goV (sd_not rfl) (Nat.le_of_ble_eq_true rfl) ?_
        refine goV (sd_move (v := .p none (.bool _)) rfl) (Nat.le_of_ble_eq_true rfl) ?_
        refine op_gnoE rfl (Nat.le_of_ble_eq_true rfl) rfl rfl (Nat.le_of_ble_eq_true rfl) ?_
        refine op_gnoE rfl (Nat.le_of_ble_eq_true rfl) rfl rfl (Nat.le_of_ble_eq_true rfl) ?_
        refine goV (sd_pick (v := .p none (.bool _)) rfl rfl) (Nat.le_of_ble_eq_true rfl) ?_
        refine op_nil ?_
        refine k11 _ ?_
        refine VC_cond rfl (fun c1 => ?_) (fun c1 => absurd c1 (by first | decide | simp))
        refine VC_seq (fun K12 k12 => ?_)
        refine VC_lit ?_
        refine goV (sd_build (cs := [.p none (.int _ _), .p none (.int _ _)]) pl35 (by simp) rfl) (Nat.le_of_ble_eq_true rfl) ?_
        refine goW (sd_storeB (cs' := [.p none (.int _ _), .p none (.int _ _)]) ty35 rfl rfl (by first | exact trivial | exact ⟨_, rfl⟩) rfl (Nat.le_of_ble_eq_true rfl) rfl) ?_
        refine goV (sd_assign (v := .p none _) rfl) (Nat.le_of_ble_eq_true rfl) ?_
        refine op_nil ?_
        refine k12 _ ?_
        refine VC_ret ?_
        show Fin _ _ _ _ _ _
        refine fin0 (xs := [.agg [.p none (.int _ _), .p none (.int _ _)], .p none (.bool _)]) (.inr rfl) ⟨_, _, rfl, ⟨_, _, _, _, _, _, _, rfl, rfl, ty35, .inl ⟨rfl, rfl, rfl⟩⟩, ⟨_, _, rfl, rfl, rfl⟩⟩ ?_
        show AV.tup _ = _
        first | (rw [← hd, hstep, if_neg (by simp)]) | (rw [← hd, dotGo_done hge'])
      · refine VC_lit ?_
        refine goV (sd_move (v := .p none (.bool _)) rfl) (Nat.le_of_ble_eq_true rfl) ?_
        refine goV (sd_not rfl) (Nat.le_of_ble_eq_true rfl) ?_
        refine goV (sd_move (v := .p none (.bool _)) rfl) (Nat.le_of_ble_eq_true rfl) ?_
        refine op_gnoE rfl (Nat.le_of_ble_eq_true rfl) rfl rfl (Nat.le_of_ble_eq_true rfl) ?_
        refine op_gnoE rfl (Nat.le_of_ble_eq_true rfl) rfl rfl (Nat.le_of_ble_eq_true rfl) ?_
        refine goV (sd_pick (v := .p none (.bool _)) rfl rfl) (Nat.le_of_ble_eq_true rfl) ?_
        refine op_nil ?_
        refine k11 _ ?_
        refine VC_cond rfl (fun c1 => ?_) (fun c1 => absurd c1 (by first | decide | simp))
        refine VC_seq (fun K13 k13 => ?_)
        refine VC_lit ?_
        refine goV (sd_build (cs := [.p none (.int _ _), .p none (.int _ _)]) pl35 (by simp) rfl) (Nat.le_of_ble_eq_true rfl) ?_
        refine goW (sd_storeB (cs' := [.p none (.int _ _), .p none (.int _ _)]) ty35 rfl rfl (by first | exact trivial | exact ⟨_, rfl⟩) rfl (Nat.le_of_ble_eq_true rfl) rfl) ?_
        refine goV (sd_assign (v := .p none _) rfl) (Nat.le_of_ble_eq_true rfl) ?_
        refine op_nil ?_
        refine k13 _ ?_
        refine VC_ret ?_
        show Fin _ _ _ _ _ _
        refine fin0 (xs := [.agg [.p none (.int _ _), .p none (.int _ _)], .p none (.bool _)]) (.inr rfl) ⟨_, _, rfl, ⟨_, _, _, _, _, _, _, rfl, rfl, ty35, .inl ⟨rfl, rfl, rfl⟩⟩, ⟨_, _, rfl, rfl, rfl⟩⟩ ?_
        show AV.tup _ = _
        first | (rw [← hd, hstep, if_neg (by simp)]) | (rw [← hd, dotGo_done hge'])
      · refine VC_lit ?_
        refine goV (sd_move (v := .p none (.bool _)) rfl) (Nat.le_of_ble_eq_true rfl) ?_
        refine goV (sd_not rfl) (Nat.le_of_ble_eq_true rfl) ?_
        refine goV (sd_move (v := .p none (.bool _)) rfl) (Nat.le_of_ble_eq_true rfl) ?_
        refine op_gyes rfl (Nat.le_of_ble_eq_true rfl) rfl rfl ?_; refine goV (sd_move (v := .p none (.bool _)) rfl) (Nat.le_of_ble_eq_true rfl) ?_
        refine op_gyes rfl (Nat.le_of_ble_eq_true rfl) rfl rfl ?_; refine goV (sd_not rfl) (Nat.le_of_ble_eq_true rfl) ?_
        refine goV (sd_pick (v := .p none (.bool _)) rfl rfl) (Nat.le_of_ble_eq_true rfl) ?_
        refine op_nil ?_
        refine k11 _ ?_
        refine VC_cond rfl (fun c1 => ?_) (fun c1 => absurd c1 (by first | decide | simp))
        refine VC_seq (fun K14 k14 => ?_)
        refine VC_lit ?_
        refine goV (sd_build (cs := [.p none (.int _ _), .p none (.int _ _)]) pl35 (by simp) rfl) (Nat.le_of_ble_eq_true rfl) ?_
        refine goW (sd_storeB (cs' := [.p none (.int _ _), .p none (.int _ _)]) ty35 rfl rfl (by first | exact trivial | exact ⟨_, rfl⟩) rfl (Nat.le_of_ble_eq_true rfl) rfl) ?_
        refine goV (sd_assign (v := .p none _) rfl) (Nat.le_of_ble_eq_true rfl) ?_
        refine op_nil ?_
        refine k14 _ ?_
        refine VC_ret ?_
        show Fin _ _ _ _ _ _
        refine fin0 (xs := [.agg [.p none (.int _ _), .p none (.int _ _)], .p none (.bool _)]) (.inr rfl) ⟨_, _, rfl, ⟨_, _, _, _, _, _, _, rfl, rfl, ty35, .inl ⟨rfl, rfl, rfl⟩⟩, ⟨_, _, rfl, rfl, rfl⟩⟩ ?_
        show AV.tup _ = _
        first | (rw [← hd, hstep, if_neg (by simp)]) | (rw [← hd, dotGo_done hge'])
      · refine VC_lit ?_
        refine goV (sd_move (v := .p none (.bool _)) rfl) (Nat.le_of_ble_eq_true rfl) ?_
        refine goV (sd_not rfl) (Nat.le_of_ble_eq_true rfl) ?_
        refine goV (sd_move (v := .p none (.bool _)) rfl) (Nat.le_of_ble_eq_true rfl) ?_
        refine op_gyes rfl (Nat.le_of_ble_eq_true rfl) rfl rfl ?_; refine goV (sd_move (v := .p none (.bool _)) rfl) (Nat.le_of_ble_eq_true rfl) ?_
        refine op_gyes rfl (Nat.le_of_ble_eq_true rfl) rfl rfl ?_; refine goV (sd_not rfl) (Nat.le_of_ble_eq_true rfl) ?_
        refine goV (sd_pick (v := .p none (.bool _)) rfl rfl) (Nat.le_of_ble_eq_true rfl) ?_
        refine op_nil ?_
        refine k11 _ ?_
        refine VC_cond rfl (fun c1 => absurd c1 (by first | decide | simp)) (fun c1 => ?_)
        refine VC_skip ?_
        refine k10 _ ?_
        refine VC_lit ?_
        refine goV (sd_loadB (vs := [.p none (.int _ _), .p none (.int _ _)]) ty35 rfl rfl (Nat.le_of_ble_eq_true rfl) rfl) (Nat.le_of_ble_eq_true rfl) ?_
        refine goW (sd_storeB (cs' := [.p none (.int _ _), .p none (.int _ _)]) ty35 rfl rfl (by first | exact trivial | exact ⟨_, rfl⟩) rfl (Nat.le_of_ble_eq_true rfl) rfl) ?_
        refine op_nil ?_
        refine k7 _ ?_
        refine VC_lit ?_
        refine goV (sd_move (v := .p none (.int _ _)) rfl) (Nat.le_of_ble_eq_true rfl) ?_
        refine goV (sd_addI rfl rfl ?_) (Nat.le_of_ble_eq_true rfl) ?_; (focus (first | omega | (constructor <;> omega)))
        refine goV (sd_assign (v := .p none (.int _ _)) rfl) (Nat.le_of_ble_eq_true rfl) ?_
        refine op_nil ?_
        exact ⟨_, id, mk [(0, .p none (ints l)), (1, .p none (rats xs)), (4, .ptr 400 0), (5, .p none (.bool false)), (6, .ptr 600 0), (7, .p none (.int .i64 ((k + 1) : Int)))] [(400, some (.box 35 [.p none (.int .i64 0), .p none (.int .i64 0)])), (600, some (.box 35 [.p none (.int .i64 (s1)), .p none (.int .i64 (s2))]))], by omega, le_mk ⟨(by first | rfl | (simp [findS, findO, mapA, mapR]; done)), (by first | rfl | (simp [findS, findO, mapA, mapR]; done)), (by first | rfl | (simp [findS, findO, mapA, mapR]; done)), (by first | rfl | (simp [findS, findO, mapA, mapR]; done)), (by first | rfl | (simp [findS, findO, mapA, mapR]; done)), (by first | rfl | (simp [findS, findO, mapA, mapR]; done)), trivial⟩ ⟨(by first | rfl | (simp [findS, findO, mapA, mapR]; done)), (by first | rfl | (simp [findS, findO, mapA, mapR]; done)), trivial⟩ rfl, k + 1, s1, s2, rfl, rfl, hlt, by rw [← hd, hstep, if_pos ⟨rfl, rfl⟩]⟩
    · have hge' : l.length ≤ k ∨ xs.length ≤ k := by first | exact .inl hge | (right; simpa using c0)
      refine VC_exit ?_
      refine k3 _ ?_
      refine VC_seq (fun K15 k15 => ?_)
      refine VC_lit ?_
      refine goV (sd_loadB (vs := [.p none (.int _ _), .p none (.int _ _)]) ty35 rfl rfl (Nat.le_of_ble_eq_true rfl) rfl) (Nat.le_of_ble_eq_true rfl) ?_
      refine goW (sd_storeB (cs' := [.p none (.int _ _), .p none (.int _ _)]) ty35 rfl rfl (by first | exact trivial | exact ⟨_, rfl⟩) rfl (Nat.le_of_ble_eq_true rfl) rfl) ?_
      refine goV (sd_assign (v := .p none _) rfl) (Nat.le_of_ble_eq_true rfl) ?_
      refine op_nil ?_
      refine k15 _ ?_
      refine VC_ret ?_
      show Fin _ _ _ _ _ _
      refine fin0 (xs := [.agg [.p none (.int _ _), .p none (.int _ _)], .p none (.bool _)]) (.inr rfl) ⟨_, _, rfl, ⟨_, _, _, _, _, _, _, rfl, rfl, ty35, .inl ⟨rfl, rfl, rfl⟩⟩, ⟨_, _, rfl, rfl, rfl⟩⟩ ?_
      show AV.tup _ = _
      first | (rw [← hd, hstep, if_neg (by simp)]) | (rw [← hd, dotGo_done hge'])
  · have e1 : decide ((k : Int) < (l.length : Int)) = false := by simpa using hlt
    have hge : l.length ≤ k := by omega
    refine VC_lit ?_
    refine goV (sd_move (v := .p none (.int _ _)) rfl) (Nat.le_of_ble_eq_true rfl) ?_
    refine goV (sd_move (v := .p none (.sl _ _ _)) rfl) (Nat.le_of_ble_eq_true rfl) ?_
    refine goV (sd_len Try.underlying22 len_pm) (Nat.le_of_ble_eq_true rfl) ?_
    refine goV (sd_lss rfl rfl) (Nat.le_of_ble_eq_true rfl) ?_
    refine goV (sd_move (v := .p none (.bool _)) rfl) (Nat.le_of_ble_eq_true rfl) ?_
    refine op_gnoE rfl (Nat.le_of_ble_eq_true rfl) rfl e1 (Nat.le_of_ble_eq_true rfl) ?_
    refine op_gnoE rfl (Nat.le_of_ble_eq_true rfl) rfl e1 (Nat.le_of_ble_eq_true rfl) ?_
    refine op_gnoE rfl (Nat.le_of_ble_eq_true rfl) rfl e1 (Nat.le_of_ble_eq_true rfl) ?_
    refine op_gnoE rfl (Nat.le_of_ble_eq_true rfl) rfl e1 (Nat.le_of_ble_eq_true rfl) ?_
    refine goV (sd_pickH (v := .p none (.bool _)) rfl e1 rfl) (Nat.le_of_ble_eq_true rfl) ?_
    refine op_nil ?_
    refine k6 _ ?_
    refine VC_cond rfl (fun c0 => absurd c0 (by first | decide | simp)) (fun c0 => ?_)
    have hge' : l.length ≤ k ∨ xs.length ≤ k := by first | exact .inl hge | (right; simpa using c0)
    refine VC_exit ?_
    refine k3 _ ?_
    refine VC_seq (fun K16 k16 => ?_)
    refine VC_lit ?_
    refine goV (sd_loadB (vs := [.p none (.int _ _), .p none (.int _ _)]) ty35 rfl rfl (Nat.le_of_ble_eq_true rfl) rfl) (Nat.le_of_ble_eq_true rfl) ?_
    refine goW (sd_storeB (cs' := [.p none (.int _ _), .p none (.int _ _)]) ty35 rfl rfl (by first | exact trivial | exact ⟨_, rfl⟩) rfl (Nat.le_of_ble_eq_true rfl) rfl) ?_
    refine goV (sd_assign (v := .p none _) rfl) (Nat.le_of_ble_eq_true rfl) ?_
    refine op_nil ?_
    refine k16 _ ?_
    refine VC_ret ?_
    show Fin _ _ _ _ _ _
    refine fin0 (xs := [.agg [.p none (.int _ _), .p none (.int _ _)], .p none (.bool _)]) (.inr rfl) ⟨_, _, rfl, ⟨_, _, _, _, _, _, _, rfl, rfl, ty35, .inl ⟨rfl, rfl, rfl⟩⟩, ⟨_, _, rfl, rfl, rfl⟩⟩ ?_
    show AV.tup _ = _
    first | (rw [← hd, hstep, if_neg (by simp)]) | (rw [← hd, dotGo_done hge'])

theorem c_product {l : List Int} {xs : List RationalD} {q : Int × Int × Bool} (hl : l.length ≤ 9223372036854775807) (h : (if l.length = xs.length then dotGo l xs 0 1 else (0, 0, false)) = q) : Con Try.prog 67 [.one (ints l), .one (rats xs)] (qT q) [] := by
  subst h
  by_cases hlen : l.length = xs.length
  · rw [if_pos hlen]; exact c_product_yes l xs hl hlen
  · rw [if_neg hlen]; exact c_product_no l xs hl hlen
end Go.Proofs.Ytcgjlddpbkponaa
