/-
  Walks: dual points.
-/
import Derived.Test.YtcgjlddpbkponaaLpJ
namespace Go.Proofs.Ytcgjlddpbkponaa
open Go.ChangeShapes Go.WideShapes Go.ChangeAt Go.RowKit
set_option linter.unusedVariables false
set_option linter.unusedSimpArgs false
def colOf (rs : List (List Int)) (k : Nat) : List Int := rs.map fun r => r.getD k 0
def dualOk (p : ProgramD) (xs : List RationalD) (k : Nat) : Bool := (dotGo (colOf p.rows k) xs 0 1).2.2 && decide (0 ≤ cmpQ (dotGo (colOf p.rows k) xs 0 1).1 (dotGo (colOf p.rows k) xs 0 1).2.1 (p.objective.getD k 0) 1)
def dual (p : ProgramD) (xs : List RationalD) : Bool := okProg p && (posRats xs p.rows.length && (List.range p.objective.length).all (dualOk p xs))
theorem dualOk_eq {p : ProgramD} {xs : List RationalD} {k : Nat} {cl : List Int} {c d1 d2 t : Int} {d3 : Bool} (hcl : cl = colOf p.rows k) (hc : p.objective[k]? = some c) (hd : dotGo cl xs 0 1 = (d1, d2, d3)) (ht : cmpQ d1 d2 c 1 = t) : dualOk p xs k = (d3 && decide (0 ≤ t)) := by subst hcl; simp [dualOk, hd, ht, hc]
theorem colOf_snoc {rs : List (List Int)} {i k : Nat} {r : List Int} {v : Int} {cl : List Int} (hr : rs[i]? = some r) (hv : r[k]? = some v) (h : cl = colOf (rs.take i) k) : cl ++ [v] = colOf (rs.take (i + 1)) k := by
  rw [take_snoc hr, h]; simp [colOf, hv]
theorem colOf_done {rs : List (List Int)} {i k : Nat} {cl : List Int} (h : cl = colOf (rs.take i) k) (hi : rs.length ≤ i) : cl = colOf rs k := by rwa [List.take_of_length_le hi] at h

set_option maxRecDepth 100000 in
set_option maxHeartbeats 4000000 in
theorem c_dual_impl0 (p : ProgramD) (xs : List RationalD) (hf : FitsP p) (hxs : xs.length ≤ 9223372036854775807) (hv : okProg p = false) :
    Con Try.prog 37 [.agg (progD p), .one (rats xs)] (.p none (.bool false)) [] := by
  refine con_of (N := 63) Try.func37 rfl rfl (by decide) (Nat.le_of_ble_eq_true rfl) ?_
  refine VC_seq (fun K1 k1 => ?_)
  refine VC_lit ?_
  refine goN (sd_box (cs := [_, _, _]) (by first | exact trivial | exact ⟨_, rfl⟩) rfl rfl) (Nat.le_of_ble_eq_true rfl) ?_
  refine goV (sd_assign (v := .p none _) rfl) (Nat.le_of_ble_eq_true rfl) ?_
  refine op_nil ?_
  refine k1 _ ?_
  refine VC_seq (fun K2 k2 => ?_)
  refine VC_seq (fun K3 k3 => ?_)
  refine VC_lit ?_
  refine goV (sd_loadB (vs := [_, _, _]) ty28 rfl rfl (Nat.le_of_ble_eq_true rfl) rfl) (Nat.le_of_ble_eq_true rfl) ?_
  refine goV (sd_callF (v := .p none (.bool _)) rfl (c_prog_impl hf hv) (.inl rfl) rfl rfl rfl) (Nat.le_of_ble_eq_true rfl) ?_
  refine goV (sd_not rfl) (Nat.le_of_ble_eq_true rfl) ?_
  refine goV (sd_move (v := .p none (.bool _)) rfl) (Nat.le_of_ble_eq_true rfl) ?_
  refine op_gnoE rfl (Nat.le_of_ble_eq_true rfl) rfl rfl (Nat.le_of_ble_eq_true rfl) ?_
  refine op_gnoE rfl (Nat.le_of_ble_eq_true rfl) rfl rfl (Nat.le_of_ble_eq_true rfl) ?_
  refine op_gnoE rfl (Nat.le_of_ble_eq_true rfl) rfl rfl (Nat.le_of_ble_eq_true rfl) ?_
  refine op_gnoE rfl (Nat.le_of_ble_eq_true rfl) rfl rfl (Nat.le_of_ble_eq_true rfl) ?_
  refine op_gnoE rfl (Nat.le_of_ble_eq_true rfl) rfl rfl (Nat.le_of_ble_eq_true rfl) ?_
  refine op_gnoE rfl (Nat.le_of_ble_eq_true rfl) rfl rfl (Nat.le_of_ble_eq_true rfl) ?_
  refine goV (sd_pick (v := .p none (.bool _)) rfl rfl) (Nat.le_of_ble_eq_true rfl) ?_
  refine op_nil ?_
  refine k3 _ ?_
  refine VC_cond rfl (fun c0 => ?_) (fun c0 => absurd c0 (by first | decide | simp))
  refine VC_seq (fun K4 k4 => ?_)
  refine VC_lit ?_
  refine goV (sd_assign (v := .p none _) rfl) (Nat.le_of_ble_eq_true rfl) ?_
  refine op_nil ?_
  refine k4 _ ?_
  refine VC_ret ?_
  show Fin _ _ _ _ _ _
  refine fin0 (xs := [.p none (.bool _)]) (.inr rfl) ⟨_, _, rfl, rfl, rfl⟩ ?_
  show AV.p none (.bool _) = _
  rfl

set_option maxRecDepth 100000 in
set_option maxHeartbeats 4000000 in
theorem c_dual_impl1 (p : ProgramD) (xs : List RationalD) (hf : FitsP p) (hxs : xs.length ≤ 9223372036854775807) (hv : okProg p = true) (hn : posRats xs p.rows.length = false) :
    Con Try.prog 37 [.agg (progD p), .one (rats xs)] (.p none (.bool false)) [] := by
  refine con_of (N := 63) Try.func37 rfl rfl (by decide) (Nat.le_of_ble_eq_true rfl) ?_
  refine VC_seq (fun K1 k1 => ?_)
  refine VC_lit ?_
  refine goN (sd_box (cs := [_, _, _]) (by first | exact trivial | exact ⟨_, rfl⟩) rfl rfl) (Nat.le_of_ble_eq_true rfl) ?_
  refine goV (sd_assign (v := .p none _) rfl) (Nat.le_of_ble_eq_true rfl) ?_
  refine op_nil ?_
  refine k1 _ ?_
  refine VC_seq (fun K2 k2 => ?_)
  refine VC_seq (fun K3 k3 => ?_)
  refine VC_lit ?_
  refine goV (sd_loadB (vs := [_, _, _]) ty28 rfl rfl (Nat.le_of_ble_eq_true rfl) rfl) (Nat.le_of_ble_eq_true rfl) ?_
  refine goV (sd_callF (v := .p none (.bool _)) rfl (c_prog_impl hf hv) (.inl rfl) rfl rfl rfl) (Nat.le_of_ble_eq_true rfl) ?_
  refine goV (sd_not rfl) (Nat.le_of_ble_eq_true rfl) ?_
  refine goV (sd_move (v := .p none (.bool _)) rfl) (Nat.le_of_ble_eq_true rfl) ?_
  refine op_gyes rfl (Nat.le_of_ble_eq_true rfl) rfl rfl ?_; refine goV (sd_move (v := .p none (.sl _ _ _)) rfl) (Nat.le_of_ble_eq_true rfl) ?_
  refine op_gyes rfl (Nat.le_of_ble_eq_true rfl) rfl rfl ?_; refine goV (sd_fieldP fl28_1 rfl rfl) (Nat.le_of_ble_eq_true rfl) ?_
  refine op_gyes rfl (Nat.le_of_ble_eq_true rfl) rfl rfl ?_; refine goV (sd_loadB1 (v := .p none (.sl _ _ _)) ty23 rfl rfl rfl) (Nat.le_of_ble_eq_true rfl) ?_
  refine op_gyes rfl (Nat.le_of_ble_eq_true rfl) rfl rfl ?_; refine goV (sd_len Try.underlying23 len_pm) (Nat.le_of_ble_eq_true rfl) ?_
  refine op_gyes rfl (Nat.le_of_ble_eq_true rfl) rfl rfl ?_; refine goV (sd_callF (v := .p none (.bool _)) rfl (c_notNeg' hxs hn) (.inl rfl) rfl rfl rfl) (Nat.le_of_ble_eq_true rfl) ?_
  refine op_gyes rfl (Nat.le_of_ble_eq_true rfl) rfl rfl ?_; refine goV (sd_not rfl) (Nat.le_of_ble_eq_true rfl) ?_
  refine goV (sd_pick (v := .p none (.bool _)) rfl rfl) (Nat.le_of_ble_eq_true rfl) ?_
  refine op_nil ?_
  refine k3 _ ?_
  refine VC_cond rfl (fun c0 => ?_) (fun c0 => absurd c0 (by first | decide | simp))
  refine VC_seq (fun K4 k4 => ?_)
  refine VC_lit ?_
  refine goV (sd_assign (v := .p none _) rfl) (Nat.le_of_ble_eq_true rfl) ?_
  refine op_nil ?_
  refine k4 _ ?_
  refine VC_ret ?_
  show Fin _ _ _ _ _ _
  refine fin0 (xs := [.p none (.bool _)]) (.inr rfl) ⟨_, _, rfl, rfl, rfl⟩ ?_
  show AV.p none (.bool _) = _
  rfl

set_option maxRecDepth 100000 in
set_option maxHeartbeats 4000000 in
theorem c_dual_impl2 (p : ProgramD) (xs : List RationalD) (hf : FitsP p) (hxs : xs.length ≤ 9223372036854775807) (hv : okProg p = true) (hn : posRats xs p.rows.length = true) :
    Con Try.prog 37 [.agg (progD p), .one (rats xs)] (.p none (.bool ((List.range p.objective.length).all (dualOk p xs)))) [] := by
  have hbd := okProg_bnd hv
  have hpl := posRats_len hn
  refine con_of (N := 63) Try.func37 rfl rfl (by decide) (Nat.le_of_ble_eq_true rfl) ?_
  refine VC_seq (fun K1 k1 => ?_)
  refine VC_lit ?_
  refine goN (sd_box (cs := [_, _, _]) (by first | exact trivial | exact ⟨_, rfl⟩) rfl rfl) (Nat.le_of_ble_eq_true rfl) ?_
  refine goV (sd_assign (v := .p none _) rfl) (Nat.le_of_ble_eq_true rfl) ?_
  refine op_nil ?_
  refine k1 _ ?_
  refine VC_seq (fun K2 k2 => ?_)
  refine VC_seq (fun K3 k3 => ?_)
  refine VC_lit ?_
  refine goV (sd_loadB (vs := [_, _, _]) ty28 rfl rfl (Nat.le_of_ble_eq_true rfl) rfl) (Nat.le_of_ble_eq_true rfl) ?_
  refine goV (sd_callF (v := .p none (.bool _)) rfl (c_prog_impl hf hv) (.inl rfl) rfl rfl rfl) (Nat.le_of_ble_eq_true rfl) ?_
  refine goV (sd_not rfl) (Nat.le_of_ble_eq_true rfl) ?_
  refine goV (sd_move (v := .p none (.bool _)) rfl) (Nat.le_of_ble_eq_true rfl) ?_
  refine op_gyes rfl (Nat.le_of_ble_eq_true rfl) rfl rfl ?_; refine goV (sd_move (v := .p none (.sl _ _ _)) rfl) (Nat.le_of_ble_eq_true rfl) ?_
  refine op_gyes rfl (Nat.le_of_ble_eq_true rfl) rfl rfl ?_; refine goV (sd_fieldP fl28_1 rfl rfl) (Nat.le_of_ble_eq_true rfl) ?_
  refine op_gyes rfl (Nat.le_of_ble_eq_true rfl) rfl rfl ?_; refine goV (sd_loadB1 (v := .p none (.sl _ _ _)) ty23 rfl rfl rfl) (Nat.le_of_ble_eq_true rfl) ?_
  refine op_gyes rfl (Nat.le_of_ble_eq_true rfl) rfl rfl ?_; refine goV (sd_len Try.underlying23 len_pm) (Nat.le_of_ble_eq_true rfl) ?_
  refine op_gyes rfl (Nat.le_of_ble_eq_true rfl) rfl rfl ?_; refine goV (sd_callF (v := .p none (.bool _)) rfl (c_notNeg' hxs hn) (.inl rfl) rfl rfl rfl) (Nat.le_of_ble_eq_true rfl) ?_
  refine op_gyes rfl (Nat.le_of_ble_eq_true rfl) rfl rfl ?_; refine goV (sd_not rfl) (Nat.le_of_ble_eq_true rfl) ?_
  refine goV (sd_pick (v := .p none (.bool _)) rfl rfl) (Nat.le_of_ble_eq_true rfl) ?_
  refine op_nil ?_
  refine k3 _ ?_
  refine VC_cond rfl (fun c0 => absurd c0 (by first | decide | simp)) (fun c0 => ?_)
  refine VC_skip ?_
  refine k2 _ ?_
  refine VC_seq (fun K4 k4 => ?_)
  refine VC_seq (fun K5 k5 => ?_)
  refine VC_lit ?_
  refine goV (sd_fieldP fl28_0 rfl rfl) (Nat.le_of_ble_eq_true rfl) ?_
  refine goV (sd_loadB1 (v := .p none (.sl _ _ _)) ty22 rfl rfl rfl) (Nat.le_of_ble_eq_true rfl) ?_
  refine goV (sd_len Try.underlying22 len_pm) (Nat.le_of_ble_eq_true rfl) ?_
  refine goV (sd_move (v := .p none _) rfl) (Nat.le_of_ble_eq_true rfl) ?_
  refine op_nil ?_
  refine k5 _ ?_
  refine VC_block ?_
  refine VC_le (S' := mk [(1, .p none (rats xs)), (2, .ptr 200 0), (4, .p none (.bool false)), (24, .p none (ints p.objective)), (25, .p none (.int .i64 (p.objective.length : Int))), (26, .p none (.int .i64 ((0) : Int)))] [(200, some (.box 28 [.p none (ints p.objective), .p none (rowsD p.rows), .p none (ints p.limits)]))]) id (le_mk ⟨(by first | rfl | (simp [findS, findO, mapA, mapR]; done)), (by first | rfl | (simp [findS, findO, mapA, mapR]; done)), (by first | rfl | (simp [findS, findO, mapA, mapR]; done)), (by first | rfl | (simp [findS, findO, mapA, mapR]; done)), (by first | rfl | (simp [findS, findO, mapA, mapR]; done)), (by first | rfl | (simp [findS, findO, mapA, mapR]; done)), trivial⟩ ⟨(by first | rfl | (simp [findS, findO, mapA, mapR]; done)), trivial⟩ rfl) ?_
  refine VC_loop (fun nn SS => ∃ (k : Nat), SS = mk [(1, .p none (rats xs)), (2, .ptr 200 0), (4, .p none (.bool false)), (24, .p none (ints p.objective)), (25, .p none (.int .i64 (p.objective.length : Int))), (26, .p none (.int .i64 (k : Int)))] [(200, some (.box 28 [.p none (ints p.objective), .p none (rowsD p.rows), .p none (ints p.limits)]))] ∧ nn = p.objective.length - k ∧ k ≤ p.objective.length ∧ ((List.range p.objective.length).take k).all (dualOk p xs) = true) _ ⟨0, rfl, rfl, Nat.zero_le _, rfl⟩ (fun nn SS hI => ?_)
  obtain ⟨k, rfl, rfl, hk, ha⟩ := hI
  refine VC_seq (fun K6 k6 => ?_)
  refine VC_lit ?_
  refine goV (sd_lss rfl rfl) (Nat.le_of_ble_eq_true rfl) ?_
  refine op_nil ?_
  refine k6 _ ?_
  refine VC_seq (fun K7 k7 => ?_)
  refine VC_cond rfl (fun c1 => ?_) (fun c1 => ?_)
  · have hlt : k < p.objective.length := by simpa using c1
    obtain ⟨c, hc⟩ : ∃ c, p.objective[k]? = some c := ⟨_, List.getElem?_eq_getElem hlt⟩
    have hz : (List.range p.objective.length)[k]? = some k := by simp [hlt]
    refine VC_skip ?_
    refine k7 _ ?_
    refine VC_seq (fun K8 k8 => ?_)
    refine VC_block ?_
    refine VC_seq (fun K9 k9 => ?_)
    refine VC_lit ?_
    refine goV (sd_move (v := .p none (.int _ _)) rfl) (Nat.le_of_ble_eq_true rfl) ?_
    refine goV (sd_index Try.underlying22 ty3 rfl rfl ?_ (map_at hc)) (Nat.le_of_ble_eq_true rfl) ?_; (focus (omega))
    refine goV (sd_loadR1 (v := .p none (.int _ _)) ty3 rfl rfl rfl) (Nat.le_of_ble_eq_true rfl) ?_
    refine goV (sd_assign (v := .p none (.int _ _)) rfl) (Nat.le_of_ble_eq_true rfl) ?_
    refine goV (sd_assign (v := .p none (.int _ _)) rfl) (Nat.le_of_ble_eq_true rfl) ?_
    refine op_nil ?_
    refine k9 _ ?_
    refine VC_seq (fun K10 k10 => ?_)
    refine VC_lit ?_
    refine goN (sd_slice0 Try.underlying22 ty3 rfl) (Nat.le_of_ble_eq_true rfl) ?_
    refine goV (sd_assign (v := .own _) rfl) (Nat.le_of_ble_eq_true rfl) ?_
    refine op_nil ?_
    refine k10 _ ?_
    refine VC_seq (fun K11 k11 => ?_)
    refine VC_seq (fun K12 k12 => ?_)
    refine VC_lit ?_
    refine goV (sd_fieldP fl28_1 rfl rfl) (Nat.le_of_ble_eq_true rfl) ?_
    refine goV (sd_loadB1 (v := .p none (.sl _ _ _)) ty23 rfl rfl rfl) (Nat.le_of_ble_eq_true rfl) ?_
    refine goV (sd_len Try.underlying23 len_pm) (Nat.le_of_ble_eq_true rfl) ?_
    refine goV (sd_move (v := .p none _) rfl) (Nat.le_of_ble_eq_true rfl) ?_
    refine op_nil ?_
    refine k12 _ ?_
    refine VC_block ?_
    refine VC_le (S' := mk [(1, .p none (rats xs)), (2, .ptr 200 0), (4, .p none (.bool false)), (24, .p none (ints p.objective)), (25, .p none (.int .i64 (p.objective.length : Int))), (26, .p none (.int .i64 (k : Int))), (5, .p none (.int .i64 (k : Int))), (6, .p none (.int .i64 c)), (7, .own 7), (33, .p none (rowsD p.rows)), (34, .p none (.int .i64 (p.rows.length : Int))), (35, .p none (.int .i64 ((0) : Int)))] [(200, some (.box 28 [.p none (ints p.objective), .p none (rowsD p.rows), .p none (ints p.limits)])), (7, some (.arr 3 1 true (([]).map fun n => [Dat.int .i64 n])))]) (fun h => if h = 7 then 3100 else h) (le_mk ⟨(by first | rfl | (simp [findS, findO, mapA, mapR]; done)), (by first | rfl | (simp [findS, findO, mapA, mapR]; done)), (by first | rfl | (simp [findS, findO, mapA, mapR]; done)), (by first | rfl | (simp [findS, findO, mapA, mapR]; done)), (by first | rfl | (simp [findS, findO, mapA, mapR]; done)), (by first | rfl | (simp [findS, findO, mapA, mapR]; done)), (by first | rfl | (simp [findS, findO, mapA, mapR]; done)), (by first | rfl | (simp [findS, findO, mapA, mapR]; done)), (by first | rfl | (simp [findS, findO, mapA, mapR]; done)), (by first | rfl | (simp [findS, findO, mapA, mapR]; done)), (by first | rfl | (simp [findS, findO, mapA, mapR]; done)), (by first | rfl | (simp [findS, findO, mapA, mapR]; done)), trivial⟩ ⟨(by first | rfl | (simp [findS, findO, mapA, mapR]; done)), (by first | rfl | (simp [findS, findO, mapA, mapR]; done)), trivial⟩ rfl) ?_
    refine VC_loop (fun nn SS => ∃ (i : Nat) (cl : List Int), SS = mk [(1, .p none (rats xs)), (2, .ptr 200 0), (4, .p none (.bool false)), (24, .p none (ints p.objective)), (25, .p none (.int .i64 (p.objective.length : Int))), (26, .p none (.int .i64 (k : Int))), (5, .p none (.int .i64 (k : Int))), (6, .p none (.int .i64 c)), (7, .own 7), (33, .p none (rowsD p.rows)), (34, .p none (.int .i64 (p.rows.length : Int))), (35, .p none (.int .i64 (i : Int)))] [(200, some (.box 28 [.p none (ints p.objective), .p none (rowsD p.rows), .p none (ints p.limits)])), (7, some (.arr 3 1 true (cl.map fun n => [Dat.int .i64 n])))] ∧ nn = p.rows.length - i ∧ i ≤ p.rows.length ∧ cl.length = i ∧ cl = colOf (p.rows.take i) k) _ ⟨0, [], rfl, rfl, Nat.zero_le _, rfl, rfl⟩ (fun nn SS hI => ?_)
    obtain ⟨i, cl, rfl, rfl, hi, hcn, hcl⟩ := hI
    refine VC_seq (fun K13 k13 => ?_)
    refine VC_lit ?_
    refine goV (sd_lss rfl rfl) (Nat.le_of_ble_eq_true rfl) ?_
    refine op_nil ?_
    refine k13 _ ?_
    refine VC_seq (fun K14 k14 => ?_)
    refine VC_cond rfl (fun c2 => ?_) (fun c2 => ?_)
    · have hlt2 : i < p.rows.length := by simpa using c2
      obtain ⟨r, hr⟩ : ∃ r, p.rows[i]? = some r := ⟨_, List.getElem?_eq_getElem hlt2⟩
      have hrl := hbd.2.2.2.2 r (List.mem_of_getElem? hr)
      obtain ⟨v, hv2⟩ : ∃ v, r[k]? = some v := ⟨_, List.getElem?_eq_getElem (by omega)⟩
      refine VC_skip ?_
      refine k14 _ ?_
      refine VC_seq (fun K15 k15 => ?_)
      refine VC_block ?_
      refine VC_seq (fun K16 k16 => ?_)
      refine VC_lit ?_
      refine goV (sd_index Try.underlying23 ty22 rfl rfl ?_ (map_at hr)) (Nat.le_of_ble_eq_true rfl) ?_; (focus (omega))
      refine goV (sd_loadR1 (v := .p none (.sl _ _ _)) ty22 rfl rfl rfl) (Nat.le_of_ble_eq_true rfl) ?_
      refine goV (sd_assign (v := .p none (.sl _ _ _)) rfl) (Nat.le_of_ble_eq_true rfl) ?_
      refine op_nil ?_
      refine k16 _ ?_
      refine VC_lit ?_
      refine goV (sd_move (v := .own _) rfl) (Nat.le_of_ble_eq_true rfl) ?_
      refine goV (sd_move (v := .p none (.sl _ _ _)) rfl) (Nat.le_of_ble_eq_true rfl) ?_
      refine goV (sd_move (v := .p none (.int _ _)) rfl) (Nat.le_of_ble_eq_true rfl) ?_
      refine goV (sd_index Try.underlying22 ty3 rfl rfl ?_ (map_at hv2)) (Nat.le_of_ble_eq_true rfl) ?_; (focus (omega))
      refine goV (sd_loadR1 (v := .p none (.int _ _)) ty3 rfl rfl rfl) (Nat.le_of_ble_eq_true rfl) ?_
      refine goN (sd_sliceA (rows := [[_]]) Try.underlying22 ty3 (Nat.le_of_ble_eq_true rfl) (Nat.le_of_ble_eq_true rfl) (cells_ok.2 ⟨(by first | exact trivial | exact ⟨_, rfl⟩), trivial⟩) rfl ⟨[_], _, rfl, rfl, rfl⟩ (by simp) rfl rfl) (Nat.le_of_ble_eq_true rfl) ?_
      refine goA (sd_appF Try.underlying22 ty3 (Nat.le_of_ble_eq_true rfl) ⟨rfl, rfl⟩ ⟨_, _, rfl⟩ (⟨[_], _, rfl, rfl, rfl⟩) ?_ ?_ rfl rfl) (Nat.le_of_ble_eq_true rfl) ?_; (focus (first | (simp; done) | (simp; omega) | (simp at *; omega))); (focus (unfold maxLen; first | (simp; done) | (simp; omega) | (simp at *; omega)))
      refine goV (sd_assign (v := .own _) rfl) (Nat.le_of_ble_eq_true rfl) ?_
      refine op_nil ?_
      refine k15 _ ?_
      refine VC_lit ?_
      refine goV (sd_addI rfl rfl ?_) (Nat.le_of_ble_eq_true rfl) ?_; (focus (first | omega | (constructor <;> omega)))
      refine goV (sd_move (v := .p none (.int _ _)) rfl) (Nat.le_of_ble_eq_true rfl) ?_
      refine op_nil ?_
      exact ⟨_, (fun h => if h = 7 then 4500 else h), mk [(1, .p none (rats xs)), (2, .ptr 200 0), (4, .p none (.bool false)), (24, .p none (ints p.objective)), (25, .p none (.int .i64 (p.objective.length : Int))), (26, .p none (.int .i64 (k : Int))), (5, .p none (.int .i64 (k : Int))), (6, .p none (.int .i64 c)), (7, .own 7), (33, .p none (rowsD p.rows)), (34, .p none (.int .i64 (p.rows.length : Int))), (35, .p none (.int .i64 ((i + 1) : Int)))] [(200, some (.box 28 [.p none (ints p.objective), .p none (rowsD p.rows), .p none (ints p.limits)])), (7, some (.arr 3 1 true ((cl ++ [v]).map fun n => [Dat.int .i64 n])))], by omega, le_mk ⟨(by first | rfl | (simp [findS, findO, mapA, mapR]; done)), (by first | rfl | (simp [findS, findO, mapA, mapR]; done)), (by first | rfl | (simp [findS, findO, mapA, mapR]; done)), (by first | rfl | (simp [findS, findO, mapA, mapR]; done)), (by first | rfl | (simp [findS, findO, mapA, mapR]; done)), (by first | rfl | (simp [findS, findO, mapA, mapR]; done)), (by first | rfl | (simp [findS, findO, mapA, mapR]; done)), (by first | rfl | (simp [findS, findO, mapA, mapR]; done)), (by first | rfl | (simp [findS, findO, mapA, mapR]; done)), (by first | rfl | (simp [findS, findO, mapA, mapR]; done)), (by first | rfl | (simp [findS, findO, mapA, mapR]; done)), (by first | rfl | (simp [findS, findO, mapA, mapR]; done)), trivial⟩ ⟨(by first | rfl | (simp [findS, findO, mapA, mapR]; done)), (by first | rfl | (simp [findS, findO, mapA, mapR]; done)), trivial⟩ rfl, i + 1, cl ++ [v], rfl, rfl, hlt2, by simp [hcn], colOf_snoc hr hv2 hcl⟩
    · have hge2 : p.rows.length ≤ i := by simpa using c2
      have hcol := colOf_done hcl hge2
      have hlen : cl.length = xs.length := by omega
      obtain ⟨d1, d2, d3, hd⟩ : ∃ d1 d2 d3, dotGo cl xs 0 1 = (d1, d2, d3) := ⟨_, _, _, rfl⟩
      obtain ⟨t, ht⟩ : ∃ t, cmpQ d1 d2 c 1 = t := ⟨_, rfl⟩
      refine VC_exit ?_
      refine k11 _ ?_
      refine VC_seq (fun K17 k17 => ?_)
      refine VC_lit ?_
      refine goV (sd_move (v := .own _) rfl) (Nat.le_of_ble_eq_true rfl) ?_
      refine goV (sd_move (v := .p none (.sl _ _ _)) rfl) (Nat.le_of_ble_eq_true rfl) ?_
      refine goV (sd_callF (v := .tup _) rfl (c_product (l := cl) (by omega) ((if_pos hlen).trans hd)) (.inl rfl) rfl rfl rfl) (Nat.le_of_ble_eq_true rfl) ?_
      refine goV (sd_move (v := .tup _) rfl) (Nat.le_of_ble_eq_true rfl) ?_
      refine goV (sd_extract rfl rfl) (Nat.le_of_ble_eq_true rfl) ?_
      refine goV (sd_extract rfl rfl) (Nat.le_of_ble_eq_true rfl) ?_
      refine goN (sd_alloc (cs := [.p none (.int _ _), .p none (.int _ _)]) ty35 rfl rfl) (Nat.le_of_ble_eq_true rfl) ?_
      refine goW (sd_storeB (cs' := [.p none (.int _ _), .p none (.int _ _)]) ty35 rfl rfl (by first | exact trivial | exact ⟨_, rfl⟩) rfl (Nat.le_of_ble_eq_true rfl) rfl) ?_
      refine goV (sd_assign (v := .p none (.bool _)) rfl) (Nat.le_of_ble_eq_true rfl) ?_
      refine op_nil ?_
      refine k17 _ ?_
      refine VC_seq (fun K18 k18 => ?_)
      cases d3
      · refine VC_drawn mixed ?_
        refine dgo (sd_move (v := .p none (.bool _)) rfl) (by kernel_rfl) (dstOk (Nat.le_of_ble_eq_true rfl)) (by kernel_rfl) ?_
        refine dgo (sd_not rfl) (by kernel_rfl) (dstOk (Nat.le_of_ble_eq_true rfl)) (by kernel_rfl) ?_
        refine dgo (sd_move (v := .p none (.bool _)) rfl) (by kernel_rfl) (dstOk (Nat.le_of_ble_eq_true rfl)) (by kernel_rfl) ?_
        refine dgoX rfl (Nat.le_of_ble_eq_true rfl) rfl rfl (by kernel_rfl) (dstOk (Nat.le_of_ble_eq_true rfl)) ?_
        refine dgoX rfl (Nat.le_of_ble_eq_true rfl) rfl rfl (by kernel_rfl) (dstOk (Nat.le_of_ble_eq_true rfl)) ?_
        refine dgoX rfl (Nat.le_of_ble_eq_true rfl) rfl rfl (by kernel_rfl) (dstOk (Nat.le_of_ble_eq_true rfl)) ?_
        refine dgoX rfl (Nat.le_of_ble_eq_true rfl) rfl rfl (by kernel_rfl) (dstOk (Nat.le_of_ble_eq_true rfl)) ?_
        refine dgoX rfl (Nat.le_of_ble_eq_true rfl) rfl rfl (by kernel_rfl) (dstOk (Nat.le_of_ble_eq_true rfl)) ?_
        refine dgo (sd_pick (v := .p none (.bool _)) rfl rfl) (by kernel_rfl) (dstOk (Nat.le_of_ble_eq_true rfl)) (by kernel_rfl) ?_
        refine dnil ⟨by kernel_rfl, ?_⟩
        refine k18 _ ?_
        refine VC_cond rfl (fun c3 => ?_) (fun c3 => absurd c3 (by first | decide | simp))
        have hq : dualOk p xs k = false := (dualOk_eq hcol hc hd ht).trans (by first | rfl | simpa using c3)
        refine VC_seq (fun K19 k19 => ?_)
        refine VC_lit ?_
        refine goV (sd_assign (v := .p none _) rfl) (Nat.le_of_ble_eq_true rfl) ?_
        refine op_nil ?_
        refine k19 _ ?_
        refine VC_ret ?_
        show Fin _ _ _ _ _ _
        refine fin0 (xs := [.p none (.bool _)]) (.inr rfl) ⟨_, _, rfl, rfl, rfl⟩ ?_
        show AV.p none (.bool _) = _
        first | rw [all_stop hz hq] | rw [all_done hge ha]
      · refine VC_drawn mixed ?_
        refine dgo (sd_move (v := .p none (.bool _)) rfl) (by kernel_rfl) (dstOk (Nat.le_of_ble_eq_true rfl)) (by kernel_rfl) ?_
        refine dgo (sd_not rfl) (by kernel_rfl) (dstOk (Nat.le_of_ble_eq_true rfl)) (by kernel_rfl) ?_
        refine dgo (sd_move (v := .p none (.bool _)) rfl) (by kernel_rfl) (dstOk (Nat.le_of_ble_eq_true rfl)) (by kernel_rfl) ?_
        refine dgoY rfl (Nat.le_of_ble_eq_true rfl) rfl rfl (sd_loadB (vs := [.p none (.int _ _), .p none (.int _ _)]) ty35 rfl rfl (Nat.le_of_ble_eq_true rfl) rfl) (by kernel_rfl) (dstOk (Nat.le_of_ble_eq_true rfl)) (by kernel_rfl) ?_
        refine dgoY rfl (Nat.le_of_ble_eq_true rfl) rfl rfl (sd_move (v := .p none (.int _ _)) rfl) (by kernel_rfl) (dstOk (Nat.le_of_ble_eq_true rfl)) (by kernel_rfl) ?_
        refine dgoY rfl (Nat.le_of_ble_eq_true rfl) rfl rfl (sd_callF (v := .agg [.p none (.int _ _), .p none (.int _ _)]) rfl (c_whole _) (.inl rfl) rfl rfl rfl) (by kernel_rfl) (dstOk (Nat.le_of_ble_eq_true rfl)) (by kernel_rfl) ?_
        refine dgoY rfl (Nat.le_of_ble_eq_true rfl) rfl rfl (sd_callF (v := .p none (.int _ _)) rfl (c_cmp_impl ht) (.inl rfl) rfl rfl rfl) (by kernel_rfl) (dstOk (Nat.le_of_ble_eq_true rfl)) (by kernel_rfl) ?_
        refine dgoY rfl (Nat.le_of_ble_eq_true rfl) rfl rfl (sd_lss rfl rfl) (by kernel_rfl) (dstOk (Nat.le_of_ble_eq_true rfl)) (by kernel_rfl) ?_
        refine dgo (sd_pick (v := .p none (.bool _)) rfl rfl) (by kernel_rfl) (dstOk (Nat.le_of_ble_eq_true rfl)) (by kernel_rfl) ?_
        refine dnil ⟨by kernel_rfl, ?_⟩
        refine k18 _ ?_
        refine VC_cond rfl (fun c3 => ?_) (fun c3 => ?_)
        · have hq : dualOk p xs k = false := (dualOk_eq hcol hc hd ht).trans (by first | rfl | simpa using c3)
          refine VC_seq (fun K20 k20 => ?_)
          refine VC_lit ?_
          refine goV (sd_assign (v := .p none _) rfl) (Nat.le_of_ble_eq_true rfl) ?_
          refine op_nil ?_
          refine k20 _ ?_
          refine VC_ret ?_
          show Fin _ _ _ _ _ _
          refine fin0 (xs := [.p none (.bool _)]) (.inr rfl) ⟨_, _, rfl, rfl, rfl⟩ ?_
          show AV.p none (.bool _) = _
          first | rw [all_stop hz hq] | rw [all_done hge ha]
        · have hq : dualOk p xs k = true := (dualOk_eq hcol hc hd ht).trans (by simpa using c3)
          refine VC_skip ?_
          refine k8 _ ?_
          refine VC_lit ?_
          refine goV (sd_addI rfl rfl ?_) (Nat.le_of_ble_eq_true rfl) ?_; (focus (first | omega | (constructor <;> omega)))
          refine goV (sd_move (v := .p none (.int _ _)) rfl) (Nat.le_of_ble_eq_true rfl) ?_
          refine op_nil ?_
          exact ⟨_, id, mk [(1, .p none (rats xs)), (2, .ptr 200 0), (4, .p none (.bool false)), (24, .p none (ints p.objective)), (25, .p none (.int .i64 (p.objective.length : Int))), (26, .p none (.int .i64 ((k + 1) : Int)))] [(200, some (.box 28 [.p none (ints p.objective), .p none (rowsD p.rows), .p none (ints p.limits)]))], by omega, le_mk ⟨(by first | rfl | (simp [findS, findO, mapA, mapR]; done)), (by first | rfl | (simp [findS, findO, mapA, mapR]; done)), (by first | rfl | (simp [findS, findO, mapA, mapR]; done)), (by first | rfl | (simp [findS, findO, mapA, mapR]; done)), (by first | rfl | (simp [findS, findO, mapA, mapR]; done)), (by first | rfl | (simp [findS, findO, mapA, mapR]; done)), trivial⟩ ⟨(by first | rfl | (simp [findS, findO, mapA, mapR]; done)), trivial⟩ rfl, k + 1, rfl, rfl, hlt, all_snoc hz ha hq⟩
  · have hge' : p.objective.length ≤ k := by simpa using c1
    have hge : (List.range p.objective.length).length ≤ k := by simp; omega
    refine VC_exit ?_
    refine k4 _ ?_
    refine VC_seq (fun K21 k21 => ?_)
    refine VC_lit ?_
    refine goV (sd_assign (v := .p none _) rfl) (Nat.le_of_ble_eq_true rfl) ?_
    refine op_nil ?_
    refine k21 _ ?_
    refine VC_ret ?_
    show Fin _ _ _ _ _ _
    refine fin0 (xs := [.p none (.bool _)]) (.inr rfl) ⟨_, _, rfl, rfl, rfl⟩ ?_
    show AV.p none (.bool _) = _
    first | rw [all_stop hz hq] | rw [all_done hge ha]

set_option maxRecDepth 100000 in
set_option maxHeartbeats 4000000 in
theorem c_dual_spec0 (p : ProgramD) (xs : List RationalD) (hf : FitsP p) (hxs : xs.length ≤ 9223372036854775807) (hv : okProg p = false) :
    Con Try.prog 36 [.agg (progD p), .one (rats xs)] (.p none (.bool false)) [] := by
  refine con_of (N := 71) Try.func36 rfl rfl (by decide) (Nat.le_of_ble_eq_true rfl) ?_
  refine VC_seq (fun K1 k1 => ?_)
  refine VC_lit ?_
  refine goN (sd_box (cs := [_, _, _]) (by first | exact trivial | exact ⟨_, rfl⟩) rfl rfl) (Nat.le_of_ble_eq_true rfl) ?_
  refine goV (sd_assign (v := .p none _) rfl) (Nat.le_of_ble_eq_true rfl) ?_
  refine op_nil ?_
  refine k1 _ ?_
  refine VC_seq (fun K2 k2 => ?_)
  refine VC_seq (fun K3 k3 => ?_)
  refine VC_lit ?_
  refine goV (sd_loadB (vs := [_, _, _]) ty28 rfl rfl (Nat.le_of_ble_eq_true rfl) rfl) (Nat.le_of_ble_eq_true rfl) ?_
  refine goV (sd_callF (v := .p none (.bool _)) rfl (c_prog_spec hf hv) (.inl rfl) rfl rfl rfl) (Nat.le_of_ble_eq_true rfl) ?_
  refine goV (sd_not rfl) (Nat.le_of_ble_eq_true rfl) ?_
  refine goV (sd_move (v := .p none (.bool _)) rfl) (Nat.le_of_ble_eq_true rfl) ?_
  refine op_gnoE rfl (Nat.le_of_ble_eq_true rfl) rfl rfl (Nat.le_of_ble_eq_true rfl) ?_
  refine op_gnoE rfl (Nat.le_of_ble_eq_true rfl) rfl rfl (Nat.le_of_ble_eq_true rfl) ?_
  refine op_gnoE rfl (Nat.le_of_ble_eq_true rfl) rfl rfl (Nat.le_of_ble_eq_true rfl) ?_
  refine op_gnoE rfl (Nat.le_of_ble_eq_true rfl) rfl rfl (Nat.le_of_ble_eq_true rfl) ?_
  refine op_gnoE rfl (Nat.le_of_ble_eq_true rfl) rfl rfl (Nat.le_of_ble_eq_true rfl) ?_
  refine op_gnoE rfl (Nat.le_of_ble_eq_true rfl) rfl rfl (Nat.le_of_ble_eq_true rfl) ?_
  refine goV (sd_pick (v := .p none (.bool _)) rfl rfl) (Nat.le_of_ble_eq_true rfl) ?_
  refine goV (sd_move (v := .p none (.bool _)) rfl) (Nat.le_of_ble_eq_true rfl) ?_
  refine op_gnoE rfl (Nat.le_of_ble_eq_true rfl) rfl rfl (Nat.le_of_ble_eq_true rfl) ?_
  refine op_gnoE rfl (Nat.le_of_ble_eq_true rfl) rfl rfl (Nat.le_of_ble_eq_true rfl) ?_
  refine op_gnoE rfl (Nat.le_of_ble_eq_true rfl) rfl rfl (Nat.le_of_ble_eq_true rfl) ?_
  refine goV (sd_pick (v := .p none (.bool _)) rfl rfl) (Nat.le_of_ble_eq_true rfl) ?_
  refine op_nil ?_
  refine k3 _ ?_
  refine VC_cond rfl (fun c0 => ?_) (fun c0 => absurd c0 (by first | decide | simp))
  refine VC_seq (fun K4 k4 => ?_)
  refine VC_lit ?_
  refine goV (sd_assign (v := .p none _) rfl) (Nat.le_of_ble_eq_true rfl) ?_
  refine op_nil ?_
  refine k4 _ ?_
  refine VC_ret ?_
  show Fin _ _ _ _ _ _
  refine fin0 (xs := [.p none (.bool _)]) (.inr rfl) ⟨_, _, rfl, rfl, rfl⟩ ?_
  show AV.p none (.bool _) = _
  rfl

set_option maxRecDepth 100000 in
set_option maxHeartbeats 4000000 in
theorem c_dual_spec1 (p : ProgramD) (xs : List RationalD) (hf : FitsP p) (hxs : xs.length ≤ 9223372036854775807) (hv : okProg p = true) (hl : xs.length ≠ p.rows.length) :
    Con Try.prog 36 [.agg (progD p), .one (rats xs)] (.p none (.bool false)) [] := by
  have e1 : (!decide ((xs.length : Int) = (p.rows.length : Int))) = true := by simp; omega
  refine con_of (N := 71) Try.func36 rfl rfl (by decide) (Nat.le_of_ble_eq_true rfl) ?_
  refine VC_seq (fun K1 k1 => ?_)
  refine VC_lit ?_
  refine goN (sd_box (cs := [_, _, _]) (by first | exact trivial | exact ⟨_, rfl⟩) rfl rfl) (Nat.le_of_ble_eq_true rfl) ?_
  refine goV (sd_assign (v := .p none _) rfl) (Nat.le_of_ble_eq_true rfl) ?_
  refine op_nil ?_
  refine k1 _ ?_
  refine VC_seq (fun K2 k2 => ?_)
  refine VC_seq (fun K3 k3 => ?_)
  refine VC_lit ?_
  refine goV (sd_loadB (vs := [_, _, _]) ty28 rfl rfl (Nat.le_of_ble_eq_true rfl) rfl) (Nat.le_of_ble_eq_true rfl) ?_
  refine goV (sd_callF (v := .p none (.bool _)) rfl (c_prog_spec hf hv) (.inl rfl) rfl rfl rfl) (Nat.le_of_ble_eq_true rfl) ?_
  refine goV (sd_not rfl) (Nat.le_of_ble_eq_true rfl) ?_
  refine goV (sd_move (v := .p none (.bool _)) rfl) (Nat.le_of_ble_eq_true rfl) ?_
  refine op_gyes rfl (Nat.le_of_ble_eq_true rfl) rfl rfl ?_; refine goV (sd_move (v := .p none (.sl _ _ _)) rfl) (Nat.le_of_ble_eq_true rfl) ?_
  refine op_gyes rfl (Nat.le_of_ble_eq_true rfl) rfl rfl ?_; refine goV (sd_len Try.underlying38 len_pm) (Nat.le_of_ble_eq_true rfl) ?_
  refine op_gyes rfl (Nat.le_of_ble_eq_true rfl) rfl rfl ?_; refine goV (sd_fieldP fl28_1 rfl rfl) (Nat.le_of_ble_eq_true rfl) ?_
  refine op_gyes rfl (Nat.le_of_ble_eq_true rfl) rfl rfl ?_; refine goV (sd_loadB1 (v := .p none (.sl _ _ _)) ty23 rfl rfl rfl) (Nat.le_of_ble_eq_true rfl) ?_
  refine op_gyes rfl (Nat.le_of_ble_eq_true rfl) rfl rfl ?_; refine goV (sd_len Try.underlying23 len_pm) (Nat.le_of_ble_eq_true rfl) ?_
  refine op_gyes rfl (Nat.le_of_ble_eq_true rfl) rfl rfl ?_; refine goV (sd_neq rfl rfl) (Nat.le_of_ble_eq_true rfl) ?_
  refine goV (sd_pick (v := .p none (.bool _)) rfl rfl) (Nat.le_of_ble_eq_true rfl) ?_
  refine goV (sd_move (v := .p none (.bool _)) rfl) (Nat.le_of_ble_eq_true rfl) ?_
  refine op_gnoE rfl (Nat.le_of_ble_eq_true rfl) rfl e1 (Nat.le_of_ble_eq_true rfl) ?_
  refine op_gnoE rfl (Nat.le_of_ble_eq_true rfl) rfl e1 (Nat.le_of_ble_eq_true rfl) ?_
  refine op_gnoE rfl (Nat.le_of_ble_eq_true rfl) rfl e1 (Nat.le_of_ble_eq_true rfl) ?_
  refine goV (sd_pickH (v := .p none (.bool _)) rfl e1 rfl) (Nat.le_of_ble_eq_true rfl) ?_
  refine op_nil ?_
  refine k3 _ ?_
  refine VC_cond rfl (fun c0 => ?_) (fun c0 => absurd c0 (by simp))
  refine VC_seq (fun K4 k4 => ?_)
  refine VC_lit ?_
  refine goV (sd_assign (v := .p none _) rfl) (Nat.le_of_ble_eq_true rfl) ?_
  refine op_nil ?_
  refine k4 _ ?_
  refine VC_ret ?_
  show Fin _ _ _ _ _ _
  refine fin0 (xs := [.p none (.bool _)]) (.inr rfl) ⟨_, _, rfl, rfl, rfl⟩ ?_
  show AV.p none (.bool _) = _
  rfl

set_option maxRecDepth 100000 in
set_option maxHeartbeats 4000000 in
theorem c_dual_spec1' (p : ProgramD) (xs : List RationalD) (hf : FitsP p) (hxs : xs.length ≤ 9223372036854775807) (hv : okProg p = true) (hl : xs.length = p.rows.length) (hq : xs.all posRat = false) :
    Con Try.prog 36 [.agg (progD p), .one (rats xs)] (.p none (.bool false)) [] := by
  have e1 : (!decide ((xs.length : Int) = (p.rows.length : Int))) = false := by simp; omega
  refine con_of (N := 71) Try.func36 rfl rfl (by decide) (Nat.le_of_ble_eq_true rfl) ?_
  refine VC_seq (fun K1 k1 => ?_)
  refine VC_lit ?_
  refine goN (sd_box (cs := [_, _, _]) (by first | exact trivial | exact ⟨_, rfl⟩) rfl rfl) (Nat.le_of_ble_eq_true rfl) ?_
  refine goV (sd_assign (v := .p none _) rfl) (Nat.le_of_ble_eq_true rfl) ?_
  refine op_nil ?_
  refine k1 _ ?_
  refine VC_seq (fun K2 k2 => ?_)
  refine VC_seq (fun K3 k3 => ?_)
  refine VC_lit ?_
  refine goV (sd_loadB (vs := [_, _, _]) ty28 rfl rfl (Nat.le_of_ble_eq_true rfl) rfl) (Nat.le_of_ble_eq_true rfl) ?_
  refine goV (sd_callF (v := .p none (.bool _)) rfl (c_prog_spec hf hv) (.inl rfl) rfl rfl rfl) (Nat.le_of_ble_eq_true rfl) ?_
  refine goV (sd_not rfl) (Nat.le_of_ble_eq_true rfl) ?_
  refine goV (sd_move (v := .p none (.bool _)) rfl) (Nat.le_of_ble_eq_true rfl) ?_
  refine op_gyes rfl (Nat.le_of_ble_eq_true rfl) rfl rfl ?_; refine goV (sd_move (v := .p none (.sl _ _ _)) rfl) (Nat.le_of_ble_eq_true rfl) ?_
  refine op_gyes rfl (Nat.le_of_ble_eq_true rfl) rfl rfl ?_; refine goV (sd_len Try.underlying38 len_pm) (Nat.le_of_ble_eq_true rfl) ?_
  refine op_gyes rfl (Nat.le_of_ble_eq_true rfl) rfl rfl ?_; refine goV (sd_fieldP fl28_1 rfl rfl) (Nat.le_of_ble_eq_true rfl) ?_
  refine op_gyes rfl (Nat.le_of_ble_eq_true rfl) rfl rfl ?_; refine goV (sd_loadB1 (v := .p none (.sl _ _ _)) ty23 rfl rfl rfl) (Nat.le_of_ble_eq_true rfl) ?_
  refine op_gyes rfl (Nat.le_of_ble_eq_true rfl) rfl rfl ?_; refine goV (sd_len Try.underlying23 len_pm) (Nat.le_of_ble_eq_true rfl) ?_
  refine op_gyes rfl (Nat.le_of_ble_eq_true rfl) rfl rfl ?_; refine goV (sd_neq rfl rfl) (Nat.le_of_ble_eq_true rfl) ?_
  refine goV (sd_pick (v := .p none (.bool _)) rfl rfl) (Nat.le_of_ble_eq_true rfl) ?_
  refine goV (sd_move (v := .p none (.bool _)) rfl) (Nat.le_of_ble_eq_true rfl) ?_
  refine op_gyes rfl (Nat.le_of_ble_eq_true rfl) rfl e1 ?_; refine goV (sd_move (v := .p none (.sl _ _ _)) rfl) (Nat.le_of_ble_eq_true rfl) ?_
  refine op_gyes rfl (Nat.le_of_ble_eq_true rfl) rfl e1 ?_; refine goV (sd_callF (v := .p none (.bool _)) rfl (c_positive' hxs hq) (.inl rfl) rfl rfl rfl) (Nat.le_of_ble_eq_true rfl) ?_
  refine op_gyes rfl (Nat.le_of_ble_eq_true rfl) rfl e1 ?_; refine goV (sd_not rfl) (Nat.le_of_ble_eq_true rfl) ?_
  refine goV (sd_pickH (v := .p none (.bool _)) rfl e1 rfl) (Nat.le_of_ble_eq_true rfl) ?_
  refine op_nil ?_
  refine k3 _ ?_
  refine VC_cond rfl (fun c0 => ?_) (fun c0 => absurd c0 (by simp))
  refine VC_seq (fun K4 k4 => ?_)
  refine VC_lit ?_
  refine goV (sd_assign (v := .p none _) rfl) (Nat.le_of_ble_eq_true rfl) ?_
  refine op_nil ?_
  refine k4 _ ?_
  refine VC_ret ?_
  show Fin _ _ _ _ _ _
  refine fin0 (xs := [.p none (.bool _)]) (.inr rfl) ⟨_, _, rfl, rfl, rfl⟩ ?_
  show AV.p none (.bool _) = _
  rfl

set_option maxRecDepth 100000 in
set_option maxHeartbeats 4000000 in
theorem c_dual_spec2 (p : ProgramD) (xs : List RationalD) (hf : FitsP p) (hxs : xs.length ≤ 9223372036854775807) (hv : okProg p = true) (hn : posRats xs p.rows.length = true) :
    Con Try.prog 36 [.agg (progD p), .one (rats xs)] (.p none (.bool ((List.range p.objective.length).all (dualOk p xs)))) [] := by
  have hbd := okProg_bnd hv
  have hpl := posRats_len hn
  have e1 : (!decide ((xs.length : Int) = (p.rows.length : Int))) = false := by simp; omega
  refine con_of (N := 71) Try.func36 rfl rfl (by decide) (Nat.le_of_ble_eq_true rfl) ?_
  refine VC_seq (fun K1 k1 => ?_)
  refine VC_lit ?_
  refine goN (sd_box (cs := [_, _, _]) (by first | exact trivial | exact ⟨_, rfl⟩) rfl rfl) (Nat.le_of_ble_eq_true rfl) ?_
  refine goV (sd_assign (v := .p none _) rfl) (Nat.le_of_ble_eq_true rfl) ?_
  refine op_nil ?_
  refine k1 _ ?_
  refine VC_seq (fun K2 k2 => ?_)
  refine VC_seq (fun K3 k3 => ?_)
  refine VC_lit ?_
  refine goV (sd_loadB (vs := [_, _, _]) ty28 rfl rfl (Nat.le_of_ble_eq_true rfl) rfl) (Nat.le_of_ble_eq_true rfl) ?_
  refine goV (sd_callF (v := .p none (.bool _)) rfl (c_prog_spec hf hv) (.inl rfl) rfl rfl rfl) (Nat.le_of_ble_eq_true rfl) ?_
  refine goV (sd_not rfl) (Nat.le_of_ble_eq_true rfl) ?_
  refine goV (sd_move (v := .p none (.bool _)) rfl) (Nat.le_of_ble_eq_true rfl) ?_
  refine op_gyes rfl (Nat.le_of_ble_eq_true rfl) rfl rfl ?_; refine goV (sd_move (v := .p none (.sl _ _ _)) rfl) (Nat.le_of_ble_eq_true rfl) ?_
  refine op_gyes rfl (Nat.le_of_ble_eq_true rfl) rfl rfl ?_; refine goV (sd_len Try.underlying38 len_pm) (Nat.le_of_ble_eq_true rfl) ?_
  refine op_gyes rfl (Nat.le_of_ble_eq_true rfl) rfl rfl ?_; refine goV (sd_fieldP fl28_1 rfl rfl) (Nat.le_of_ble_eq_true rfl) ?_
  refine op_gyes rfl (Nat.le_of_ble_eq_true rfl) rfl rfl ?_; refine goV (sd_loadB1 (v := .p none (.sl _ _ _)) ty23 rfl rfl rfl) (Nat.le_of_ble_eq_true rfl) ?_
  refine op_gyes rfl (Nat.le_of_ble_eq_true rfl) rfl rfl ?_; refine goV (sd_len Try.underlying23 len_pm) (Nat.le_of_ble_eq_true rfl) ?_
  refine op_gyes rfl (Nat.le_of_ble_eq_true rfl) rfl rfl ?_; refine goV (sd_neq rfl rfl) (Nat.le_of_ble_eq_true rfl) ?_
  refine goV (sd_pick (v := .p none (.bool _)) rfl rfl) (Nat.le_of_ble_eq_true rfl) ?_
  refine goV (sd_move (v := .p none (.bool _)) rfl) (Nat.le_of_ble_eq_true rfl) ?_
  refine op_gyes rfl (Nat.le_of_ble_eq_true rfl) rfl e1 ?_; refine goV (sd_move (v := .p none (.sl _ _ _)) rfl) (Nat.le_of_ble_eq_true rfl) ?_
  refine op_gyes rfl (Nat.le_of_ble_eq_true rfl) rfl e1 ?_; refine goV (sd_callF (v := .p none (.bool _)) rfl (c_positive' hxs hpl.2) (.inl rfl) rfl rfl rfl) (Nat.le_of_ble_eq_true rfl) ?_
  refine op_gyes rfl (Nat.le_of_ble_eq_true rfl) rfl e1 ?_; refine goV (sd_not rfl) (Nat.le_of_ble_eq_true rfl) ?_
  refine goV (sd_pickH (v := .p none (.bool _)) rfl e1 rfl) (Nat.le_of_ble_eq_true rfl) ?_
  refine op_nil ?_
  refine k3 _ ?_
  refine VC_cond rfl (fun c0 => absurd c0 (by first | decide | simp)) (fun c0 => ?_)
  refine VC_skip ?_
  refine k2 _ ?_
  refine VC_seq (fun K4 k4 => ?_)
  refine VC_seq (fun K5 k5 => ?_)
  refine VC_lit ?_
  refine goV (sd_assign (v := .p none _) rfl) (Nat.le_of_ble_eq_true rfl) ?_
  refine op_nil ?_
  refine k5 _ ?_
  refine VC_block ?_
  refine VC_le (S' := mk [(1, .p none (rats xs)), (2, .ptr 200 0), (4, .p none (.bool false)), (5, .p none (.int .i64 ((0) : Int)))] [(200, some (.box 28 [.p none (ints p.objective), .p none (rowsD p.rows), .p none (ints p.limits)]))]) id (le_mk ⟨(by first | rfl | (simp [findS, findO, mapA, mapR]; done)), (by first | rfl | (simp [findS, findO, mapA, mapR]; done)), (by first | rfl | (simp [findS, findO, mapA, mapR]; done)), (by first | rfl | (simp [findS, findO, mapA, mapR]; done)), trivial⟩ ⟨(by first | rfl | (simp [findS, findO, mapA, mapR]; done)), trivial⟩ rfl) ?_
  refine VC_loop (fun nn SS => ∃ (k : Nat), SS = mk [(1, .p none (rats xs)), (2, .ptr 200 0), (4, .p none (.bool false)), (5, .p none (.int .i64 (k : Int)))] [(200, some (.box 28 [.p none (ints p.objective), .p none (rowsD p.rows), .p none (ints p.limits)]))] ∧ nn = p.objective.length - k ∧ k ≤ p.objective.length ∧ ((List.range p.objective.length).take k).all (dualOk p xs) = true) _ ⟨0, rfl, rfl, Nat.zero_le _, rfl⟩ (fun nn SS hI => ?_)
  obtain ⟨k, rfl, rfl, hk, ha⟩ := hI
  refine VC_seq (fun K6 k6 => ?_)
  refine VC_seq (fun K7 k7 => ?_)
  refine VC_lit ?_
  refine goV (sd_move (v := .p none (.int _ _)) rfl) (Nat.le_of_ble_eq_true rfl) ?_
  refine goV (sd_fieldP fl28_0 rfl rfl) (Nat.le_of_ble_eq_true rfl) ?_
  refine goV (sd_loadB1 (v := .p none (.sl _ _ _)) ty22 rfl rfl rfl) (Nat.le_of_ble_eq_true rfl) ?_
  refine goV (sd_len Try.underlying22 len_pm) (Nat.le_of_ble_eq_true rfl) ?_
  refine goV (sd_lss rfl rfl) (Nat.le_of_ble_eq_true rfl) ?_
  refine op_nil ?_
  refine k7 _ ?_
  refine VC_cond rfl (fun c1 => ?_) (fun c1 => ?_)
  · have hlt : k < p.objective.length := by simpa using c1
    obtain ⟨c, hc⟩ : ∃ c, p.objective[k]? = some c := ⟨_, List.getElem?_eq_getElem hlt⟩
    have hz : (List.range p.objective.length)[k]? = some k := by simp [hlt]
    refine VC_skip ?_
    refine k6 _ ?_
    refine VC_seq (fun K8 k8 => ?_)
    refine VC_block ?_
    refine VC_seq (fun K9 k9 => ?_)
    refine VC_lit ?_
    refine goN (sd_slice0 Try.underlying22 ty3 rfl) (Nat.le_of_ble_eq_true rfl) ?_
    refine goV (sd_assign (v := .own _) rfl) (Nat.le_of_ble_eq_true rfl) ?_
    refine op_nil ?_
    refine k9 _ ?_
    refine VC_seq (fun K10 k10 => ?_)
    refine VC_seq (fun K11 k11 => ?_)
    refine VC_lit ?_
    refine goV (sd_assign (v := .p none _) rfl) (Nat.le_of_ble_eq_true rfl) ?_
    refine op_nil ?_
    refine k11 _ ?_
    refine VC_block ?_
    refine VC_le (S' := mk [(1, .p none (rats xs)), (2, .ptr 200 0), (4, .p none (.bool false)), (5, .p none (.int .i64 (k : Int))), (6, .own 7), (7, .p none (.int .i64 ((0) : Int)))] [(200, some (.box 28 [.p none (ints p.objective), .p none (rowsD p.rows), .p none (ints p.limits)])), (7, some (.arr 3 1 true (([]).map fun n => [Dat.int .i64 n])))]) (fun h => if h = 7 then 3300 else h) (le_mk ⟨(by first | rfl | (simp [findS, findO, mapA, mapR]; done)), (by first | rfl | (simp [findS, findO, mapA, mapR]; done)), (by first | rfl | (simp [findS, findO, mapA, mapR]; done)), (by first | rfl | (simp [findS, findO, mapA, mapR]; done)), (by first | rfl | (simp [findS, findO, mapA, mapR]; done)), (by first | rfl | (simp [findS, findO, mapA, mapR]; done)), trivial⟩ ⟨(by first | rfl | (simp [findS, findO, mapA, mapR]; done)), (by first | rfl | (simp [findS, findO, mapA, mapR]; done)), trivial⟩ rfl) ?_
    refine VC_loop (fun nn SS => ∃ (i : Nat) (cl : List Int), SS = mk [(1, .p none (rats xs)), (2, .ptr 200 0), (4, .p none (.bool false)), (5, .p none (.int .i64 (k : Int))), (6, .own 7), (7, .p none (.int .i64 (i : Int)))] [(200, some (.box 28 [.p none (ints p.objective), .p none (rowsD p.rows), .p none (ints p.limits)])), (7, some (.arr 3 1 true (cl.map fun n => [Dat.int .i64 n])))] ∧ nn = p.rows.length - i ∧ i ≤ p.rows.length ∧ cl.length = i ∧ cl = colOf (p.rows.take i) k) _ ⟨0, [], rfl, rfl, Nat.zero_le _, rfl, rfl⟩ (fun nn SS hI => ?_)
    obtain ⟨i, cl, rfl, rfl, hi, hcn, hcl⟩ := hI
    refine VC_seq (fun K12 k12 => ?_)
    refine VC_seq (fun K13 k13 => ?_)
    refine VC_lit ?_
    refine goV (sd_move (v := .p none (.int _ _)) rfl) (Nat.le_of_ble_eq_true rfl) ?_
    refine goV (sd_fieldP fl28_1 rfl rfl) (Nat.le_of_ble_eq_true rfl) ?_
    refine goV (sd_loadB1 (v := .p none (.sl _ _ _)) ty23 rfl rfl rfl) (Nat.le_of_ble_eq_true rfl) ?_
    refine goV (sd_len Try.underlying23 len_pm) (Nat.le_of_ble_eq_true rfl) ?_
    refine goV (sd_lss rfl rfl) (Nat.le_of_ble_eq_true rfl) ?_
    refine op_nil ?_
    refine k13 _ ?_
    refine VC_cond rfl (fun c2 => ?_) (fun c2 => ?_)
    · have hlt2 : i < p.rows.length := by simpa using c2
      obtain ⟨r, hr⟩ : ∃ r, p.rows[i]? = some r := ⟨_, List.getElem?_eq_getElem hlt2⟩
      have hrl := hbd.2.2.2.2 r (List.mem_of_getElem? hr)
      obtain ⟨v, hv2⟩ : ∃ v, r[k]? = some v := ⟨_, List.getElem?_eq_getElem (by omega)⟩
      refine VC_skip ?_
      refine k12 _ ?_
      refine VC_seq (fun K14 k14 => ?_)
      refine VC_block ?_
      refine VC_lit ?_
      refine goV (sd_move (v := .own _) rfl) (Nat.le_of_ble_eq_true rfl) ?_
      refine goV (sd_fieldP fl28_1 rfl rfl) (Nat.le_of_ble_eq_true rfl) ?_
      refine goV (sd_loadB1 (v := .p none (.sl _ _ _)) ty23 rfl rfl rfl) (Nat.le_of_ble_eq_true rfl) ?_
      refine goV (sd_move (v := .p none (.int _ _)) rfl) (Nat.le_of_ble_eq_true rfl) ?_
      refine goV (sd_index Try.underlying23 ty22 rfl rfl ?_ (map_at hr)) (Nat.le_of_ble_eq_true rfl) ?_; (focus (omega))
      refine goV (sd_loadR1 (v := .p none (.sl _ _ _)) ty22 rfl rfl rfl) (Nat.le_of_ble_eq_true rfl) ?_
      refine goV (sd_move (v := .p none (.int _ _)) rfl) (Nat.le_of_ble_eq_true rfl) ?_
      refine goV (sd_index Try.underlying22 ty3 rfl rfl ?_ (map_at hv2)) (Nat.le_of_ble_eq_true rfl) ?_; (focus (omega))
      refine goV (sd_loadR1 (v := .p none (.int _ _)) ty3 rfl rfl rfl) (Nat.le_of_ble_eq_true rfl) ?_
      refine goN (sd_sliceA (rows := [[_]]) Try.underlying22 ty3 (Nat.le_of_ble_eq_true rfl) (Nat.le_of_ble_eq_true rfl) (cells_ok.2 ⟨(by first | exact trivial | exact ⟨_, rfl⟩), trivial⟩) rfl ⟨[_], _, rfl, rfl, rfl⟩ (by simp) rfl rfl) (Nat.le_of_ble_eq_true rfl) ?_
      refine goA (sd_appF Try.underlying22 ty3 (Nat.le_of_ble_eq_true rfl) ⟨rfl, rfl⟩ ⟨_, _, rfl⟩ (⟨[_], _, rfl, rfl, rfl⟩) ?_ ?_ rfl rfl) (Nat.le_of_ble_eq_true rfl) ?_; (focus (first | (simp; done) | (simp; omega) | (simp at *; omega))); (focus (unfold maxLen; first | (simp; done) | (simp; omega) | (simp at *; omega)))
      refine goV (sd_assign (v := .own _) rfl) (Nat.le_of_ble_eq_true rfl) ?_
      refine op_nil ?_
      refine k14 _ ?_
      refine VC_lit ?_
      refine goV (sd_move (v := .p none (.int _ _)) rfl) (Nat.le_of_ble_eq_true rfl) ?_
      refine goV (sd_addI rfl rfl ?_) (Nat.le_of_ble_eq_true rfl) ?_; (focus (first | omega | (constructor <;> omega)))
      refine goV (sd_assign (v := .p none (.int _ _)) rfl) (Nat.le_of_ble_eq_true rfl) ?_
      refine op_nil ?_
      exact ⟨_, (fun h => if h = 7 then 5100 else h), mk [(1, .p none (rats xs)), (2, .ptr 200 0), (4, .p none (.bool false)), (5, .p none (.int .i64 (k : Int))), (6, .own 7), (7, .p none (.int .i64 ((i + 1) : Int)))] [(200, some (.box 28 [.p none (ints p.objective), .p none (rowsD p.rows), .p none (ints p.limits)])), (7, some (.arr 3 1 true ((cl ++ [v]).map fun n => [Dat.int .i64 n])))], by omega, le_mk ⟨(by first | rfl | (simp [findS, findO, mapA, mapR]; done)), (by first | rfl | (simp [findS, findO, mapA, mapR]; done)), (by first | rfl | (simp [findS, findO, mapA, mapR]; done)), (by first | rfl | (simp [findS, findO, mapA, mapR]; done)), (by first | rfl | (simp [findS, findO, mapA, mapR]; done)), (by first | rfl | (simp [findS, findO, mapA, mapR]; done)), trivial⟩ ⟨(by first | rfl | (simp [findS, findO, mapA, mapR]; done)), (by first | rfl | (simp [findS, findO, mapA, mapR]; done)), trivial⟩ rfl, i + 1, cl ++ [v], rfl, rfl, hlt2, by simp [hcn], colOf_snoc hr hv2 hcl⟩
    · have hge2 : p.rows.length ≤ i := by simpa using c2
      have hcol := colOf_done hcl hge2
      have hlen : cl.length = xs.length := by omega
      obtain ⟨d1, d2, d3, hd⟩ : ∃ d1 d2 d3, dotGo cl xs 0 1 = (d1, d2, d3) := ⟨_, _, _, rfl⟩
      obtain ⟨t, ht⟩ : ∃ t, cmpQ d1 d2 c 1 = t := ⟨_, rfl⟩
      refine VC_exit ?_
      refine k10 _ ?_
      refine VC_seq (fun K15 k15 => ?_)
      refine VC_lit ?_
      refine goV (sd_move (v := .own _) rfl) (Nat.le_of_ble_eq_true rfl) ?_
      refine goV (sd_move (v := .p none (.sl _ _ _)) rfl) (Nat.le_of_ble_eq_true rfl) ?_
      refine goV (sd_callF (v := .tup _) rfl (c_dot' (l := cl) (by omega) hd) (.inl rfl) rfl rfl rfl) (Nat.le_of_ble_eq_true rfl) ?_
      refine goV (sd_move (v := .tup _) rfl) (Nat.le_of_ble_eq_true rfl) ?_
      refine goV (sd_extract rfl rfl) (Nat.le_of_ble_eq_true rfl) ?_
      refine goV (sd_extract rfl rfl) (Nat.le_of_ble_eq_true rfl) ?_
      refine goN (sd_alloc (cs := [.p none (.int _ _), .p none (.int _ _)]) ty35 rfl rfl) (Nat.le_of_ble_eq_true rfl) ?_
      refine goW (sd_storeB (cs' := [.p none (.int _ _), .p none (.int _ _)]) ty35 rfl rfl (by first | exact trivial | exact ⟨_, rfl⟩) rfl (Nat.le_of_ble_eq_true rfl) rfl) ?_
      refine goV (sd_assign (v := .p none (.bool _)) rfl) (Nat.le_of_ble_eq_true rfl) ?_
      refine op_nil ?_
      refine k15 _ ?_
      refine VC_seq (fun K16 k16 => ?_)
      cases d3
      · refine VC_drawn mixed ?_
        refine dgo (sd_move (v := .p none (.bool _)) rfl) (by kernel_rfl) (dstOk (Nat.le_of_ble_eq_true rfl)) (by kernel_rfl) ?_
        refine dgo (sd_not rfl) (by kernel_rfl) (dstOk (Nat.le_of_ble_eq_true rfl)) (by kernel_rfl) ?_
        refine dgo (sd_move (v := .p none (.bool _)) rfl) (by kernel_rfl) (dstOk (Nat.le_of_ble_eq_true rfl)) (by kernel_rfl) ?_
        refine dgoX rfl (Nat.le_of_ble_eq_true rfl) rfl rfl (by kernel_rfl) (dstOk (Nat.le_of_ble_eq_true rfl)) ?_
        refine dgoX rfl (Nat.le_of_ble_eq_true rfl) rfl rfl (by kernel_rfl) (dstOk (Nat.le_of_ble_eq_true rfl)) ?_
        refine dgoX rfl (Nat.le_of_ble_eq_true rfl) rfl rfl (by kernel_rfl) (dstOk (Nat.le_of_ble_eq_true rfl)) ?_
        refine dgoX rfl (Nat.le_of_ble_eq_true rfl) rfl rfl (by kernel_rfl) (dstOk (Nat.le_of_ble_eq_true rfl)) ?_
        refine dgoX rfl (Nat.le_of_ble_eq_true rfl) rfl rfl (by kernel_rfl) (dstOk (Nat.le_of_ble_eq_true rfl)) ?_
        refine dgoX rfl (Nat.le_of_ble_eq_true rfl) rfl rfl (by kernel_rfl) (dstOk (Nat.le_of_ble_eq_true rfl)) ?_
        refine dgoX rfl (Nat.le_of_ble_eq_true rfl) rfl rfl (by kernel_rfl) (dstOk (Nat.le_of_ble_eq_true rfl)) ?_
        refine dgoX rfl (Nat.le_of_ble_eq_true rfl) rfl rfl (by kernel_rfl) (dstOk (Nat.le_of_ble_eq_true rfl)) ?_
        refine dgoX rfl (Nat.le_of_ble_eq_true rfl) rfl rfl (by kernel_rfl) (dstOk (Nat.le_of_ble_eq_true rfl)) ?_
        refine dgo (sd_pick (v := .p none (.bool _)) rfl rfl) (by kernel_rfl) (dstOk (Nat.le_of_ble_eq_true rfl)) (by kernel_rfl) ?_
        refine dnil ⟨by kernel_rfl, ?_⟩
        refine k16 _ ?_
        refine VC_cond rfl (fun c3 => ?_) (fun c3 => absurd c3 (by first | decide | simp))
        have hq : dualOk p xs k = false := (dualOk_eq hcol hc hd ht).trans (by first | rfl | simpa using c3)
        refine VC_seq (fun K17 k17 => ?_)
        refine VC_lit ?_
        refine goV (sd_assign (v := .p none _) rfl) (Nat.le_of_ble_eq_true rfl) ?_
        refine op_nil ?_
        refine k17 _ ?_
        refine VC_ret ?_
        show Fin _ _ _ _ _ _
        refine fin0 (xs := [.p none (.bool _)]) (.inr rfl) ⟨_, _, rfl, rfl, rfl⟩ ?_
        show AV.p none (.bool _) = _
        first | rw [all_stop hz hq] | rw [all_done hge ha]
      · refine VC_drawn mixed ?_
        refine dgo (sd_move (v := .p none (.bool _)) rfl) (by kernel_rfl) (dstOk (Nat.le_of_ble_eq_true rfl)) (by kernel_rfl) ?_
        refine dgo (sd_not rfl) (by kernel_rfl) (dstOk (Nat.le_of_ble_eq_true rfl)) (by kernel_rfl) ?_
        refine dgo (sd_move (v := .p none (.bool _)) rfl) (by kernel_rfl) (dstOk (Nat.le_of_ble_eq_true rfl)) (by kernel_rfl) ?_
        refine dgoY rfl (Nat.le_of_ble_eq_true rfl) rfl rfl (sd_loadB (vs := [.p none (.int _ _), .p none (.int _ _)]) ty35 rfl rfl (Nat.le_of_ble_eq_true rfl) rfl) (by kernel_rfl) (dstOk (Nat.le_of_ble_eq_true rfl)) (by kernel_rfl) ?_
        refine dgoY rfl (Nat.le_of_ble_eq_true rfl) rfl rfl (sd_fieldP fl28_0 rfl rfl) (by kernel_rfl) (dstOk (Nat.le_of_ble_eq_true rfl)) (by kernel_rfl) ?_
        refine dgoY rfl (Nat.le_of_ble_eq_true rfl) rfl rfl (sd_loadB1 (v := .p none (.sl _ _ _)) ty22 rfl rfl rfl) (by kernel_rfl) (dstOk (Nat.le_of_ble_eq_true rfl)) (by kernel_rfl) ?_
        refine dgoY rfl (Nat.le_of_ble_eq_true rfl) rfl rfl (sd_move (v := .p none (.int _ _)) rfl) (by kernel_rfl) (dstOk (Nat.le_of_ble_eq_true rfl)) (by kernel_rfl) ?_
        refine dgoY rfl (Nat.le_of_ble_eq_true rfl) rfl rfl (sd_index Try.underlying22 ty3 rfl rfl ?_ (map_at hc)) (by kernel_rfl) (dstOk (Nat.le_of_ble_eq_true rfl)) (by kernel_rfl) ?_; (focus (omega))
        refine dgoY rfl (Nat.le_of_ble_eq_true rfl) rfl rfl (sd_loadR1 (v := .p none (.int _ _)) ty3 rfl rfl rfl) (by kernel_rfl) (dstOk (Nat.le_of_ble_eq_true rfl)) (by kernel_rfl) ?_
        refine dgoY rfl (Nat.le_of_ble_eq_true rfl) rfl rfl (sd_callF (v := .agg [.p none (.int _ _), .p none (.int _ _)]) rfl (c_l15Int _) (.inl rfl) rfl rfl rfl) (by kernel_rfl) (dstOk (Nat.le_of_ble_eq_true rfl)) (by kernel_rfl) ?_
        refine dgoY rfl (Nat.le_of_ble_eq_true rfl) rfl rfl (sd_callF (v := .p none (.int _ _)) rfl (c_cmp_spec ht) (.inl rfl) rfl rfl rfl) (by kernel_rfl) (dstOk (Nat.le_of_ble_eq_true rfl)) (by kernel_rfl) ?_
        refine dgoY rfl (Nat.le_of_ble_eq_true rfl) rfl rfl (sd_lss rfl rfl) (by kernel_rfl) (dstOk (Nat.le_of_ble_eq_true rfl)) (by kernel_rfl) ?_
        refine dgo (sd_pick (v := .p none (.bool _)) rfl rfl) (by kernel_rfl) (dstOk (Nat.le_of_ble_eq_true rfl)) (by kernel_rfl) ?_
        refine dnil ⟨by kernel_rfl, ?_⟩
        refine k16 _ ?_
        refine VC_cond rfl (fun c3 => ?_) (fun c3 => ?_)
        · have hq : dualOk p xs k = false := (dualOk_eq hcol hc hd ht).trans (by first | rfl | simpa using c3)
          refine VC_seq (fun K18 k18 => ?_)
          refine VC_lit ?_
          refine goV (sd_assign (v := .p none _) rfl) (Nat.le_of_ble_eq_true rfl) ?_
          refine op_nil ?_
          refine k18 _ ?_
          refine VC_ret ?_
          show Fin _ _ _ _ _ _
          refine fin0 (xs := [.p none (.bool _)]) (.inr rfl) ⟨_, _, rfl, rfl, rfl⟩ ?_
          show AV.p none (.bool _) = _
          first | rw [all_stop hz hq] | rw [all_done hge ha]
        · have hq : dualOk p xs k = true := (dualOk_eq hcol hc hd ht).trans (by simpa using c3)
          refine VC_skip ?_
          refine k8 _ ?_
          refine VC_lit ?_
          refine goV (sd_move (v := .p none (.int _ _)) rfl) (Nat.le_of_ble_eq_true rfl) ?_
          refine goV (sd_addI rfl rfl ?_) (Nat.le_of_ble_eq_true rfl) ?_; (focus (first | omega | (constructor <;> omega)))
          refine goV (sd_assign (v := .p none (.int _ _)) rfl) (Nat.le_of_ble_eq_true rfl) ?_
          refine op_nil ?_
          exact ⟨_, id, mk [(1, .p none (rats xs)), (2, .ptr 200 0), (4, .p none (.bool false)), (5, .p none (.int .i64 ((k + 1) : Int)))] [(200, some (.box 28 [.p none (ints p.objective), .p none (rowsD p.rows), .p none (ints p.limits)]))], by omega, le_mk ⟨(by first | rfl | (simp [findS, findO, mapA, mapR]; done)), (by first | rfl | (simp [findS, findO, mapA, mapR]; done)), (by first | rfl | (simp [findS, findO, mapA, mapR]; done)), (by first | rfl | (simp [findS, findO, mapA, mapR]; done)), trivial⟩ ⟨(by first | rfl | (simp [findS, findO, mapA, mapR]; done)), trivial⟩ rfl, k + 1, rfl, rfl, hlt, all_snoc hz ha hq⟩
  · have hge' : p.objective.length ≤ k := by simpa using c1
    have hge : (List.range p.objective.length).length ≤ k := by simp; omega
    refine VC_exit ?_
    refine k4 _ ?_
    refine VC_seq (fun K19 k19 => ?_)
    refine VC_lit ?_
    refine goV (sd_assign (v := .p none _) rfl) (Nat.le_of_ble_eq_true rfl) ?_
    refine op_nil ?_
    refine k19 _ ?_
    refine VC_ret ?_
    show Fin _ _ _ _ _ _
    refine fin0 (xs := [.p none (.bool _)]) (.inr rfl) ⟨_, _, rfl, rfl, rfl⟩ ?_
    show AV.p none (.bool _) = _
    first | rw [all_stop hz hq] | rw [all_done hge ha]

theorem c_dual_impl {p : ProgramD} {xs : List RationalD} {t : Bool} (hf : FitsP p) (hxs : xs.length ≤ 9223372036854775807) (h : dual p xs = t) : Con Try.prog 37 [.agg (progD p), .one (rats xs)] (.p none (.bool t)) [] := by
  subst h
  unfold dual
  cases hv : okProg p
  · exact c_dual_impl0 p xs hf hxs hv
  · cases hn : posRats xs p.rows.length
    · exact c_dual_impl1 p xs hf hxs hv hn
    · exact c_dual_impl2 p xs hf hxs hv hn
theorem c_dual_spec {p : ProgramD} {xs : List RationalD} {t : Bool} (hf : FitsP p) (hxs : xs.length ≤ 9223372036854775807) (h : dual p xs = t) : Con Try.prog 36 [.agg (progD p), .one (rats xs)] (.p none (.bool t)) [] := by
  subst h
  unfold dual
  cases hv : okProg p
  · exact c_dual_spec0 p xs hf hxs hv
  · cases hn : posRats xs p.rows.length
    · by_cases hl : xs.length = p.rows.length
      · refine c_dual_spec1' p xs hf hxs hv hl ?_
        rw [posRats_eq] at hn
        simpa [hl] using hn
      · exact c_dual_spec1 p xs hf hxs hv hl
    · exact c_dual_spec2 p xs hf hxs hv hn
end Go.Proofs.Ytcgjlddpbkponaa
