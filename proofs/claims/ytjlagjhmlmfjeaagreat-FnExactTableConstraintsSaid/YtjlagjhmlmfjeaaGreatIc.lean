/-
  Sequences of degrees out of statistics, both sides.
-/
import Derived.Test.YtjlagjhmlmfjeaaGreatIb
import Derived.Test.YtjlagjhmlmfjeaaGreatHc
namespace Go.Proofs.YtjlagjhmlmfjeaaGreat
open Go.ChangeShapes Go.WideShapes Go.ChangeAt Go.RowKit
set_option linter.unusedVariables false
set_option linter.unusedSimpArgs false
theorem downL_nil : downL [] = [] := List.eq_nil_of_length_eq_zero (downL_len [])
theorem downL_one (a : Int) : downL [a] = [a] := List.perm_singleton.1 (downL_perm [a])
def seqS (x : TableStatsD) (cols : List Int) : List Int := if okStats x = true then downL (grpR (tabOf x) cols).2 else []
theorem seqS_yes {x : TableStatsD} {cols : List Int} (h : okStats x = true) : seqS x cols = downL (grpR (tabOf x) cols).2 := by rw [seqS, if_pos h]
theorem seqS_no {x : TableStatsD} {cols : List Int} (h : okStats x = false) : seqS x cols = [] := by rw [seqS, if_neg (by rw [h]; decide)]
theorem seqS_len (x : TableStatsD) (cols : List Int) : (seqS x cols).length ≤ 8 := by
  cases h : okStats x with
  | false => rw [seqS_no h]; exact Nat.zero_le _
  | true => rw [seqS_yes h, downL_len]; exact (grp_small _ _).2
theorem seq_found {x : TableStatsD} {cols : List Int} {k : Nat} {g : GroupStatsD} (h : okStats x = true) (hg : x.groups[k]? = some g) (hc : g.columns = cols) : g.counts = (grpR (tabOf x) cols).2 := by
  rw [okS_groups h, List.getElem?_map] at hg
  cases e : (colSubs x.arity)[k]? with
  | none => rw [e] at hg; simp at hg
  | some c =>
    rw [e] at hg
    simp only [Option.map_some, Option.some.injEq] at hg
    subst hg
    rw [show c = cols from hc]; rfl
theorem cols_mem {n : Int} (hn : 1 ≤ n ∧ n ≤ 3) {cols : List Int} (h : colsOk (n - 1) cols = true) (hne : cols ≠ []) : cols ∈ colSubs n := by
  have hl := cols_len h (by omega)
  have hlow := cols_low h
  have hn3 : n = 1 ∨ n = 2 ∨ n = 3 := by omega
  match cols, hl with
  | [], _ => exact absurd rfl hne
  | [a], _ =>
    have h0 := hlow 0 (by simp)
    simp at h0
    have ha : a = 0 ∨ a = 1 ∨ a = 2 := by omega
    rcases hn3 with rfl | rfl | rfl <;> rcases ha with rfl | rfl | rfl <;> first | decide | (exfalso; omega)
  | [a, b], _ =>
    have h0 := hlow 0 (by simp)
    have h1 := hlow 1 (by simp)
    have h2 := List.all_eq_true.1 h 1 (by simp)
    simp [colAt] at h0 h1 h2
    have ha : (a = 0 ∧ b = 1) ∨ (a = 0 ∧ b = 2) ∨ (a = 1 ∧ b = 2) := by omega
    rcases hn3 with rfl | rfl | rfl <;> rcases ha with ⟨rfl, rfl⟩ | ⟨rfl, rfl⟩ | ⟨rfl, rfl⟩ <;> first | decide | (exfalso; omega)
  | [a, b, c], _ =>
    have h0 := hlow 0 (by simp)
    have h1 := hlow 1 (by simp)
    have h2 := hlow 2 (by simp)
    have h3 := List.all_eq_true.1 h 1 (by simp)
    have h4 := List.all_eq_true.1 h 2 (by simp)
    simp [colAt] at h0 h1 h2 h3 h4
    obtain ⟨rfl, rfl, rfl⟩ : a = 0 ∧ b = 1 ∧ c = 2 := by omega
    rcases hn3 with rfl | rfl | rfl <;> first | decide | (exfalso; omega)
  | _ :: _ :: _ :: _ :: _, hl => simp at hl
theorem seq_none {x : TableStatsD} {cols : List Int} (h : okStats x = true) (hall : x.groups.all (fun g => !decide (g.columns = cols)) = true) (hne : ¬ (cols.length : Int) = 0) : (grpR (tabOf x) cols).2 = [] := by
  obtain ⟨h1, h2⟩ := okS_parts h
  cases hc : colsOk ((tabOf x).arity - 1) cols with
  | false => rw [grpR_no (by simp [hc])]
  | true =>
    exfalso
    have hm := cols_mem (n := x.arity) (okS_arity h) hc (fun e => hne (by rw [e]; rfl))
    rw [okS_groups h] at hall
    have := List.all_eq_true.1 hall _ (List.mem_map_of_mem hm)
    simp [grpS] at this
theorem seq_nil {x : TableStatsD} (h : okStats x = true) : (x.rowCount = 0 → (grpR (tabOf x) []).2 = []) ∧ (¬ x.rowCount = 0 → (grpR (tabOf x) []).2 = [x.rowCount]) := by
  obtain ⟨h1, h2⟩ := okS_parts h
  have hc := okS_count h
  have hrows : (tabOf x).rows = lastV x := rfl
  rw [grpR_yes (t := tabOf x) (cols := []) (by rw [h1]; rfl)]
  have e : selA (tabOf x) [] = List.replicate (lastV x).length [] := by simp [selA, selR, selOk, hrows, List.map_const']
  have ev : grpV (tabOf x) [] = foldPut (List.replicate (lastV x).length []) := by rw [grpV, e, foldPut_ded]
  show (x.rowCount = 0 → grpC (tabOf x) [] = []) ∧ (¬ x.rowCount = 0 → grpC (tabOf x) [] = [x.rowCount])
  rw [grpC, ev, e]
  constructor
  · intro h0
    rw [show (lastV x).length = 0 by omega]; rfl
  · intro h0
    have hpos : (lastV x).length ≠ 0 := by omega
    have hf : foldPut (List.replicate (lastV x).length ([] : List Int)) = [[]] := by
      obtain ⟨p1, p2, _⟩ := foldPut_all (List.replicate (lastV x).length ([] : List Int)) [] List.Pairwise.nil
      refine asc_ext p1 (List.pairwise_singleton _ _) fun y => ?_
      have := p2 y
      rw [foldPut, this]
      simp [List.mem_replicate, hpos]
    rw [hf, hc]
    simp [cntOf]

set_option maxRecDepth 100000 in
set_option maxHeartbeats 4000000 in
theorem l13seq_spec (x : TableStatsD) (cols : List Int) (hc : cTableStats x ≤ 1048576) (hok : okStats x = true) : Con Tryz.prog 78 [.agg [.str x.name, .int .i64 x.arity, .int .i64 x.rowCount, .sl 157 3 (x.groups.map eGroupStats)], .one (.sl 3 1 (cols.map intD))] (.p none (.sl 3 1 ((downL (grpR (tabOf x) cols).2).map intD))) [] := by
  refine con_x tbOk mixedW Tryz.func78 (by kernel_rfl) (.stl 4 <| .len cols.length <| .br (.br (.stl 4 <| .fin []) (.stl 4 <| .fin [])) (.loop Nat (Q1 Nat) [5, 16, 17, 18, 19, 20, 21, 22, 23, 24, 25, 26, 27, 28, 29, 30, 31] [] (fun k => [(5, vI (k : Int))]) (fun k => []) (fun k => k ≤ x.groups.length ∧ (x.groups.take k).all (fun g => !decide (g.columns = cols)) = true) (fun k => x.groups.length - k) (fun k => .len x.groups.length <| .br (.elem GroupStatsD eGroupStats x.groups (fun e26 => .call (vI (cmpR e26.columns cols)) [] <| .br (.elem GroupStatsD eGroupStats x.groups (fun e35 => .call (.p none (.sl 3 1 ((downL e35.counts).map intD))) [] <| .stl 4 <| .fin [])) (.back []))) (.stl 4 <| .fin [])))) ?_
  refine Eq.mpr (by kernel_rfl : _ = ((x.groups.map eGroupStats).length ≤ 9223372036854775807 → (cols.map intD).length ≤ 9223372036854775807 → (cols.map intD).length = cols.length ∧ (((decide (((cols.length : Nat) : Int) = (0 : Int))) = true → ((decide (x.rowCount = (0 : Int))) = true → [] = (downL (grpR (tabOf x) cols).2).map intD ∧ True) ∧ ((decide (x.rowCount = (0 : Int))) = false → [[.int .i64 x.rowCount]] = (downL (grpR (tabOf x) cols).2).map intD ∧ True)) ∧ ((decide (((cols.length : Nat) : Int) = (0 : Int))) = false → (∃ (k : Nat), (0 : Int) = (k : Int) ∧ k ≤ x.groups.length ∧ (x.groups.take k).all (fun g => !decide (g.columns = cols)) = true) ∧ ∀ (k : Nat), (k ≤ x.groups.length ∧ (x.groups.take k).all (fun g => !decide (g.columns = cols)) = true) → (x.groups.map eGroupStats).length = x.groups.length ∧ (((decide ((k : Int) < ((x.groups.length : Nat) : Int))) = true → 0 ≤ (k : Int) ∧ (x.groups.map eGroupStats = x.groups.map eGroupStats ∧ k < x.groups.length ∧ ∀ e26, x.groups[k]? = some e26 → Con Tryz.prog 126 [.one (.sl 3 1 (e26.columns.map intD)), .one (.sl 3 1 (cols.map intD))] (vI (cmpR e26.columns cols)) [] ∧ (((decide ((cmpR e26.columns cols) = (0 : Int))) = true → 0 ≤ (k : Int) ∧ (x.groups.map eGroupStats = x.groups.map eGroupStats ∧ k < x.groups.length ∧ ∀ e35, x.groups[k]? = some e35 → Con Tryz.prog 145 [.one (.sl 3 1 (e35.counts.map intD))] (.p none (.sl 3 1 ((downL e35.counts).map intD))) [] ∧ (downL e35.counts).map intD = (downL (grpR (tabOf x) cols).2).map intD ∧ True)) ∧ ((decide ((cmpR e26.columns cols) = (0 : Int))) = false → inR ((k : Int) + (1 : Int)) ∧ ∃ (k' : Nat), ((k : Int) + (1 : Int)) = (k' : Int) ∧ (k' ≤ x.groups.length ∧ (x.groups.take k').all (fun g => !decide (g.columns = cols)) = true) ∧ x.groups.length - k' < x.groups.length - k)))) ∧ ((decide ((k : Int) < ((x.groups.length : Nat) : Int))) = false → [] = (downL (grpR (tabOf x) cols).2).map intD ∧ True)))))) ?_
  intro n0 n1
  simp only [List.length_map] at n0 n1
  have q2 : cTableStats x = x.name.size + cGroupStatsS x.groups := rfl
  have q5 := cGroupStatsS_len x.groups
  refine ⟨List.length_map _, ?_⟩
  refine ⟨fun c0 => ?_, fun c0 => ?_⟩
  · replace c0 := of_decide_eq_true c0
    have hcz : cols = [] := List.eq_nil_of_length_eq_zero (by omega)
    refine ⟨fun c1 => ?_, fun c1 => ?_⟩
    · replace c1 := of_decide_eq_true c1
      have hE : (grpR (tabOf x) cols).2 = [] := by rw [hcz]; exact (seq_nil hok).1 c1
      refine ⟨?_, trivial⟩
      · first | (rw [hE]; done) | (rw [hE, downL_nil] <;> rfl) | (rw [hE, downL_one] <;> rfl)
    · replace c1 := of_decide_eq_false c1
      have hE : (grpR (tabOf x) cols).2 = [x.rowCount] := by rw [hcz]; exact (seq_nil hok).2 c1
      refine ⟨?_, trivial⟩
      · first | (rw [hE]; done) | (rw [hE, downL_nil] <;> rfl) | (rw [hE, downL_one] <;> rfl)
  · replace c0 := of_decide_eq_false c0
    refine ⟨⟨0, rfl, Nat.zero_le _, rfl⟩, fun k ⟨hk, ha⟩ => ?_⟩
    refine ⟨List.length_map _, ?_⟩
    refine ⟨fun c2 => ?_, fun c2 => ?_⟩
    · replace c2 := of_decide_eq_true c2
      refine ⟨by omega, ?_⟩
      refine ⟨rfl, by omega, fun e26 h26 => ?_⟩
      try (obtain rfl := (same_at h26 h26).symm)
      have q1 := cGroupStatsS_el h26
      have q3 : cGroupStats e26 = cIntS e26.columns + cIntSS e26.values + cIntS e26.counts := rfl
      have q6 : cIntS e26.columns = e26.columns.length := rfl
      have q7 : cIntS e26.counts = e26.counts.length := rfl
      have q8 := cIntSS_len e26.values
      refine ⟨cmpRows_spec _ _, ?_⟩
      refine ⟨fun c3 => ?_, fun c3 => ?_⟩
      · replace c3 := of_decide_eq_true c3
        have hE := seq_found hok h26 (cmpR_zero.1 c3)
        refine ⟨by omega, ?_⟩
        refine ⟨rfl, by omega, fun e35 h35 => ?_⟩
        try (obtain rfl := (same_at h26 h35).symm)
        refine ⟨down_spec _ (by omega), ?_⟩
        refine ⟨?_, trivial⟩
        · first | (rw [hE]; done) | (rw [hE, downL_nil] <;> rfl) | (rw [hE, downL_one] <;> rfl)
      · replace c3 := of_decide_eq_false c3
        refine ⟨⟨by omega, by omega⟩, ?_⟩
        exact ⟨k + 1, rfl, ⟨by omega, all_snoc h26 ha (by simpa using fun q => c3 (cmpR_zero.2 q))⟩, by omega⟩
    · replace c2 := of_decide_eq_false c2
      have hE := seq_none hok (all_done (by omega) ha) c0
      refine ⟨?_, trivial⟩
      · first | (rw [hE]; done) | (rw [hE, downL_nil] <;> rfl) | (rw [hE, downL_one] <;> rfl)

set_option maxRecDepth 100000 in
set_option maxHeartbeats 4000000 in
theorem seq_spec (x : TableStatsD) (cols : List Int) (hc : cTableStats x ≤ 1048576) (hl : cols.length ≤ 1048576) : Con Tryz.prog 25 [.agg [.str x.name, .int .i64 x.arity, .int .i64 x.rowCount, .sl 157 3 (x.groups.map eGroupStats)], .one (.sl 3 1 (cols.map intD))] (.p none (.sl 3 1 ((seqS x cols).map intD))) [] := by
  refine con_x tbOk mixedW Tryz.func25 (by kernel_rfl) (.stl 4 <| .call (vB (okStats x)) [] <| .br (.stl 4 <| .fin []) (.call (.p none (.sl 3 1 ((downL (grpR (tabOf x) cols).2).map intD))) [] <| .stl 4 <| .fin [])) ?_
  refine Eq.mpr (by kernel_rfl : _ = ((x.groups.map eGroupStats).length ≤ 9223372036854775807 → (cols.map intD).length ≤ 9223372036854775807 → Con Tryz.prog 64 [.agg [.str x.name, .int .i64 x.arity, .int .i64 x.rowCount, .sl 157 3 (x.groups.map eGroupStats)]] (vB (okStats x)) [] ∧ (((!(okStats x)) = true → [] = (seqS x cols).map intD ∧ True) ∧ ((!(okStats x)) = false → Con Tryz.prog 78 [.agg [.str x.name, .int .i64 x.arity, .int .i64 x.rowCount, .sl 157 3 (x.groups.map eGroupStats)], .one (.sl 3 1 (cols.map intD))] (.p none (.sl 3 1 ((downL (grpR (tabOf x) cols).2).map intD))) [] ∧ (downL (grpR (tabOf x) cols).2).map intD = (seqS x cols).map intD ∧ True)))) ?_
  intro n0 n1
  simp only [List.length_map] at n0 n1
  refine ⟨okS_spec _ (by omega), ?_⟩
  refine ⟨fun c0 => ?_, fun c0 => ?_⟩
  · replace c0 := nt c0
    have hE : seqS x cols = [] := seqS_no (by simpa using c0)
    refine ⟨?_, trivial⟩
    · (rw [hE] <;> rfl)
  · replace c0 := nf c0
    have hE := seqS_yes (cols := cols) (by simpa using c0 : okStats x = true)
    refine ⟨l13seq_spec _ _ (by omega) (by first | assumption | simpa using c0), ?_⟩
    refine ⟨?_, trivial⟩
    · (rw [hE] <;> rfl)

set_option maxRecDepth 100000 in
set_option maxHeartbeats 4000000 in
theorem seq_impl (x : TableStatsD) (cols : List Int) (hc : cTableStats x ≤ 1048576) (hl : cols.length ≤ 1048576) : Con Tryz.prog 26 [.agg [.str x.name, .int .i64 x.arity, .int .i64 x.rowCount, .sl 157 3 (x.groups.map eGroupStats)], .one (.sl 3 1 (cols.map intD))] (.own 0) [(0, .arr 3 1 true ((seqS x cols).map intD))] := by
  refine con_x tbOk mixedW Tryz.func26 (by kernel_rfl) (.call (.tup [.agg [.p none (.str ((tabOf x).name)), vI ((tabOf x).arity), .own 0], vB (okStats x)]) [(0, .arr 25 1 true (((tabOf x).rows).map eIntS))] <| .br (.fin []) (.call (.own 0) [(0, .arr 3 1 true ((downL (grpR (tabOf x) cols).2).map intD))] <| .fin [(0, 1600)])) ?_
  refine Eq.mpr (by kernel_rfl : _ = ((x.groups.map eGroupStats).length ≤ 9223372036854775807 → (cols.map intD).length ≤ 9223372036854775807 → Con Tryz.prog 70 [.agg [.str x.name, .int .i64 x.arity, .int .i64 x.rowCount, .sl 157 3 (x.groups.map eGroupStats)]] (.tup [.agg [.p none (.str ((tabOf x).name)), vI ((tabOf x).arity), .own 0], vB (okStats x)]) [(0, .arr 25 1 true (((tabOf x).rows).map eIntS))] ∧ (((!(okStats x)) = true → [] = (seqS x cols).map intD ∧ True) ∧ ((!(okStats x)) = false → Con Tryz.prog 79 [.agg [.str ((tabOf x).name), .int .i64 ((tabOf x).arity), .sl 25 1 (((tabOf x).rows).map eIntS)], .one (.sl 3 1 (cols.map intD))] (.own 0) [(0, .arr 3 1 true ((downL (grpR (tabOf x) cols).2).map intD))] ∧ (downL (grpR (tabOf x) cols).2).map intD = (seqS x cols).map intD ∧ True)))) ?_
  intro n0 n1
  simp only [List.length_map] at n0 n1
  refine ⟨tabOf_impl x (by omega), ?_⟩
  refine ⟨fun c0 => ?_, fun c0 => ?_⟩
  · replace c0 := nt c0
    have hE : seqS x cols = [] := seqS_no (by simpa using c0)
    refine ⟨?_, trivial⟩
    · (rw [hE] <;> rfl)
  · replace c0 := nf c0
    have hE := seqS_yes (cols := cols) (by simpa using c0 : okStats x = true)
    refine ⟨deg_impl (tabOf x) _ (by omega), ?_⟩
    refine ⟨?_, trivial⟩
    · (rw [hE] <;> rfl)

set_option maxRecDepth 100000 in
set_option maxHeartbeats 4000000 in
theorem sdeg_spec (x : TableStatsD) (cols : List Int) (hc : cTableStats x ≤ 1048576) (hl : cols.length ≤ 1048576) : Con Tryz.prog 21 [.agg [.str x.name, .int .i64 x.arity, .int .i64 x.rowCount, .sl 157 3 (x.groups.map eGroupStats)], .one (.sl 3 1 (cols.map intD))] (vI ((seqS x cols).getD 0 0)) [] := by
  refine con_x tbOk mixedW Tryz.func21 (by kernel_rfl) (.call (.p none (.sl 3 1 ((seqS x cols).map intD))) [] <| .len ((seqS x cols).length) <| .br (.fin []) (.elem Int intD (seqS x cols) (fun e13 => .fin []))) ?_
  refine Eq.mpr (by kernel_rfl : _ = ((x.groups.map eGroupStats).length ≤ 9223372036854775807 → (cols.map intD).length ≤ 9223372036854775807 → Con Tryz.prog 25 [.agg [.str x.name, .int .i64 x.arity, .int .i64 x.rowCount, .sl 157 3 (x.groups.map eGroupStats)], .one (.sl 3 1 (cols.map intD))] (.p none (.sl 3 1 ((seqS x cols).map intD))) [] ∧ (((seqS x cols).map intD).length = (seqS x cols).length ∧ (((decide ((((seqS x cols).length : Nat) : Int) = (0 : Int))) = true → (0 : Int) = ((seqS x cols).getD 0 0) ∧ True) ∧ ((decide ((((seqS x cols).length : Nat) : Int) = (0 : Int))) = false → 0 ≤ (0 : Int) ∧ ((seqS x cols).map intD = (seqS x cols).map intD ∧ 0 < (seqS x cols).length ∧ ∀ e13, (seqS x cols)[0]? = some e13 → e13 = ((seqS x cols).getD 0 0) ∧ True)))))) ?_
  intro n0 n1
  simp only [List.length_map] at n0 n1
  refine ⟨seq_spec _ _ (by omega) (by omega), ?_⟩
  refine ⟨List.length_map _, ?_⟩
  refine ⟨fun c0 => ?_, fun c0 => ?_⟩
  · replace c0 := of_decide_eq_true c0
    have hz : seqS x cols = [] := List.eq_nil_of_length_eq_zero (by omega)
    refine ⟨?_, trivial⟩
    · first | (rw [hz] <;> rfl) | (rw [getD_at h13])
  · replace c0 := of_decide_eq_false c0
    refine ⟨by omega, ?_⟩
    refine ⟨rfl, by omega, fun e13 h13 => ?_⟩
    refine ⟨?_, trivial⟩
    · first | (rw [hz] <;> rfl) | (rw [getD_at h13])

set_option maxRecDepth 100000 in
set_option maxHeartbeats 4000000 in
theorem sdeg_impl (x : TableStatsD) (cols : List Int) (hc : cTableStats x ≤ 1048576) (hl : cols.length ≤ 1048576) : Con Tryz.prog 23 [.agg [.str x.name, .int .i64 x.arity, .int .i64 x.rowCount, .sl 157 3 (x.groups.map eGroupStats)], .one (.sl 3 1 (cols.map intD))] (vI ((seqS x cols).getD 0 0)) [] := by
  refine con_x tbOk mixedW Tryz.func23 (by kernel_rfl) (.call (.own 0) [(0, .arr 3 1 true ((seqS x cols).map intD))] <| .len ((seqS x cols).length) <| .br (.fin []) (.len ((seqS x cols).length) <| .elem Int intD (seqS x cols) (fun e14 => .fin []))) ?_
  refine Eq.mpr (by kernel_rfl : _ = ((x.groups.map eGroupStats).length ≤ 9223372036854775807 → (cols.map intD).length ≤ 9223372036854775807 → Con Tryz.prog 26 [.agg [.str x.name, .int .i64 x.arity, .int .i64 x.rowCount, .sl 157 3 (x.groups.map eGroupStats)], .one (.sl 3 1 (cols.map intD))] (.own 0) [(0, .arr 3 1 true ((seqS x cols).map intD))] ∧ (((seqS x cols).map intD).length = (seqS x cols).length ∧ (((decide ((((seqS x cols).length : Nat) : Int) = (0 : Int))) = true → (0 : Int) = ((seqS x cols).getD 0 0) ∧ True) ∧ ((decide ((((seqS x cols).length : Nat) : Int) = (0 : Int))) = false → 0 ≤ (0 : Int) ∧ ((seqS x cols).map intD).length = (seqS x cols).length ∧ (0 : Int) < (((seqS x cols).length : Nat) : Int) ∧ ((seqS x cols).map intD = (seqS x cols).map intD ∧ 0 < (seqS x cols).length ∧ ∀ e14, (seqS x cols)[0]? = some e14 → e14 = ((seqS x cols).getD 0 0) ∧ True)))))) ?_
  intro n0 n1
  simp only [List.length_map] at n0 n1
  refine ⟨seq_impl _ _ (by omega) (by omega), ?_⟩
  refine ⟨List.length_map _, ?_⟩
  refine ⟨fun c0 => ?_, fun c0 => ?_⟩
  · replace c0 := of_decide_eq_true c0
    have hz : seqS x cols = [] := List.eq_nil_of_length_eq_zero (by omega)
    refine ⟨?_, trivial⟩
    · first | (rw [hz] <;> rfl) | (rw [getD_at h14])
  · replace c0 := of_decide_eq_false c0
    refine ⟨by omega, List.length_map _, by omega, ?_⟩
    refine ⟨rfl, by omega, fun e14 h14 => ?_⟩
    refine ⟨?_, trivial⟩
    · first | (rw [hz] <;> rfl) | (rw [getD_at h14])
end Go.Proofs.YtjlagjhmlmfjeaaGreat
