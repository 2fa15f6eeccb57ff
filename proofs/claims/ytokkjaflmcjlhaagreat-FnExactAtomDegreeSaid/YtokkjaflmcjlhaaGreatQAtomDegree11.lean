/-
  Contracts and plain laws, joined: part 12.
-/
import Derived.Test.YtokkjaflmcjlhaaGreatQAtomDegree10
import Derived.Test.YtokkjaflmcjlhaaGreatQAtomDegree7
import Derived.IntWalk
namespace Go.Proofs.YtokkjaflmcjlhaaGreat
open Go.ChangeShapes Go.WideShapes Go.ChangeAt Go.RowKit
set_option linter.unusedVariables false
set_option linter.unusedSimpArgs false
set_option maxRecDepth 100000
set_option maxHeartbeats 4000000
theorem downL_nil : downL [] = [] := List.eq_nil_of_length_eq_zero (downL_len [])
theorem downL_one (a : Int) : downL [a] = [a] := List.perm_singleton.1 (downL_perm [a])
def seqS (x : TableStatsD) (cols : List Int) : List Int := if okStats x = true then downL (grpR (tabOf x) cols).2 else []
theorem seqS_yes {x : TableStatsD} {cols : List Int} (h : okStats x = true) : seqS x cols = downL (grpR (tabOf x) cols).2 := by rw [seqS, if_pos h]
theorem seqS_no {x : TableStatsD} {cols : List Int} (h : okStats x = false) : seqS x cols = [] := by rw [seqS, if_neg (by rw [h]; decide)]
theorem seq_found {x : TableStatsD} {cols : List Int} {k : Nat} {g : GroupStatsD} (h : okStats x = true) (hg : x.groups[k]? = some g) (hc : g.columns = cols) : g.counts = (grpR (tabOf x) cols).2 := by
  rw [okS_groups h, List.getElem?_map] at hg
  cases e : (colSubs x.arity)[k]? with
  | none => rw [e] at hg; simp at hg
  | some c =>
    rw [e] at hg
    simp only [Option.map_some, Option.some.injEq] at hg
    subst hg
    rw [show c = cols from hc]; rfl
theorem cols_mem {n : Int} (hn : 1 ≤ n ∧ n ≤ 3) {cols : List Int} (h : colsOk (n - 1) cols = true) (hne : cols ≠ []) : cols ∈ colSubs n := by
  have hl := cols_len h (by omega)
  have hlow := cols_low h
  have hn3 : n = 1 ∨ n = 2 ∨ n = 3 := by omega
  match cols, hl with
  | [], _ => exact absurd rfl hne
  | [a], _ =>
    have h0 := hlow 0 (by simp)
    simp at h0
    have ha : a = 0 ∨ a = 1 ∨ a = 2 := by omega
    rcases hn3 with rfl | rfl | rfl <;> rcases ha with rfl | rfl | rfl <;> first | decide | (exfalso; omega)
  | [a, b], _ =>
    have h0 := hlow 0 (by simp)
    have h1 := hlow 1 (by simp)
    have h2 := List.all_eq_true.1 h 1 (by simp)
    simp [colAt] at h0 h1 h2
    have ha : (a = 0 ∧ b = 1) ∨ (a = 0 ∧ b = 2) ∨ (a = 1 ∧ b = 2) := by omega
    rcases hn3 with rfl | rfl | rfl <;> rcases ha with ⟨rfl, rfl⟩ | ⟨rfl, rfl⟩ | ⟨rfl, rfl⟩ <;> first | decide | (exfalso; omega)
  | [a, b, c], _ =>
    have h0 := hlow 0 (by simp)
    have h1 := hlow 1 (by simp)
    have h2 := hlow 2 (by simp)
    have h3 := List.all_eq_true.1 h 1 (by simp)
    have h4 := List.all_eq_true.1 h 2 (by simp)
    simp [colAt] at h0 h1 h2 h3 h4
    obtain ⟨rfl, rfl, rfl⟩ : a = 0 ∧ b = 1 ∧ c = 2 := by omega
    rcases hn3 with rfl | rfl | rfl <;> first | decide | (exfalso; omega)
  | _ :: _ :: _ :: _ :: _, hl => simp at hl
theorem seq_none {x : TableStatsD} {cols : List Int} (h : okStats x = true) (hall : x.groups.all (fun g => !decide (g.columns = cols)) = true) (hne : ¬ (cols.length : Int) = 0) : (grpR (tabOf x) cols).2 = [] := by
  obtain ⟨h1, h2⟩ := okS_parts h
  cases hc : colsOk ((tabOf x).arity - 1) cols with
  | false => rw [grpR_no (by simp [hc])]
  | true =>
    exfalso
    have hm := cols_mem (n := x.arity) (okS_arity h) hc (fun e => hne (by rw [e]; rfl))
    rw [okS_groups h] at hall
    have := List.all_eq_true.1 hall _ (List.mem_map_of_mem hm)
    simp [grpS] at this
theorem seq_nil {x : TableStatsD} (h : okStats x = true) : (x.rowCount = 0 → (grpR (tabOf x) []).2 = []) ∧ (¬ x.rowCount = 0 → (grpR (tabOf x) []).2 = [x.rowCount]) := by
  obtain ⟨h1, h2⟩ := okS_parts h
  have hc := okS_count h
  have hrows : (tabOf x).rows = lastV x := rfl
  rw [grpR_yes (t := tabOf x) (cols := []) (by rw [h1]; rfl)]
  have e : selA (tabOf x) [] = List.replicate (lastV x).length [] := by simp [selA, selR, selOk, hrows, List.map_const']
  have ev : grpV (tabOf x) [] = foldPut (List.replicate (lastV x).length []) := by rw [grpV, e, foldPut_ded]
  show (x.rowCount = 0 → grpC (tabOf x) [] = []) ∧ (¬ x.rowCount = 0 → grpC (tabOf x) [] = [x.rowCount])
  rw [grpC, ev, e]
  constructor
  · intro h0
    rw [show (lastV x).length = 0 by omega]; rfl
  · intro h0
    have hpos : (lastV x).length ≠ 0 := by omega
    have hf : foldPut (List.replicate (lastV x).length ([] : List Int)) = [[]] := by
      obtain ⟨p1, p2, _⟩ := foldPut_all (List.replicate (lastV x).length ([] : List Int)) [] List.Pairwise.nil
      refine asc_ext p1 (List.pairwise_singleton _ _) fun y => ?_
      have := p2 y
      rw [foldPut, this]
      simp [List.mem_replicate, hpos]
    rw [hf, hc]
    simp [cntOf]
abbrev K_l13seq_spec (x : TableStatsD) (cols : List Int) : Prop := Con Tryz.prog 172 [.agg [.str x.name, .int .i64 x.arity, .int .i64 x.rowCount, .sl 218 3 (x.groups.map eGroupStats)], .one (.sl 3 1 (cols.map intD))] (.p none (.sl 3 1 ((downL (grpR (tabOf x) cols).2).map intD))) []
theorem l13seq_spec (x : TableStatsD) (cols : List Int) (hc : cTableStats x ≤ 1048576) (hok : okStats x = true) : K_l13seq_spec x cols := by
 refine con_x tbOk mixedW Tryz.func172 (by kernel_rfl) (.stl 4 <| .len cols.length <| .br (.br (.stl 4 <| .fin []) (.stl 4 <| .fin [])) (.loop Nat (Q1 Nat) [5, 16, 17, 18, 19, 20, 21, 22, 23, 24, 25, 26, 27, 28, 29, 30, 31] [] (fun k => [(5, vI (k : Int))]) (fun k => []) (fun k => k ≤ x.groups.length ∧ (x.groups.take k).all (fun g => !decide (g.columns = cols)) = true) (fun k => x.groups.length - k) (fun k => .len x.groups.length <| .br (.elem _ eGroupStats x.groups (fun e26 => .call (vI (cmpR e26.columns cols)) [] <| .br (.elem _ eGroupStats x.groups (fun e35 => .call (.p none (.sl 3 1 ((downL e35.counts).map intD))) [] <| .stl 4 <| .fin [])) (.back []))) (.stl 4 <| .fin [])))) ?_
 refine Eq.mpr (by kernel_rfl : _ = ((x.groups.map eGroupStats).length ≤ 9223372036854775807 → (cols.map intD).length ≤ 9223372036854775807 → Lm intD cols ∧ (((decide (((cols.length : Nat) : Int) = (0 : Int))) = true → ((decide (x.rowCount = (0 : Int))) = true → [] = (downL (grpR (tabOf x) cols).2).map intD ∧ True) ∧ ((decide (x.rowCount = (0 : Int))) = false → [[.int .i64 x.rowCount]] = (downL (grpR (tabOf x) cols).2).map intD ∧ True)) ∧ ((decide (((cols.length : Nat) : Int) = (0 : Int))) = false → (∃ (k : Nat), (0 : Int) = (k : Int) ∧ k ≤ x.groups.length ∧ (x.groups.take k).all (fun g => !decide (g.columns = cols)) = true) ∧ ∀ (k : Nat), (k ≤ x.groups.length ∧ (x.groups.take k).all (fun g => !decide (g.columns = cols)) = true) → Lm eGroupStats x.groups ∧ (((decide ((k : Int) < ((x.groups.length : Nat) : Int))) = true → 0 ≤ (k : Int) ∧ Em eGroupStats x.groups k fun e26 => K_cmpRows_spec e26.columns cols ∧ (((decide ((cmpR e26.columns cols) = (0 : Int))) = true → 0 ≤ (k : Int) ∧ Em eGroupStats x.groups k fun e35 => K_down_spec e35.counts ∧ (downL e35.counts).map intD = (downL (grpR (tabOf x) cols).2).map intD ∧ True) ∧ ((decide ((cmpR e26.columns cols) = (0 : Int))) = false → inR ((k : Int) + (1 : Int)) ∧ ∃ (k' : Nat), ((k : Int) + (1 : Int)) = (k' : Int) ∧ (k' ≤ x.groups.length ∧ (x.groups.take k').all (fun g => !decide (g.columns = cols)) = true) ∧ x.groups.length - k' < x.groups.length - k))) ∧ ((decide ((k : Int) < ((x.groups.length : Nat) : Int))) = false → [] = (downL (grpR (tabOf x) cols).2).map intD ∧ True)))))) ?_
 intro n0 n1
 simp only [List.length_map] at n0 n1
 have q2 : cTableStats x = x.name.size + cGroupStatsS x.groups := rfl
 have q5 := cGroupStatsS_len x.groups
 refine ⟨List.length_map _, fun c0 => ?_, fun c0 => ?_⟩
 ·replace c0 := yq c0
  have hcz : cols = [] := List.eq_nil_of_length_eq_zero (by omega)
  refine ⟨fun c1 => ?_, fun c1 => ?_⟩
  ·replace c1 := yq c1
   have hE : (grpR (tabOf x) cols).2 = [] := by rw [hcz]; exact (seq_nil hok).1 c1
   refine ⟨?_, trivial⟩
   ·first | (rw [hE]; done) | (rw [hE, downL_nil] <;> rfl) | (rw [hE, downL_one] <;> rfl)
  ·replace c1 := nq c1
   have hE : (grpR (tabOf x) cols).2 = [x.rowCount] := by rw [hcz]; exact (seq_nil hok).2 c1
   refine ⟨?_, trivial⟩
   ·first | (rw [hE]; done) | (rw [hE, downL_nil] <;> rfl) | (rw [hE, downL_one] <;> rfl)
 ·replace c0 := nq c0
  refine ⟨⟨0, rfl, Nat.zero_le _, rfl⟩, fun k ⟨hk, ha⟩ => ?_⟩
  refine ⟨List.length_map _, fun c2 => ?_, fun c2 => ?_⟩
  ·replace c2 := yq c2
   refine ⟨by omega, rfl, by omega, fun e26 h26 => ?_⟩
   try (obtain rfl := (same_at h26 h26).symm)
   have q1 := cGroupStatsS_el h26
   have q3 : cGroupStats e26 = cIntS e26.columns + cIntSS e26.values + cIntS e26.counts := rfl
   have q6 : cIntS e26.columns = e26.columns.length := rfl
   have q7 : cIntS e26.counts = e26.counts.length := rfl
   have q8 := cIntSS_len e26.values
   refine ⟨cmpRows_spec _ _, fun c3 => ?_, fun c3 => ?_⟩
   ·replace c3 := yq c3
    have hE := seq_found hok h26 (cmpR_zero.1 c3)
    refine ⟨by omega, rfl, by omega, fun e35 h35 => ?_⟩
    try (obtain rfl := (same_at h26 h35).symm)
    refine ⟨down_spec _ (by omega), ?_, trivial⟩
    ·first | (rw [hE]; done) | (rw [hE, downL_nil] <;> rfl) | (rw [hE, downL_one] <;> rfl)
   ·replace c3 := nq c3
    refine ⟨⟨by omega, by omega⟩, ?_⟩
    exact ⟨k + 1, rfl, ⟨by omega, all_snoc h26 ha (by simpa using fun q => c3 (cmpR_zero.2 q))⟩, by omega⟩
  ·replace c2 := nq c2
   have hE := seq_none hok (all_done (by omega) ha) c0
   refine ⟨?_, trivial⟩
   ·first | (rw [hE]; done) | (rw [hE, downL_nil] <;> rfl) | (rw [hE, downL_one] <;> rfl)
abbrev K_seq_spec (x : TableStatsD) (cols : List Int) : Prop := Con Tryz.prog 108 [.agg [.str x.name, .int .i64 x.arity, .int .i64 x.rowCount, .sl 218 3 (x.groups.map eGroupStats)], .one (.sl 3 1 (cols.map intD))] (.p none (.sl 3 1 ((seqS x cols).map intD))) []
theorem seq_spec (x : TableStatsD) (cols : List Int) (hc : cTableStats x ≤ 1048576) (hl : cols.length ≤ 1048576) : K_seq_spec x cols := by
 refine con_x tbOk mixedW Tryz.func108 (by kernel_rfl) (.stl 4 <| .call (vB (okStats x)) [] <| .br (.stl 4 <| .fin []) (.call (.p none (.sl 3 1 ((downL (grpR (tabOf x) cols).2).map intD))) [] <| .stl 4 <| .fin [])) ?_
 refine Eq.mpr (by kernel_rfl : _ = ((x.groups.map eGroupStats).length ≤ 9223372036854775807 → (cols.map intD).length ≤ 9223372036854775807 → K_okS_spec x ∧ (((!(okStats x)) = true → [] = (seqS x cols).map intD ∧ True) ∧ ((!(okStats x)) = false → K_l13seq_spec x cols ∧ (downL (grpR (tabOf x) cols).2).map intD = (seqS x cols).map intD ∧ True)))) ?_
 intro n0 n1
 simp only [List.length_map] at n0 n1
 refine ⟨okS_spec _ (by omega), fun c0 => ?_, fun c0 => ?_⟩
 ·replace c0 := nt c0
  have hE : seqS x cols = [] := seqS_no (by simpa using c0)
  refine ⟨?_, trivial⟩
  ·(rw [hE] <;> rfl)
 ·replace c0 := nf c0
  have hE := seqS_yes (cols := cols) (by simpa using c0 : okStats x = true)
  refine ⟨l13seq_spec _ _ (by omega) (by first | assumption | simpa using c0), ?_, trivial⟩
  ·(rw [hE] <;> rfl)
abbrev k_seq_impl (x : TableStatsD) (cols : List Int) : AV × List (Nat × Rs) := (.own 0, [(0, .arr 3 1 true ((seqS x cols).map intD))])
abbrev K_seq_impl (x : TableStatsD) (cols : List Int) : Prop := Con Tryz.prog 110 [.agg [.str x.name, .int .i64 x.arity, .int .i64 x.rowCount, .sl 218 3 (x.groups.map eGroupStats)], .one (.sl 3 1 (cols.map intD))] (k_seq_impl x cols).1 (k_seq_impl x cols).2
theorem seq_impl (x : TableStatsD) (cols : List Int) (hc : cTableStats x ≤ 1048576) (hl : cols.length ≤ 1048576) : K_seq_impl x cols := by
 refine con_x tbOk mixedW Tryz.func110 (by kernel_rfl) (callP (k_tabOf_impl x) <| .br (.fin []) (callP (k_deg_impl (tabOf x) cols) <| .fin [(0, 1600)])) ?_
 refine Eq.mpr (by kernel_rfl : _ = ((x.groups.map eGroupStats).length ≤ 9223372036854775807 → (cols.map intD).length ≤ 9223372036854775807 → K_tabOf_impl x ∧ (((!(okStats x)) = true → [] = (seqS x cols).map intD ∧ True) ∧ ((!(okStats x)) = false → K_deg_impl (tabOf x) cols ∧ (downL (grpR (tabOf x) cols).2).map intD = (seqS x cols).map intD ∧ True)))) ?_
 intro n0 n1
 simp only [List.length_map] at n0 n1
 refine ⟨tabOf_impl x (by omega), fun c0 => ?_, fun c0 => ?_⟩
 ·replace c0 := nt c0
  have hE : seqS x cols = [] := seqS_no (by simpa using c0)
  refine ⟨?_, trivial⟩
  ·(rw [hE] <;> rfl)
 ·replace c0 := nf c0
  have hE := seqS_yes (cols := cols) (by simpa using c0 : okStats x = true)
  refine ⟨deg_impl (tabOf x) _ (by omega), ?_, trivial⟩
  ·(rw [hE] <;> rfl)
abbrev K_sdeg_spec (x : TableStatsD) (cols : List Int) : Prop := Con Tryz.prog 100 [.agg [.str x.name, .int .i64 x.arity, .int .i64 x.rowCount, .sl 218 3 (x.groups.map eGroupStats)], .one (.sl 3 1 (cols.map intD))] (vI ((seqS x cols).getD 0 0)) []
theorem sdeg_spec (x : TableStatsD) (cols : List Int) (hc : cTableStats x ≤ 1048576) (hl : cols.length ≤ 1048576) : K_sdeg_spec x cols := by
 refine con_x tbOk mixedW Tryz.func100 (by kernel_rfl) (.call (.p none (.sl 3 1 ((seqS x cols).map intD))) [] <| .len ((seqS x cols).length) <| .br (.fin []) (.elem _ intD (seqS x cols) (fun e13 => .fin []))) ?_
 refine Eq.mpr (by kernel_rfl : _ = ((x.groups.map eGroupStats).length ≤ 9223372036854775807 → (cols.map intD).length ≤ 9223372036854775807 → K_seq_spec x cols ∧ (Lm intD (seqS x cols) ∧ (((decide ((((seqS x cols).length : Nat) : Int) = (0 : Int))) = true → (0 : Int) = ((seqS x cols).getD 0 0) ∧ True) ∧ ((decide ((((seqS x cols).length : Nat) : Int) = (0 : Int))) = false → 0 ≤ (0 : Int) ∧ Em intD (seqS x cols) 0 fun e13 => e13 = ((seqS x cols).getD 0 0) ∧ True))))) ?_
 intro n0 n1
 simp only [List.length_map] at n0 n1
 refine ⟨seq_spec _ _ (by omega) (by omega), List.length_map _, fun c0 => ?_, fun c0 => ?_⟩
 ·replace c0 := yq c0
  have hz : seqS x cols = [] := List.eq_nil_of_length_eq_zero (by omega)
  refine ⟨?_, trivial⟩
  ·first | (rw [hz] <;> rfl) | (rw [getD_at h13])
 ·replace c0 := nq c0
  refine ⟨by omega, rfl, by omega, fun e13 h13 => ?_⟩
  refine ⟨?_, trivial⟩
  ·first | (rw [hz] <;> rfl) | (rw [getD_at h13])
abbrev K_sdeg_impl (x : TableStatsD) (cols : List Int) : Prop := Con Tryz.prog 171 [.agg [.str x.name, .int .i64 x.arity, .int .i64 x.rowCount, .sl 218 3 (x.groups.map eGroupStats)], .one (.sl 3 1 (cols.map intD))] (vI ((seqS x cols).getD 0 0)) []
theorem sdeg_impl (x : TableStatsD) (cols : List Int) (hc : cTableStats x ≤ 1048576) (hl : cols.length ≤ 1048576) : K_sdeg_impl x cols := by
 refine con_x tbOk mixedW Tryz.func171 (by kernel_rfl) (callP (k_seq_impl x cols) <| .len ((seqS x cols).length) <| .br (.fin []) (.len ((seqS x cols).length) <| .elem _ intD (seqS x cols) (fun e14 => .fin []))) ?_
 refine Eq.mpr (by kernel_rfl : _ = ((x.groups.map eGroupStats).length ≤ 9223372036854775807 → (cols.map intD).length ≤ 9223372036854775807 → K_seq_impl x cols ∧ (Lm intD (seqS x cols) ∧ (((decide ((((seqS x cols).length : Nat) : Int) = (0 : Int))) = true → (0 : Int) = ((seqS x cols).getD 0 0) ∧ True) ∧ ((decide ((((seqS x cols).length : Nat) : Int) = (0 : Int))) = false → 0 ≤ (0 : Int) ∧ Lm intD (seqS x cols) ∧ (0 : Int) < (((seqS x cols).length : Nat) : Int) ∧ Em intD (seqS x cols) 0 fun e14 => e14 = ((seqS x cols).getD 0 0) ∧ True))))) ?_
 intro n0 n1
 simp only [List.length_map] at n0 n1
 refine ⟨seq_impl _ _ (by omega) (by omega), List.length_map _, fun c0 => ?_, fun c0 => ?_⟩
 ·replace c0 := yq c0
  have hz : seqS x cols = [] := List.eq_nil_of_length_eq_zero (by omega)
  refine ⟨?_, trivial⟩
  ·first | (rw [hz] <;> rfl) | (rw [getD_at h14])
 ·replace c0 := nq c0
  refine ⟨by omega, List.length_map _, by omega, rfl, by omega, fun e14 h14 => ?_⟩
  refine ⟨?_, trivial⟩
  ·first | (rw [hz] <;> rfl) | (rw [getD_at h14])
theorem two_in {x : Int} (h : inB x 0 3 = true) : inR ((1 : Int) * 2 ^ x.toNat) ∧ 0 ≤ x ∧ x ≤ 64 := by
  have h2 := inB_true h
  have h1 : x = 0 ∨ x = 1 ∨ x = 2 ∨ x = 3 := by omega
  refine ⟨?_, by omega, by omega⟩
  unfold inR
  rcases h1 with rfl | rfl | rfl | rfl <;> exact ⟨by decide, by decide⟩
theorem m4_nil (l : List AtomD) (a : List Int) : (0 : Int) = m4 (seenP l 0 a 0) := by simp [m4, b4, seenP, hasV]
theorem seen_nil (n : Nat) (l : List AtomD) (a : List Int) : List.replicate n false = (List.range n).map (seenP l 0 a 0) := by
  apply List.ext_getElem?
  intro i
  rw [List.getElem?_map, List.getElem?_replicate]
  by_cases hi : i < n
  · rw [if_pos hi, List.getElem?_range hi]; simp [seenP, hasV]
  · rw [if_neg hi, show (List.range n)[i]? = none from List.getElem?_eq_none (by simp; omega)]; rfl
theorem idxB_mem {l : List Bool} {v : Bool} : decide (0 ≤ idxF (fun y => v == y) l) = decide (v ∈ l) := by
  apply Bool.eq_iff_iff.2
  rw [decide_eq_true_eq, decide_eq_true_eq]
  constructor
  · intro h
    obtain ⟨k, x, _, hx, hf⟩ := idxF_find.2 h
    have h1 := List.find?_some hf
    have : v = x := by simpa using h1
    rw [this]; exact List.mem_of_getElem? hx
  · intro h
    rcases Int.lt_or_le (idxF (fun y => v == y) l) 0 with q | q
    · have := idxF_find.1 q
      rw [List.find?_eq_none] at this
      exact absurd (this v h) (by simp)
    · exact q
abbrev K_ixB (l : List Bool) (v : Bool) : Prop := Con Tryz.prog 280 [.one (.sl 4 1 (l.map boolD)), .one (.bool v)] (vI (idxF (fun y => v == y) l)) []
theorem ixB (l : List Bool) (v : Bool) : K_ixB l v := by
 refine con_x tbOk mixedW Tryz.func280 (by kernel_rfl) (.len l.length <| .loop Nat (Q1 Nat) [5, 8, 9, 10, 11, 12, 13, 14, 15, 16, 18] [] (fun k => [(8, vI (k : Int))]) (fun k => []) (fun k => k ≤ l.length ∧ (l.take k).all (fun y => !(v == y)) = true) (fun k => l.length - k) (fun k => .br (.elem _ boolD l (fun e14 => .br (.fin []) (.back []))) (.fin []))) ?_
 refine Eq.mpr (by kernel_rfl : _ = ((l.map boolD).length ≤ 9223372036854775807 → Lm boolD l ∧ ((∃ (k : Nat), (0 : Int) = (k : Int) ∧ k ≤ l.length ∧ (l.take k).all (fun y => !(v == y)) = true) ∧ ∀ (k : Nat), (k ≤ l.length ∧ (l.take k).all (fun y => !(v == y)) = true) → ((decide ((k : Int) < ((l.length : Nat) : Int))) = true → 0 ≤ (k : Int) ∧ Em boolD l k fun e14 => ((v == e14) = true → (k : Int) = (idxF (fun y => v == y) l) ∧ True) ∧ ((v == e14) = false → inR ((k : Int) + (1 : Int)) ∧ ∃ (k' : Nat), ((k : Int) + (1 : Int)) = (k' : Int) ∧ (k' ≤ l.length ∧ (l.take k').all (fun y => !(v == y)) = true) ∧ l.length - k' < l.length - k)) ∧ ((decide ((k : Int) < ((l.length : Nat) : Int))) = false → (-1 : Int) = (idxF (fun y => v == y) l) ∧ True)))) ?_
 intro n0
 simp only [List.length_map] at n0
 refine ⟨List.length_map _, ⟨0, rfl, Nat.zero_le _, rfl⟩, fun k ⟨hk, ha⟩ => ?_⟩
 refine ⟨fun c0 => ?_, fun c0 => ?_⟩
 ·replace c0 := yq c0
  refine ⟨by omega, rfl, by omega, fun e14 h14 => ?_⟩
  refine ⟨fun c1 => ?_, fun c1 => ?_⟩
  ·refine ⟨?_, trivial⟩
   ·first | (rw [idxF_at h14 ha c1]; done) | (rw [idxF_no (all_done (by omega) ha)]; done)
  ·refine ⟨⟨by omega, by omega⟩, ?_⟩
   exact ⟨k + 1, rfl, ⟨by omega, all_snoc h14 ha (by rw [c1]; rfl)⟩, by omega⟩
 ·replace c0 := nq c0
  refine ⟨?_, trivial⟩
  ·first | (rw [idxF_at h14 ha c1]; done) | (rw [idxF_no (all_done (by omega) ha)]; done)
abbrev K_ctB (l : List Bool) (v : Bool) : Prop := Con Tryz.prog 254 [.one (.sl 4 1 (l.map boolD)), .one (.bool v)] (vB (decide (v ∈ l))) []
theorem ctB (l : List Bool) (v : Bool) : K_ctB l v := by
 refine con_x tbOk mixedW Tryz.func254 (by kernel_rfl) (.call (vI (idxF (fun y => v == y) l)) [] <| .fin []) ?_
 refine Eq.mpr (by kernel_rfl : _ = ((l.map boolD).length ≤ 9223372036854775807 → K_ixB l v ∧ (decide ((0 : Int) ≤ (idxF (fun y => v == y) l))) = (decide (v ∈ l)) ∧ True)) ?_
 intro n0
 simp only [List.length_map] at n0
 refine ⟨ixB _ _, ?_, trivial⟩
 ·exact idxB_mem
abbrev K_okQ_impl (q : QueryD) : Prop := Con Tryz.prog 190 [.agg [.int .i64 q.variableCount, .sl 131 2 (q.atoms.map eAtom)]] (vB (okQuery q)) []
theorem okQ_impl (q : QueryD) : K_okQ_impl q := by
 refine con_x tbOk mixedW Tryz.func190 (by kernel_rfl) (.call (vB (inB q.variableCount (1 : Int) (4 : Int))) [] <| .br (.fin []) (.len q.atoms.length <| .call (vB (inB ((q.atoms.length : Nat) : Int) (1 : Int) (4 : Int))) [] <| .lit <| .lit <| .br (.fin []) (.mk ((q.variableCount).toNat) [.bool false] ((List.replicate ((q.variableCount).toNat) false).map boolD) <| .len q.atoms.length <| .loop (Nat × (List Bool)) (Q2 Nat (List Bool)) [5, 6, 7, 25, 26, 27, 28, 29, 30, 31, 32, 33, 34, 35, 36, 37, 38, 39, 40, 41, 42, 43, 44, 45, 46, 47, 48, 49, 50, 51, 52, 53, 54, 55, 56, 57, 58, 59, 60, 61, 62, 63, 64, 65, 66] [500, 2100] (fun yy0 => [(25, vI (yy0.1 : Int))]) (fun yy0 => [(2100, some (.arr 4 1 true (yy0.2.map boolD)))]) (fun yy0 => yy0.1 ≤ q.atoms.length ∧ yy0.2 = (List.range q.variableCount.toNat).map (seenP q.atoms yy0.1 [] 0) ∧ (q.atoms.take yy0.1).all (atomOk q.variableCount) = true) (fun yy0 => q.atoms.length - yy0.1) (fun yy0 => .br (.elem _ eAtom q.atoms (fun e27 => .call (vB (okName e27.name)) [] <| .br (.fin []) (.len e27.vars.length <| .call (vB (inB ((e27.vars.length : Nat) : Int) (1 : Int) (3 : Int))) [] <| .lit <| .lit <| .br (.fin []) (.len e27.vars.length <| .loop (Nat × (List Bool)) (Q2 Nat (List Bool)) [6, 7, 43, 44, 45, 46, 47, 48, 49, 50, 51, 52, 53, 54, 55, 56, 57, 58, 59, 60, 61, 62, 63, 64, 65] [2100] (fun yy1 => [(43, vI (yy1.1 : Int))]) (fun yy1 => [(2100, some (.arr 4 1 true (yy1.2.map boolD)))]) (fun yy1 => yy1.1 ≤ e27.vars.length ∧ yy1.2 = (List.range q.variableCount.toNat).map (seenP q.atoms yy0.1 e27.vars yy1.1) ∧ (List.range yy1.1).all (varAt q.variableCount e27.vars) = true) (fun yy1 => e27.vars.length - yy1.1) (fun yy1 => .br (.elem _ intD e27.vars (fun e46 => .call (vB (inB e46 (0 : Int) (q.variableCount - (1 : Int)))) [] <| .br (.fin []) (.sub Int intD e27.vars <| .call (vB (decide (e46 ∈ (e27.vars.take yy1.1)))) [] <| .lit <| .br (.fin []) (.len yy1.2.length <| .set Bool boolD yy1.2 (fun s14_3 => true) (fun s14_3 => .back [(2100, 2100)]))))) (.back [(2100, 2100)])))))) (.call (vB (decide (false ∈ yy0.2))) [] <| .fin []))))) ?_
 refine Eq.mpr (by kernel_rfl : _ = ((q.atoms.map eAtom).length ≤ 9223372036854775807 → K_in_impl q.variableCount (1 : Int) (4 : Int) ∧ (((!(inB q.variableCount (1 : Int) (4 : Int))) = true → (false) = (okQuery q) ∧ True) ∧ ((!(inB q.variableCount (1 : Int) (4 : Int))) = false → Lm eAtom q.atoms ∧ (K_in_impl ((q.atoms.length : Nat) : Int) (1 : Int) (4 : Int) ∧ (((!(inB ((q.atoms.length : Nat) : Int) (1 : Int) (4 : Int))) = true → (false) = (okQuery q) ∧ True) ∧ ((!(inB ((q.atoms.length : Nat) : Int) (1 : Int) (4 : Int))) = false → q.variableCount = (((q.variableCount).toNat : Nat) : Int) ∧ q.variableCount = (((q.variableCount).toNat : Nat) : Int) ∧ 1 * ((q.variableCount).toNat) ≤ 281474976710656 ∧ ((q.variableCount).toNat) ≤ 9223372036854775807 ∧ List.replicate ((q.variableCount).toNat) [.bool false] = (List.replicate ((q.variableCount).toNat) false).map boolD ∧ (Lm eAtom q.atoms ∧ ((∃ (k : Nat) (sn : List Bool), (0 : Int) = (k : Int) ∧ (List.replicate ((q.variableCount).toNat) false).map boolD = sn.map boolD ∧ k ≤ q.atoms.length ∧ sn = (List.range q.variableCount.toNat).map (seenP q.atoms k [] 0) ∧ (q.atoms.take k).all (atomOk q.variableCount) = true) ∧ ∀ (k : Nat) (sn : List Bool), (k ≤ q.atoms.length ∧ sn = (List.range q.variableCount.toNat).map (seenP q.atoms k [] 0) ∧ (q.atoms.take k).all (atomOk q.variableCount) = true) → ((decide ((k : Int) < ((q.atoms.length : Nat) : Int))) = true → 0 ≤ (k : Int) ∧ Em eAtom q.atoms k fun e27 => K_name_impl e27.name ∧ (((!(okName e27.name)) = true → (false) = (okQuery q) ∧ True) ∧ ((!(okName e27.name)) = false → Lm intD e27.vars ∧ (K_in_impl ((e27.vars.length : Nat) : Int) (1 : Int) (3 : Int) ∧ (((!(inB ((e27.vars.length : Nat) : Int) (1 : Int) (3 : Int))) = true → (false) = (okQuery q) ∧ True) ∧ ((!(inB ((e27.vars.length : Nat) : Int) (1 : Int) (3 : Int))) = false → Lm intD e27.vars ∧ ((∃ (i : Nat) (sm : List Bool), (0 : Int) = (i : Int) ∧ sn.map boolD = sm.map boolD ∧ i ≤ e27.vars.length ∧ sm = (List.range q.variableCount.toNat).map (seenP q.atoms k e27.vars i) ∧ (List.range i).all (varAt q.variableCount e27.vars) = true) ∧ ∀ (i : Nat) (sm : List Bool), (i ≤ e27.vars.length ∧ sm = (List.range q.variableCount.toNat).map (seenP q.atoms k e27.vars i) ∧ (List.range i).all (varAt q.variableCount e27.vars) = true) → ((decide ((i : Int) < ((e27.vars.length : Nat) : Int))) = true → 0 ≤ (i : Int) ∧ Em intD e27.vars i fun e46 => inR (q.variableCount - (1 : Int)) ∧ (K_in_impl e46 (0 : Int) (q.variableCount - (1 : Int)) ∧ (((!(inB e46 (0 : Int) (q.variableCount - (1 : Int)))) = true → (false) = (okQuery q) ∧ True) ∧ ((!(inB e46 (0 : Int) (q.variableCount - (1 : Int)))) = false → e27.vars.map intD = e27.vars.map intD ∧ 0 ≤ (i : Int) ∧ (i : Int) ≤ ((e27.vars.length : Nat) : Int) ∧ (K_ctI (e27.vars.take i) e46 ∧ (((decide (e46 ∈ (e27.vars.take i))) = true → (false) = (okQuery q) ∧ True) ∧ ((decide (e46 ∈ (e27.vars.take i))) = false → 0 ≤ e46 ∧ Lm boolD sm ∧ e46 < ((sm.length : Nat) : Int) ∧ (sm.map boolD = sm.map boolD ∧ (e46).toNat < sm.length ∧ ∀ s14_3, sm[(e46).toNat]? = some s14_3 → flatB (boolD s14_3) = true ∧ 0 + 1 ≤ (boolD s14_3).length ∧ (boolD s14_3).take 0 ++ [.bool true] ++ (boolD s14_3).drop (0 + 1) = boolD true ∧ inR ((i : Int) + (1 : Int)) ∧ ∃ (i' : Nat) (sm' : List Bool), ((i : Int) + (1 : Int)) = (i' : Int) ∧ (sm.set ((e46).toNat) true).map boolD = sm'.map boolD ∧ (i' ≤ e27.vars.length ∧ sm' = (List.range q.variableCount.toNat).map (seenP q.atoms k e27.vars i') ∧ (List.range i').all (varAt q.variableCount e27.vars) = true) ∧ e27.vars.length - i' < e27.vars.length - i)))))))) ∧ ((decide ((i : Int) < ((e27.vars.length : Nat) : Int))) = false → inR ((k : Int) + (1 : Int)) ∧ ∃ (k' : Nat) (sn' : List Bool), ((k : Int) + (1 : Int)) = (k' : Int) ∧ sm.map boolD = sn'.map boolD ∧ (k' ≤ q.atoms.length ∧ sn' = (List.range q.variableCount.toNat).map (seenP q.atoms k' [] 0) ∧ (q.atoms.take k').all (atomOk q.variableCount) = true) ∧ q.atoms.length - k' < q.atoms.length - k)))))))) ∧ ((decide ((k : Int) < ((q.atoms.length : Nat) : Int))) = false → K_ctB sn false ∧ (!(decide (false ∈ sn))) = (okQuery q) ∧ True)))))))))) ?_
 intro n0
 simp only [List.length_map] at n0
 refine ⟨in_impl _ _ _, fun g12 => ?_, fun g12 => ?_⟩
 ·replace g12 := nt g12
  have hbad : (inB q.variableCount 1 4 && inB (q.atoms.length : Nat) 1 4) = false := by first | (rw [g12]; rfl) | (rw [g12, c0]; rfl)
  refine ⟨?_, trivial⟩
  ·first | (exact (okQ_no hbad).symm) | (exact (okQ_stop h27 hA).symm) | (rw [okQ_yes hpar hall, hs, seenP_end (by omega), seen_all])
 ·replace g12 := nf g12
  refine ⟨List.length_map _, in_impl _ _ _, fun c0 => ?_, fun c0 => ?_⟩
  ·replace c0 := nt c0
   have hbad : (inB q.variableCount 1 4 && inB (q.atoms.length : Nat) 1 4) = false := by first | (rw [g12]; rfl) | (rw [g12, c0]; rfl)
   refine ⟨?_, trivial⟩
   ·first | (exact (okQ_no hbad).symm) | (exact (okQ_stop h27 hA).symm) | (rw [okQ_yes hpar hall, hs, seenP_end (by omega), seen_all])
  ·replace c0 := nf c0
   have hpar : (inB q.variableCount 1 4 && inB (q.atoms.length : Nat) 1 4) = true := by rw [g12, c0]; rfl
   have hn := inB_true g12
   refine ⟨by omega, by omega, by omega, by omega, by first | (rw [List.map_replicate]; done) | (rw [List.map_replicate]; rfl), List.length_map _, ⟨0, List.replicate ((q.variableCount).toNat) false, rfl, rfl, Nat.zero_le _, seen_nil _ _ _, rfl⟩, fun k sn ⟨hk, hs, ha⟩ => ?_⟩
   refine ⟨fun c1 => ?_, fun c1 => ?_⟩
   ·replace c1 := yq c1
    refine ⟨by omega, rfl, by omega, fun e27 h27 => ?_⟩
    refine ⟨name_impl _, fun g33 => ?_, fun g33 => ?_⟩
    ·replace g33 := nt g33
     have hA : atomOk q.variableCount e27 = false := by first | (rw [atomOk, g33]; rfl) | (rw [atomOk, g33, c2]; rfl)
     refine ⟨?_, trivial⟩
     ·first | (exact (okQ_no hbad).symm) | (exact (okQ_stop h27 hA).symm) | (rw [okQ_yes hpar hall, hs, seenP_end (by omega), seen_all])
    ·replace g33 := nf g33
     refine ⟨List.length_map _, in_impl _ _ _, fun c2 => ?_, fun c2 => ?_⟩
     ·replace c2 := nt c2
      have hA : atomOk q.variableCount e27 = false := by first | (rw [atomOk, g33]; rfl) | (rw [atomOk, g33, c2]; rfl)
      refine ⟨?_, trivial⟩
      ·first | (exact (okQ_no hbad).symm) | (exact (okQ_stop h27 hA).symm) | (rw [okQ_yes hpar hall, hs, seenP_end (by omega), seen_all])
     ·replace c2 := nf c2
      have w9 := inB_true c2
      refine ⟨List.length_map _, ⟨0, sn, rfl, rfl, Nat.zero_le _, by rw [hs, seenP_zero], rfl⟩, fun i sm ⟨hi, hm, hv⟩ => ?_⟩
      have hml : sm.length = q.variableCount.toNat := by rw [hm]; simp
      refine ⟨fun c3 => ?_, fun c3 => ?_⟩
      ·replace c3 := yq c3
       refine ⟨by omega, rfl, by omega, fun e46 h46 => ?_⟩
       have hx := List.mem_of_getElem? h46
       refine ⟨by first | exact w1 | exact ⟨by omega, by omega⟩, in_impl _ _ _, fun g54 => ?_, fun g54 => ?_⟩
       ·replace g54 := nt g54
        have hp : varAt q.variableCount e27.vars i = false := by first | (rw [varAt, getD_at h46, g54]; rfl) | (rw [varAt, getD_at h46, g54, c4]; rfl)
        have hA : atomOk q.variableCount e27 = false := by rw [atomOk, varsOk, range_stop (by omega) hp]; simp
        refine ⟨?_, trivial⟩
        ·first | (exact (okQ_no hbad).symm) | (exact (okQ_stop h27 hA).symm) | (rw [okQ_yes hpar hall, hs, seenP_end (by omega), seen_all])
       ·replace g54 := nf g54
        refine ⟨rfl, by omega, by omega, ctI _ _, fun c4 => ?_, fun c4 => ?_⟩
        ·have hp : varAt q.variableCount e27.vars i = false := by first | (rw [varAt, getD_at h46, g54]; rfl) | (rw [varAt, getD_at h46, g54, c4]; rfl)
         have hA : atomOk q.variableCount e27 = false := by rw [atomOk, varsOk, range_stop (by omega) hp]; simp
         refine ⟨?_, trivial⟩
         ·first | (exact (okQ_no hbad).symm) | (exact (okQ_stop h27 hA).symm) | (rw [okQ_yes hpar hall, hs, seenP_end (by omega), seen_all])
        ·have hp : varAt q.variableCount e27.vars i = true := by rw [varAt, getD_at h46, g54, c4]; rfl
         have hb := inB_true g54
         refine ⟨by omega, List.length_map _, by omega, rfl, by omega, fun s14_3 hs14_3 => ⟨rfl, Nat.le_of_ble_eq_true rfl, rfl, ?_⟩⟩
         refine ⟨by first | exact w1 | exact ⟨by omega, by omega⟩, ?_⟩
         exact ⟨i + 1, _, rfl, rfl, ⟨by omega, by rw [hm, seen_set, seenP_step h46 (by omega)], range_snoc hv hp⟩, by omega⟩
      ·replace c3 := nq c3
       have hA : atomOk q.variableCount e27 = true := by rw [atomOk, g33, c2, varsOk, show e27.vars.length = i by omega, hv]; rfl
       refine ⟨by first | exact w1 | exact ⟨by omega, by omega⟩, ?_⟩
       exact ⟨k + 1, _, rfl, rfl, ⟨by omega, by rw [hm, seenP_next h27 (by omega) []], all_snoc h27 ha hA⟩, by omega⟩
   ·replace c1 := nq c1
    have hall := all_done (by omega) ha
    refine ⟨ctB _ _, ?_, trivial⟩
    ·first | (exact (okQ_no hbad).symm) | (exact (okQ_stop h27 hA).symm) | (rw [okQ_yes hpar hall, hs, seenP_end (by omega), seen_all])
abbrev K_okQ_spec (q : QueryD) : Prop := Con Tryz.prog 169 [.agg [.int .i64 q.variableCount, .sl 131 2 (q.atoms.map eAtom)]] (vB (okQuery q)) []
theorem okQ_spec (q : QueryD) : K_okQ_spec q := by
 refine con_x tbOk mixedW Tryz.func169 (by kernel_rfl) (.call (vB (inB q.variableCount (1 : Int) (4 : Int))) [] <| .br (.fin []) (.len q.atoms.length <| .call (vB (inB ((q.atoms.length : Nat) : Int) (1 : Int) (4 : Int))) [] <| .lit <| .lit <| .br (.fin []) (.loop (Nat × Int) (Q2 Nat Int) [3, 4, 5, 6, 18, 19, 20, 21, 22, 23, 24, 25, 26, 27, 28, 29, 30, 31, 32, 33, 34, 35, 36, 37, 38, 39, 40, 41, 42, 43, 44, 45, 46, 47, 48, 49, 50, 51, 52, 53, 54, 55, 56, 57, 58, 59, 60, 61, 62, 63, 64, 65, 66, 67, 68, 69, 70, 71, 72, 73, 74, 75, 76, 77] [500] (fun yy0 => [(4, vI (yy0.1 : Int)), (3, vI yy0.2)]) (fun yy0 => []) (fun yy0 => yy0.1 ≤ q.atoms.length ∧ yy0.2 = m4 (seenP q.atoms yy0.1 [] 0) ∧ (q.atoms.take yy0.1).all (atomOk q.variableCount) = true) (fun yy0 => q.atoms.length - yy0.1) (fun yy0 => .len q.atoms.length <| .br (.elem _ eAtom q.atoms (fun e28 => .call (vB (okName e28.name)) [] <| .br (.fin []) (.len e28.vars.length <| .call (vB (inB ((e28.vars.length : Nat) : Int) (1 : Int) (3 : Int))) [] <| .lit <| .lit <| .br (.fin []) (.loop (Nat × Int) (Q2 Nat Int) [3, 6, 41, 42, 43, 44, 45, 46, 47, 48, 49, 50, 51, 52, 53, 54, 55, 56, 57, 58, 59, 60, 61, 62, 63, 64, 65, 66, 67, 68, 69, 70, 71, 72, 73, 74, 75, 76, 77] [] (fun yy1 => [(6, vI (yy1.1 : Int)), (3, vI yy1.2)]) (fun yy1 => []) (fun yy1 => yy1.1 ≤ e28.vars.length ∧ yy1.2 = m4 (seenP q.atoms yy0.1 e28.vars yy1.1) ∧ (List.range yy1.1).all (varAt q.variableCount e28.vars) = true) (fun yy1 => e28.vars.length - yy1.1) (fun yy1 => .len e28.vars.length <| .br (.elem _ intD e28.vars (fun e51 => .call (vB (inB e51 (0 : Int) (q.variableCount - (1 : Int)))) [] <| .br (.fin []) (.sub Int intD e28.vars <| .elem _ intD e28.vars (fun e66 => .call (vB (decide (e66 ∈ (e28.vars.take yy1.1)))) [] <| .lit <| .br (.fin []) (.elem _ intD e28.vars (fun e74 => .back [])))))) (.back [])))))) (.fin []))))) ?_
 refine Eq.mpr (by kernel_rfl : _ = ((q.atoms.map eAtom).length ≤ 9223372036854775807 → K_in_spec q.variableCount (1 : Int) (4 : Int) ∧ (((!(inB q.variableCount (1 : Int) (4 : Int))) = true → (false) = (okQuery q) ∧ True) ∧ ((!(inB q.variableCount (1 : Int) (4 : Int))) = false → Lm eAtom q.atoms ∧ (K_in_spec ((q.atoms.length : Nat) : Int) (1 : Int) (4 : Int) ∧ (((!(inB ((q.atoms.length : Nat) : Int) (1 : Int) (4 : Int))) = true → (false) = (okQuery q) ∧ True) ∧ ((!(inB ((q.atoms.length : Nat) : Int) (1 : Int) (4 : Int))) = false → (∃ (k : Nat) (o : Int), (0 : Int) = (k : Int) ∧ (0 : Int) = o ∧ k ≤ q.atoms.length ∧ o = m4 (seenP q.atoms k [] 0) ∧ (q.atoms.take k).all (atomOk q.variableCount) = true) ∧ ∀ (k : Nat) (o : Int), (k ≤ q.atoms.length ∧ o = m4 (seenP q.atoms k [] 0) ∧ (q.atoms.take k).all (atomOk q.variableCount) = true) → Lm eAtom q.atoms ∧ (((decide ((k : Int) < ((q.atoms.length : Nat) : Int))) = true → 0 ≤ (k : Int) ∧ Em eAtom q.atoms k fun e28 => K_name_spec e28.name ∧ (((!(okName e28.name)) = true → (false) = (okQuery q) ∧ True) ∧ ((!(okName e28.name)) = false → Lm intD e28.vars ∧ (K_in_spec ((e28.vars.length : Nat) : Int) (1 : Int) (3 : Int) ∧ (((!(inB ((e28.vars.length : Nat) : Int) (1 : Int) (3 : Int))) = true → (false) = (okQuery q) ∧ True) ∧ ((!(inB ((e28.vars.length : Nat) : Int) (1 : Int) (3 : Int))) = false → (∃ (i : Nat) (p : Int), (0 : Int) = (i : Int) ∧ o = p ∧ i ≤ e28.vars.length ∧ p = m4 (seenP q.atoms k e28.vars i) ∧ (List.range i).all (varAt q.variableCount e28.vars) = true) ∧ ∀ (i : Nat) (p : Int), (i ≤ e28.vars.length ∧ p = m4 (seenP q.atoms k e28.vars i) ∧ (List.range i).all (varAt q.variableCount e28.vars) = true) → Lm intD e28.vars ∧ (((decide ((i : Int) < ((e28.vars.length : Nat) : Int))) = true → 0 ≤ (i : Int) ∧ Em intD e28.vars i fun e51 => inR (q.variableCount - (1 : Int)) ∧ (K_in_spec e51 (0 : Int) (q.variableCount - (1 : Int)) ∧ (((!(inB e51 (0 : Int) (q.variableCount - (1 : Int)))) = true → (false) = (okQuery q) ∧ True) ∧ ((!(inB e51 (0 : Int) (q.variableCount - (1 : Int)))) = false → e28.vars.map intD = e28.vars.map intD ∧ 0 ≤ (i : Int) ∧ (i : Int) ≤ ((e28.vars.length : Nat) : Int) ∧ (0 ≤ (i : Int) ∧ Em intD e28.vars i fun e66 => K_hsI (e28.vars.take i) e66 ∧ (((decide (e66 ∈ (e28.vars.take i))) = true → (false) = (okQuery q) ∧ True) ∧ ((decide (e66 ∈ (e28.vars.take i))) = false → 0 ≤ (i : Int) ∧ Em intD e28.vars i fun e74 => (0 ≤ e74 ∧ e74 ≤ 64) ∧ inR ((1 : Int) * 2 ^ (Int.toNat e74)) ∧ inR ((i : Int) + (1 : Int)) ∧ ∃ (i' : Nat) (p' : Int), ((i : Int) + (1 : Int)) = (i' : Int) ∧ (bitI .or .i64 p ((1 : Int) * 2 ^ (Int.toNat e74))) = p' ∧ (i' ≤ e28.vars.length ∧ p' = m4 (seenP q.atoms k e28.vars i') ∧ (List.range i').all (varAt q.variableCount e28.vars) = true) ∧ e28.vars.length - i' < e28.vars.length - i))))))) ∧ ((decide ((i : Int) < ((e28.vars.length : Nat) : Int))) = false → inR ((k : Int) + (1 : Int)) ∧ ∃ (k' : Nat) (o' : Int), ((k : Int) + (1 : Int)) = (k' : Int) ∧ p = o' ∧ (k' ≤ q.atoms.length ∧ o' = m4 (seenP q.atoms k' [] 0) ∧ (q.atoms.take k').all (atomOk q.variableCount) = true) ∧ q.atoms.length - k' < q.atoms.length - k)))))))) ∧ ((decide ((k : Int) < ((q.atoms.length : Nat) : Int))) = false → (0 ≤ q.variableCount ∧ q.variableCount ≤ 64) ∧ inR ((1 : Int) * 2 ^ (Int.toNat q.variableCount)) ∧ inR (((1 : Int) * 2 ^ (Int.toNat q.variableCount)) - (1 : Int)) ∧ (decide (o = (((1 : Int) * 2 ^ (Int.toNat q.variableCount)) - (1 : Int)))) = (okQuery q) ∧ True))))))))) ?_
 intro n0
 simp only [List.length_map] at n0
 refine ⟨in_spec _ _ _, fun g11 => ?_, fun g11 => ?_⟩
 ·replace g11 := nt g11
  have hbad : (inB q.variableCount 1 4 && inB (q.atoms.length : Nat) 1 4) = false := by first | (rw [g11]; rfl) | (rw [g11, c0]; rfl)
  refine ⟨?_, trivial⟩
  ·first | (exact (okQ_no hbad).symm) | (exact (okQ_stop h28 hA).symm) | (rw [okQ_yes hpar hall, hs, seenP_end (by omega)]; exact m4_full hn fun v hv => hasV_out hall hn.1 hv)
 ·replace g11 := nf g11
  refine ⟨List.length_map _, in_spec _ _ _, fun c0 => ?_, fun c0 => ?_⟩
  ·replace c0 := nt c0
   have hbad : (inB q.variableCount 1 4 && inB (q.atoms.length : Nat) 1 4) = false := by first | (rw [g11]; rfl) | (rw [g11, c0]; rfl)
   refine ⟨?_, trivial⟩
   ·first | (exact (okQ_no hbad).symm) | (exact (okQ_stop h28 hA).symm) | (rw [okQ_yes hpar hall, hs, seenP_end (by omega)]; exact m4_full hn fun v hv => hasV_out hall hn.1 hv)
  ·replace c0 := nf c0
   have hpar : (inB q.variableCount 1 4 && inB (q.atoms.length : Nat) 1 4) = true := by rw [g11, c0]; rfl
   have hn := inB_true g11
   refine ⟨⟨0, (0 : Int), rfl, rfl, Nat.zero_le _, m4_nil _ _, rfl⟩, fun k o ⟨hk, hs, ha⟩ => ?_⟩
   refine ⟨List.length_map _, fun c1 => ?_, fun c1 => ?_⟩
   ·replace c1 := yq c1
    refine ⟨by omega, rfl, by omega, fun e28 h28 => ?_⟩
    refine ⟨name_spec _, fun g34 => ?_, fun g34 => ?_⟩
    ·replace g34 := nt g34
     have hA : atomOk q.variableCount e28 = false := by first | (rw [atomOk, g34]; rfl) | (rw [atomOk, g34, c2]; rfl)
     refine ⟨?_, trivial⟩
     ·first | (exact (okQ_no hbad).symm) | (exact (okQ_stop h28 hA).symm) | (rw [okQ_yes hpar hall, hs, seenP_end (by omega)]; exact m4_full hn fun v hv => hasV_out hall hn.1 hv)
    ·replace g34 := nf g34
     refine ⟨List.length_map _, in_spec _ _ _, fun c2 => ?_, fun c2 => ?_⟩
     ·replace c2 := nt c2
      have hA : atomOk q.variableCount e28 = false := by first | (rw [atomOk, g34]; rfl) | (rw [atomOk, g34, c2]; rfl)
      refine ⟨?_, trivial⟩
      ·first | (exact (okQ_no hbad).symm) | (exact (okQ_stop h28 hA).symm) | (rw [okQ_yes hpar hall, hs, seenP_end (by omega)]; exact m4_full hn fun v hv => hasV_out hall hn.1 hv)
     ·replace c2 := nf c2
      have w9 := inB_true c2
      refine ⟨⟨0, o, rfl, rfl, Nat.zero_le _, by rw [hs, seenP_zero], rfl⟩, fun i p ⟨hi, hm, hv⟩ => ?_⟩
      refine ⟨List.length_map _, fun c3 => ?_, fun c3 => ?_⟩
      ·replace c3 := yq c3
       refine ⟨by omega, rfl, by omega, fun e51 h51 => ?_⟩
       have hx := List.mem_of_getElem? h51
       refine ⟨by first | exact w1 | exact ⟨by omega, by omega⟩, in_spec _ _ _, fun g58 => ?_, fun g58 => ?_⟩
       ·replace g58 := nt g58
        have hp : varAt q.variableCount e28.vars i = false := by first | (rw [varAt, getD_at h51, g58]; rfl) | (rw [varAt, getD_at h51, g58, c4]; rfl)
        have hA : atomOk q.variableCount e28 = false := by rw [atomOk, varsOk, range_stop (by omega) hp]; simp
        refine ⟨?_, trivial⟩
        ·first | (exact (okQ_no hbad).symm) | (exact (okQ_stop h28 hA).symm) | (rw [okQ_yes hpar hall, hs, seenP_end (by omega)]; exact m4_full hn fun v hv => hasV_out hall hn.1 hv)
       ·replace g58 := nf g58
        refine ⟨rfl, by omega, by omega, by omega, rfl, by omega, fun e66 h66 => ?_⟩
        obtain rfl := (same_at h51 h66).symm
        refine ⟨hsI _ _, fun c4 => ?_, fun c4 => ?_⟩
        ·have hp : varAt q.variableCount e28.vars i = false := by first | (rw [varAt, getD_at h51, g58]; rfl) | (rw [varAt, getD_at h51, g58, c4]; rfl)
         have hA : atomOk q.variableCount e28 = false := by rw [atomOk, varsOk, range_stop (by omega) hp]; simp
         refine ⟨?_, trivial⟩
         ·first | (exact (okQ_no hbad).symm) | (exact (okQ_stop h28 hA).symm) | (rw [okQ_yes hpar hall, hs, seenP_end (by omega)]; exact m4_full hn fun v hv => hasV_out hall hn.1 hv)
        ·have hp : varAt q.variableCount e28.vars i = true := by rw [varAt, getD_at h51, g58, c4]; rfl
         have hb := inB_true g58
         obtain ⟨w1, w2, w3⟩ := two_in (x := e51) (inB_mk (by omega) (by omega))
         refine ⟨by omega, rfl, by omega, fun e74 h74 => ?_⟩
         obtain rfl := (same_at h51 h74).symm
         refine ⟨⟨by omega, by omega⟩, by first | exact w1 | exact ⟨by omega, by omega⟩, by first | exact w1 | exact ⟨by omega, by omega⟩, ?_⟩
         exact ⟨i + 1, _, rfl, rfl, ⟨by omega, by rw [hm, m4_or (by omega), seenP_step h51 (by omega)], range_snoc hv hp⟩, by omega⟩
      ·replace c3 := nq c3
       have hA : atomOk q.variableCount e28 = true := by rw [atomOk, g34, c2, varsOk, show e28.vars.length = i by omega, hv]; rfl
       refine ⟨by first | exact w1 | exact ⟨by omega, by omega⟩, ?_⟩
       exact ⟨k + 1, _, rfl, rfl, ⟨by omega, by rw [hm, seenP_next h28 (by omega) []], all_snoc h28 ha hA⟩, by omega⟩
   ·replace c1 := nq c1
    have hall := all_done (by omega) ha
    obtain ⟨w1, w2, w3⟩ := two_in (x := q.variableCount - 1) (inB_mk (by omega) (by omega))
    have w4 := full_small (n := q.variableCount.toNat) ⟨by omega, by omega⟩
    refine ⟨⟨by omega, by omega⟩, by first | exact w1 | exact ⟨by omega, by omega⟩, by first | exact w1 | exact ⟨by omega, by omega⟩, ?_, trivial⟩
    ·first | (exact (okQ_no hbad).symm) | (exact (okQ_stop h28 hA).symm) | (rw [okQ_yes hpar hall, hs, seenP_end (by omega)]; exact m4_full hn fun v hv => hasV_out hall hn.1 hv)
end Go.Proofs.YtokkjaflmcjlhaaGreat
