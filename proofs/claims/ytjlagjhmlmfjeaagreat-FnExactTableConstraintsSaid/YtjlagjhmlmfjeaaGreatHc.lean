/-
  Valid statistics, the reference's side.
-/
import Derived.Test.YtjlagjhmlmfjeaaGreatHb
import Derived.Test.YtjlagjhmlmfjeaaGreatGj
namespace Go.Proofs.YtjlagjhmlmfjeaaGreat
open Go.ChangeShapes Go.WideShapes Go.ChangeAt Go.RowKit
set_option linter.unusedVariables false
set_option linter.unusedSimpArgs false
set_option maxRecDepth 100000 in
set_option maxHeartbeats 4000000 in
theorem newT_spec (name : ByteArray) (arity : Int) (rows : List (List Int)) (hc : cIntSS rows ≤ 1048576) : Con Tryz.prog 119 [.one (.str name), .one (.int .i64 arity), .one (.sl 25 1 (rows.map eIntS))] (.tup [.agg [.p none (.str (((newT name arity rows).1).name)), vI (((newT name arity rows).1).arity), .own 0], vB ((newT name arity rows).2)]) [(0, .arr 25 1 true ((((newT name arity rows).1).rows).map eIntS))] := by
  refine con_x tbOk mixedW Tryz.func119 (by kernel_rfl) (.loop (Nat × (List (List Int))) (Q2 Nat (List (List Int))) [9, 13, 14, 15, 16, 17, 18, 19, 20, 21, 22, 23, 24, 25, 26, 27, 28, 29, 30, 31, 32] [800, 3100, 9000] (fun yy0 => [(9, vI (yy0.1 : Int))]) (fun yy0 => [(800, some (.box 107 [.p none (.str name), vI arity, .own 9000])), (9000, some (.arr 25 1 true (yy0.2.map eIntS)))]) (fun yy0 => yy0.1 ≤ rows.length ∧ yy0.2 = foldPut (rows.take yy0.1)) (fun yy0 => rows.length - yy0.1) (fun yy0 => .len rows.length <| .br (.len yy0.2.length <| .lit <| .lit <| .br (.elem (List Int) eIntS rows (fun e29 => .call (.own 0) [(0, .arr 25 1 true ((putR e29 yy0.2).map eIntS))] <| .back [(800, 800), (9000, 3100)])) (.call (vB (okTable (⟨name, arity, yy0.2⟩ : TableD))) [] <| .br (.fin []) (.fin [(0, 9000)]))) (.call (vB (okTable (⟨name, arity, yy0.2⟩ : TableD))) [] <| .br (.fin []) (.fin [(0, 9000)])))) ?_
  refine Eq.mpr (by kernel_rfl : _ = ((rows.map eIntS).length ≤ 9223372036854775807 → (∃ (k : Nat) (acc : List (List Int)), (0 : Int) = (k : Int) ∧ name = name ∧ arity = arity ∧ [] = acc.map eIntS ∧ k ≤ rows.length ∧ acc = foldPut (rows.take k)) ∧ ∀ (k : Nat) (acc : List (List Int)), (k ≤ rows.length ∧ acc = foldPut (rows.take k)) → (rows.map eIntS).length = rows.length ∧ (((decide ((k : Int) < ((rows.length : Nat) : Int))) = true → (acc.map eIntS).length = acc.length ∧ (((decide (((acc.length : Nat) : Int) ≤ (8 : Int))) = true → 0 ≤ (k : Int) ∧ (rows.map eIntS = rows.map eIntS ∧ k < rows.length ∧ ∀ e29, rows[k]? = some e29 → Con Tryz.prog 125 [.one (.sl 25 1 (acc.map eIntS)), .one (.sl 3 1 (e29.map intD))] (.own 0) [(0, .arr 25 1 true ((putR e29 acc).map eIntS))] ∧ inR ((k : Int) + (1 : Int)) ∧ ∃ (k' : Nat) (acc' : List (List Int)), ((k : Int) + (1 : Int)) = (k' : Int) ∧ name = name ∧ arity = arity ∧ (putR e29 acc).map eIntS = acc'.map eIntS ∧ (k' ≤ rows.length ∧ acc' = foldPut (rows.take k')) ∧ rows.length - k' < rows.length - k)) ∧ ((decide (((acc.length : Nat) : Int) ≤ (8 : Int))) = false → Con Tryz.prog 122 [.agg [.str name, .int .i64 arity, .sl 25 1 (acc.map eIntS)]] (vB (okTable (⟨name, arity, acc⟩ : TableD))) [] ∧ (((!(okTable (⟨name, arity, acc⟩ : TableD))) = true → ByteArray.empty = (((newT name arity rows).1).name) ∧ (0 : Int) = (((newT name arity rows).1).arity) ∧ (false) = ((newT name arity rows).2) ∧ [] = (((newT name arity rows).1).rows).map eIntS ∧ True) ∧ ((!(okTable (⟨name, arity, acc⟩ : TableD))) = false → name = (((newT name arity rows).1).name) ∧ arity = (((newT name arity rows).1).arity) ∧ (true) = ((newT name arity rows).2) ∧ acc.map eIntS = (((newT name arity rows).1).rows).map eIntS ∧ True))))) ∧ ((decide ((k : Int) < ((rows.length : Nat) : Int))) = false → Con Tryz.prog 122 [.agg [.str name, .int .i64 arity, .sl 25 1 (acc.map eIntS)]] (vB (okTable (⟨name, arity, acc⟩ : TableD))) [] ∧ (((!(okTable (⟨name, arity, acc⟩ : TableD))) = true → ByteArray.empty = (((newT name arity rows).1).name) ∧ (0 : Int) = (((newT name arity rows).1).arity) ∧ (false) = ((newT name arity rows).2) ∧ [] = (((newT name arity rows).1).rows).map eIntS ∧ True) ∧ ((!(okTable (⟨name, arity, acc⟩ : TableD))) = false → name = (((newT name arity rows).1).name) ∧ arity = (((newT name arity rows).1).arity) ∧ (true) = ((newT name arity rows).2) ∧ acc.map eIntS = (((newT name arity rows).1).rows).map eIntS ∧ True)))))) ?_
  intro n0
  simp only [List.length_map] at n0
  have hlen := cIntSS_len rows
  refine ⟨⟨0, ([] : List (List Int)), rfl, rfl, rfl, rfl, Nat.zero_le _, rfl⟩, fun k acc ⟨hk, ha⟩ => ?_⟩
  refine ⟨List.length_map _, ?_⟩
  refine ⟨fun g17 => ?_, fun g17 => ?_⟩
  · replace g17 := of_decide_eq_true g17
    refine ⟨List.length_map _, ?_⟩
    refine ⟨fun c0 => ?_, fun c0 => ?_⟩
    · replace c0 := of_decide_eq_true c0
      have hp := foldPut_cnt rows k
      rw [← ha] at hp
      refine ⟨by omega, ?_⟩
      refine ⟨rfl, by omega, fun e29 h29 => ?_⟩
      have hp3 := cIntSS_at h29
      refine ⟨put_spec acc e29 (by omega) (by omega) (by omega), ?_⟩
      refine ⟨⟨by omega, by omega⟩, ?_⟩
      exact ⟨k + 1, _, rfl, rfl, rfl, rfl, ⟨by omega, by rw [ha, take_snoc h29, foldPut_snoc]⟩, by omega⟩
    · replace c0 := of_decide_eq_false c0
      have hend := newT_end (name := name) (arity := arity) ha (by omega)
      refine ⟨tab_spec (⟨name, arity, acc⟩ : TableD), ?_⟩
      refine ⟨fun c1 => ?_, fun c1 => ?_⟩
      · replace c1 := nt c1
        have hbad : okTable ⟨name, arity, foldPut rows⟩ = false := by rw [← hend.1]; simpa using c1
        refine ⟨?_, ?_, ?_, ?_, trivial⟩
        · first | (rw [newT_no hbad] <;> rfl) | (rw [newT_yes hok] <;> rfl) | (rw [newT_yes hok]; exact congrArg (List.map eIntS) hacc)
        · first | (rw [newT_no hbad] <;> rfl) | (rw [newT_yes hok] <;> rfl) | (rw [newT_yes hok]; exact congrArg (List.map eIntS) hacc)
        · first | (rw [newT_no hbad] <;> rfl) | (rw [newT_yes hok] <;> rfl) | (rw [newT_yes hok]; exact congrArg (List.map eIntS) hacc)
        · first | (rw [newT_no hbad] <;> rfl) | (rw [newT_yes hok] <;> rfl) | (rw [newT_yes hok]; exact congrArg (List.map eIntS) hacc)
      · replace c1 := nf c1
        have hok0 : okTable ⟨name, arity, acc⟩ = true := by simpa using c1
        have hok : okTable ⟨name, arity, foldPut rows⟩ = true := by rw [← hend.1]; exact hok0
        have hacc := hend.2 hok0
        refine ⟨?_, ?_, ?_, ?_, trivial⟩
        · first | (rw [newT_no hbad] <;> rfl) | (rw [newT_yes hok] <;> rfl) | (rw [newT_yes hok]; exact congrArg (List.map eIntS) hacc)
        · first | (rw [newT_no hbad] <;> rfl) | (rw [newT_yes hok] <;> rfl) | (rw [newT_yes hok]; exact congrArg (List.map eIntS) hacc)
        · first | (rw [newT_no hbad] <;> rfl) | (rw [newT_yes hok] <;> rfl) | (rw [newT_yes hok]; exact congrArg (List.map eIntS) hacc)
        · first | (rw [newT_no hbad] <;> rfl) | (rw [newT_yes hok] <;> rfl) | (rw [newT_yes hok]; exact congrArg (List.map eIntS) hacc)
  · replace g17 := of_decide_eq_false g17
    have hend := newT_end (name := name) (arity := arity) ha (by omega)
    refine ⟨tab_spec (⟨name, arity, acc⟩ : TableD), ?_⟩
    refine ⟨fun c1 => ?_, fun c1 => ?_⟩
    · replace c1 := nt c1
      have hbad : okTable ⟨name, arity, foldPut rows⟩ = false := by rw [← hend.1]; simpa using c1
      refine ⟨?_, ?_, ?_, ?_, trivial⟩
      · first | (rw [newT_no hbad] <;> rfl) | (rw [newT_yes hok] <;> rfl) | (rw [newT_yes hok]; exact congrArg (List.map eIntS) hacc)
      · first | (rw [newT_no hbad] <;> rfl) | (rw [newT_yes hok] <;> rfl) | (rw [newT_yes hok]; exact congrArg (List.map eIntS) hacc)
      · first | (rw [newT_no hbad] <;> rfl) | (rw [newT_yes hok] <;> rfl) | (rw [newT_yes hok]; exact congrArg (List.map eIntS) hacc)
      · first | (rw [newT_no hbad] <;> rfl) | (rw [newT_yes hok] <;> rfl) | (rw [newT_yes hok]; exact congrArg (List.map eIntS) hacc)
    · replace c1 := nf c1
      have hok0 : okTable ⟨name, arity, acc⟩ = true := by simpa using c1
      have hok : okTable ⟨name, arity, foldPut rows⟩ = true := by rw [← hend.1]; exact hok0
      have hacc := hend.2 hok0
      refine ⟨?_, ?_, ?_, ?_, trivial⟩
      · first | (rw [newT_no hbad] <;> rfl) | (rw [newT_yes hok] <;> rfl) | (rw [newT_yes hok]; exact congrArg (List.map eIntS) hacc)
      · first | (rw [newT_no hbad] <;> rfl) | (rw [newT_yes hok] <;> rfl) | (rw [newT_yes hok]; exact congrArg (List.map eIntS) hacc)
      · first | (rw [newT_no hbad] <;> rfl) | (rw [newT_yes hok] <;> rfl) | (rw [newT_yes hok]; exact congrArg (List.map eIntS) hacc)
      · first | (rw [newT_no hbad] <;> rfl) | (rw [newT_yes hok] <;> rfl) | (rw [newT_yes hok]; exact congrArg (List.map eIntS) hacc)

set_option maxRecDepth 100000 in
set_option maxHeartbeats 4000000 in
theorem tabS_spec (x : TableStatsD) (hc : cTableStats x ≤ 1048576) : Con Tryz.prog 63 [.agg [.str x.name, .int .i64 x.arity, .int .i64 x.rowCount, .sl 157 3 (x.groups.map eGroupStats)]] (.tup [.agg [.p none (.str (((tabS x).1).name)), vI (((tabS x).1).arity), .own 0], vB ((tabS x).2)]) [(0, .arr 25 1 true ((((tabS x).1).rows).map eIntS))] := by
  refine con_x tbOk mixedW Tryz.func63 (by kernel_rfl) (.len x.groups.length <| .br (.fin []) (.len x.groups.length <| .elem GroupStatsD eGroupStats x.groups (fun e22 => .call (.tup [.agg [.p none (.str (((newT x.name x.arity e22.values).1).name)), vI (((newT x.name x.arity e22.values).1).arity), .own 0], vB ((newT x.name x.arity e22.values).2)]) [(0, .arr 25 1 true ((((newT x.name x.arity e22.values).1).rows).map eIntS))] <| .fin [(0, 2500)]))) ?_
  refine Eq.mpr (by kernel_rfl : _ = ((x.groups.map eGroupStats).length ≤ 9223372036854775807 → (x.groups.map eGroupStats).length = x.groups.length ∧ (((decide (((x.groups.length : Nat) : Int) = (0 : Int))) = true → ByteArray.empty = (((tabS x).1).name) ∧ (0 : Int) = (((tabS x).1).arity) ∧ (false) = ((tabS x).2) ∧ [] = (((tabS x).1).rows).map eIntS ∧ True) ∧ ((decide (((x.groups.length : Nat) : Int) = (0 : Int))) = false → (x.groups.map eGroupStats).length = x.groups.length ∧ (inR (((x.groups.length : Nat) : Int) - (1 : Int)) ∧ (0 ≤ (((x.groups.length : Nat) : Int) - (1 : Int)) ∧ (x.groups.map eGroupStats = x.groups.map eGroupStats ∧ (((x.groups.length : Nat) : Int) - (1 : Int)).toNat < x.groups.length ∧ ∀ e22, x.groups[(((x.groups.length : Nat) : Int) - (1 : Int)).toNat]? = some e22 → Con Tryz.prog 119 [.one (.str x.name), .one (.int .i64 x.arity), .one (.sl 25 1 (e22.values.map eIntS))] (.tup [.agg [.p none (.str (((newT x.name x.arity e22.values).1).name)), vI (((newT x.name x.arity e22.values).1).arity), .own 0], vB ((newT x.name x.arity e22.values).2)]) [(0, .arr 25 1 true ((((newT x.name x.arity e22.values).1).rows).map eIntS))] ∧ (((newT x.name x.arity e22.values).1).name) = (((tabS x).1).name) ∧ (((newT x.name x.arity e22.values).1).arity) = (((tabS x).1).arity) ∧ ((newT x.name x.arity e22.values).2) = ((tabS x).2) ∧ (((newT x.name x.arity e22.values).1).rows).map eIntS = (((tabS x).1).rows).map eIntS ∧ True))))))) ?_
  intro n0
  simp only [List.length_map] at n0
  have q2 : cTableStats x = x.name.size + cGroupStatsS x.groups := rfl
  have q5 := cGroupStatsS_len x.groups
  refine ⟨List.length_map _, ?_⟩
  refine ⟨fun c0 => ?_, fun c0 => ?_⟩
  · replace c0 := of_decide_eq_true c0
    have hT : tabS x = (zTable, false) := by rw [tabS, if_pos (by omega)]
    refine ⟨?_, ?_, ?_, ?_, trivial⟩
    · (rw [hT] <;> rfl)
    · (rw [hT] <;> rfl)
    · (rw [hT] <;> rfl)
    · (rw [hT] <;> rfl)
  · replace c0 := of_decide_eq_false c0
    have hT : tabS x = newT x.name x.arity (lastV x) := by rw [tabS, if_neg (by omega)]
    refine ⟨List.length_map _, ?_⟩
    refine ⟨⟨by omega, by omega⟩, ?_⟩
    refine ⟨by omega, ?_⟩
    refine ⟨rfl, by omega, fun e22 h22 => ?_⟩
    have i22 : x.groups[x.groups.length - 1]? = some e22 := by rw [← h22]; congr 1; omega
    have hL : lastV x = e22.values := lastV_at i22
    rw [hL] at hT
    have q1 := cGroupStatsS_el i22
    have q3 : cGroupStats e22 = cIntS e22.columns + cIntSS e22.values + cIntS e22.counts := rfl
    have q6 : cIntS e22.columns = e22.columns.length := rfl
    have q7 : cIntS e22.counts = e22.counts.length := rfl
    have q8 := cIntSS_len e22.values
    refine ⟨newT_spec _ _ _ (by omega), ?_⟩
    refine ⟨?_, ?_, ?_, ?_, trivial⟩
    · (rw [hT] <;> rfl)
    · (rw [hT] <;> rfl)
    · (rw [hT] <;> rfl)
    · (rw [hT] <;> rfl)

set_option maxRecDepth 100000 in
set_option maxHeartbeats 4000000 in
theorem okS_spec (x : TableStatsD) (hc : cTableStats x ≤ 1048576) : Con Tryz.prog 64 [.agg [.str x.name, .int .i64 x.arity, .int .i64 x.rowCount, .sl 157 3 (x.groups.map eGroupStats)]] (vB (okStats x)) [] := by
  refine con_x tbOk mixedW Tryz.func64 (by kernel_rfl) (.call (.tup [.agg [.p none (.str (((tabS x).1).name)), vI (((tabS x).1).arity), .own 0], vB ((tabS x).2)]) [(0, .arr 25 1 true ((((tabS x).1).rows).map eIntS))] <| .br (.call (.agg [.p none (.str ((statsOf ((tabS x).1)).name)), vI ((statsOf ((tabS x).1)).arity), vI ((statsOf ((tabS x).1)).rowCount), .own 0]) [(0, .arr 157 3 true (((statsOf ((tabS x).1)).groups).map eGroupStats))] <| .call (vB (decide ((statsOf ((tabS x).1)) = x))) [] <| .fin []) (.fin [])) ?_
  refine Eq.mpr (by kernel_rfl : _ = ((x.groups.map eGroupStats).length ≤ 9223372036854775807 → Con Tryz.prog 63 [.agg [.str x.name, .int .i64 x.arity, .int .i64 x.rowCount, .sl 157 3 (x.groups.map eGroupStats)]] (.tup [.agg [.p none (.str (((tabS x).1).name)), vI (((tabS x).1).arity), .own 0], vB ((tabS x).2)]) [(0, .arr 25 1 true ((((tabS x).1).rows).map eIntS))] ∧ ((((tabS x).2) = true → Con Tryz.prog 68 [.agg [.str (((tabS x).1).name), .int .i64 (((tabS x).1).arity), .sl 25 1 ((((tabS x).1).rows).map eIntS)]] (.agg [.p none (.str ((statsOf ((tabS x).1)).name)), vI ((statsOf ((tabS x).1)).arity), vI ((statsOf ((tabS x).1)).rowCount), .own 0]) [(0, .arr 157 3 true (((statsOf ((tabS x).1)).groups).map eGroupStats))] ∧ Con Tryz.prog 120 [.agg [.str ((statsOf ((tabS x).1)).name), .int .i64 ((statsOf ((tabS x).1)).arity), .int .i64 ((statsOf ((tabS x).1)).rowCount), .sl 157 3 (((statsOf ((tabS x).1)).groups).map eGroupStats)], .agg [.str x.name, .int .i64 x.arity, .int .i64 x.rowCount, .sl 157 3 (x.groups.map eGroupStats)]] (vB (decide ((statsOf ((tabS x).1)) = x))) [] ∧ (decide ((statsOf ((tabS x).1)) = x)) = (okStats x) ∧ True) ∧ (((tabS x).2) = false → (false) = (okStats x) ∧ True)))) ?_
  intro n0
  simp only [List.length_map] at n0
  have hst := stats_small (tabS x).1
  have hsame := tabS_same x
  refine ⟨tabS_spec x (by omega), ?_⟩
  refine ⟨fun g11 => ?_, fun g11 => ?_⟩
  · refine ⟨st_spec ((tabS x).1), ?_⟩
    refine ⟨eqStats_spec _ _ (by omega), ?_⟩
    refine ⟨?_, trivial⟩
    · first | (rw [← hsame, g11]; simp; done) | (rw [← hsame]; simp [*]; done)
  · refine ⟨?_, trivial⟩
    · first | (rw [← hsame, g11]; simp; done) | (rw [← hsame]; simp [*]; done)
end Go.Proofs.YtjlagjhmlmfjeaaGreat
