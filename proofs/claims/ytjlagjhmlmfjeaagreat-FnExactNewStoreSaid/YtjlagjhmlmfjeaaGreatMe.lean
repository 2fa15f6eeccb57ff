/-
  Inclusions that hold, the program's side.
-/
import Derived.Test.YtjlagjhmlmfjeaaGreatMd
import Derived.Test.YtjlagjhmlmfjeaaGreatMc
namespace Go.Proofs.YtjlagjhmlmfjeaaGreat
open Go.ChangeShapes Go.WideShapes Go.ChangeAt Go.RowKit
set_option linter.unusedVariables false
set_option linter.unusedSimpArgs false
set_option maxRecDepth 100000 in
set_option maxHeartbeats 4000000 in
theorem miss_impl (d : DatabaseD) (x : InclusionD) (hc : cDatabase d ≤ 1048576) : Con Tryz.prog 196 [.agg [.sl 107 3 (d.tables.map eTable)], .agg [.str x.name, .int .i64 x.column, .str x.into, .int .i64 x.intoColumn]] (.own 0) [(0, .arr 3 1 true ((missI d x).map intD))] := by
  refine con_x tbOk mixedW Tryz.func196 (by kernel_rfl) (.call (vB (okInc d x)) [] <| .br (.fin []) (.call (.tup [.agg [.p none (.str (((lookT d x.name).1).name)), vI (((lookT d x.name).1).arity), .p none (.sl 25 1 ((((lookT d x.name).1).rows).map eIntS))], vB ((lookT d x.name).2)]) [] <| .call (.tup [.agg [.p none (.str (((lookT d x.into).1).name)), vI (((lookT d x.into).1).arity), .p none (.sl 25 1 ((((lookT d x.into).1).rows).map eIntS))], vB ((lookT d x.into).2)]) [] <| .len ((((lookT d x.into).1).rows).length) <| .loop (Nat × (List Int)) (Q2 Nat (List Int)) [9, 11, 34, 38, 39, 40, 41, 42, 43, 44, 45, 46, 47, 48, 49, 50] [3400, 4800, 4900] (fun yy0 => [(38, vI (yy0.1 : Int)), (9, .own 3400)]) (fun yy0 => [(3400, some (.arr 3 1 true (yy0.2.map intD)))]) (fun yy0 => yy0.1 ≤ (lookT d x.into).1.rows.length ∧ yy0.2 = colOf ((lookT d x.into).1.rows.take yy0.1) x.intoColumn) (fun yy0 => (lookT d x.into).1.rows.length - yy0.1) (fun yy0 => .br (.elem (List Int) eIntS (((lookT d x.into).1).rows) (fun e40 => .elem Int intD e40 (fun e46 => .app Int intD yy0.2 ([e46] : List Int) <| .back [(3400, 4900)]))) (.len ((((lookT d x.name).1).rows).length) <| .loop (Nat × (List Int)) (Q2 Nat (List Int)) [12, 14, 15, 51, 55, 56, 57, 58, 59, 60, 61, 62, 63, 64, 65, 66, 67, 68, 69, 70, 71, 72] [5100, 7000, 7100] (fun yy1 => [(55, vI (yy1.1 : Int)), (12, .own 5100)]) (fun yy1 => [(5100, some (.arr 3 1 true (yy1.2.map intD)))]) (fun yy1 => yy1.1 ≤ (lookT d x.name).1.rows.length ∧ yy1.2 = (colOf ((lookT d x.name).1.rows.take yy1.1) x.column).filter fun v => !decide (v ∈ yy0.2)) (fun yy1 => (lookT d x.name).1.rows.length - yy1.1) (fun yy1 => .br (.elem (List Int) eIntS (((lookT d x.name).1).rows) (fun e57 => .elem Int intD e57 (fun e62 => .call (vB (decide (e62 ∈ yy0.2))) [] <| .br (.app Int intD yy1.2 ([e62] : List Int) <| .back [(5100, 7100)]) (.back [(5100, 5100)])))) (.callx [.own 0] [(0, .arr 3 1 true (yy1.2.map intD))] [(0, 5100)] (.tup []) [(0, .arr 3 1 true ((sortI yy1.2).map intD))] <| .callx [.own 0] [(0, .arr 3 1 true ((sortI yy1.2).map intD))] [(0, 5100)] (.own 1) [(1, .arr 3 1 true ((compI (sortI yy1.2)).map intD))] <| .fin [(0, 7601)])))))) ?_
  refine Eq.mpr (by kernel_rfl : _ = ((d.tables.map eTable).length ≤ 9223372036854775807 → Con Tryz.prog 195 [.agg [.sl 107 3 (d.tables.map eTable)], .agg [.str x.name, .int .i64 x.column, .str x.into, .int .i64 x.intoColumn]] (vB (okInc d x)) [] ∧ (((!(okInc d x)) = true → [] = (missI d x).map intD ∧ True) ∧ ((!(okInc d x)) = false → Con Tryz.prog 213 [.agg [.sl 107 3 (d.tables.map eTable)], .one (.str x.name)] (.tup [.agg [.p none (.str (((lookT d x.name).1).name)), vI (((lookT d x.name).1).arity), .p none (.sl 25 1 ((((lookT d x.name).1).rows).map eIntS))], vB ((lookT d x.name).2)]) [] ∧ (Con Tryz.prog 213 [.agg [.sl 107 3 (d.tables.map eTable)], .one (.str x.into)] (.tup [.agg [.p none (.str (((lookT d x.into).1).name)), vI (((lookT d x.into).1).arity), .p none (.sl 25 1 ((((lookT d x.into).1).rows).map eIntS))], vB ((lookT d x.into).2)]) [] ∧ (((((lookT d x.into).1).rows).map eIntS).length = (((lookT d x.into).1).rows).length ∧ ((∃ (k : Nat) (there : List Int), (0 : Int) = (k : Int) ∧ [] = there.map intD ∧ k ≤ (lookT d x.into).1.rows.length ∧ there = colOf ((lookT d x.into).1.rows.take k) x.intoColumn) ∧ ∀ (k : Nat) (there : List Int), (k ≤ (lookT d x.into).1.rows.length ∧ there = colOf ((lookT d x.into).1.rows.take k) x.intoColumn) → ((decide ((k : Int) < (((((lookT d x.into).1).rows).length : Nat) : Int))) = true → 0 ≤ (k : Int) ∧ ((((lookT d x.into).1).rows).map eIntS = (((lookT d x.into).1).rows).map eIntS ∧ k < (((lookT d x.into).1).rows).length ∧ ∀ e40, (((lookT d x.into).1).rows)[k]? = some e40 → 0 ≤ x.intoColumn ∧ (e40.map intD = e40.map intD ∧ (x.intoColumn).toNat < e40.length ∧ ∀ e46, e40[(x.intoColumn).toNat]? = some e46 → there.map intD = there.map intD ∧ [[.int .i64 e46]] = ([e46] : List Int).map intD ∧ (∀ x, flatB (intD x) = true) ∧ (there.length + ([e46] : List Int).length) * 8 ≤ 140737488355328 ∧ inR ((k : Int) + (1 : Int)) ∧ ∃ (k' : Nat) (there' : List Int), ((k : Int) + (1 : Int)) = (k' : Int) ∧ (there ++ [e46]).map intD = there'.map intD ∧ (k' ≤ (lookT d x.into).1.rows.length ∧ there' = colOf ((lookT d x.into).1.rows.take k') x.intoColumn) ∧ (lookT d x.into).1.rows.length - k' < (lookT d x.into).1.rows.length - k))) ∧ ((decide ((k : Int) < (((((lookT d x.into).1).rows).length : Nat) : Int))) = false → ((((lookT d x.name).1).rows).map eIntS).length = (((lookT d x.name).1).rows).length ∧ ((∃ (j : Nat) (out : List Int), (0 : Int) = (j : Int) ∧ [] = out.map intD ∧ j ≤ (lookT d x.name).1.rows.length ∧ out = (colOf ((lookT d x.name).1.rows.take j) x.column).filter fun v => !decide (v ∈ there)) ∧ ∀ (j : Nat) (out : List Int), (j ≤ (lookT d x.name).1.rows.length ∧ out = (colOf ((lookT d x.name).1.rows.take j) x.column).filter fun v => !decide (v ∈ there)) → ((decide ((j : Int) < (((((lookT d x.name).1).rows).length : Nat) : Int))) = true → 0 ≤ (j : Int) ∧ ((((lookT d x.name).1).rows).map eIntS = (((lookT d x.name).1).rows).map eIntS ∧ j < (((lookT d x.name).1).rows).length ∧ ∀ e57, (((lookT d x.name).1).rows)[j]? = some e57 → 0 ≤ x.column ∧ (e57.map intD = e57.map intD ∧ (x.column).toNat < e57.length ∧ ∀ e62, e57[(x.column).toNat]? = some e62 → Con Tryz.prog 214 [.one (.sl 3 1 (there.map intD)), .one (.int .i64 e62)] (vB (decide (e62 ∈ there))) [] ∧ (((!(decide (e62 ∈ there))) = true → out.map intD = out.map intD ∧ [[.int .i64 e62]] = ([e62] : List Int).map intD ∧ (∀ x, flatB (intD x) = true) ∧ (out.length + ([e62] : List Int).length) * 8 ≤ 140737488355328 ∧ inR ((j : Int) + (1 : Int)) ∧ ∃ (j' : Nat) (out' : List Int), ((j : Int) + (1 : Int)) = (j' : Int) ∧ (out ++ [e62]).map intD = out'.map intD ∧ (j' ≤ (lookT d x.name).1.rows.length ∧ out' = (colOf ((lookT d x.name).1.rows.take j') x.column).filter fun v => !decide (v ∈ there)) ∧ (lookT d x.name).1.rows.length - j' < (lookT d x.name).1.rows.length - j) ∧ ((!(decide (e62 ∈ there))) = false → inR ((j : Int) + (1 : Int)) ∧ ∃ (j' : Nat) (out' : List Int), ((j : Int) + (1 : Int)) = (j' : Int) ∧ out.map intD = out'.map intD ∧ (j' ≤ (lookT d x.name).1.rows.length ∧ out' = (colOf ((lookT d x.name).1.rows.take j') x.column).filter fun v => !decide (v ∈ there)) ∧ (lookT d x.name).1.rows.length - j' < (lookT d x.name).1.rows.length - j))))) ∧ ((decide ((j : Int) < (((((lookT d x.name).1).rows).length : Nat) : Int))) = false → Con2 Tryz.prog 146 [.own 0] [(0, .arr 3 1 true (out.map intD))] (.tup []) [(0, .arr 3 1 true ((sortI out).map intD))] ∧ out.map intD = out.map intD ∧ Con2 Tryz.prog 215 [.own 0] [(0, .arr 3 1 true ((sortI out).map intD))] (.own 1) [(1, .arr 3 1 true ((compI (sortI out)).map intD))] ∧ (sortI out).map intD = (sortI out).map intD ∧ (compI (sortI out)).map intD = (missI d x).map intD ∧ True)))))))))) ?_
  intro n0
  simp only [List.length_map] at n0
  refine ⟨okInc_impl _ _ (by omega), ?_⟩
  refine ⟨fun c0 => ?_, fun c0 => ?_⟩
  · replace c0 := nt c0
    have hbad : missI d x = [] := by rw [missI, if_neg (by simpa using c0)]
    refine ⟨?_, trivial⟩
    · first | (rw [hbad] <;> rfl) | (rw [hE] <;> rfl)
  · replace c0 := nf c0
    have hok : okInc d x = true := by simpa using c0
    obtain ⟨hTa, hTb, hca, hcb⟩ := okInc_parts hok
    have hA8 := okTable_arity hTa
    have hB8 := okTable_arity hTb
    refine ⟨con_stl (lkT_impl _ x.name (by omega)) rfl, ?_⟩
    refine ⟨con_stl (lkT_impl _ x.into (by omega)) rfl, ?_⟩
    refine ⟨List.length_map _, ?_⟩
    refine ⟨⟨0, ([] : List Int), rfl, rfl, Nat.zero_le _, rfl⟩, fun k there ⟨hk, hth⟩ => ?_⟩
    have htl : there.length = k := by rw [hth, colOf, List.length_map, List.length_take]; omega
    refine ⟨fun c1 => ?_, fun c1 => ?_⟩
    · replace c1 := of_decide_eq_true c1
      refine ⟨by omega, ?_⟩
      refine ⟨rfl, by omega, fun e40 h40 => ?_⟩
      have hl40 := row_len hTb (List.mem_of_getElem? h40)
      refine ⟨by omega, ?_⟩
      refine ⟨rfl, by omega, fun e46 h46 => ?_⟩
      refine ⟨rfl, rfl, fun _ => rfl, by first | omega | (simp [hth]; omega) | (simp; omega), ?_⟩
      refine ⟨⟨by omega, by omega⟩, ?_⟩
      exact ⟨k + 1, _, rfl, rfl, ⟨by omega, by rw [colOf_snoc _ _ h40, ← hth, getD_at h46]⟩, by omega⟩
    · replace c1 := of_decide_eq_false c1
      have hTH : there = colOf (lookT d x.into).1.rows x.intoColumn := by rw [hth, List.take_of_length_le (by omega)]
      refine ⟨List.length_map _, ?_⟩
      refine ⟨⟨0, ([] : List Int), rfl, rfl, Nat.zero_le _, rfl⟩, fun j out ⟨hj, ho⟩ => ?_⟩
      have hol : out.length ≤ j := by rw [ho]; refine Nat.le_trans (List.length_filter_le _ _) ?_; simp [colOf]; omega
      refine ⟨fun c2 => ?_, fun c2 => ?_⟩
      · replace c2 := of_decide_eq_true c2
        refine ⟨by omega, ?_⟩
        refine ⟨rfl, by omega, fun e57 h57 => ?_⟩
        have hl57 := row_len hTa (List.mem_of_getElem? h57)
        refine ⟨by omega, ?_⟩
        refine ⟨rfl, by omega, fun e62 h62 => ?_⟩
        refine ⟨ctI _ _, ?_⟩
        refine ⟨fun c3 => ?_, fun c3 => ?_⟩
        · replace c3 := nt c3
          refine ⟨rfl, rfl, fun _ => rfl, by first | omega | (simp [hth]; omega) | (simp; omega), ?_⟩
          refine ⟨⟨by omega, by omega⟩, ?_⟩
          exact ⟨j + 1, _, rfl, rfl, ⟨by omega, by rw [colOf_snoc _ _ h57, List.filter_append, ← ho, getD_at h62, List.filter_cons_of_pos (by simpa using c3)]; rfl⟩, by omega⟩
        · replace c3 := nf c3
          refine ⟨⟨by omega, by omega⟩, ?_⟩
          exact ⟨j + 1, _, rfl, rfl, ⟨by omega, by rw [colOf_snoc _ _ h57, List.filter_append, ← ho, getD_at h62, List.filter_cons_of_neg (by simpa using c3)]; simp⟩, by omega⟩
      · replace c2 := of_decide_eq_false c2
        have hE : missI d x = compI (sortI out) := by rw [missI, if_pos hok, missL, ho, hTH, List.take_of_length_le (by omega)]
        refine ⟨con_sortI out (by omega), rfl, ?_⟩
        refine ⟨con_compI (sortI out) (by first | omega | (rw [sortI_len]; omega)), rfl, ?_⟩
        refine ⟨?_, trivial⟩
        · first | (rw [hbad] <;> rfl) | (rw [hE] <;> rfl)

set_option maxRecDepth 100000 in
set_option maxHeartbeats 4000000 in
theorem incOk_impl (d : DatabaseD) (x : InclusionD) (hc : cDatabase d ≤ 1048576) : Con Tryz.prog 158 [.agg [.sl 107 3 (d.tables.map eTable)], .agg [.str x.name, .int .i64 x.column, .str x.into, .int .i64 x.intoColumn]] (vB (incOk d x)) [] := by
  refine con_x tbOk mixedW Tryz.func158 (by kernel_rfl) (.call (vB (okInc d x)) [] <| .br (.call (.own 0) [(0, .arr 3 1 true ((missI d x).map intD))] <| .len ((missI d x).length) <| .fin []) (.fin [])) ?_
  refine Eq.mpr (by kernel_rfl : _ = ((d.tables.map eTable).length ≤ 9223372036854775807 → Con Tryz.prog 195 [.agg [.sl 107 3 (d.tables.map eTable)], .agg [.str x.name, .int .i64 x.column, .str x.into, .int .i64 x.intoColumn]] (vB (okInc d x)) [] ∧ (((okInc d x) = true → Con Tryz.prog 196 [.agg [.sl 107 3 (d.tables.map eTable)], .agg [.str x.name, .int .i64 x.column, .str x.into, .int .i64 x.intoColumn]] (.own 0) [(0, .arr 3 1 true ((missI d x).map intD))] ∧ ((missI d x).map intD).length = (missI d x).length ∧ (decide ((((missI d x).length : Nat) : Int) = (0 : Int))) = (incOk d x) ∧ True) ∧ ((okInc d x) = false → (false) = (incOk d x) ∧ True)))) ?_
  intro n0
  simp only [List.length_map] at n0
  refine ⟨okInc_impl _ _ (by omega), ?_⟩
  refine ⟨fun g8 => ?_, fun g8 => ?_⟩
  · refine ⟨miss_impl _ _ (by omega), ?_⟩
    refine ⟨List.length_map _, ?_⟩
    refine ⟨?_, trivial⟩
    · first | (simp [incOk, *]; done) | (rw [incOk, g8, len_zero, missI_nil g8]; rfl)
  · refine ⟨?_, trivial⟩
    · first | (simp [incOk, *]; done) | (rw [incOk, g8, len_zero, missI_nil g8]; rfl)
end Go.Proofs.YtjlagjhmlmfjeaaGreat
