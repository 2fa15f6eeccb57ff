/-
  Inclusions that hold, the reference's side.
-/
import Derived.Test.YtjlagjhmlmfjeaaGreatMd
import Derived.Test.YtjlagjhmlmfjeaaGreatMc
namespace Go.Proofs.YtjlagjhmlmfjeaaGreat
open Go.ChangeShapes Go.WideShapes Go.ChangeAt Go.RowKit
set_option linter.unusedVariables false
set_option linter.unusedSimpArgs false
set_option maxRecDepth 100000 in
set_option maxHeartbeats 4000000 in
theorem miss_spec (d : DatabaseD) (x : InclusionD) (hc : cDatabase d ≤ 1048576) : Con Tryz.prog 192 [.agg [.sl 107 3 (d.tables.map eTable)], .agg [.str x.name, .int .i64 x.column, .str x.into, .int .i64 x.intoColumn]] (.own 0) [(0, .arr 3 1 true ((missS d x).map intD))] := by
  refine con_x tbOk mixedW Tryz.func192 (by kernel_rfl) (.call (vB (okInc d x)) [] <| .br (.fin [(0, 1500)]) (.call (.tup [.agg [.p none (.str (((lookT d x.name).1).name)), vI (((lookT d x.name).1).arity), .p none (.sl 25 1 ((((lookT d x.name).1).rows).map eIntS))], vB ((lookT d x.name).2)]) [] <| .call (.tup [.agg [.p none (.str (((lookT d x.into).1).name)), vI (((lookT d x.into).1).arity), .p none (.sl 25 1 ((((lookT d x.into).1).rows).map eIntS))], vB ((lookT d x.into).2)]) [] <| .loop (Nat × (List Int)) (Q2 Nat (List Int)) [5, 10, 11, 12, 13, 14, 15, 35, 36, 37, 38, 39, 40, 41, 42, 43, 44, 45, 46, 47, 48, 49, 50, 51, 52, 53, 54, 55, 56, 57, 58, 59, 60, 61, 62, 63, 64, 65, 66, 67, 68, 69, 70, 71, 72, 73, 74, 75, 76, 77, 78, 79, 80, 81, 82, 83, 84, 85, 86, 87, 88, 89] [1500, 8800, 8900] (fun yy0 => [(10, vI (yy0.1 : Int)), (5, .own 1500)]) (fun yy0 => [(1500, some (.arr 3 1 true (yy0.2.map intD)))]) (fun yy0 => yy0.1 ≤ 10 ∧ yy0.2 = missN d x yy0.1) (fun yy0 => 10 - yy0.1) (fun yy0 => .br (.loop (Nat × Bool) (Q2 Nat Bool) [11, 13, 39, 40, 41, 42, 43, 44, 45, 46, 47, 48, 49, 50, 51, 52, 53, 54, 55, 56, 57, 58, 59] [] (fun yy1 => [(13, vI (yy1.1 : Int)), (11, vB yy1.2)]) (fun yy1 => []) (fun yy1 => yy1.1 ≤ (lookT d x.name).1.rows.length ∧ yy1.2 = decide ((yy0.1 : Int) ∈ colOf ((lookT d x.name).1.rows.take yy1.1) x.column)) (fun yy1 => (lookT d x.name).1.rows.length - yy1.1) (fun yy1 => .len ((((lookT d x.name).1).rows).length) <| .br (.br (.back []) (.elem (List Int) eIntS (((lookT d x.name).1).rows) (fun e51 => .elem Int intD e51 (fun e55 => .back [])))) (.loop (Nat × Bool) (Q2 Nat Bool) [12, 14, 60, 61, 62, 63, 64, 65, 66, 67, 68, 69, 70, 71, 72, 73, 74, 75, 76, 77, 78, 79, 80] [] (fun yy2 => [(14, vI (yy2.1 : Int)), (12, vB yy2.2)]) (fun yy2 => []) (fun yy2 => yy2.1 ≤ (lookT d x.into).1.rows.length ∧ yy2.2 = decide ((yy0.1 : Int) ∈ colOf ((lookT d x.into).1.rows.take yy2.1) x.intoColumn)) (fun yy2 => (lookT d x.into).1.rows.length - yy2.1) (fun yy2 => .len ((((lookT d x.into).1).rows).length) <| .br (.br (.back []) (.elem (List Int) eIntS (((lookT d x.into).1).rows) (fun e72 => .elem Int intD e72 (fun e76 => .back [])))) (.br (.lit <| .lit <| .br (.app Int intD yy0.2 ([(yy0.1 : Int)] : List Int) <| .back [(1500, 8900)]) (.back [(1500, 1500)])) (.back [(1500, 1500)])))))) (.fin [(0, 1500)])))) ?_
  refine Eq.mpr (by kernel_rfl : _ = ((d.tables.map eTable).length ≤ 9223372036854775807 → Con Tryz.prog 191 [.agg [.sl 107 3 (d.tables.map eTable)], .agg [.str x.name, .int .i64 x.column, .str x.into, .int .i64 x.intoColumn]] (vB (okInc d x)) [] ∧ (((!(okInc d x)) = true → [] = (missS d x).map intD ∧ True) ∧ ((!(okInc d x)) = false → Con Tryz.prog 211 [.agg [.sl 107 3 (d.tables.map eTable)], .one (.str x.name)] (.tup [.agg [.p none (.str (((lookT d x.name).1).name)), vI (((lookT d x.name).1).arity), .p none (.sl 25 1 ((((lookT d x.name).1).rows).map eIntS))], vB ((lookT d x.name).2)]) [] ∧ (Con Tryz.prog 211 [.agg [.sl 107 3 (d.tables.map eTable)], .one (.str x.into)] (.tup [.agg [.p none (.str (((lookT d x.into).1).name)), vI (((lookT d x.into).1).arity), .p none (.sl 25 1 ((((lookT d x.into).1).rows).map eIntS))], vB ((lookT d x.into).2)]) [] ∧ ((∃ (v : Nat) (out : List Int), (0 : Int) = (v : Int) ∧ [] = out.map intD ∧ v ≤ 10 ∧ out = missN d x v) ∧ ∀ (v : Nat) (out : List Int), (v ≤ 10 ∧ out = missN d x v) → ((decide ((v : Int) ≤ (9 : Int))) = true → (∃ (k : Nat) (p : Bool), (0 : Int) = (k : Int) ∧ (false) = p ∧ k ≤ (lookT d x.name).1.rows.length ∧ p = decide ((v : Int) ∈ colOf ((lookT d x.name).1.rows.take k) x.column)) ∧ ∀ (k : Nat) (p : Bool), (k ≤ (lookT d x.name).1.rows.length ∧ p = decide ((v : Int) ∈ colOf ((lookT d x.name).1.rows.take k) x.column)) → ((((lookT d x.name).1).rows).map eIntS).length = (((lookT d x.name).1).rows).length ∧ (((decide ((k : Int) < (((((lookT d x.name).1).rows).length : Nat) : Int))) = true → ((p) = true → inR ((k : Int) + (1 : Int)) ∧ ∃ (k' : Nat) (p' : Bool), ((k : Int) + (1 : Int)) = (k' : Int) ∧ (true) = p' ∧ (k' ≤ (lookT d x.name).1.rows.length ∧ p' = decide ((v : Int) ∈ colOf ((lookT d x.name).1.rows.take k') x.column)) ∧ (lookT d x.name).1.rows.length - k' < (lookT d x.name).1.rows.length - k) ∧ ((p) = false → 0 ≤ (k : Int) ∧ ((((lookT d x.name).1).rows).map eIntS = (((lookT d x.name).1).rows).map eIntS ∧ k < (((lookT d x.name).1).rows).length ∧ ∀ e51, (((lookT d x.name).1).rows)[k]? = some e51 → 0 ≤ x.column ∧ (e51.map intD = e51.map intD ∧ (x.column).toNat < e51.length ∧ ∀ e55, e51[(x.column).toNat]? = some e55 → inR ((k : Int) + (1 : Int)) ∧ ∃ (k' : Nat) (p' : Bool), ((k : Int) + (1 : Int)) = (k' : Int) ∧ (decide (e55 = (v : Int))) = p' ∧ (k' ≤ (lookT d x.name).1.rows.length ∧ p' = decide ((v : Int) ∈ colOf ((lookT d x.name).1.rows.take k') x.column)) ∧ (lookT d x.name).1.rows.length - k' < (lookT d x.name).1.rows.length - k)))) ∧ ((decide ((k : Int) < (((((lookT d x.name).1).rows).length : Nat) : Int))) = false → (∃ (j : Nat) (q : Bool), (0 : Int) = (j : Int) ∧ (false) = q ∧ j ≤ (lookT d x.into).1.rows.length ∧ q = decide ((v : Int) ∈ colOf ((lookT d x.into).1.rows.take j) x.intoColumn)) ∧ ∀ (j : Nat) (q : Bool), (j ≤ (lookT d x.into).1.rows.length ∧ q = decide ((v : Int) ∈ colOf ((lookT d x.into).1.rows.take j) x.intoColumn)) → ((((lookT d x.into).1).rows).map eIntS).length = (((lookT d x.into).1).rows).length ∧ (((decide ((j : Int) < (((((lookT d x.into).1).rows).length : Nat) : Int))) = true → ((q) = true → inR ((j : Int) + (1 : Int)) ∧ ∃ (j' : Nat) (q' : Bool), ((j : Int) + (1 : Int)) = (j' : Int) ∧ (true) = q' ∧ (j' ≤ (lookT d x.into).1.rows.length ∧ q' = decide ((v : Int) ∈ colOf ((lookT d x.into).1.rows.take j') x.intoColumn)) ∧ (lookT d x.into).1.rows.length - j' < (lookT d x.into).1.rows.length - j) ∧ ((q) = false → 0 ≤ (j : Int) ∧ ((((lookT d x.into).1).rows).map eIntS = (((lookT d x.into).1).rows).map eIntS ∧ j < (((lookT d x.into).1).rows).length ∧ ∀ e72, (((lookT d x.into).1).rows)[j]? = some e72 → 0 ≤ x.intoColumn ∧ (e72.map intD = e72.map intD ∧ (x.intoColumn).toNat < e72.length ∧ ∀ e76, e72[(x.intoColumn).toNat]? = some e76 → inR ((j : Int) + (1 : Int)) ∧ ∃ (j' : Nat) (q' : Bool), ((j : Int) + (1 : Int)) = (j' : Int) ∧ (decide (e76 = (v : Int))) = q' ∧ (j' ≤ (lookT d x.into).1.rows.length ∧ q' = decide ((v : Int) ∈ colOf ((lookT d x.into).1.rows.take j') x.intoColumn)) ∧ (lookT d x.into).1.rows.length - j' < (lookT d x.into).1.rows.length - j)))) ∧ ((decide ((j : Int) < (((((lookT d x.into).1).rows).length : Nat) : Int))) = false → ((p) = true → ((!q) = true → out.map intD = out.map intD ∧ [[.int .i64 (v : Int)]] = ([(v : Int)] : List Int).map intD ∧ (∀ x, flatB (intD x) = true) ∧ (out.length + ([(v : Int)] : List Int).length) * 8 ≤ 140737488355328 ∧ inR ((v : Int) + (1 : Int)) ∧ ∃ (v' : Nat) (out' : List Int), ((v : Int) + (1 : Int)) = (v' : Int) ∧ (out ++ [(v : Int)]).map intD = out'.map intD ∧ (v' ≤ 10 ∧ out' = missN d x v') ∧ 10 - v' < 10 - v) ∧ ((!q) = false → inR ((v : Int) + (1 : Int)) ∧ ∃ (v' : Nat) (out' : List Int), ((v : Int) + (1 : Int)) = (v' : Int) ∧ out.map intD = out'.map intD ∧ (v' ≤ 10 ∧ out' = missN d x v') ∧ 10 - v' < 10 - v)) ∧ ((p) = false → inR ((v : Int) + (1 : Int)) ∧ ∃ (v' : Nat) (out' : List Int), ((v : Int) + (1 : Int)) = (v' : Int) ∧ out.map intD = out'.map intD ∧ (v' ≤ 10 ∧ out' = missN d x v') ∧ 10 - v' < 10 - v)))))) ∧ ((decide ((v : Int) ≤ (9 : Int))) = false → out.map intD = (missS d x).map intD ∧ True))))))) ?_
  intro n0
  simp only [List.length_map] at n0
  refine ⟨okInc_spec _ _ (by omega), ?_⟩
  refine ⟨fun c0 => ?_, fun c0 => ?_⟩
  · replace c0 := nt c0
    have hbad : missS d x = [] := by rw [missS, if_neg (by simpa using c0)]
    refine ⟨?_, trivial⟩
    · first | (rw [hbad] <;> rfl) | (rw [hE] <;> rfl)
  · replace c0 := nf c0
    have hok : okInc d x = true := by simpa using c0
    obtain ⟨hTa, hTb, hca, hcb⟩ := okInc_parts hok
    have hA8 := okTable_arity hTa
    have hB8 := okTable_arity hTb
    refine ⟨con_stl (lkT_spec _ x.name (by omega)) rfl, ?_⟩
    refine ⟨con_stl (lkT_spec _ x.into (by omega)) rfl, ?_⟩
    refine ⟨⟨0, ([] : List Int), rfl, rfl, by omega, rfl⟩, fun v out ⟨hvv, ho⟩ => ?_⟩
    have hol := missN_len d x v
    rw [← ho] at hol
    refine ⟨fun c1 => ?_, fun c1 => ?_⟩
    · replace c1 := of_decide_eq_true c1
      refine ⟨⟨0, false, rfl, rfl, Nat.zero_le _, rfl⟩, fun k p ⟨hk, hp⟩ => ?_⟩
      refine ⟨List.length_map _, ?_⟩
      refine ⟨fun c2 => ?_, fun c2 => ?_⟩
      · replace c2 := of_decide_eq_true c2
        obtain ⟨ra, hra⟩ := at_some (l := (lookT d x.name).1.rows) (k := k) (by omega)
        refine ⟨fun g47 => ?_, fun g47 => ?_⟩
        · refine ⟨⟨by omega, by omega⟩, ?_⟩
          exact ⟨k + 1, _, rfl, rfl, ⟨by omega, by rw [colOf_snoc _ _ hra, mem_snoc, ← hp, g47]; rfl⟩, by omega⟩
        · refine ⟨by omega, ?_⟩
          refine ⟨rfl, by omega, fun e51 h51 => ?_⟩
          have hl51 := row_len hTa (List.mem_of_getElem? h51)
          refine ⟨by omega, ?_⟩
          refine ⟨rfl, by omega, fun e55 h55 => ?_⟩
          refine ⟨⟨by omega, by omega⟩, ?_⟩
          exact ⟨k + 1, _, rfl, rfl, ⟨by omega, by obtain rfl := same_at h51 hra; rw [colOf_snoc _ _ hra, mem_snoc, ← hp, g47, getD_at h55, Bool.false_or]; exact decide_eq_decide.2 ⟨Eq.symm, Eq.symm⟩⟩, by omega⟩
      · replace c2 := of_decide_eq_false c2
        have hP : p = decide ((v : Int) ∈ colOf (lookT d x.name).1.rows x.column) := by rw [hp, List.take_of_length_le (by omega)]
        refine ⟨⟨0, false, rfl, rfl, Nat.zero_le _, rfl⟩, fun j q ⟨hj, hq⟩ => ?_⟩
        refine ⟨List.length_map _, ?_⟩
        refine ⟨fun c3 => ?_, fun c3 => ?_⟩
        · replace c3 := of_decide_eq_true c3
          obtain ⟨rb, hrb⟩ := at_some (l := (lookT d x.into).1.rows) (k := j) (by omega)
          refine ⟨fun g68 => ?_, fun g68 => ?_⟩
          · refine ⟨⟨by omega, by omega⟩, ?_⟩
            exact ⟨j + 1, _, rfl, rfl, ⟨by omega, by rw [colOf_snoc _ _ hrb, mem_snoc, ← hq, g68]; rfl⟩, by omega⟩
          · refine ⟨by omega, ?_⟩
            refine ⟨rfl, by omega, fun e72 h72 => ?_⟩
            have hl72 := row_len hTb (List.mem_of_getElem? h72)
            refine ⟨by omega, ?_⟩
            refine ⟨rfl, by omega, fun e76 h76 => ?_⟩
            refine ⟨⟨by omega, by omega⟩, ?_⟩
            exact ⟨j + 1, _, rfl, rfl, ⟨by omega, by obtain rfl := same_at h72 hrb; rw [colOf_snoc _ _ hrb, mem_snoc, ← hq, g68, getD_at h76, Bool.false_or]; exact decide_eq_decide.2 ⟨Eq.symm, Eq.symm⟩⟩, by omega⟩
        · replace c3 := of_decide_eq_false c3
          have hQ : q = decide ((v : Int) ∈ colOf (lookT d x.into).1.rows x.intoColumn) := by rw [hq, List.take_of_length_le (by omega)]
          refine ⟨fun g82 => ?_, fun g82 => ?_⟩
          · refine ⟨fun c4 => ?_, fun c4 => ?_⟩
            · replace c4 := nt c4
              refine ⟨rfl, rfl, fun _ => rfl, by first | omega | (simp [ho]; omega) | (simp; omega), ?_⟩
              refine ⟨⟨by omega, by omega⟩, ?_⟩
              exact ⟨v + 1, _, rfl, rfl, ⟨by omega, by rw [ho, missN_yes (by rw [missB, ← hP, ← hQ, g82, c4]; rfl)]⟩, by omega⟩
            · replace c4 := nf c4
              refine ⟨⟨by omega, by omega⟩, ?_⟩
              exact ⟨v + 1, _, rfl, rfl, ⟨by omega, by rw [ho, missN_no (by rw [missB, ← hP, ← hQ, g82, c4]; rfl)]⟩, by omega⟩
          · refine ⟨⟨by omega, by omega⟩, ?_⟩
            exact ⟨v + 1, _, rfl, rfl, ⟨by omega, by rw [ho, missN_no (by rw [missB, ← hP, ← hQ, g82]; rfl)]⟩, by omega⟩
    · replace c1 := of_decide_eq_false c1
      have hE : missS d x = out := by rw [missS, if_pos hok, ho, show v = 10 by omega]
      refine ⟨?_, trivial⟩
      · first | (rw [hbad] <;> rfl) | (rw [hE] <;> rfl)

set_option maxRecDepth 100000 in
set_option maxHeartbeats 4000000 in
theorem incOk_spec (d : DatabaseD) (x : InclusionD) (hc : cDatabase d ≤ 1048576) : Con Tryz.prog 153 [.agg [.sl 107 3 (d.tables.map eTable)], .agg [.str x.name, .int .i64 x.column, .str x.into, .int .i64 x.intoColumn]] (vB (incOk d x)) [] := by
  refine con_x tbOk mixedW Tryz.func153 (by kernel_rfl) (.call (vB (okInc d x)) [] <| .br (.call (.own 0) [(0, .arr 3 1 true ((missS d x).map intD))] <| .len ((missS d x).length) <| .fin []) (.fin [])) ?_
  refine Eq.mpr (by kernel_rfl : _ = ((d.tables.map eTable).length ≤ 9223372036854775807 → Con Tryz.prog 191 [.agg [.sl 107 3 (d.tables.map eTable)], .agg [.str x.name, .int .i64 x.column, .str x.into, .int .i64 x.intoColumn]] (vB (okInc d x)) [] ∧ (((okInc d x) = true → Con Tryz.prog 192 [.agg [.sl 107 3 (d.tables.map eTable)], .agg [.str x.name, .int .i64 x.column, .str x.into, .int .i64 x.intoColumn]] (.own 0) [(0, .arr 3 1 true ((missS d x).map intD))] ∧ ((missS d x).map intD).length = (missS d x).length ∧ (decide ((((missS d x).length : Nat) : Int) = (0 : Int))) = (incOk d x) ∧ True) ∧ ((okInc d x) = false → (false) = (incOk d x) ∧ True)))) ?_
  intro n0
  simp only [List.length_map] at n0
  refine ⟨okInc_spec _ _ (by omega), ?_⟩
  refine ⟨fun g8 => ?_, fun g8 => ?_⟩
  · refine ⟨miss_spec _ _ (by omega), ?_⟩
    refine ⟨List.length_map _, ?_⟩
    refine ⟨?_, trivial⟩
    · first | (simp [incOk, *]; done) | (rw [incOk, g8, len_zero, missS_nil g8]; rfl)
  · refine ⟨?_, trivial⟩
    · first | (simp [incOk, *]; done) | (rw [incOk, g8, len_zero, missS_nil g8]; rfl)
end Go.Proofs.YtjlagjhmlmfjeaaGreat
