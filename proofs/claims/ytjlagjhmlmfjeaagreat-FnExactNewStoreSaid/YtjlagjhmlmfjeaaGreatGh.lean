/-
  Catalogues of statistics, both sides.
-/
import Derived.Test.YtjlagjhmlmfjeaaGreatGg
import Derived.Test.YtjlagjhmlmfjeaaGreatFd
namespace Go.Proofs.YtjlagjhmlmfjeaaGreat
open Go.ChangeShapes Go.WideShapes Go.ChangeAt Go.RowKit
set_option linter.unusedVariables false
set_option linter.unusedSimpArgs false
def catOf (d : DatabaseD) (v : Int) : CatalogueD × Bool := if (okDb d && inB v 1 999) = true then (⟨v, d.tables.map statsOf⟩, true) else (zCatalogue, false)
theorem catOf_yes {d : DatabaseD} {v : Int} (h : (okDb d && inB v 1 999) = true) : catOf d v = (⟨v, d.tables.map statsOf⟩, true) := by rw [catOf, if_pos h]
theorem catOf_no {d : DatabaseD} {v : Int} (h : (okDb d && inB v 1 999) = false) : catOf d v = (zCatalogue, false) := by rw [catOf, if_neg (by rw [h]; decide)]
theorem okDb_len {d : DatabaseD} (h : okDb d = true) : d.tables.length ≤ 6 := by
  simp only [okDb, Bool.and_eq_true, decide_eq_true_eq] at h
  omega

set_option maxRecDepth 100000 in
set_option maxHeartbeats 4000000 in
theorem cat_impl (d : DatabaseD) (v : Int) : Con Tryz.prog 95 [.agg [.sl 107 3 (d.tables.map eTable)], .one (.int .i64 v)] (.tup [.agg [vI (((catOf d v).1).version), .own 0], vB ((catOf d v).2)]) [(0, .arr 32 4 true ((((catOf d v).1).tables).map eTableStats))] := by
  refine con_x tbOk mixedW Tryz.func95 (by kernel_rfl) (.call (vB (okDb d)) [] <| .br (.fin []) (.call (vB (inB v (1 : Int) (999 : Int))) [] <| .lit <| .lit <| .br (.fin []) (.len d.tables.length <| .loop (Nat × (List TableStatsD)) (Q2 Nat (List TableStatsD)) [8, 23, 24, 25, 26, 27, 28, 29, 30, 31, 32, 33, 34] [600, 800, 3000, 3100, 3200, 9000] (fun yy0 => [(23, vI (yy0.1 : Int))]) (fun yy0 => [(600, some (.box 78 [vI v, .own 9000])), (9000, some (.arr 32 4 true (yy0.2.map eTableStats)))]) (fun yy0 => yy0.1 ≤ d.tables.length ∧ yy0.2 = (d.tables.take yy0.1).map statsOf) (fun yy0 => d.tables.length - yy0.1) (fun yy0 => .br (.elem TableD eTable d.tables (fun e25 => .call (.agg [.p none (.str ((statsOf e25).name)), vI ((statsOf e25).arity), vI ((statsOf e25).rowCount), .own 0]) [(0, .arr 157 3 true (((statsOf e25).groups).map eGroupStats))] <| .appx TableStatsD eTableStats yy0.2 (statsOf e25) <| .back [(600, 600), (9000, 3200)])) (.fin [(0, 9000)]))))) ?_
  refine Eq.mpr (by kernel_rfl : _ = ((d.tables.map eTable).length ≤ 9223372036854775807 → Con Tryz.prog 155 [.agg [.sl 107 3 (d.tables.map eTable)]] (vB (okDb d)) [] ∧ (((!(okDb d)) = true → (0 : Int) = (((catOf d v).1).version) ∧ (false) = ((catOf d v).2) ∧ [] = (((catOf d v).1).tables).map eTableStats ∧ True) ∧ ((!(okDb d)) = false → Con Tryz.prog 149 [.one (.int .i64 v), .one (.int .i64 (1 : Int)), .one (.int .i64 (999 : Int))] (vB (inB v (1 : Int) (999 : Int))) [] ∧ (((!(inB v (1 : Int) (999 : Int))) = true → (0 : Int) = (((catOf d v).1).version) ∧ (false) = ((catOf d v).2) ∧ [] = (((catOf d v).1).tables).map eTableStats ∧ True) ∧ ((!(inB v (1 : Int) (999 : Int))) = false → (d.tables.map eTable).length = d.tables.length ∧ ((∃ (k : Nat) (out : List TableStatsD), (0 : Int) = (k : Int) ∧ v = v ∧ [] = out.map eTableStats ∧ k ≤ d.tables.length ∧ out = (d.tables.take k).map statsOf) ∧ ∀ (k : Nat) (out : List TableStatsD), (k ≤ d.tables.length ∧ out = (d.tables.take k).map statsOf) → ((decide ((k : Int) < ((d.tables.length : Nat) : Int))) = true → 0 ≤ (k : Int) ∧ (d.tables.map eTable = d.tables.map eTable ∧ k < d.tables.length ∧ ∀ e25, d.tables[k]? = some e25 → Con Tryz.prog 74 [.agg [.str e25.name, .int .i64 e25.arity, .sl 25 1 (e25.rows.map eIntS)]] (.agg [.p none (.str ((statsOf e25).name)), vI ((statsOf e25).arity), vI ((statsOf e25).rowCount), .own 0]) [(0, .arr 157 3 true (((statsOf e25).groups).map eGroupStats))] ∧ out.map eTableStats = out.map eTableStats ∧ ((statsOf e25).name) = ((statsOf e25).name) ∧ ((statsOf e25).arity) = ((statsOf e25).arity) ∧ ((statsOf e25).rowCount) = ((statsOf e25).rowCount) ∧ ((statsOf e25).groups).map eGroupStats = ((statsOf e25).groups).map eGroupStats ∧ (out.length + 1) * 56 ≤ 140737488355328 ∧ inR ((k : Int) + (1 : Int)) ∧ ∃ (k' : Nat) (out' : List TableStatsD), ((k : Int) + (1 : Int)) = (k' : Int) ∧ v = v ∧ (out ++ [(statsOf e25)]).map eTableStats = out'.map eTableStats ∧ (k' ≤ d.tables.length ∧ out' = (d.tables.take k').map statsOf) ∧ d.tables.length - k' < d.tables.length - k)) ∧ ((decide ((k : Int) < ((d.tables.length : Nat) : Int))) = false → v = (((catOf d v).1).version) ∧ (true) = ((catOf d v).2) ∧ out.map eTableStats = (((catOf d v).1).tables).map eTableStats ∧ True)))))))) ?_
  intro n0
  simp only [List.length_map] at n0
  refine ⟨db_impl _, ?_⟩
  refine ⟨fun g12 => ?_, fun g12 => ?_⟩
  · replace g12 := nt g12
    have hbad : (okDb d && inB v 1 999) = false := by simp_all
    refine ⟨?_, ?_, ?_, trivial⟩
    · first | (rw [catOf_no hbad] <;> rfl) | (rw [catOf_yes hok] <;> rfl) | (rw [catOf_yes hok, ho, List.take_of_length_le (by omega)])
    · first | (rw [catOf_no hbad] <;> rfl) | (rw [catOf_yes hok] <;> rfl) | (rw [catOf_yes hok, ho, List.take_of_length_le (by omega)])
    · first | (rw [catOf_no hbad] <;> rfl) | (rw [catOf_yes hok] <;> rfl) | (rw [catOf_yes hok, ho, List.take_of_length_le (by omega)])
  · replace g12 := nf g12
    refine ⟨in_impl _ _ _, ?_⟩
    refine ⟨fun c0 => ?_, fun c0 => ?_⟩
    · replace c0 := nt c0
      have hbad : (okDb d && inB v 1 999) = false := by simp_all
      refine ⟨?_, ?_, ?_, trivial⟩
      · first | (rw [catOf_no hbad] <;> rfl) | (rw [catOf_yes hok] <;> rfl) | (rw [catOf_yes hok, ho, List.take_of_length_le (by omega)])
      · first | (rw [catOf_no hbad] <;> rfl) | (rw [catOf_yes hok] <;> rfl) | (rw [catOf_yes hok, ho, List.take_of_length_le (by omega)])
      · first | (rw [catOf_no hbad] <;> rfl) | (rw [catOf_yes hok] <;> rfl) | (rw [catOf_yes hok, ho, List.take_of_length_le (by omega)])
    · replace c0 := nf c0
      have hok : (okDb d && inB v 1 999) = true := by simp_all
      have h6 := okDb_len (by simp_all : okDb d = true)
      refine ⟨List.length_map _, ?_⟩
      refine ⟨⟨0, ([] : List TableStatsD), rfl, rfl, rfl, Nat.zero_le _, rfl⟩, fun k out ⟨hk, ho⟩ => ?_⟩
      refine ⟨fun c1 => ?_, fun c1 => ?_⟩
      · replace c1 := of_decide_eq_true c1
        refine ⟨by omega, ?_⟩
        refine ⟨rfl, by omega, fun e25 h25 => ?_⟩
        refine ⟨st_impl e25, ?_⟩
        refine ⟨rfl, rfl, rfl, rfl, rfl, by first | omega | (simp [ho]; omega), ?_⟩
        refine ⟨⟨by omega, by omega⟩, ?_⟩
        exact ⟨k + 1, _, rfl, rfl, rfl, ⟨by omega, by rw [ho, take_snoc h25, List.map_append]; rfl⟩, by omega⟩
      · replace c1 := of_decide_eq_false c1
        refine ⟨?_, ?_, ?_, trivial⟩
        · first | (rw [catOf_no hbad] <;> rfl) | (rw [catOf_yes hok] <;> rfl) | (rw [catOf_yes hok, ho, List.take_of_length_le (by omega)])
        · first | (rw [catOf_no hbad] <;> rfl) | (rw [catOf_yes hok] <;> rfl) | (rw [catOf_yes hok, ho, List.take_of_length_le (by omega)])
        · first | (rw [catOf_no hbad] <;> rfl) | (rw [catOf_yes hok] <;> rfl) | (rw [catOf_yes hok, ho, List.take_of_length_le (by omega)])

set_option maxRecDepth 100000 in
set_option maxHeartbeats 4000000 in
theorem cat_spec (d : DatabaseD) (v : Int) : Con Tryz.prog 91 [.agg [.sl 107 3 (d.tables.map eTable)], .one (.int .i64 v)] (.tup [.agg [vI (((catOf d v).1).version), .own 0], vB ((catOf d v).2)]) [(0, .arr 32 4 true ((((catOf d v).1).tables).map eTableStats))] := by
  refine con_x tbOk mixedW Tryz.func91 (by kernel_rfl) (.call (vB (okDb d)) [] <| .br (.fin []) (.call (vB (inB v (1 : Int) (999 : Int))) [] <| .lit <| .lit <| .br (.fin []) (.loop (Nat × (List TableStatsD)) (Q2 Nat (List TableStatsD)) [7, 8, 20, 21, 22, 23, 24, 25, 26, 27, 28, 29, 30, 31, 32, 33, 34, 35, 36, 37, 38] [600, 800, 3200, 3600, 3700, 9000] (fun yy0 => [(7, vI (yy0.1 : Int))]) (fun yy0 => [(600, some (.box 78 [vI v, .own 9000])), (9000, some (.arr 32 4 true (yy0.2.map eTableStats)))]) (fun yy0 => yy0.1 ≤ d.tables.length ∧ yy0.2 = (d.tables.take yy0.1).map statsOf) (fun yy0 => d.tables.length - yy0.1) (fun yy0 => .len d.tables.length <| .br (.elem TableD eTable d.tables (fun e30 => .call (.agg [.p none (.str ((statsOf e30).name)), vI ((statsOf e30).arity), vI ((statsOf e30).rowCount), .own 0]) [(0, .arr 157 3 true (((statsOf e30).groups).map eGroupStats))] <| .appx TableStatsD eTableStats yy0.2 (statsOf e30) <| .back [(600, 600), (9000, 3700)])) (.fin [(0, 9000)]))))) ?_
  refine Eq.mpr (by kernel_rfl : _ = ((d.tables.map eTable).length ≤ 9223372036854775807 → Con Tryz.prog 151 [.agg [.sl 107 3 (d.tables.map eTable)]] (vB (okDb d)) [] ∧ (((!(okDb d)) = true → (0 : Int) = (((catOf d v).1).version) ∧ (false) = ((catOf d v).2) ∧ [] = (((catOf d v).1).tables).map eTableStats ∧ True) ∧ ((!(okDb d)) = false → Con Tryz.prog 148 [.one (.int .i64 v), .one (.int .i64 (1 : Int)), .one (.int .i64 (999 : Int))] (vB (inB v (1 : Int) (999 : Int))) [] ∧ (((!(inB v (1 : Int) (999 : Int))) = true → (0 : Int) = (((catOf d v).1).version) ∧ (false) = ((catOf d v).2) ∧ [] = (((catOf d v).1).tables).map eTableStats ∧ True) ∧ ((!(inB v (1 : Int) (999 : Int))) = false → (∃ (k : Nat) (out : List TableStatsD), (0 : Int) = (k : Int) ∧ v = v ∧ [] = out.map eTableStats ∧ k ≤ d.tables.length ∧ out = (d.tables.take k).map statsOf) ∧ ∀ (k : Nat) (out : List TableStatsD), (k ≤ d.tables.length ∧ out = (d.tables.take k).map statsOf) → (d.tables.map eTable).length = d.tables.length ∧ (((decide ((k : Int) < ((d.tables.length : Nat) : Int))) = true → 0 ≤ (k : Int) ∧ (d.tables.map eTable = d.tables.map eTable ∧ k < d.tables.length ∧ ∀ e30, d.tables[k]? = some e30 → Con Tryz.prog 68 [.agg [.str e30.name, .int .i64 e30.arity, .sl 25 1 (e30.rows.map eIntS)]] (.agg [.p none (.str ((statsOf e30).name)), vI ((statsOf e30).arity), vI ((statsOf e30).rowCount), .own 0]) [(0, .arr 157 3 true (((statsOf e30).groups).map eGroupStats))] ∧ out.map eTableStats = out.map eTableStats ∧ ((statsOf e30).name) = ((statsOf e30).name) ∧ ((statsOf e30).arity) = ((statsOf e30).arity) ∧ ((statsOf e30).rowCount) = ((statsOf e30).rowCount) ∧ ((statsOf e30).groups).map eGroupStats = ((statsOf e30).groups).map eGroupStats ∧ (out.length + 1) * 56 ≤ 140737488355328 ∧ inR ((k : Int) + (1 : Int)) ∧ ∃ (k' : Nat) (out' : List TableStatsD), ((k : Int) + (1 : Int)) = (k' : Int) ∧ v = v ∧ (out ++ [(statsOf e30)]).map eTableStats = out'.map eTableStats ∧ (k' ≤ d.tables.length ∧ out' = (d.tables.take k').map statsOf) ∧ d.tables.length - k' < d.tables.length - k)) ∧ ((decide ((k : Int) < ((d.tables.length : Nat) : Int))) = false → v = (((catOf d v).1).version) ∧ (true) = ((catOf d v).2) ∧ out.map eTableStats = (((catOf d v).1).tables).map eTableStats ∧ True)))))))) ?_
  intro n0
  simp only [List.length_map] at n0
  refine ⟨db_spec _, ?_⟩
  refine ⟨fun g12 => ?_, fun g12 => ?_⟩
  · replace g12 := nt g12
    have hbad : (okDb d && inB v 1 999) = false := by simp_all
    refine ⟨?_, ?_, ?_, trivial⟩
    · first | (rw [catOf_no hbad] <;> rfl) | (rw [catOf_yes hok] <;> rfl) | (rw [catOf_yes hok, ho, List.take_of_length_le (by omega)])
    · first | (rw [catOf_no hbad] <;> rfl) | (rw [catOf_yes hok] <;> rfl) | (rw [catOf_yes hok, ho, List.take_of_length_le (by omega)])
    · first | (rw [catOf_no hbad] <;> rfl) | (rw [catOf_yes hok] <;> rfl) | (rw [catOf_yes hok, ho, List.take_of_length_le (by omega)])
  · replace g12 := nf g12
    refine ⟨in_spec _ _ _, ?_⟩
    refine ⟨fun c0 => ?_, fun c0 => ?_⟩
    · replace c0 := nt c0
      have hbad : (okDb d && inB v 1 999) = false := by simp_all
      refine ⟨?_, ?_, ?_, trivial⟩
      · first | (rw [catOf_no hbad] <;> rfl) | (rw [catOf_yes hok] <;> rfl) | (rw [catOf_yes hok, ho, List.take_of_length_le (by omega)])
      · first | (rw [catOf_no hbad] <;> rfl) | (rw [catOf_yes hok] <;> rfl) | (rw [catOf_yes hok, ho, List.take_of_length_le (by omega)])
      · first | (rw [catOf_no hbad] <;> rfl) | (rw [catOf_yes hok] <;> rfl) | (rw [catOf_yes hok, ho, List.take_of_length_le (by omega)])
    · replace c0 := nf c0
      have hok : (okDb d && inB v 1 999) = true := by simp_all
      have h6 := okDb_len (by simp_all : okDb d = true)
      refine ⟨⟨0, ([] : List TableStatsD), rfl, rfl, rfl, Nat.zero_le _, rfl⟩, fun k out ⟨hk, ho⟩ => ?_⟩
      refine ⟨List.length_map _, ?_⟩
      refine ⟨fun c1 => ?_, fun c1 => ?_⟩
      · replace c1 := of_decide_eq_true c1
        refine ⟨by omega, ?_⟩
        refine ⟨rfl, by omega, fun e30 h30 => ?_⟩
        refine ⟨st_spec e30, ?_⟩
        refine ⟨rfl, rfl, rfl, rfl, rfl, by first | omega | (simp [ho]; omega), ?_⟩
        refine ⟨⟨by omega, by omega⟩, ?_⟩
        exact ⟨k + 1, _, rfl, rfl, rfl, ⟨by omega, by rw [ho, take_snoc h30, List.map_append]; rfl⟩, by omega⟩
      · replace c1 := of_decide_eq_false c1
        refine ⟨?_, ?_, ?_, trivial⟩
        · first | (rw [catOf_no hbad] <;> rfl) | (rw [catOf_yes hok] <;> rfl) | (rw [catOf_yes hok, ho, List.take_of_length_le (by omega)])
        · first | (rw [catOf_no hbad] <;> rfl) | (rw [catOf_yes hok] <;> rfl) | (rw [catOf_yes hok, ho, List.take_of_length_le (by omega)])
        · first | (rw [catOf_no hbad] <;> rfl) | (rw [catOf_yes hok] <;> rfl) | (rw [catOf_yes hok, ho, List.take_of_length_le (by omega)])
end Go.Proofs.YtjlagjhmlmfjeaaGreat
