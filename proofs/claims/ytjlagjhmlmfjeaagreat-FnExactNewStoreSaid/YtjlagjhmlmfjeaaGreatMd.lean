/-
  Valid inclusions, both sides.
-/
import Derived.Test.YtjlagjhmlmfjeaaGreatMa
import Derived.Test.YtjlagjhmlmfjeaaGreatMb
import Derived.Test.YtjlagjhmlmfjeaaGreatSk
namespace Go.Proofs.YtjlagjhmlmfjeaaGreat
open Go.ChangeShapes Go.WideShapes Go.ChangeAt Go.RowKit
set_option linter.unusedVariables false
set_option linter.unusedSimpArgs false
def okInc (d : DatabaseD) (x : InclusionD) : Bool := (lookT d x.name).2 && ((lookT d x.into).2 && (inB x.column 0 ((lookT d x.name).1.arity - 1) && inB x.intoColumn 0 ((lookT d x.into).1.arity - 1)))
def colOf (rows : List (List Int)) (c : Int) : List Int := rows.map fun r => r.getD c.toNat 0
def missL (d : DatabaseD) (x : InclusionD) : List Int := (colOf (lookT d x.name).1.rows x.column).filter fun v => !decide (v ∈ colOf (lookT d x.into).1.rows x.intoColumn)
def missI (d : DatabaseD) (x : InclusionD) : List Int := if okInc d x = true then compI (sortI (missL d x)) else []
def missB (d : DatabaseD) (x : InclusionD) (v : Nat) : Bool := decide ((v : Int) ∈ colOf (lookT d x.name).1.rows x.column) && !decide ((v : Int) ∈ colOf (lookT d x.into).1.rows x.intoColumn)
def missN (d : DatabaseD) (x : InclusionD) (n : Nat) : List Int := ((List.range n).filter (missB d x)).map fun v : Nat => (v : Int)
def missS (d : DatabaseD) (x : InclusionD) : List Int := if okInc d x = true then missN d x 10 else []
def incOk (d : DatabaseD) (x : InclusionD) : Bool := okInc d x && decide (missL d x = [])
theorem missN_yes {d : DatabaseD} {x : InclusionD} {v : Nat} (h : missB d x v = true) : missN d x (v + 1) = missN d x v ++ [(v : Int)] := by
  rw [missN, List.range_succ, List.filter_append, List.map_append]
  simp [missN, h]
theorem missN_no {d : DatabaseD} {x : InclusionD} {v : Nat} (h : missB d x v = false) : missN d x (v + 1) = missN d x v := by
  rw [missN, List.range_succ, List.filter_append, List.map_append]
  simp [missN, h]
theorem missN_len (d : DatabaseD) (x : InclusionD) (v : Nat) : (missN d x v).length ≤ v := by
  rw [missN, List.length_map]
  have := List.length_filter_le (missB d x) (List.range v)
  rwa [List.length_range] at this
theorem colOf_snoc (rows : List (List Int)) (c : Int) {k : Nat} {r : List Int} (h : rows[k]? = some r) : colOf (rows.take (k + 1)) c = colOf (rows.take k) c ++ [r.getD c.toNat 0] := by rw [take_snoc h, colOf, List.map_append]; rfl
theorem mem_snoc {l : List Int} {v y : Int} : decide (v ∈ l ++ [y]) = (decide (v ∈ l) || decide (v = y)) := by simp [Bool.decide_or]
theorem colOf_val {t : TableD} {c : Int} {v : Int} (h : okTable t = true) (hc : 0 ≤ c ∧ c ≤ t.arity - 1) (hv : v ∈ colOf t.rows c) : 0 ≤ v ∧ v ≤ 9 := by
  obtain ⟨r, hr, rfl⟩ := List.mem_map.1 hv
  have hl := row_len h hr
  have hk := List.all_eq_true.1 (okTable_parts h).1 r hr
  simp only [okRow, Bool.and_eq_true, decide_eq_true_eq] at hk
  have hlt : c.toNat < r.length := by omega
  have hm : r.getD c.toNat 0 ∈ r := by rw [List.getD_eq_getElem?_getD, List.getElem?_eq_getElem hlt]; exact List.getElem_mem hlt
  exact inB_true (List.all_eq_true.1 hk.1 _ hm)
theorem okInc_parts {d : DatabaseD} {x : InclusionD} (h : okInc d x = true) : okTable (lookT d x.name).1 = true ∧ okTable (lookT d x.into).1 = true ∧ (0 ≤ x.column ∧ x.column ≤ (lookT d x.name).1.arity - 1) ∧ (0 ≤ x.intoColumn ∧ x.intoColumn ≤ (lookT d x.into).1.arity - 1) := by
  simp only [okInc, Bool.and_eq_true] at h
  obtain ⟨h1, h2, h3, h4⟩ := h
  exact ⟨(lookT_ok h1).1, (lookT_ok h2).1, inB_true h3, inB_true h4⟩
theorem missI_nil {d : DatabaseD} {x : InclusionD} (h : okInc d x = true) : decide (missI d x = []) = decide (missL d x = []) := by
  rw [missI, if_pos h]
  apply Bool.eq_iff_iff.2
  rw [decide_eq_true_eq, decide_eq_true_eq, compI_nil]
  constructor
  · intro q
    have := sortI_len (missL d x)
    rw [q] at this
    exact List.eq_nil_of_length_eq_zero this.symm
  · intro q
    have := sortI_len (missL d x)
    rw [q] at this
    rw [q]
    exact List.eq_nil_of_length_eq_zero this
theorem missS_nil {d : DatabaseD} {x : InclusionD} (h : okInc d x = true) : decide (missS d x = []) = decide (missL d x = []) := by
  obtain ⟨h1, _, h3, _⟩ := okInc_parts h
  rw [missS, if_pos h]
  apply Bool.eq_iff_iff.2
  rw [decide_eq_true_eq, decide_eq_true_eq, missN, List.map_eq_nil_iff, List.filter_eq_nil_iff, missL, List.filter_eq_nil_iff]
  constructor
  · intro q v hv hb
    have hr := colOf_val h1 h3 hv
    refine q v.toNat (List.mem_range.2 (by omega)) ?_
    rw [missB, Int.toNat_of_nonneg hr.1]
    simp only [Bool.and_eq_true, decide_eq_true_eq]
    exact ⟨hv, hb⟩
  · intro q v _ hb
    rw [missB, Bool.and_eq_true, decide_eq_true_eq] at hb
    exact q _ hb.1 hb.2

set_option maxRecDepth 100000 in
set_option maxHeartbeats 4000000 in
theorem okInc_impl (d : DatabaseD) (x : InclusionD) (hc : cDatabase d ≤ 1048576) : Con Tryz.prog 195 [.agg [.sl 107 3 (d.tables.map eTable)], .agg [.str x.name, .int .i64 x.column, .str x.into, .int .i64 x.intoColumn]] (vB (okInc d x)) [] := by
  refine con_x tbOk mixedW Tryz.func195 (by kernel_rfl) (.call (.tup [.agg [.p none (.str (((lookT d x.name).1).name)), vI (((lookT d x.name).1).arity), .p none (.sl 25 1 ((((lookT d x.name).1).rows).map eIntS))], vB ((lookT d x.name).2)]) [] <| .call (.tup [.agg [.p none (.str (((lookT d x.into).1).name)), vI (((lookT d x.into).1).arity), .p none (.sl 25 1 ((((lookT d x.into).1).rows).map eIntS))], vB ((lookT d x.into).2)]) [] <| .br (.lit <| .br (.raw <| .call (vB (inB x.column (0 : Int) (IntKind.i64.wrap ((((lookT d x.name).1).arity) - (1 : Int))))) [] <| .lit <| .br (.raw <| .call (vB (inB x.intoColumn (0 : Int) (IntKind.i64.wrap ((((lookT d x.into).1).arity) - (1 : Int))))) [] <| .fin []) (.fin [])) (.fin [])) (.fin [])) ?_
  refine Eq.mpr (by kernel_rfl : _ = ((d.tables.map eTable).length ≤ 9223372036854775807 → Con Tryz.prog 213 [.agg [.sl 107 3 (d.tables.map eTable)], .one (.str x.name)] (.tup [.agg [.p none (.str (((lookT d x.name).1).name)), vI (((lookT d x.name).1).arity), .p none (.sl 25 1 ((((lookT d x.name).1).rows).map eIntS))], vB ((lookT d x.name).2)]) [] ∧ (Con Tryz.prog 213 [.agg [.sl 107 3 (d.tables.map eTable)], .one (.str x.into)] (.tup [.agg [.p none (.str (((lookT d x.into).1).name)), vI (((lookT d x.into).1).arity), .p none (.sl 25 1 ((((lookT d x.into).1).rows).map eIntS))], vB ((lookT d x.into).2)]) [] ∧ ((((lookT d x.name).2) = true → (((lookT d x.into).2) = true → Con Tryz.prog 149 [.one (.int .i64 x.column), .one (.int .i64 (0 : Int)), .one (.int .i64 (IntKind.i64.wrap ((((lookT d x.name).1).arity) - (1 : Int))))] (vB (inB x.column (0 : Int) (IntKind.i64.wrap ((((lookT d x.name).1).arity) - (1 : Int))))) [] ∧ (((inB x.column (0 : Int) (IntKind.i64.wrap ((((lookT d x.name).1).arity) - (1 : Int)))) = true → Con Tryz.prog 149 [.one (.int .i64 x.intoColumn), .one (.int .i64 (0 : Int)), .one (.int .i64 (IntKind.i64.wrap ((((lookT d x.into).1).arity) - (1 : Int))))] (vB (inB x.intoColumn (0 : Int) (IntKind.i64.wrap ((((lookT d x.into).1).arity) - (1 : Int))))) [] ∧ (inB x.intoColumn (0 : Int) (IntKind.i64.wrap ((((lookT d x.into).1).arity) - (1 : Int)))) = (okInc d x) ∧ True) ∧ ((inB x.column (0 : Int) (IntKind.i64.wrap ((((lookT d x.name).1).arity) - (1 : Int)))) = false → (false) = (okInc d x) ∧ True))) ∧ (((lookT d x.into).2) = false → (false) = (okInc d x) ∧ True)) ∧ (((lookT d x.name).2) = false → (false) = (okInc d x) ∧ True))))) ?_
  intro n0
  simp only [List.length_map] at n0
  refine ⟨con_stl (lkT_impl _ x.name (by omega)) rfl, ?_⟩
  refine ⟨con_stl (lkT_impl _ x.into (by omega)) rfl, ?_⟩
  refine ⟨fun g24 => ?_, fun g24 => ?_⟩
  · have hT := (lookT_ok g24).1
    have hA := okTable_arity hT
    have hw : IntKind.i64.wrap ((lookT d x.name).1.arity - 1) = (lookT d x.name).1.arity - 1 := IntWalk.i64_in _ ⟨by omega, by omega⟩
    try rw [hw]
    refine ⟨fun g27 => ?_, fun g27 => ?_⟩
    · have hT2 := (lookT_ok g27).1
      have hA2 := okTable_arity hT2
      have hw2 : IntKind.i64.wrap ((lookT d x.into).1.arity - 1) = (lookT d x.into).1.arity - 1 := IntWalk.i64_in _ ⟨by omega, by omega⟩
      try rw [hw2]
      refine ⟨in_impl _ _ _, ?_⟩
      refine ⟨fun g35 => ?_, fun g35 => ?_⟩
      · refine ⟨in_impl _ _ _, ?_⟩
        refine ⟨?_, trivial⟩
        · first | (simp [okInc, *]; done) | (simp [okInc, *] at *; simp [*]; done) | (simp_all [okInc]; done)
      · refine ⟨?_, trivial⟩
        · first | (simp [okInc, *]; done) | (simp [okInc, *] at *; simp [*]; done) | (simp_all [okInc]; done)
    · refine ⟨?_, trivial⟩
      · first | (simp [okInc, *]; done) | (simp [okInc, *] at *; simp [*]; done) | (simp_all [okInc]; done)
  · refine ⟨?_, trivial⟩
    · first | (simp [okInc, *]; done) | (simp [okInc, *] at *; simp [*]; done) | (simp_all [okInc]; done)

set_option maxRecDepth 100000 in
set_option maxHeartbeats 4000000 in
theorem okInc_spec (d : DatabaseD) (x : InclusionD) (hc : cDatabase d ≤ 1048576) : Con Tryz.prog 191 [.agg [.sl 107 3 (d.tables.map eTable)], .agg [.str x.name, .int .i64 x.column, .str x.into, .int .i64 x.intoColumn]] (vB (okInc d x)) [] := by
  refine con_x tbOk mixedW Tryz.func191 (by kernel_rfl) (.call (.tup [.agg [.p none (.str (((lookT d x.name).1).name)), vI (((lookT d x.name).1).arity), .p none (.sl 25 1 ((((lookT d x.name).1).rows).map eIntS))], vB ((lookT d x.name).2)]) [] <| .call (.tup [.agg [.p none (.str (((lookT d x.into).1).name)), vI (((lookT d x.into).1).arity), .p none (.sl 25 1 ((((lookT d x.into).1).rows).map eIntS))], vB ((lookT d x.into).2)]) [] <| .br (.lit <| .br (.raw <| .call (vB (inB x.column (0 : Int) (IntKind.i64.wrap ((((lookT d x.name).1).arity) - (1 : Int))))) [] <| .lit <| .br (.raw <| .call (vB (inB x.intoColumn (0 : Int) (IntKind.i64.wrap ((((lookT d x.into).1).arity) - (1 : Int))))) [] <| .fin []) (.fin [])) (.fin [])) (.fin [])) ?_
  refine Eq.mpr (by kernel_rfl : _ = ((d.tables.map eTable).length ≤ 9223372036854775807 → Con Tryz.prog 211 [.agg [.sl 107 3 (d.tables.map eTable)], .one (.str x.name)] (.tup [.agg [.p none (.str (((lookT d x.name).1).name)), vI (((lookT d x.name).1).arity), .p none (.sl 25 1 ((((lookT d x.name).1).rows).map eIntS))], vB ((lookT d x.name).2)]) [] ∧ (Con Tryz.prog 211 [.agg [.sl 107 3 (d.tables.map eTable)], .one (.str x.into)] (.tup [.agg [.p none (.str (((lookT d x.into).1).name)), vI (((lookT d x.into).1).arity), .p none (.sl 25 1 ((((lookT d x.into).1).rows).map eIntS))], vB ((lookT d x.into).2)]) [] ∧ ((((lookT d x.name).2) = true → (((lookT d x.into).2) = true → Con Tryz.prog 148 [.one (.int .i64 x.column), .one (.int .i64 (0 : Int)), .one (.int .i64 (IntKind.i64.wrap ((((lookT d x.name).1).arity) - (1 : Int))))] (vB (inB x.column (0 : Int) (IntKind.i64.wrap ((((lookT d x.name).1).arity) - (1 : Int))))) [] ∧ (((inB x.column (0 : Int) (IntKind.i64.wrap ((((lookT d x.name).1).arity) - (1 : Int)))) = true → Con Tryz.prog 148 [.one (.int .i64 x.intoColumn), .one (.int .i64 (0 : Int)), .one (.int .i64 (IntKind.i64.wrap ((((lookT d x.into).1).arity) - (1 : Int))))] (vB (inB x.intoColumn (0 : Int) (IntKind.i64.wrap ((((lookT d x.into).1).arity) - (1 : Int))))) [] ∧ (inB x.intoColumn (0 : Int) (IntKind.i64.wrap ((((lookT d x.into).1).arity) - (1 : Int)))) = (okInc d x) ∧ True) ∧ ((inB x.column (0 : Int) (IntKind.i64.wrap ((((lookT d x.name).1).arity) - (1 : Int)))) = false → (false) = (okInc d x) ∧ True))) ∧ (((lookT d x.into).2) = false → (false) = (okInc d x) ∧ True)) ∧ (((lookT d x.name).2) = false → (false) = (okInc d x) ∧ True))))) ?_
  intro n0
  simp only [List.length_map] at n0
  refine ⟨con_stl (lkT_spec _ x.name (by omega)) rfl, ?_⟩
  refine ⟨con_stl (lkT_spec _ x.into (by omega)) rfl, ?_⟩
  refine ⟨fun g24 => ?_, fun g24 => ?_⟩
  · have hT := (lookT_ok g24).1
    have hA := okTable_arity hT
    have hw : IntKind.i64.wrap ((lookT d x.name).1.arity - 1) = (lookT d x.name).1.arity - 1 := IntWalk.i64_in _ ⟨by omega, by omega⟩
    try rw [hw]
    refine ⟨fun g27 => ?_, fun g27 => ?_⟩
    · have hT2 := (lookT_ok g27).1
      have hA2 := okTable_arity hT2
      have hw2 : IntKind.i64.wrap ((lookT d x.into).1.arity - 1) = (lookT d x.into).1.arity - 1 := IntWalk.i64_in _ ⟨by omega, by omega⟩
      try rw [hw2]
      refine ⟨in_spec _ _ _, ?_⟩
      refine ⟨fun g35 => ?_, fun g35 => ?_⟩
      · refine ⟨in_spec _ _ _, ?_⟩
        refine ⟨?_, trivial⟩
        · first | (simp [okInc, *]; done) | (simp [okInc, *] at *; simp [*]; done) | (simp_all [okInc]; done)
      · refine ⟨?_, trivial⟩
        · first | (simp [okInc, *]; done) | (simp [okInc, *] at *; simp [*]; done) | (simp_all [okInc]; done)
    · refine ⟨?_, trivial⟩
      · first | (simp [okInc, *]; done) | (simp [okInc, *] at *; simp [*]; done) | (simp_all [okInc]; done)
  · refine ⟨?_, trivial⟩
    · first | (simp [okInc, *]; done) | (simp [okInc, *] at *; simp [*]; done) | (simp_all [okInc]; done)
end Go.Proofs.YtjlagjhmlmfjeaaGreat
