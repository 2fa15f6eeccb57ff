/-
  Valid dependencies, both sides.
-/
import Derived.Test.YtjlagjhmlmfjeaaGreatMa
import Derived.Test.YtjlagjhmlmfjeaaGreatGb
import Derived.Test.YtjlagjhmlmfjeaaGreatHb
import Derived.IntWalk
namespace Go.Proofs.YtjlagjhmlmfjeaaGreat
open Go.ChangeShapes Go.WideShapes Go.ChangeAt Go.RowKit
set_option linter.unusedVariables false
set_option linter.unusedSimpArgs false
set_option maxRecDepth 100000 in
set_option maxHeartbeats 4000000 in
theorem ixI (l : List Int) (v : Int) : Con Tryz.prog 235 [.one (.sl 3 1 (l.map intD)), .one (.int .i64 v)] (vI (idxF (isI v) l)) [] := by
  refine con_x tbOk mixedW Tryz.func235 (by kernel_rfl) (.len l.length <| .loop Nat (Q1 Nat) [5, 8, 9, 10, 11, 12, 13, 14, 15, 16, 18] [] (fun k => [(8, vI (k : Int))]) (fun k => []) (fun k => k ≤ l.length ∧ (l.take k).all (fun y => !isI v y) = true) (fun k => l.length - k) (fun k => .br (.elem Int intD l (fun e14 => .br (.fin []) (.back []))) (.fin []))) ?_
  refine Eq.mpr (by kernel_rfl : _ = ((l.map intD).length ≤ 9223372036854775807 → (l.map intD).length = l.length ∧ ((∃ (k : Nat), (0 : Int) = (k : Int) ∧ k ≤ l.length ∧ (l.take k).all (fun y => !isI v y) = true) ∧ ∀ (k : Nat), (k ≤ l.length ∧ (l.take k).all (fun y => !isI v y) = true) → ((decide ((k : Int) < ((l.length : Nat) : Int))) = true → 0 ≤ (k : Int) ∧ (l.map intD = l.map intD ∧ k < l.length ∧ ∀ e14, l[k]? = some e14 → ((decide (v = e14)) = true → (k : Int) = (idxF (isI v) l) ∧ True) ∧ ((decide (v = e14)) = false → inR ((k : Int) + (1 : Int)) ∧ ∃ (k' : Nat), ((k : Int) + (1 : Int)) = (k' : Int) ∧ (k' ≤ l.length ∧ (l.take k').all (fun y => !isI v y) = true) ∧ l.length - k' < l.length - k))) ∧ ((decide ((k : Int) < ((l.length : Nat) : Int))) = false → (-1 : Int) = (idxF (isI v) l) ∧ True)))) ?_
  intro n0
  simp only [List.length_map] at n0
  refine ⟨List.length_map _, ?_⟩
  refine ⟨⟨0, rfl, Nat.zero_le _, rfl⟩, fun k ⟨hk, ha⟩ => ?_⟩
  refine ⟨fun c0 => ?_, fun c0 => ?_⟩
  · replace c0 := of_decide_eq_true c0
    refine ⟨by omega, ?_⟩
    refine ⟨rfl, by omega, fun e14 h14 => ?_⟩
    refine ⟨fun c1 => ?_, fun c1 => ?_⟩
    · replace c1 := of_decide_eq_true c1
      have hE := idxF_at (p := isI v) h14 ha (by simpa [isI] using c1)
      refine ⟨?_, trivial⟩
      · rw [hE]
    · replace c1 := of_decide_eq_false c1
      refine ⟨⟨by omega, by omega⟩, ?_⟩
      exact ⟨k + 1, rfl, ⟨by omega, all_snoc h14 ha (by simpa [isI] using c1)⟩, by omega⟩
  · replace c0 := of_decide_eq_false c0
    have hE := idxF_no (p := isI v) (all_done (by omega) ha)
    refine ⟨?_, trivial⟩
    · rw [hE]

set_option maxRecDepth 100000 in
set_option maxHeartbeats 4000000 in
theorem ctI (l : List Int) (v : Int) : Con Tryz.prog 214 [.one (.sl 3 1 (l.map intD)), .one (.int .i64 v)] (vB (decide (v ∈ l))) [] := by
  refine con_x tbOk mixedW Tryz.func214 (by kernel_rfl) (.call (vI (idxF (isI v) l)) [] <| .fin []) ?_
  refine Eq.mpr (by kernel_rfl : _ = ((l.map intD).length ≤ 9223372036854775807 → Con Tryz.prog 235 [.one (.sl 3 1 (l.map intD)), .one (.int .i64 v)] (vI (idxF (isI v) l)) [] ∧ (decide ((0 : Int) ≤ (idxF (isI v) l))) = (decide (v ∈ l)) ∧ True)) ?_
  intro n0
  simp only [List.length_map] at n0
  refine ⟨ixI _ _, ?_⟩
  refine ⟨?_, trivial⟩
  · exact idxF_mem

set_option maxRecDepth 100000 in
set_option maxHeartbeats 4000000 in
theorem hsI (l : List Int) (v : Int) : Con Tryz.prog 212 [.one (.sl 3 1 (l.map intD)), .one (.int .i64 v)] (vB (decide (v ∈ l))) [] := by
  refine con_x tbOk mixedW Tryz.func212 (by kernel_rfl) (.loop Nat (Q1 Nat) [5, 6, 7, 8, 9, 10, 11, 12, 13, 14, 15, 16, 17] [] (fun k => [(5, vI (k : Int))]) (fun k => []) (fun k => k ≤ l.length ∧ (l.take k).all (fun y => !isI v y) = true) (fun k => l.length - k) (fun k => .len l.length <| .br (.elem Int intD l (fun e14 => .br (.fin []) (.back []))) (.fin []))) ?_
  refine Eq.mpr (by kernel_rfl : _ = ((l.map intD).length ≤ 9223372036854775807 → (∃ (k : Nat), (0 : Int) = (k : Int) ∧ k ≤ l.length ∧ (l.take k).all (fun y => !isI v y) = true) ∧ ∀ (k : Nat), (k ≤ l.length ∧ (l.take k).all (fun y => !isI v y) = true) → (l.map intD).length = l.length ∧ (((decide ((k : Int) < ((l.length : Nat) : Int))) = true → 0 ≤ (k : Int) ∧ (l.map intD = l.map intD ∧ k < l.length ∧ ∀ e14, l[k]? = some e14 → ((decide (e14 = v)) = true → (true) = (decide (v ∈ l)) ∧ True) ∧ ((decide (e14 = v)) = false → inR ((k : Int) + (1 : Int)) ∧ ∃ (k' : Nat), ((k : Int) + (1 : Int)) = (k' : Int) ∧ (k' ≤ l.length ∧ (l.take k').all (fun y => !isI v y) = true) ∧ l.length - k' < l.length - k))) ∧ ((decide ((k : Int) < ((l.length : Nat) : Int))) = false → (false) = (decide (v ∈ l)) ∧ True)))) ?_
  intro n0
  simp only [List.length_map] at n0
  refine ⟨⟨0, rfl, Nat.zero_le _, rfl⟩, fun k ⟨hk, ha⟩ => ?_⟩
  refine ⟨List.length_map _, ?_⟩
  refine ⟨fun c0 => ?_, fun c0 => ?_⟩
  · replace c0 := of_decide_eq_true c0
    refine ⟨by omega, ?_⟩
    refine ⟨rfl, by omega, fun e14 h14 => ?_⟩
    refine ⟨fun c1 => ?_, fun c1 => ?_⟩
    · replace c1 := of_decide_eq_true c1
      have hE : decide (v ∈ l) = true := by rw [← c1]; exact decide_eq_true (List.mem_of_getElem? h14)
      refine ⟨?_, trivial⟩
      · rw [hE]
    · replace c1 := of_decide_eq_false c1
      refine ⟨⟨by omega, by omega⟩, ?_⟩
      exact ⟨k + 1, rfl, ⟨by omega, all_snoc h14 ha (by simpa [isI] using fun q => c1 (Eq.symm q))⟩, by omega⟩
  · replace c0 := of_decide_eq_false c0
    have hE : decide (v ∈ l) = false := by rw [← idxF_mem, idxF_no (p := isI v) (all_done (by omega) ha)]; rfl
    refine ⟨?_, trivial⟩
    · rw [hE]

def okDep (d : DatabaseD) (f : DependencyD) : Bool := (lookT d f.name).2 && (colsOk ((lookT d f.name).1.arity - 1) f.src && (inB f.dst 0 ((lookT d f.name).1.arity - 1) && !decide (f.dst ∈ f.src)))
def badP (rows : List (List Int)) (cols : List Int) (c : Int) (i k : Nat) : Bool := decide ((selR (rows.getD i []) cols).1 = (selR (rows.getD k []) cols).1) && !decide ((rows.getD i []).getD c.toNat 0 = (rows.getD k []).getD c.toNat 0)
def violI (rows : List (List Int)) (cols : List Int) (c : Int) (k : Nat) : Nat → List Int
  | 0 => []
  | i + 1 => if violI rows cols c k i = [] ∧ badP rows cols c i k = true then [(i : Int), (k : Int)] else violI rows cols c k i
def violK (rows : List (List Int)) (cols : List Int) (c : Int) : Nat → List Int
  | 0 => []
  | k + 1 => if violK rows cols c k = [] then violI rows cols c k k else violK rows cols c k
def violL (d : DatabaseD) (f : DependencyD) : List Int := if okDep d f = true then violK (lookT d f.name).1.rows f.src f.dst (lookT d f.name).1.rows.length else []
theorem violI_no {rows : List (List Int)} {cols : List Int} {c : Int} {k i : Nat} (h : violI rows cols c k i = []) (hb : badP rows cols c i k = false) : violI rows cols c k (i + 1) = [] := by rw [violI, if_neg (by simp [hb]), h]
theorem violI_stay {rows : List (List Int)} {cols : List Int} {c : Int} {k i : Nat} (h : ¬ violI rows cols c k i = []) : ∀ j, violI rows cols c k (i + j) = violI rows cols c k i
  | 0 => rfl
  | j + 1 => by rw [Nat.add_succ, violI, violI_stay h j, if_neg (by simp [h])]
theorem violK_stay {rows : List (List Int)} {cols : List Int} {c : Int} {k : Nat} (h : ¬ violK rows cols c k = []) : ∀ j, violK rows cols c (k + j) = violK rows cols c k
  | 0 => rfl
  | j + 1 => by rw [Nat.add_succ, violK, violK_stay h j, if_neg h]
theorem viol_found {rows : List (List Int)} {cols : List Int} {c : Int} {k i n : Nat} (hk : violK rows cols c k = []) (hi : violI rows cols c k i = []) (hb : badP rows cols c i k = true) (hik : i < k) (hkn : k < n) : violK rows cols c n = [(i : Int), (k : Int)] := by
  have h1 : violI rows cols c k (i + 1) = [(i : Int), (k : Int)] := by rw [violI, if_pos ⟨hi, hb⟩]
  have h2 : violI rows cols c k k = [(i : Int), (k : Int)] := by
    have := violI_stay (rows := rows) (cols := cols) (c := c) (k := k) (i := i + 1) (by rw [h1]; simp) (k - (i + 1))
    rw [show i + 1 + (k - (i + 1)) = k by omega, h1] at this
    exact this
  have h3 : violK rows cols c (k + 1) = [(i : Int), (k : Int)] := by rw [violK, if_pos hk, h2]
  have := violK_stay (rows := rows) (cols := cols) (c := c) (k := k + 1) (by rw [h3]; simp) (n - (k + 1))
  rw [show k + 1 + (n - (k + 1)) = n by omega, h3] at this
  exact this
theorem violK_next {rows : List (List Int)} {cols : List Int} {c : Int} {k : Nat} (hk : violK rows cols c k = []) (hi : violI rows cols c k k = []) : violK rows cols c (k + 1) = [] := by rw [violK, if_pos hk, hi]
theorem okDep_parts {d : DatabaseD} {f : DependencyD} (h : okDep d f = true) : okTable (lookT d f.name).1 = true ∧ 0 ≤ f.dst ∧ f.dst ≤ (lookT d f.name).1.arity - 1 ∧ f.src.length ≤ 3 := by
  simp only [okDep, Bool.and_eq_true] at h
  obtain ⟨h1, h2, h3, _⟩ := h
  have hT := (lookT_ok h1).1
  have ha := okTable_arity hT
  have := inB_true h3
  exact ⟨hT, this.1, this.2, cols_len h2 (by omega)⟩
theorem badP_at {rows : List (List Int)} {cols : List Int} {c : Int} {i k : Nat} {x y : List Int} (hx : rows[i]? = some x) (hy : rows[k]? = some y) : badP rows cols c i k = (decide ((selR x cols).1 = (selR y cols).1) && !decide (x.getD c.toNat 0 = y.getD c.toNat 0)) := by
  rw [badP, getD_at hx, getD_at hy]
def depOk (d : DatabaseD) (f : DependencyD) : Bool := okDep d f && decide (violL d f = [])
theorem len_zero {α : Type} [DecidableEq α] (l : List α) : decide (((l.length : Nat) : Int) = 0) = decide (l = []) := by
  cases l with
  | nil => rfl
  | cons a l => simp; omega

set_option maxRecDepth 100000 in
set_option maxHeartbeats 4000000 in
theorem okDep_impl (d : DatabaseD) (f : DependencyD) (hc : cDatabase d ≤ 1048576) : Con Tryz.prog 193 [.agg [.sl 107 3 (d.tables.map eTable)], .agg [.str f.name, .sl 3 1 (f.src.map intD), .int .i64 f.dst]] (vB (okDep d f)) [] := by
  refine con_x tbOk mixedW Tryz.func193 (by kernel_rfl) (.call (.tup [.agg [.p none (.str (((lookT d f.name).1).name)), vI (((lookT d f.name).1).arity), .p none (.sl 25 1 ((((lookT d f.name).1).rows).map eIntS))], vB ((lookT d f.name).2)]) [] <| .br (.call (vB (colsOk ((((lookT d f.name).1).arity) - 1) f.src)) [] <| .lit <| .br (.raw <| .call (vB (inB f.dst (0 : Int) (IntKind.i64.wrap ((((lookT d f.name).1).arity) - (1 : Int))))) [] <| .lit <| .br (.call (vB (decide (f.dst ∈ f.src))) [] <| .fin []) (.fin [])) (.fin [])) (.fin [])) ?_
  refine Eq.mpr (by kernel_rfl : _ = ((d.tables.map eTable).length ≤ 9223372036854775807 → (f.src.map intD).length ≤ 9223372036854775807 → Con Tryz.prog 213 [.agg [.sl 107 3 (d.tables.map eTable)], .one (.str f.name)] (.tup [.agg [.p none (.str (((lookT d f.name).1).name)), vI (((lookT d f.name).1).arity), .p none (.sl 25 1 ((((lookT d f.name).1).rows).map eIntS))], vB ((lookT d f.name).2)]) [] ∧ ((((lookT d f.name).2) = true → Con Tryz.prog 185 [.one (.sl 3 1 (f.src.map intD)), .one (.int .i64 (((lookT d f.name).1).arity))] (vB (colsOk ((((lookT d f.name).1).arity) - 1) f.src)) [] ∧ (((colsOk ((((lookT d f.name).1).arity) - 1) f.src) = true → Con Tryz.prog 149 [.one (.int .i64 f.dst), .one (.int .i64 (0 : Int)), .one (.int .i64 (IntKind.i64.wrap ((((lookT d f.name).1).arity) - (1 : Int))))] (vB (inB f.dst (0 : Int) (IntKind.i64.wrap ((((lookT d f.name).1).arity) - (1 : Int))))) [] ∧ (((inB f.dst (0 : Int) (IntKind.i64.wrap ((((lookT d f.name).1).arity) - (1 : Int)))) = true → Con Tryz.prog 214 [.one (.sl 3 1 (f.src.map intD)), .one (.int .i64 f.dst)] (vB (decide (f.dst ∈ f.src))) [] ∧ (!(decide (f.dst ∈ f.src))) = (okDep d f) ∧ True) ∧ ((inB f.dst (0 : Int) (IntKind.i64.wrap ((((lookT d f.name).1).arity) - (1 : Int)))) = false → (false) = (okDep d f) ∧ True))) ∧ ((colsOk ((((lookT d f.name).1).arity) - 1) f.src) = false → (false) = (okDep d f) ∧ True))) ∧ (((lookT d f.name).2) = false → (false) = (okDep d f) ∧ True)))) ?_
  intro n0 n1
  simp only [List.length_map] at n0 n1
  refine ⟨con_stl (lkT_impl _ f.name (by omega)) rfl, ?_⟩
  refine ⟨fun g15 => ?_, fun g15 => ?_⟩
  · have hT := (lookT_ok g15).1
    have hA := okTable_arity hT
    have hw : IntKind.i64.wrap ((lookT d f.name).1.arity - 1) = (lookT d f.name).1.arity - 1 := IntWalk.i64_in _ ⟨by omega, by omega⟩
    try rw [hw]
    refine ⟨cols_impl _ _ (by omega), ?_⟩
    refine ⟨fun g22 => ?_, fun g22 => ?_⟩
    · refine ⟨in_impl _ _ _, ?_⟩
      refine ⟨fun g30 => ?_, fun g30 => ?_⟩
      · refine ⟨ctI _ _, ?_⟩
        refine ⟨?_, trivial⟩
        · first | (simp [okDep, *]; done) | (simp [okDep, *] at *; simp [*]; done) | (simp_all [okDep]; done)
      · refine ⟨?_, trivial⟩
        · first | (simp [okDep, *]; done) | (simp [okDep, *] at *; simp [*]; done) | (simp_all [okDep]; done)
    · refine ⟨?_, trivial⟩
      · first | (simp [okDep, *]; done) | (simp [okDep, *] at *; simp [*]; done) | (simp_all [okDep]; done)
  · refine ⟨?_, trivial⟩
    · first | (simp [okDep, *]; done) | (simp [okDep, *] at *; simp [*]; done) | (simp_all [okDep]; done)

set_option maxRecDepth 100000 in
set_option maxHeartbeats 4000000 in
theorem okDep_spec (d : DatabaseD) (f : DependencyD) (hc : cDatabase d ≤ 1048576) : Con Tryz.prog 189 [.agg [.sl 107 3 (d.tables.map eTable)], .agg [.str f.name, .sl 3 1 (f.src.map intD), .int .i64 f.dst]] (vB (okDep d f)) [] := by
  refine con_x tbOk mixedW Tryz.func189 (by kernel_rfl) (.call (.tup [.agg [.p none (.str (((lookT d f.name).1).name)), vI (((lookT d f.name).1).arity), .p none (.sl 25 1 ((((lookT d f.name).1).rows).map eIntS))], vB ((lookT d f.name).2)]) [] <| .br (.call (vB (okTable ((lookT d f.name).1) && colsOk (((lookT d f.name).1).arity - 1) f.src)) [] <| .lit <| .br (.raw <| .call (vB (inB f.dst (0 : Int) (IntKind.i64.wrap ((((lookT d f.name).1).arity) - (1 : Int))))) [] <| .lit <| .br (.call (vB (decide (f.dst ∈ f.src))) [] <| .fin []) (.fin [])) (.fin [])) (.fin [])) ?_
  refine Eq.mpr (by kernel_rfl : _ = ((d.tables.map eTable).length ≤ 9223372036854775807 → (f.src.map intD).length ≤ 9223372036854775807 → Con Tryz.prog 211 [.agg [.sl 107 3 (d.tables.map eTable)], .one (.str f.name)] (.tup [.agg [.p none (.str (((lookT d f.name).1).name)), vI (((lookT d f.name).1).arity), .p none (.sl 25 1 ((((lookT d f.name).1).rows).map eIntS))], vB ((lookT d f.name).2)]) [] ∧ ((((lookT d f.name).2) = true → Con Tryz.prog 171 [.agg [.str (((lookT d f.name).1).name), .int .i64 (((lookT d f.name).1).arity), .sl 25 1 ((((lookT d f.name).1).rows).map eIntS)], .one (.sl 3 1 (f.src.map intD))] (vB (okTable ((lookT d f.name).1) && colsOk (((lookT d f.name).1).arity - 1) f.src)) [] ∧ (((okTable ((lookT d f.name).1) && colsOk (((lookT d f.name).1).arity - 1) f.src) = true → Con Tryz.prog 148 [.one (.int .i64 f.dst), .one (.int .i64 (0 : Int)), .one (.int .i64 (IntKind.i64.wrap ((((lookT d f.name).1).arity) - (1 : Int))))] (vB (inB f.dst (0 : Int) (IntKind.i64.wrap ((((lookT d f.name).1).arity) - (1 : Int))))) [] ∧ (((inB f.dst (0 : Int) (IntKind.i64.wrap ((((lookT d f.name).1).arity) - (1 : Int)))) = true → Con Tryz.prog 212 [.one (.sl 3 1 (f.src.map intD)), .one (.int .i64 f.dst)] (vB (decide (f.dst ∈ f.src))) [] ∧ (!(decide (f.dst ∈ f.src))) = (okDep d f) ∧ True) ∧ ((inB f.dst (0 : Int) (IntKind.i64.wrap ((((lookT d f.name).1).arity) - (1 : Int)))) = false → (false) = (okDep d f) ∧ True))) ∧ ((okTable ((lookT d f.name).1) && colsOk (((lookT d f.name).1).arity - 1) f.src) = false → (false) = (okDep d f) ∧ True))) ∧ (((lookT d f.name).2) = false → (false) = (okDep d f) ∧ True)))) ?_
  intro n0 n1
  simp only [List.length_map] at n0 n1
  refine ⟨con_stl (lkT_spec _ f.name (by omega)) rfl, ?_⟩
  refine ⟨fun g15 => ?_, fun g15 => ?_⟩
  · have hT := (lookT_ok g15).1
    have hA := okTable_arity hT
    have hw : IntKind.i64.wrap ((lookT d f.name).1.arity - 1) = (lookT d f.name).1.arity - 1 := IntWalk.i64_in _ ⟨by omega, by omega⟩
    try rw [hw]
    refine ⟨cols_spec ((lookT d f.name).1) _, ?_⟩
    refine ⟨fun g21 => ?_, fun g21 => ?_⟩
    · refine ⟨in_spec _ _ _, ?_⟩
      refine ⟨fun g29 => ?_, fun g29 => ?_⟩
      · refine ⟨hsI _ _, ?_⟩
        refine ⟨?_, trivial⟩
        · first | (simp [okDep, *]; done) | (simp [okDep, *] at *; simp [*]; done) | (simp_all [okDep]; done)
      · refine ⟨?_, trivial⟩
        · first | (simp [okDep, *]; done) | (simp [okDep, *] at *; simp [*]; done) | (simp_all [okDep]; done)
    · refine ⟨?_, trivial⟩
      · first | (simp [okDep, *]; done) | (simp [okDep, *] at *; simp [*]; done) | (simp_all [okDep]; done)
  · refine ⟨?_, trivial⟩
    · first | (simp [okDep, *]; done) | (simp [okDep, *] at *; simp [*]; done) | (simp_all [okDep]; done)
end Go.Proofs.YtjlagjhmlmfjeaaGreat
