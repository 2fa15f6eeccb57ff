/-
  Columns of rows, both sides.
-/
import Derived.Test.YtjlagjhmlmfjeaaGreatFc
import Derived.IntWalk
namespace Go.Proofs.YtjlagjhmlmfjeaaGreat
open Go.ChangeShapes Go.WideShapes Go.ChangeAt Go.RowKit
set_option linter.unusedVariables false
set_option linter.unusedSimpArgs false
def selOk (n : Int) (cols : List Int) : Bool := cols.all fun c => inB c 0 (n - 1)
def pickC (r : List Int) (c : Int) : Int := r.getD c.toNat 0
def selR (r cols : List Int) : List Int × Bool := if selOk r.length cols = true then (cols.map (pickC r), true) else ([], false)
theorem selR_yes {r cols : List Int} (h : cols.all (fun c => inB c 0 ((r.length : Int) - 1)) = true) : selR r cols = (cols.map (pickC r), true) := by rw [selR, if_pos (show selOk _ _ = true from h)]
theorem selR_no {r cols : List Int} (h : cols.all (fun c => inB c 0 ((r.length : Int) - 1)) = false) : selR r cols = ([], false) := by rw [selR, if_neg (by rw [show selOk _ _ = false from h]; decide)]
theorem pickC_at {r : List Int} {c x : Int} (h : r[c.toNat]? = some x) : pickC r c = x := getD_at h
theorem selR_len (r cols : List Int) : (selR r cols).1.length ≤ cols.length := by
  unfold selR
  split <;> simp
def colAt (b : Int) (cols : List Int) (i : Nat) : Bool := inB (cols.getD i 0) 0 b && (decide (i = 0) || decide (cols.getD (i - 1) 0 < cols.getD i 0))
def colsOk (b : Int) (cols : List Int) : Bool := (List.range cols.length).all (colAt b cols)

set_option maxRecDepth 100000 in
set_option maxHeartbeats 4000000 in
theorem sel_impl (r cols : List Int) (hl : cols.length ≤ 1048576) : Con Tryz.prog 86 [.one (.sl 3 1 (r.map intD)), .one (.sl 3 1 (cols.map intD))] (.tup [.own 0, vB ((selR r cols).2)]) [(0, .arr 3 1 true (((selR r cols).1).map intD))] := by
  refine con_x tbOk mixedW Tryz.func86 (by kernel_rfl) (.len cols.length <| .loop (Nat × (List Int)) (Q2 Nat (List Int)) [6, 8, 9, 12, 13, 14, 15, 16, 17, 18, 19, 20, 21, 22, 23, 24, 25, 26, 27, 28, 29] [900, 2700, 2800] (fun yy0 => [(12, vI (yy0.1 : Int)), (6, .own 900)]) (fun yy0 => [(900, some (.arr 3 1 true (yy0.2.map intD)))]) (fun yy0 => yy0.1 ≤ cols.length ∧ yy0.2 = (cols.take yy0.1).map (pickC r) ∧ (cols.take yy0.1).all (fun c => inB c 0 ((r.length : Int) - 1)) = true) (fun yy0 => cols.length - yy0.1) (fun yy0 => .br (.elem Int intD cols (fun e14 => .len r.length <| .call (vB (inB e14 (0 : Int) (((r.length : Nat) : Int) - (1 : Int)))) [] <| .br (.fin []) (.elem Int intD r (fun e25 => .app Int intD yy0.2 ([e25] : List Int) <| .back [(900, 2800)])))) (.fin [(0, 900)]))) ?_
  refine Eq.mpr (by kernel_rfl : _ = ((r.map intD).length ≤ 9223372036854775807 → (cols.map intD).length ≤ 9223372036854775807 → (cols.map intD).length = cols.length ∧ ((∃ (k : Nat) (out : List Int), (0 : Int) = (k : Int) ∧ [] = out.map intD ∧ k ≤ cols.length ∧ out = (cols.take k).map (pickC r) ∧ (cols.take k).all (fun c => inB c 0 ((r.length : Int) - 1)) = true) ∧ ∀ (k : Nat) (out : List Int), (k ≤ cols.length ∧ out = (cols.take k).map (pickC r) ∧ (cols.take k).all (fun c => inB c 0 ((r.length : Int) - 1)) = true) → ((decide ((k : Int) < ((cols.length : Nat) : Int))) = true → 0 ≤ (k : Int) ∧ (cols.map intD = cols.map intD ∧ k < cols.length ∧ ∀ e14, cols[k]? = some e14 → (r.map intD).length = r.length ∧ (inR (((r.length : Nat) : Int) - (1 : Int)) ∧ (Con Tryz.prog 149 [.one (.int .i64 e14), .one (.int .i64 (0 : Int)), .one (.int .i64 (((r.length : Nat) : Int) - (1 : Int)))] (vB (inB e14 (0 : Int) (((r.length : Nat) : Int) - (1 : Int)))) [] ∧ (((!(inB e14 (0 : Int) (((r.length : Nat) : Int) - (1 : Int)))) = true → (false) = ((selR r cols).2) ∧ [] = ((selR r cols).1).map intD ∧ True) ∧ ((!(inB e14 (0 : Int) (((r.length : Nat) : Int) - (1 : Int)))) = false → 0 ≤ e14 ∧ (r.map intD = r.map intD ∧ (e14).toNat < r.length ∧ ∀ e25, r[(e14).toNat]? = some e25 → out.map intD = out.map intD ∧ [[.int .i64 e25]] = ([e25] : List Int).map intD ∧ (∀ x, flatB (intD x) = true) ∧ (out.length + ([e25] : List Int).length) * 8 ≤ 140737488355328 ∧ inR ((k : Int) + (1 : Int)) ∧ ∃ (k' : Nat) (out' : List Int), ((k : Int) + (1 : Int)) = (k' : Int) ∧ (out ++ [e25]).map intD = out'.map intD ∧ (k' ≤ cols.length ∧ out' = (cols.take k').map (pickC r) ∧ (cols.take k').all (fun c => inB c 0 ((r.length : Int) - 1)) = true) ∧ cols.length - k' < cols.length - k))))))) ∧ ((decide ((k : Int) < ((cols.length : Nat) : Int))) = false → (true) = ((selR r cols).2) ∧ out.map intD = ((selR r cols).1).map intD ∧ True)))) ?_
  intro n0 n1
  simp only [List.length_map] at n0 n1
  refine ⟨List.length_map _, ?_⟩
  refine ⟨⟨0, ([] : List Int), rfl, rfl, Nat.zero_le _, rfl, rfl⟩, fun k out ⟨hk, ho, ha⟩ => ?_⟩
  refine ⟨fun c0 => ?_, fun c0 => ?_⟩
  · replace c0 := of_decide_eq_true c0
    refine ⟨by omega, ?_⟩
    refine ⟨rfl, by omega, fun e14 h14 => ?_⟩
    refine ⟨List.length_map _, ?_⟩
    refine ⟨⟨by omega, by omega⟩, ?_⟩
    refine ⟨in_impl _ _ _, ?_⟩
    refine ⟨fun c1 => ?_, fun c1 => ?_⟩
    · replace c1 := nt c1
      refine ⟨?_, ?_, trivial⟩
      · first | (rw [selR_no (all_stop h14 c1)] <;> rfl) | (rw [selR_yes (all_done (by omega) ha), ho, List.take_of_length_le (by omega)] <;> rfl) | (rw [selR_yes (all_done (by omega) ha)] <;> rfl)
      · first | (rw [selR_no (all_stop h14 c1)] <;> rfl) | (rw [selR_yes (all_done (by omega) ha), ho, List.take_of_length_le (by omega)] <;> rfl) | (rw [selR_yes (all_done (by omega) ha)] <;> rfl)
    · replace c1 := nf c1
      have hb := inB_true c1
      refine ⟨by omega, ?_⟩
      refine ⟨rfl, by omega, fun e25 h25 => ?_⟩
      refine ⟨rfl, rfl, fun _ => rfl, by simp [ho]; omega, ?_⟩
      refine ⟨⟨by omega, by omega⟩, ?_⟩
      exact ⟨k + 1, _, rfl, rfl, ⟨by omega, by rw [ho, take_snoc h14, List.map_append, List.map_cons, List.map_nil, pickC_at h25], all_snoc h14 ha c1⟩, by omega⟩
  · replace c0 := of_decide_eq_false c0
    refine ⟨?_, ?_, trivial⟩
    · first | (rw [selR_no (all_stop h14 c1)] <;> rfl) | (rw [selR_yes (all_done (by omega) ha), ho, List.take_of_length_le (by omega)] <;> rfl) | (rw [selR_yes (all_done (by omega) ha)] <;> rfl)
    · first | (rw [selR_no (all_stop h14 c1)] <;> rfl) | (rw [selR_yes (all_done (by omega) ha), ho, List.take_of_length_le (by omega)] <;> rfl) | (rw [selR_yes (all_done (by omega) ha)] <;> rfl)

set_option maxRecDepth 100000 in
set_option maxHeartbeats 4000000 in
theorem sel_spec (r cols : List Int) (hl : cols.length ≤ 1048576) : Con Tryz.prog 172 [.one (.sl 3 1 (r.map intD)), .one (.sl 3 1 (cols.map intD))] (.tup [.own 0, vB ((selR r cols).2)]) [(0, .arr 3 1 true (((selR r cols).1).map intD))] := by
  refine con_x tbOk mixedW Tryz.func172 (by kernel_rfl) (.loop (Nat × (List Int)) (Q2 Nat (List Int)) [6, 7, 8, 9, 10, 11, 12, 13, 14, 15, 16, 17, 18, 19, 20, 21, 22, 23, 25, 26, 27, 28, 29, 30, 31, 32, 33, 34] [800, 3300, 3400] (fun yy0 => [(7, vI (yy0.1 : Int)), (6, .own 800)]) (fun yy0 => [(800, some (.arr 3 1 true (yy0.2.map intD)))]) (fun yy0 => yy0.1 ≤ cols.length ∧ yy0.2 = (cols.take yy0.1).map (pickC r) ∧ (cols.take yy0.1).all (fun c => inB c 0 ((r.length : Int) - 1)) = true) (fun yy0 => cols.length - yy0.1) (fun yy0 => .len cols.length <| .br (.elem Int intD cols (fun e17 => .len r.length <| .call (vB (inB e17 (0 : Int) (((r.length : Nat) : Int) - (1 : Int)))) [] <| .br (.fin [(0, 2400)]) (.elem Int intD cols (fun e29 => .elem Int intD r (fun e31 => .app Int intD yy0.2 ([e31] : List Int) <| .back [(800, 3400)]))))) (.fin [(0, 800)]))) ?_
  refine Eq.mpr (by kernel_rfl : _ = ((r.map intD).length ≤ 9223372036854775807 → (cols.map intD).length ≤ 9223372036854775807 → (∃ (k : Nat) (out : List Int), (0 : Int) = (k : Int) ∧ [] = out.map intD ∧ k ≤ cols.length ∧ out = (cols.take k).map (pickC r) ∧ (cols.take k).all (fun c => inB c 0 ((r.length : Int) - 1)) = true) ∧ ∀ (k : Nat) (out : List Int), (k ≤ cols.length ∧ out = (cols.take k).map (pickC r) ∧ (cols.take k).all (fun c => inB c 0 ((r.length : Int) - 1)) = true) → (cols.map intD).length = cols.length ∧ (((decide ((k : Int) < ((cols.length : Nat) : Int))) = true → 0 ≤ (k : Int) ∧ (cols.map intD = cols.map intD ∧ k < cols.length ∧ ∀ e17, cols[k]? = some e17 → (r.map intD).length = r.length ∧ (inR (((r.length : Nat) : Int) - (1 : Int)) ∧ (Con Tryz.prog 148 [.one (.int .i64 e17), .one (.int .i64 (0 : Int)), .one (.int .i64 (((r.length : Nat) : Int) - (1 : Int)))] (vB (inB e17 (0 : Int) (((r.length : Nat) : Int) - (1 : Int)))) [] ∧ (((!(inB e17 (0 : Int) (((r.length : Nat) : Int) - (1 : Int)))) = true → (false) = ((selR r cols).2) ∧ [] = ((selR r cols).1).map intD ∧ True) ∧ ((!(inB e17 (0 : Int) (((r.length : Nat) : Int) - (1 : Int)))) = false → 0 ≤ (k : Int) ∧ (cols.map intD = cols.map intD ∧ k < cols.length ∧ ∀ e29, cols[k]? = some e29 → 0 ≤ e29 ∧ (r.map intD = r.map intD ∧ (e29).toNat < r.length ∧ ∀ e31, r[(e29).toNat]? = some e31 → out.map intD = out.map intD ∧ [[.int .i64 e31]] = ([e31] : List Int).map intD ∧ (∀ x, flatB (intD x) = true) ∧ (out.length + ([e31] : List Int).length) * 8 ≤ 140737488355328 ∧ inR ((k : Int) + (1 : Int)) ∧ ∃ (k' : Nat) (out' : List Int), ((k : Int) + (1 : Int)) = (k' : Int) ∧ (out ++ [e31]).map intD = out'.map intD ∧ (k' ≤ cols.length ∧ out' = (cols.take k').map (pickC r) ∧ (cols.take k').all (fun c => inB c 0 ((r.length : Int) - 1)) = true) ∧ cols.length - k' < cols.length - k)))))))) ∧ ((decide ((k : Int) < ((cols.length : Nat) : Int))) = false → (true) = ((selR r cols).2) ∧ out.map intD = ((selR r cols).1).map intD ∧ True)))) ?_
  intro n0 n1
  simp only [List.length_map] at n0 n1
  refine ⟨⟨0, ([] : List Int), rfl, rfl, Nat.zero_le _, rfl, rfl⟩, fun k out ⟨hk, ho, ha⟩ => ?_⟩
  refine ⟨List.length_map _, ?_⟩
  refine ⟨fun c0 => ?_, fun c0 => ?_⟩
  · replace c0 := of_decide_eq_true c0
    refine ⟨by omega, ?_⟩
    refine ⟨rfl, by omega, fun e17 h17 => ?_⟩
    refine ⟨List.length_map _, ?_⟩
    refine ⟨⟨by omega, by omega⟩, ?_⟩
    refine ⟨in_spec _ _ _, ?_⟩
    refine ⟨fun c1 => ?_, fun c1 => ?_⟩
    · replace c1 := nt c1
      refine ⟨?_, ?_, trivial⟩
      · first | (rw [selR_no (all_stop h17 c1)] <;> rfl) | (rw [selR_yes (all_done (by omega) ha), ho, List.take_of_length_le (by omega)] <;> rfl) | (rw [selR_yes (all_done (by omega) ha)] <;> rfl)
      · first | (rw [selR_no (all_stop h17 c1)] <;> rfl) | (rw [selR_yes (all_done (by omega) ha), ho, List.take_of_length_le (by omega)] <;> rfl) | (rw [selR_yes (all_done (by omega) ha)] <;> rfl)
    · replace c1 := nf c1
      have hb := inB_true c1
      refine ⟨by omega, ?_⟩
      refine ⟨rfl, by omega, fun e29 h29 => ?_⟩
      obtain rfl := (same_at h17 h29).symm
      refine ⟨by omega, ?_⟩
      refine ⟨rfl, by omega, fun e31 h31 => ?_⟩
      refine ⟨rfl, rfl, fun _ => rfl, by simp [ho]; omega, ?_⟩
      refine ⟨⟨by omega, by omega⟩, ?_⟩
      exact ⟨k + 1, _, rfl, rfl, ⟨by omega, by rw [ho, take_snoc h17, List.map_append, List.map_cons, List.map_nil, pickC_at h31], all_snoc h17 ha c1⟩, by omega⟩
  · replace c0 := of_decide_eq_false c0
    refine ⟨?_, ?_, trivial⟩
    · first | (rw [selR_no (all_stop h17 c1)] <;> rfl) | (rw [selR_yes (all_done (by omega) ha), ho, List.take_of_length_le (by omega)] <;> rfl) | (rw [selR_yes (all_done (by omega) ha)] <;> rfl)
    · first | (rw [selR_no (all_stop h17 c1)] <;> rfl) | (rw [selR_yes (all_done (by omega) ha), ho, List.take_of_length_le (by omega)] <;> rfl) | (rw [selR_yes (all_done (by omega) ha)] <;> rfl)

set_option maxRecDepth 100000 in
set_option maxHeartbeats 4000000 in
theorem cols_impl (cols : List Int) (a : Int) (ha : 1 ≤ a ∧ a ≤ 3) : Con Tryz.prog 185 [.one (.sl 3 1 (cols.map intD)), .one (.int .i64 a)] (vB (colsOk (a - 1) cols)) [] := by
  refine con_x tbOk mixedW Tryz.func185 (by kernel_rfl) (.len cols.length <| .loop Nat (Q1 Nat) [5, 6, 9, 10, 11, 12, 13, 14, 15, 16, 17, 18, 19, 20, 21, 22, 23, 24, 25, 26, 27, 28, 29, 30, 31, 32] [] (fun k => [(9, vI (k : Int))]) (fun k => []) (fun k => k ≤ cols.length ∧ (List.range k).all (colAt (a - 1) cols) = true) (fun k => cols.length - k) (fun k => .br (.elem Int intD cols (fun e12 => .call (vB (inB e12 (0 : Int) (a - (1 : Int)))) [] <| .br (.fin []) (.lit <| .lit <| .br (.elem Int intD cols (fun e26 => .lit <| .lit <| .lit <| .lit <| .lit <| .lit <| .br (.fin []) (.back []))) (.back [])))) (.fin []))) ?_
  refine Eq.mpr (by kernel_rfl : _ = ((cols.map intD).length ≤ 9223372036854775807 → (cols.map intD).length = cols.length ∧ ((∃ (k : Nat), (0 : Int) = (k : Int) ∧ k ≤ cols.length ∧ (List.range k).all (colAt (a - 1) cols) = true) ∧ ∀ (k : Nat), (k ≤ cols.length ∧ (List.range k).all (colAt (a - 1) cols) = true) → ((decide ((k : Int) < ((cols.length : Nat) : Int))) = true → 0 ≤ (k : Int) ∧ (cols.map intD = cols.map intD ∧ k < cols.length ∧ ∀ e12, cols[k]? = some e12 → inR (a - (1 : Int)) ∧ (Con Tryz.prog 149 [.one (.int .i64 e12), .one (.int .i64 (0 : Int)), .one (.int .i64 (a - (1 : Int)))] (vB (inB e12 (0 : Int) (a - (1 : Int)))) [] ∧ (((!(inB e12 (0 : Int) (a - (1 : Int)))) = true → (false) = (colsOk (a - 1) cols) ∧ True) ∧ ((!(inB e12 (0 : Int) (a - (1 : Int)))) = false → ((decide ((0 : Int) < (k : Int))) = true → inR ((k : Int) - (1 : Int)) ∧ (0 ≤ ((k : Int) - (1 : Int)) ∧ (cols.map intD = cols.map intD ∧ ((k : Int) - (1 : Int)).toNat < cols.length ∧ ∀ e26, cols[((k : Int) - (1 : Int)).toNat]? = some e26 → ((decide (e12 ≤ e26)) = true → (false) = (colsOk (a - 1) cols) ∧ True) ∧ ((decide (e12 ≤ e26)) = false → inR ((k : Int) + (1 : Int)) ∧ ∃ (k' : Nat), ((k : Int) + (1 : Int)) = (k' : Int) ∧ (k' ≤ cols.length ∧ (List.range k').all (colAt (a - 1) cols) = true) ∧ cols.length - k' < cols.length - k)))) ∧ ((decide ((0 : Int) < (k : Int))) = false → inR ((k : Int) + (1 : Int)) ∧ ∃ (k' : Nat), ((k : Int) + (1 : Int)) = (k' : Int) ∧ (k' ≤ cols.length ∧ (List.range k').all (colAt (a - 1) cols) = true) ∧ cols.length - k' < cols.length - k)))))) ∧ ((decide ((k : Int) < ((cols.length : Nat) : Int))) = false → (true) = (colsOk (a - 1) cols) ∧ True)))) ?_
  intro n0
  simp only [List.length_map] at n0
  refine ⟨List.length_map _, ?_⟩
  refine ⟨⟨0, rfl, Nat.zero_le _, rfl⟩, fun k ⟨hk, hv⟩ => ?_⟩
  refine ⟨fun c0 => ?_, fun c0 => ?_⟩
  · replace c0 := of_decide_eq_true c0
    refine ⟨by omega, ?_⟩
    refine ⟨rfl, by omega, fun e12 h12 => ?_⟩
    refine ⟨⟨by omega, by omega⟩, ?_⟩
    refine ⟨in_impl _ _ _, ?_⟩
    refine ⟨fun g19 => ?_, fun g19 => ?_⟩
    · replace g19 := nt g19
      have hp : colAt (a - 1) cols k = false := by rw [colAt, getD_at h12, g19]; rfl
      refine ⟨?_, trivial⟩
      · first | (rw [colsOk, range_stop (by omega) hp]; done) | (rw [colsOk, show cols.length = k by omega, hv]; done)
    · replace g19 := nf g19
      refine ⟨fun g22 => ?_, fun g22 => ?_⟩
      · replace g22 := of_decide_eq_true g22
        refine ⟨⟨by omega, by omega⟩, ?_⟩
        refine ⟨by omega, ?_⟩
        refine ⟨rfl, by omega, fun e26 h26 => ?_⟩
        have i26 : cols[k - 1]? = some e26 := by rw [← h26]; congr 1; omega
        refine ⟨fun c1 => ?_, fun c1 => ?_⟩
        · replace c1 := of_decide_eq_true c1
          have hp : colAt (a - 1) cols k = false := by rw [colAt, getD_at h12, getD_at i26, show decide (e26 < e12) = false by simp; omega, show decide (k = 0) = false by simp; omega]; simp
          refine ⟨?_, trivial⟩
          · first | (rw [colsOk, range_stop (by omega) hp]; done) | (rw [colsOk, show cols.length = k by omega, hv]; done)
        · replace c1 := of_decide_eq_false c1
          have hp : colAt (a - 1) cols k = true := by rw [colAt, getD_at h12, g19, getD_at i26, show decide (e26 < e12) = true by simp; omega]; simp
          refine ⟨⟨by omega, by omega⟩, ?_⟩
          exact ⟨k + 1, rfl, ⟨by omega, range_snoc hv hp⟩, by omega⟩
      · replace g22 := of_decide_eq_false g22
        have hp : colAt (a - 1) cols k = true := by rw [colAt, getD_at h12, g19, show decide (k = 0) = true by simp; omega]; rfl
        refine ⟨⟨by omega, by omega⟩, ?_⟩
        exact ⟨k + 1, rfl, ⟨by omega, range_snoc hv hp⟩, by omega⟩
  · replace c0 := of_decide_eq_false c0
    refine ⟨?_, trivial⟩
    · first | (rw [colsOk, range_stop (by omega) hp]; done) | (rw [colsOk, show cols.length = k by omega, hv]; done)

theorem okTable_arity {t : TableD} (h : okTable t = true) : 1 ≤ t.arity ∧ t.arity ≤ 3 ∧ t.rows.length ≤ 8 := by
  simp only [okTable, Bool.and_eq_true, decide_eq_true_eq] at h
  have := inB_true h.2.2.1
  omega
theorem wrap_arity {t : TableD} (h : okTable t = true) : IntKind.i64.wrap (t.arity - 1) = t.arity - 1 := by
  have := okTable_arity h
  exact IntWalk.i64_in _ ⟨by omega, by omega⟩
theorem l10_no {t : TableD} {cols : List Int} (h : colsOk (IntKind.i64.wrap (t.arity - 1)) cols = false) : (okTable t && colsOk (t.arity - 1) cols) = false := by
  cases e : okTable t with
  | false => rfl
  | true => rw [wrap_arity e] at h; rw [h]; rfl
theorem l10_yes {t : TableD} {cols : List Int} (h : colsOk (IntKind.i64.wrap (t.arity - 1)) cols = true) : (okTable t && colsOk (t.arity - 1) cols) = okTable t := by
  cases e : okTable t with
  | false => rfl
  | true => rw [wrap_arity e] at h; rw [h]; rfl

set_option maxRecDepth 100000 in
set_option maxHeartbeats 4000000 in
theorem cols_spec (t : TableD) (cols : List Int) : Con Tryz.prog 171 [.agg [.str t.name, .int .i64 t.arity, .sl 25 1 (t.rows.map eIntS)], .one (.sl 3 1 (cols.map intD))] (vB (okTable t && colsOk (t.arity - 1) cols)) [] := by
  refine con_x tbOk mixedW Tryz.func171 (by kernel_rfl) (.loop Nat (Q1 Nat) [5, 6, 7, 8, 9, 10, 11, 12, 13, 14, 15, 16, 17, 18, 19, 20, 21, 22, 23, 24, 25, 26, 27, 28, 29, 30, 31, 32, 33, 34, 35, 36] [] (fun k => [(5, vI (k : Int))]) (fun k => []) (fun k => k ≤ cols.length ∧ (List.range k).all (colAt (IntKind.i64.wrap (t.arity - (1 : Int))) cols) = true) (fun k => cols.length - k) (fun k => .len cols.length <| .br (.elem Int intD cols (fun e14 => .raw <| .call (vB (inB e14 (0 : Int) (IntKind.i64.wrap (t.arity - (1 : Int))))) [] <| .br (.fin []) (.lit <| .lit <| .br (.elem Int intD cols (fun e28 => .elem Int intD cols (fun e32 => .lit <| .lit <| .lit <| .lit <| .lit <| .br (.fin []) (.back [])))) (.back [])))) (.call (vB (okTable t)) [] <| .fin []))) ?_
  refine Eq.mpr (by kernel_rfl : _ = ((t.rows.map eIntS).length ≤ 9223372036854775807 → (cols.map intD).length ≤ 9223372036854775807 → (∃ (k : Nat), (0 : Int) = (k : Int) ∧ k ≤ cols.length ∧ (List.range k).all (colAt (IntKind.i64.wrap (t.arity - (1 : Int))) cols) = true) ∧ ∀ (k : Nat), (k ≤ cols.length ∧ (List.range k).all (colAt (IntKind.i64.wrap (t.arity - (1 : Int))) cols) = true) → (cols.map intD).length = cols.length ∧ (((decide ((k : Int) < ((cols.length : Nat) : Int))) = true → 0 ≤ (k : Int) ∧ (cols.map intD = cols.map intD ∧ k < cols.length ∧ ∀ e14, cols[k]? = some e14 → Con Tryz.prog 148 [.one (.int .i64 e14), .one (.int .i64 (0 : Int)), .one (.int .i64 (IntKind.i64.wrap (t.arity - (1 : Int))))] (vB (inB e14 (0 : Int) (IntKind.i64.wrap (t.arity - (1 : Int))))) [] ∧ (((!(inB e14 (0 : Int) (IntKind.i64.wrap (t.arity - (1 : Int))))) = true → (false) = (okTable t && colsOk (t.arity - 1) cols) ∧ True) ∧ ((!(inB e14 (0 : Int) (IntKind.i64.wrap (t.arity - (1 : Int))))) = false → ((decide ((0 : Int) < (k : Int))) = true → inR ((k : Int) - (1 : Int)) ∧ (0 ≤ ((k : Int) - (1 : Int)) ∧ (cols.map intD = cols.map intD ∧ ((k : Int) - (1 : Int)).toNat < cols.length ∧ ∀ e28, cols[((k : Int) - (1 : Int)).toNat]? = some e28 → 0 ≤ (k : Int) ∧ (cols.map intD = cols.map intD ∧ k < cols.length ∧ ∀ e32, cols[k]? = some e32 → ((decide (e32 ≤ e28)) = true → (false) = (okTable t && colsOk (t.arity - 1) cols) ∧ True) ∧ ((decide (e32 ≤ e28)) = false → inR ((k : Int) + (1 : Int)) ∧ ∃ (k' : Nat), ((k : Int) + (1 : Int)) = (k' : Int) ∧ (k' ≤ cols.length ∧ (List.range k').all (colAt (IntKind.i64.wrap (t.arity - (1 : Int))) cols) = true) ∧ cols.length - k' < cols.length - k))))) ∧ ((decide ((0 : Int) < (k : Int))) = false → inR ((k : Int) + (1 : Int)) ∧ ∃ (k' : Nat), ((k : Int) + (1 : Int)) = (k' : Int) ∧ (k' ≤ cols.length ∧ (List.range k').all (colAt (IntKind.i64.wrap (t.arity - (1 : Int))) cols) = true) ∧ cols.length - k' < cols.length - k))))) ∧ ((decide ((k : Int) < ((cols.length : Nat) : Int))) = false → Con Tryz.prog 122 [.agg [.str t.name, .int .i64 t.arity, .sl 25 1 (t.rows.map eIntS)]] (vB (okTable t)) [] ∧ (okTable t) = (okTable t && colsOk (t.arity - 1) cols) ∧ True)))) ?_
  intro n0 n1
  simp only [List.length_map] at n0 n1
  refine ⟨⟨0, rfl, Nat.zero_le _, rfl⟩, fun k ⟨hk, hv⟩ => ?_⟩
  refine ⟨List.length_map _, ?_⟩
  refine ⟨fun c0 => ?_, fun c0 => ?_⟩
  · replace c0 := of_decide_eq_true c0
    refine ⟨by omega, ?_⟩
    refine ⟨rfl, by omega, fun e14 h14 => ?_⟩
    refine ⟨in_spec _ _ _, ?_⟩
    refine ⟨fun g21 => ?_, fun g21 => ?_⟩
    · replace g21 := nt g21
      have hp : colAt (IntKind.i64.wrap (t.arity - (1 : Int))) cols k = false := by rw [colAt, getD_at h14, g21]; rfl
      refine ⟨?_, trivial⟩
      · first | (rw [l10_no (by rw [colsOk, range_stop (by omega) hp])]; done) | (rw [l10_yes (by rw [colsOk, show cols.length = k by omega, hv])]; done)
    · replace g21 := nf g21
      refine ⟨fun g24 => ?_, fun g24 => ?_⟩
      · replace g24 := of_decide_eq_true g24
        refine ⟨⟨by omega, by omega⟩, ?_⟩
        refine ⟨by omega, ?_⟩
        refine ⟨rfl, by omega, fun e28 h28 => ?_⟩
        have i28 : cols[k - 1]? = some e28 := by rw [← h28]; congr 1; omega
        refine ⟨by omega, ?_⟩
        refine ⟨rfl, by omega, fun e32 h32 => ?_⟩
        obtain rfl := (same_at h14 h32).symm
        refine ⟨fun c1 => ?_, fun c1 => ?_⟩
        · replace c1 := of_decide_eq_true c1
          have hp : colAt (IntKind.i64.wrap (t.arity - (1 : Int))) cols k = false := by rw [colAt, getD_at h14, getD_at i28, show decide (e28 < e14) = false by simp; omega, show decide (k = 0) = false by simp; omega]; simp
          refine ⟨?_, trivial⟩
          · first | (rw [l10_no (by rw [colsOk, range_stop (by omega) hp])]; done) | (rw [l10_yes (by rw [colsOk, show cols.length = k by omega, hv])]; done)
        · replace c1 := of_decide_eq_false c1
          have hp : colAt (IntKind.i64.wrap (t.arity - (1 : Int))) cols k = true := by rw [colAt, getD_at h14, g21, getD_at i28, show decide (e28 < e14) = true by simp; omega]; simp
          refine ⟨⟨by omega, by omega⟩, ?_⟩
          exact ⟨k + 1, rfl, ⟨by omega, range_snoc hv hp⟩, by omega⟩
      · replace g24 := of_decide_eq_false g24
        have hp : colAt (IntKind.i64.wrap (t.arity - (1 : Int))) cols k = true := by rw [colAt, getD_at h14, g21, show decide (k = 0) = true by simp; omega]; rfl
        refine ⟨⟨by omega, by omega⟩, ?_⟩
        exact ⟨k + 1, rfl, ⟨by omega, range_snoc hv hp⟩, by omega⟩
  · replace c0 := of_decide_eq_false c0
    refine ⟨tab_spec t, ?_⟩
    refine ⟨?_, trivial⟩
    · first | (rw [l10_no (by rw [colsOk, range_stop (by omega) hp])]; done) | (rw [l10_yes (by rw [colsOk, show cols.length = k by omega, hv])]; done)
end Go.Proofs.YtjlagjhmlmfjeaaGreat
