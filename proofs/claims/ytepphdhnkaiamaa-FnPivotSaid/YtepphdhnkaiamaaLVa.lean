/-
  Valid programs, both sides.
-/
import Derived.Test.YtepphdhnkaiamaaLQa
namespace Go.Proofs.Ytepphdhnkaiamaa
open Go.ChangeShapes Go.WideShapes Go.ChangeAt Go.RowKit
set_option linter.unusedVariables false
set_option linter.unusedSimpArgs false
set_option maxRecDepth 100000
set_option maxHeartbeats 4000000
def okCo (x : Int) : Bool := decide (-9 ≤ x ∧ x ≤ 9)
def okLim (x : Int) : Bool := decide (0 ≤ x ∧ x ≤ 99)
def okRowP (n : Int) (r : List Int) : Bool := r.all okCo && decide ((r.length : Int) = n)
def okProg (p : ProgramD) : Bool := decide (1 ≤ (p.objective.length : Int) ∧ (p.objective.length : Int) ≤ 15) && (decide ((p.rows.length : Int) ≤ 64) && (decide ((p.limits.length : Int) = p.rows.length) && ((p.rows ++ [p.objective]).all (okRowP p.objective.length) && p.limits.all okLim)))
theorem okProg_head {p : ProgramD} (h : ¬ ((1 ≤ (p.objective.length : Int) ∧ (p.objective.length : Int) ≤ 15) ∧ (p.rows.length : Int) ≤ 64 ∧ (p.limits.length : Int) = p.rows.length)) : okProg p = false := by
  cases e : okProg p with
  | false => rfl
  | true =>
    simp only [okProg, Bool.and_eq_true, decide_eq_true_eq] at e
    exact absurd ⟨e.1, e.2.1, e.2.2.1⟩ h
theorem okProg_rows {p : ProgramD} (h : (p.rows ++ [p.objective]).all (okRowP p.objective.length) = false) : okProg p = false := by simp only [okProg, h, Bool.false_and, Bool.and_false]
theorem okProg_row {p : ProgramD} {k : Nat} {r : List Int} (h : (p.rows ++ [p.objective])[k]? = some r) (hr : okRowP p.objective.length r = false) : okProg p = false := okProg_rows (all_stop h hr)
theorem okProg_row1 {p : ProgramD} {k : Nat} {r : List Int} (h : p.rows[k]? = some r) (hr : okRowP p.objective.length r = false) : okProg p = false := by
  refine okProg_row (k := k) (r := r) ?_ hr
  rw [List.getElem?_append_left (List.getElem?_eq_some_iff.1 h).1]; exact h
theorem okProg_obj {p : ProgramD} (hr : okRowP p.objective.length p.objective = false) : okProg p = false := okProg_row (k := p.rows.length) (r := p.objective) (by simp) hr
theorem okProg_lim {p : ProgramD} {k : Nat} {x : Int} (h : p.limits[k]? = some x) (hx : okLim x = false) : okProg p = false := by
  simp only [okProg, all_stop h hx, Bool.and_false]
theorem okProg_mk {p : ProgramD} (h : (1 ≤ (p.objective.length : Int) ∧ (p.objective.length : Int) ≤ 15) ∧ (p.rows.length : Int) ≤ 64 ∧ (p.limits.length : Int) = p.rows.length) (h1 : (p.rows ++ [p.objective]).all (okRowP p.objective.length) = true) (h2 : p.limits.all okLim = true) : okProg p = true := by
  simp only [okProg, h1, h2, Bool.and_true, Bool.and_eq_true, decide_eq_true_eq]; exact h
theorem okRow_co {n : Int} {r : List Int} {k : Nat} {x : Int} (h : r[k]? = some x) (hx : okCo x = false) : okRowP n r = false := by simp only [okRowP, all_stop h hx, Bool.false_and]
theorem okRow_len {n : Int} {r : List Int} (h : ¬ (r.length : Int) = n) : okRowP n r = false := by simp only [okRowP, decide_eq_false h, Bool.and_false]
theorem okRow_mk {n : Int} {r : List Int} (h : r.all okCo = true) (hl : (r.length : Int) = n) : okRowP n r = true := by simp only [okRowP, h, decide_eq_true hl, Bool.and_true]
theorem okProg_bnd {p : ProgramD} (h : okProg p = true) : (1 ≤ p.objective.length ∧ p.objective.length ≤ 15) ∧ p.rows.length ≤ 64 ∧ p.limits.length = p.rows.length ∧ (∀ r ∈ p.rows ++ [p.objective], r.length = p.objective.length ∧ ∀ x ∈ r, -9 ≤ x ∧ x ≤ 9) ∧ ∀ x ∈ p.limits, 0 ≤ x ∧ x ≤ 99 := by
  simp only [okProg, Bool.and_eq_true, decide_eq_true_eq, List.all_eq_true] at h
  obtain ⟨h1, h2, h3, h4, h5⟩ := h
  refine ⟨by omega, by omega, by omega, fun r hr => ?_, fun x hx => ?_⟩
  · have := h4 r hr
    simp only [okRowP, Bool.and_eq_true, decide_eq_true_eq, List.all_eq_true] at this
    refine ⟨by omega, fun x hx => ?_⟩
    have := this.1 x hx
    simpa [okCo] using this
  · have := h5 x hx
    simpa [okLim] using this

theorem rows_at {p : ProgramD} (hp : ∀ r ∈ p.rows, r.length ≤ 1048576) (ho : p.objective.length ≤ 1048576) {k : Nat} {r : List Int} (h : ((([] : List (List Int)) ++ p.rows) ++ [p.objective])[k]? = some r) : r.length ≤ 1048576 := by
  have := List.mem_of_getElem? h
  simp only [List.nil_append, List.mem_append, List.mem_singleton] at this
  rcases this with h | rfl
  · exact hp _ h
  · exact ho

abbrev K_prog_impl (p : ProgramD) : Prop := Con Try.prog 10 [.agg [.sl 3 1 (p.objective.map intD), .sl 24 1 (p.rows.map eIntS), .sl 3 1 (p.limits.map intD)]] (vB (okProg p)) []
theorem prog_impl (p : ProgramD) (hp : ∀ r ∈ p.rows, r.length ≤ 1048576) : K_prog_impl p := by
 refine con_y tbOk mixedW Try.func10 (by kernel_rfl) (.len p.objective.length <| .call (vB (decide ((1 : Int) ≤ ((p.objective.length : Nat) : Int) ∧ ((p.objective.length : Nat) : Int) ≤ (15 : Int)))) [] <| .br (.fin []) (.len p.rows.length <| .lit <| .lit <| .br (.fin []) (.len p.limits.length <| .len p.rows.length <| .lit <| .lit <| .br (.fin []) (.appr (List Int) eIntS ([] : List (List Int)) p.rows <| .appr (List Int) eIntS (([] : List (List Int)) ++ p.rows) ([p.objective] : List (List Int)) <| .len (((([] : List (List Int)) ++ p.rows) ++ [p.objective]).length) <| .loop Nat (Q1 Nat) [5, 7, 40, 41, 42, 43, 44, 45, 46, 47, 48, 49, 50, 51, 52, 53, 54, 55, 56, 57, 58] [] (fun k => [(40, vI (k : Int))]) (fun k => []) (fun k => k ≤ ((([] : List (List Int)) ++ p.rows) ++ [p.objective]).length ∧ (((([] : List (List Int)) ++ p.rows) ++ [p.objective]).take k).all (okRowP p.objective.length) = true) (fun k => ((([] : List (List Int)) ++ p.rows) ++ [p.objective]).length - k) (fun k => .br (.len (((([] : List (List Int)) ++ p.rows) ++ [p.objective]).length) <| .elem _ eIntS ((([] : List (List Int)) ++ p.rows) ++ [p.objective]) (fun e43 => .len e43.length <| .loop Nat (Q1 Nat) [7, 46, 47, 48, 49, 50, 51, 52, 53] [] (fun j => [(46, vI (j : Int))]) (fun j => []) (fun j => j ≤ e43.length ∧ (e43.take j).all okCo = true) (fun j => e43.length - j) (fun j => .br (.elem _ intD e43 (fun e48 => .call (vB (decide ((-9 : Int) ≤ e48 ∧ e48 ≤ (9 : Int)))) [] <| .br (.fin []) (.back []))) (.len e43.length <| .br (.fin []) (.back []))))) (.len p.limits.length <| .loop Nat (Q1 Nat) [9, 62, 63, 64, 65, 66, 67, 68, 69] [] (fun i => [(62, vI (i : Int))]) (fun i => []) (fun i => i ≤ p.limits.length ∧ (p.limits.take i).all okLim = true) (fun i => p.limits.length - i) (fun i => .br (.elem _ intD p.limits (fun e64 => .call (vB (decide ((0 : Int) ≤ e64 ∧ e64 ≤ (99 : Int)))) [] <| .br (.fin []) (.back []))) (.fin [])))))))) (p := (p.objective.map intD).length ≤ 9223372036854775807 → (p.rows.map eIntS).length ≤ 9223372036854775807 → (p.limits.map intD).length ≤ 9223372036854775807 → Lm intD p.objective ∧ (K_in_impl ((p.objective.length : Nat) : Int) (1 : Int) (15 : Int) ∧ (((!(decide ((1 : Int) ≤ ((p.objective.length : Nat) : Int) ∧ ((p.objective.length : Nat) : Int) ≤ (15 : Int)))) = true → (false) = (okProg p) ∧ True) ∧ ((!(decide ((1 : Int) ≤ ((p.objective.length : Nat) : Int) ∧ ((p.objective.length : Nat) : Int) ≤ (15 : Int)))) = false → Lm eIntS p.rows ∧ (((decide ((64 : Int) < ((p.rows.length : Nat) : Int))) = true → (false) = (okProg p) ∧ True) ∧ ((decide ((64 : Int) < ((p.rows.length : Nat) : Int))) = false → Lm intD p.limits ∧ (Lm eIntS p.rows ∧ (((!(decide (((p.limits.length : Nat) : Int) = ((p.rows.length : Nat) : Int)))) = true → (false) = (okProg p) ∧ True) ∧ ((!(decide (((p.limits.length : Nat) : Int) = ((p.rows.length : Nat) : Int)))) = false → [] = ([] : List (List Int)).map eIntS ∧ p.rows.map eIntS = p.rows.map eIntS ∧ (([] : List (List Int)).length + p.rows.length) * 24 ≤ 140737488355328 ∧ ((([] : List (List Int)) ++ p.rows).map eIntS = (([] : List (List Int)) ++ p.rows).map eIntS ∧ [[.sl 3 1 (p.objective.map intD)]] = ([p.objective] : List (List Int)).map eIntS ∧ ((([] : List (List Int)) ++ p.rows).length + ([p.objective] : List (List Int)).length) * 24 ≤ 140737488355328 ∧ (Lm eIntS ((([] : List (List Int)) ++ p.rows) ++ [p.objective]) ∧ ((∃ (k : Nat), (0 : Int) = (k : Int) ∧ k ≤ ((([] : List (List Int)) ++ p.rows) ++ [p.objective]).length ∧ (((([] : List (List Int)) ++ p.rows) ++ [p.objective]).take k).all (okRowP p.objective.length) = true) ∧ ∀ (k : Nat), (k ≤ ((([] : List (List Int)) ++ p.rows) ++ [p.objective]).length ∧ (((([] : List (List Int)) ++ p.rows) ++ [p.objective]).take k).all (okRowP p.objective.length) = true) → ((decide ((k : Int) < ((((([] : List (List Int)) ++ p.rows) ++ [p.objective]).length : Nat) : Int))) = true → 0 ≤ (k : Int) ∧ Lm eIntS ((([] : List (List Int)) ++ p.rows) ++ [p.objective]) ∧ (k : Int) < ((((([] : List (List Int)) ++ p.rows) ++ [p.objective]).length : Nat) : Int) ∧ Em eIntS ((([] : List (List Int)) ++ p.rows) ++ [p.objective]) k fun e43 => Lm intD e43 ∧ ((∃ (j : Nat), (0 : Int) = (j : Int) ∧ j ≤ e43.length ∧ (e43.take j).all okCo = true) ∧ ∀ (j : Nat), (j ≤ e43.length ∧ (e43.take j).all okCo = true) → ((decide ((j : Int) < ((e43.length : Nat) : Int))) = true → 0 ≤ (j : Int) ∧ Em intD e43 j fun e48 => K_in_impl e48 (-9 : Int) (9 : Int) ∧ (((!(decide ((-9 : Int) ≤ e48 ∧ e48 ≤ (9 : Int)))) = true → (false) = (okProg p) ∧ True) ∧ ((!(decide ((-9 : Int) ≤ e48 ∧ e48 ≤ (9 : Int)))) = false → inR ((j : Int) + (1 : Int)) ∧ ∃ (j' : Nat), ((j : Int) + (1 : Int)) = (j' : Int) ∧ (j' ≤ e43.length ∧ (e43.take j').all okCo = true) ∧ e43.length - j' < e43.length - j))) ∧ ((decide ((j : Int) < ((e43.length : Nat) : Int))) = false → Lm intD e43 ∧ (((!(decide (((e43.length : Nat) : Int) = ((p.objective.length : Nat) : Int)))) = true → (false) = (okProg p) ∧ True) ∧ ((!(decide (((e43.length : Nat) : Int) = ((p.objective.length : Nat) : Int)))) = false → inR ((k : Int) + (1 : Int)) ∧ ∃ (k' : Nat), ((k : Int) + (1 : Int)) = (k' : Int) ∧ (k' ≤ ((([] : List (List Int)) ++ p.rows) ++ [p.objective]).length ∧ (((([] : List (List Int)) ++ p.rows) ++ [p.objective]).take k').all (okRowP p.objective.length) = true) ∧ ((([] : List (List Int)) ++ p.rows) ++ [p.objective]).length - k' < ((([] : List (List Int)) ++ p.rows) ++ [p.objective]).length - k))))) ∧ ((decide ((k : Int) < ((((([] : List (List Int)) ++ p.rows) ++ [p.objective]).length : Nat) : Int))) = false → Lm intD p.limits ∧ ((∃ (i : Nat), (0 : Int) = (i : Int) ∧ i ≤ p.limits.length ∧ (p.limits.take i).all okLim = true) ∧ ∀ (i : Nat), (i ≤ p.limits.length ∧ (p.limits.take i).all okLim = true) → ((decide ((i : Int) < ((p.limits.length : Nat) : Int))) = true → 0 ≤ (i : Int) ∧ Em intD p.limits i fun e64 => K_in_impl e64 (0 : Int) (99 : Int) ∧ (((!(decide ((0 : Int) ≤ e64 ∧ e64 ≤ (99 : Int)))) = true → (false) = (okProg p) ∧ True) ∧ ((!(decide ((0 : Int) ≤ e64 ∧ e64 ≤ (99 : Int)))) = false → inR ((i : Int) + (1 : Int)) ∧ ∃ (i' : Nat), ((i : Int) + (1 : Int)) = (i' : Int) ∧ (i' ≤ p.limits.length ∧ (p.limits.take i').all okLim = true) ∧ p.limits.length - i' < p.limits.length - i))) ∧ ((decide ((i : Int) < ((p.limits.length : Nat) : Int))) = false → (true) = (okProg p) ∧ True))))))))))))))) (by kernel_rfl) ?_
 intro n0 n1 n2
 simp only [List.length_map] at n0 n1 n2
 refine ⟨List.length_map _, in_impl _ _ _, fun g16 => ?_, fun g16 => ?_⟩
 ·replace g16 := nq (nt g16)
  refine ⟨?_, trivial⟩
  ·first | (exact (okProg_head (by omega)).symm) | (exact (okProg_row h43 (okRow_co h48 (decide_eq_false c3))).symm) | (exact (okProg_row h43 (okRow_len c4)).symm) | (exact (okProg_lim h64 (decide_eq_false c6)).symm) | (exact (okProg_mk (by omega) hrows (all_done (by omega) hc)).symm)
 ·replace g16 := yq (nf g16)
  refine ⟨List.length_map _, fun g22 => ?_, fun g22 => ?_⟩
  ·replace g22 := yq g22
   refine ⟨?_, trivial⟩
   ·first | (exact (okProg_head (by omega)).symm) | (exact (okProg_row h43 (okRow_co h48 (decide_eq_false c3))).symm) | (exact (okProg_row h43 (okRow_len c4)).symm) | (exact (okProg_lim h64 (decide_eq_false c6)).symm) | (exact (okProg_mk (by omega) hrows (all_done (by omega) hc)).symm)
  ·replace g22 := nq g22
   refine ⟨List.length_map _, List.length_map _, fun c0 => ?_, fun c0 => ?_⟩
   ·replace c0 := nq (nt c0)
    refine ⟨?_, trivial⟩
    ·first | (exact (okProg_head (by omega)).symm) | (exact (okProg_row h43 (okRow_co h48 (decide_eq_false c3))).symm) | (exact (okProg_row h43 (okRow_len c4)).symm) | (exact (okProg_lim h64 (decide_eq_false c6)).symm) | (exact (okProg_mk (by omega) hrows (all_done (by omega) hc)).symm)
   ·replace c0 := yq (nf c0)
    refine ⟨rfl, rfl, by simp; omega, rfl, rfl, by simp; omega, List.length_map _, ⟨0, rfl, Nat.zero_le _, rfl⟩, fun k ⟨hk, ha⟩ => ?_⟩
    refine ⟨fun c1 => ?_, fun c1 => ?_⟩
    ·replace c1 := yq c1
     have hLk : k < 65 := by simp at c1; omega
     refine ⟨by omega, List.length_map _, by first | omega | (simp at *; omega), rfl, by first | omega | (simp at *; omega), fun e43 h43 => ?_⟩
     have he43 := rows_at hp (by omega) h43
     refine ⟨List.length_map _, ⟨0, rfl, Nat.zero_le _, rfl⟩, fun j ⟨hj, hb⟩ => ?_⟩
     refine ⟨fun c2 => ?_, fun c2 => ?_⟩
     ·replace c2 := yq c2
      refine ⟨by omega, rfl, by first | omega | (simp at *; omega), fun e48 h48 => ?_⟩
      refine ⟨in_impl _ _ _, fun c3 => ?_, fun c3 => ?_⟩
      ·replace c3 := nq (nt c3)
       refine ⟨?_, trivial⟩
       ·first | (exact (okProg_head (by omega)).symm) | (exact (okProg_row h43 (okRow_co h48 (decide_eq_false c3))).symm) | (exact (okProg_row h43 (okRow_len c4)).symm) | (exact (okProg_lim h64 (decide_eq_false c6)).symm) | (exact (okProg_mk (by omega) hrows (all_done (by omega) hc)).symm)
      ·replace c3 := yq (nf c3)
       refine ⟨⟨by omega, by omega⟩, ?_⟩
       exact ⟨j + 1, rfl, ⟨by omega, all_snoc h48 hb (decide_eq_true c3)⟩, by omega⟩
     ·replace c2 := nq c2
      refine ⟨List.length_map _, fun c4 => ?_, fun c4 => ?_⟩
      ·replace c4 := nq (nt c4)
       refine ⟨?_, trivial⟩
       ·first | (exact (okProg_head (by omega)).symm) | (exact (okProg_row h43 (okRow_co h48 (decide_eq_false c3))).symm) | (exact (okProg_row h43 (okRow_len c4)).symm) | (exact (okProg_lim h64 (decide_eq_false c6)).symm) | (exact (okProg_mk (by omega) hrows (all_done (by omega) hc)).symm)
      ·replace c4 := yq (nf c4)
       refine ⟨⟨by omega, by omega⟩, ?_⟩
       exact ⟨k + 1, rfl, ⟨by omega, all_snoc h43 ha (okRow_mk (all_done (by omega) hb) (by omega))⟩, by omega⟩
    ·replace c1 := nq c1
     have hrows := all_done (by omega) ha
     refine ⟨List.length_map _, ⟨0, rfl, Nat.zero_le _, rfl⟩, fun i ⟨hi, hc⟩ => ?_⟩
     refine ⟨fun c5 => ?_, fun c5 => ?_⟩
     ·replace c5 := yq c5
      refine ⟨by omega, rfl, by first | omega | (simp at *; omega), fun e64 h64 => ?_⟩
      refine ⟨in_impl _ _ _, fun c6 => ?_, fun c6 => ?_⟩
      ·replace c6 := nq (nt c6)
       refine ⟨?_, trivial⟩
       ·first | (exact (okProg_head (by omega)).symm) | (exact (okProg_row h43 (okRow_co h48 (decide_eq_false c3))).symm) | (exact (okProg_row h43 (okRow_len c4)).symm) | (exact (okProg_lim h64 (decide_eq_false c6)).symm) | (exact (okProg_mk (by omega) hrows (all_done (by omega) hc)).symm)
      ·replace c6 := yq (nf c6)
       refine ⟨⟨by omega, by omega⟩, ?_⟩
       exact ⟨i + 1, rfl, ⟨by omega, all_snoc h64 hc (decide_eq_true c6)⟩, by omega⟩
     ·replace c5 := nq c5
      refine ⟨?_, trivial⟩
      ·first | (exact (okProg_head (by omega)).symm) | (exact (okProg_row h43 (okRow_co h48 (decide_eq_false c3))).symm) | (exact (okProg_row h43 (okRow_len c4)).symm) | (exact (okProg_lim h64 (decide_eq_false c6)).symm) | (exact (okProg_mk (by omega) hrows (all_done (by omega) hc)).symm)

abbrev K_prog_spec (p : ProgramD) : Prop := Con Try.prog 11 [.agg [.sl 3 1 (p.objective.map intD), .sl 24 1 (p.rows.map eIntS), .sl 3 1 (p.limits.map intD)]] (vB (okProg p)) []
theorem prog_spec (p : ProgramD) : K_prog_spec p := by
 refine con_y tbOk mixedW Try.func11 (by kernel_rfl) (.len p.objective.length <| .call (vB (decide ((1 : Int) ≤ ((p.objective.length : Nat) : Int) ∧ ((p.objective.length : Nat) : Int) ≤ (15 : Int)))) [] <| .br (.fin []) (.len p.rows.length <| .lit <| .lit <| .br (.fin []) (.len p.rows.length <| .len p.limits.length <| .lit <| .lit <| .br (.fin []) (.loop Nat (Q1 Nat) [4, 28, 29, 30, 31, 32, 33, 34, 35, 36, 37, 38, 39] [] (fun k => [(4, vI (k : Int))]) (fun k => []) (fun k => k ≤ p.objective.length ∧ (p.objective.take k).all okCo = true) (fun k => p.objective.length - k) (fun k => .br (.elem _ intD p.objective (fun e36 => .call (vB (decide ((-9 : Int) ≤ e36 ∧ e36 ≤ (9 : Int)))) [] <| .br (.fin []) (.back []))) (.loop Nat (Q1 Nat) [5, 6, 40, 41, 42, 43, 44, 45, 46, 47, 48, 49, 50, 51, 52, 53, 54, 55, 56, 57, 58, 59, 60, 61, 62, 63, 64, 65, 66, 67, 68, 69, 70, 71, 72, 73, 74, 75, 76, 77, 78] [] (fun i => [(5, vI (i : Int))]) (fun i => []) (fun i => i ≤ p.rows.length ∧ (p.rows.take i).all (okRowP p.objective.length) = true ∧ (p.limits.take i).all okLim = true) (fun i => p.rows.length - i) (fun i => .len p.rows.length <| .br (.elem _ eIntS p.rows (fun e50 => .len e50.length <| .br (.fin []) (.elem _ intD p.limits (fun e59 => .call (vB (decide ((0 : Int) ≤ e59 ∧ e59 ≤ (99 : Int)))) [] <| .lit <| .lit <| .br (.fin []) (.loop Nat (Q1 Nat) [6, 64, 65, 66, 67, 68, 69, 70, 71, 72, 73, 74, 75, 76, 77, 78] [] (fun j => [(6, vI (j : Int))]) (fun j => []) (fun j => j ≤ p.objective.length ∧ (e50.take j).all okCo = true) (fun j => p.objective.length - j) (fun j => .br (.elem _ eIntS p.rows (fun e72 => .elem _ intD e72 (fun e75 => .call (vB (decide ((-9 : Int) ≤ e75 ∧ e75 ≤ (9 : Int)))) [] <| .br (.fin []) (.back [])))) (.back []))))))) (.fin [])))))))) (p := (p.objective.map intD).length ≤ 9223372036854775807 → (p.rows.map eIntS).length ≤ 9223372036854775807 → (p.limits.map intD).length ≤ 9223372036854775807 → Lm intD p.objective ∧ (K_in_spec ((p.objective.length : Nat) : Int) (1 : Int) (15 : Int) ∧ (((!(decide ((1 : Int) ≤ ((p.objective.length : Nat) : Int) ∧ ((p.objective.length : Nat) : Int) ≤ (15 : Int)))) = true → (false) = (okProg p) ∧ True) ∧ ((!(decide ((1 : Int) ≤ ((p.objective.length : Nat) : Int) ∧ ((p.objective.length : Nat) : Int) ≤ (15 : Int)))) = false → Lm eIntS p.rows ∧ (((decide ((64 : Int) < ((p.rows.length : Nat) : Int))) = true → (false) = (okProg p) ∧ True) ∧ ((decide ((64 : Int) < ((p.rows.length : Nat) : Int))) = false → Lm eIntS p.rows ∧ (Lm intD p.limits ∧ (((!(decide (((p.rows.length : Nat) : Int) = ((p.limits.length : Nat) : Int)))) = true → (false) = (okProg p) ∧ True) ∧ ((!(decide (((p.rows.length : Nat) : Int) = ((p.limits.length : Nat) : Int)))) = false → (∃ (k : Nat), (0 : Int) = (k : Int) ∧ k ≤ p.objective.length ∧ (p.objective.take k).all okCo = true) ∧ ∀ (k : Nat), (k ≤ p.objective.length ∧ (p.objective.take k).all okCo = true) → ((decide ((k : Int) < ((p.objective.length : Nat) : Int))) = true → 0 ≤ (k : Int) ∧ Em intD p.objective k fun e36 => K_in_spec e36 (-9 : Int) (9 : Int) ∧ (((!(decide ((-9 : Int) ≤ e36 ∧ e36 ≤ (9 : Int)))) = true → (false) = (okProg p) ∧ True) ∧ ((!(decide ((-9 : Int) ≤ e36 ∧ e36 ≤ (9 : Int)))) = false → inR ((k : Int) + (1 : Int)) ∧ ∃ (k' : Nat), ((k : Int) + (1 : Int)) = (k' : Int) ∧ (k' ≤ p.objective.length ∧ (p.objective.take k').all okCo = true) ∧ p.objective.length - k' < p.objective.length - k))) ∧ ((decide ((k : Int) < ((p.objective.length : Nat) : Int))) = false → (∃ (i : Nat), (0 : Int) = (i : Int) ∧ i ≤ p.rows.length ∧ (p.rows.take i).all (okRowP p.objective.length) = true ∧ (p.limits.take i).all okLim = true) ∧ ∀ (i : Nat), (i ≤ p.rows.length ∧ (p.rows.take i).all (okRowP p.objective.length) = true ∧ (p.limits.take i).all okLim = true) → Lm eIntS p.rows ∧ (((decide ((i : Int) < ((p.rows.length : Nat) : Int))) = true → 0 ≤ (i : Int) ∧ Em eIntS p.rows i fun e50 => Lm intD e50 ∧ (((!(decide (((e50.length : Nat) : Int) = ((p.objective.length : Nat) : Int)))) = true → (false) = (okProg p) ∧ True) ∧ ((!(decide (((e50.length : Nat) : Int) = ((p.objective.length : Nat) : Int)))) = false → 0 ≤ (i : Int) ∧ Em intD p.limits i fun e59 => K_in_spec e59 (0 : Int) (99 : Int) ∧ (((!(decide ((0 : Int) ≤ e59 ∧ e59 ≤ (99 : Int)))) = true → (false) = (okProg p) ∧ True) ∧ ((!(decide ((0 : Int) ≤ e59 ∧ e59 ≤ (99 : Int)))) = false → (∃ (j : Nat), (0 : Int) = (j : Int) ∧ j ≤ p.objective.length ∧ (e50.take j).all okCo = true) ∧ ∀ (j : Nat), (j ≤ p.objective.length ∧ (e50.take j).all okCo = true) → ((decide ((j : Int) < ((p.objective.length : Nat) : Int))) = true → 0 ≤ (i : Int) ∧ Em eIntS p.rows i fun e72 => 0 ≤ (j : Int) ∧ Em intD e72 j fun e75 => K_in_spec e75 (-9 : Int) (9 : Int) ∧ (((!(decide ((-9 : Int) ≤ e75 ∧ e75 ≤ (9 : Int)))) = true → (false) = (okProg p) ∧ True) ∧ ((!(decide ((-9 : Int) ≤ e75 ∧ e75 ≤ (9 : Int)))) = false → inR ((j : Int) + (1 : Int)) ∧ ∃ (j' : Nat), ((j : Int) + (1 : Int)) = (j' : Int) ∧ (j' ≤ p.objective.length ∧ (e50.take j').all okCo = true) ∧ p.objective.length - j' < p.objective.length - j))) ∧ ((decide ((j : Int) < ((p.objective.length : Nat) : Int))) = false → inR ((i : Int) + (1 : Int)) ∧ ∃ (i' : Nat), ((i : Int) + (1 : Int)) = (i' : Int) ∧ (i' ≤ p.rows.length ∧ (p.rows.take i').all (okRowP p.objective.length) = true ∧ (p.limits.take i').all okLim = true) ∧ p.rows.length - i' < p.rows.length - i)))))) ∧ ((decide ((i : Int) < ((p.rows.length : Nat) : Int))) = false → (true) = (okProg p) ∧ True)))))))))))) (by kernel_rfl) ?_
 intro n0 n1 n2
 simp only [List.length_map] at n0 n1 n2
 refine ⟨List.length_map _, in_spec _ _ _, fun g13 => ?_, fun g13 => ?_⟩
 ·replace g13 := nq (nt g13)
  refine ⟨?_, trivial⟩
  ·first | (exact (okProg_head (by omega)).symm) | (exact (okProg_obj (okRow_co h36 (decide_eq_false c2))).symm) | (exact (okProg_row1 h50 (okRow_len g55)).symm) | (exact (okProg_lim h59 (decide_eq_false c4)).symm) | (exact (okProg_row1 h50 (okRow_co h75 (decide_eq_false c6))).symm) | (exact (okProg_mk (by omega) hrows (all_done (by omega) hl)).symm)
 ·replace g13 := yq (nf g13)
  refine ⟨List.length_map _, fun g19 => ?_, fun g19 => ?_⟩
  ·replace g19 := yq g19
   refine ⟨?_, trivial⟩
   ·first | (exact (okProg_head (by omega)).symm) | (exact (okProg_obj (okRow_co h36 (decide_eq_false c2))).symm) | (exact (okProg_row1 h50 (okRow_len g55)).symm) | (exact (okProg_lim h59 (decide_eq_false c4)).symm) | (exact (okProg_row1 h50 (okRow_co h75 (decide_eq_false c6))).symm) | (exact (okProg_mk (by omega) hrows (all_done (by omega) hl)).symm)
  ·replace g19 := nq g19
   refine ⟨List.length_map _, List.length_map _, fun c0 => ?_, fun c0 => ?_⟩
   ·replace c0 := nq (nt c0)
    refine ⟨?_, trivial⟩
    ·first | (exact (okProg_head (by omega)).symm) | (exact (okProg_obj (okRow_co h36 (decide_eq_false c2))).symm) | (exact (okProg_row1 h50 (okRow_len g55)).symm) | (exact (okProg_lim h59 (decide_eq_false c4)).symm) | (exact (okProg_row1 h50 (okRow_co h75 (decide_eq_false c6))).symm) | (exact (okProg_mk (by omega) hrows (all_done (by omega) hl)).symm)
   ·replace c0 := yq (nf c0)
    refine ⟨⟨0, rfl, Nat.zero_le _, rfl⟩, fun k ⟨hk, ha⟩ => ?_⟩
    refine ⟨fun c1 => ?_, fun c1 => ?_⟩
    ·replace c1 := yq c1
     refine ⟨by omega, rfl, by omega, fun e36 h36 => ?_⟩
     refine ⟨in_spec _ _ _, fun c2 => ?_, fun c2 => ?_⟩
     ·replace c2 := nq (nt c2)
      refine ⟨?_, trivial⟩
      ·first | (exact (okProg_head (by omega)).symm) | (exact (okProg_obj (okRow_co h36 (decide_eq_false c2))).symm) | (exact (okProg_row1 h50 (okRow_len g55)).symm) | (exact (okProg_lim h59 (decide_eq_false c4)).symm) | (exact (okProg_row1 h50 (okRow_co h75 (decide_eq_false c6))).symm) | (exact (okProg_mk (by omega) hrows (all_done (by omega) hl)).symm)
     ·replace c2 := yq (nf c2)
      refine ⟨⟨by omega, by omega⟩, ?_⟩
      exact ⟨k + 1, rfl, ⟨by omega, all_snoc h36 ha (decide_eq_true c2)⟩, by omega⟩
    ·replace c1 := nq c1
     have hobj := all_done (by omega) ha
     refine ⟨⟨0, rfl, Nat.zero_le _, rfl, rfl⟩, fun i ⟨hi, hr, hl⟩ => ?_⟩
     refine ⟨List.length_map _, fun c3 => ?_, fun c3 => ?_⟩
     ·replace c3 := yq c3
      refine ⟨by omega, rfl, by omega, fun e50 h50 => ?_⟩
      refine ⟨List.length_map _, fun g55 => ?_, fun g55 => ?_⟩
      ·replace g55 := nq (nt g55)
       refine ⟨?_, trivial⟩
       ·first | (exact (okProg_head (by omega)).symm) | (exact (okProg_obj (okRow_co h36 (decide_eq_false c2))).symm) | (exact (okProg_row1 h50 (okRow_len g55)).symm) | (exact (okProg_lim h59 (decide_eq_false c4)).symm) | (exact (okProg_row1 h50 (okRow_co h75 (decide_eq_false c6))).symm) | (exact (okProg_mk (by omega) hrows (all_done (by omega) hl)).symm)
      ·replace g55 := yq (nf g55)
       refine ⟨by omega, rfl, by omega, fun e59 h59 => ?_⟩
       refine ⟨in_spec _ _ _, fun c4 => ?_, fun c4 => ?_⟩
       ·replace c4 := nq (nt c4)
        refine ⟨?_, trivial⟩
        ·first | (exact (okProg_head (by omega)).symm) | (exact (okProg_obj (okRow_co h36 (decide_eq_false c2))).symm) | (exact (okProg_row1 h50 (okRow_len g55)).symm) | (exact (okProg_lim h59 (decide_eq_false c4)).symm) | (exact (okProg_row1 h50 (okRow_co h75 (decide_eq_false c6))).symm) | (exact (okProg_mk (by omega) hrows (all_done (by omega) hl)).symm)
       ·replace c4 := yq (nf c4)
        refine ⟨⟨0, rfl, Nat.zero_le _, rfl⟩, fun j ⟨hj, hb⟩ => ?_⟩
        refine ⟨fun c5 => ?_, fun c5 => ?_⟩
        ·replace c5 := yq c5
         refine ⟨by omega, rfl, by omega, fun e72 h72 => ?_⟩
         obtain rfl := (same_at h50 h72).symm
         refine ⟨by omega, rfl, by omega, fun e75 h75 => ?_⟩
         refine ⟨in_spec _ _ _, fun c6 => ?_, fun c6 => ?_⟩
         ·replace c6 := nq (nt c6)
          refine ⟨?_, trivial⟩
          ·first | (exact (okProg_head (by omega)).symm) | (exact (okProg_obj (okRow_co h36 (decide_eq_false c2))).symm) | (exact (okProg_row1 h50 (okRow_len g55)).symm) | (exact (okProg_lim h59 (decide_eq_false c4)).symm) | (exact (okProg_row1 h50 (okRow_co h75 (decide_eq_false c6))).symm) | (exact (okProg_mk (by omega) hrows (all_done (by omega) hl)).symm)
         ·replace c6 := yq (nf c6)
          refine ⟨⟨by omega, by omega⟩, ?_⟩
          exact ⟨j + 1, rfl, ⟨by omega, all_snoc h75 hb (decide_eq_true c6)⟩, by omega⟩
        ·replace c5 := nq c5
         refine ⟨⟨by omega, by omega⟩, ?_⟩
         exact ⟨i + 1, rfl, ⟨by omega, all_snoc h50 hr (okRow_mk (all_done (by omega) hb) (by omega)), all_snoc h59 hl (decide_eq_true c4)⟩, by omega⟩
     ·replace c3 := nq c3
      have hrows : (p.rows ++ [p.objective]).all (okRowP p.objective.length) = true := by rw [List.all_append, all_done (by omega) hr, List.all_cons, okRow_mk hobj rfl]; rfl
      refine ⟨?_, trivial⟩
      ·first | (exact (okProg_head (by omega)).symm) | (exact (okProg_obj (okRow_co h36 (decide_eq_false c2))).symm) | (exact (okProg_row1 h50 (okRow_len g55)).symm) | (exact (okProg_lim h59 (decide_eq_false c4)).symm) | (exact (okProg_row1 h50 (okRow_co h75 (decide_eq_false c6))).symm) | (exact (okProg_mk (by omega) hrows (all_done (by omega) hl)).symm)
end Go.Proofs.Ytepphdhnkaiamaa
