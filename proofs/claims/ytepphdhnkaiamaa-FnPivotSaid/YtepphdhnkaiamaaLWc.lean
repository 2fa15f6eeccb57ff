/-
  Lists of rationals, limits at a point, both sides.
-/
import Derived.Test.YtepphdhnkaiamaaLWb
import Derived.Test.YtepphdhnkaiamaaLVa
namespace Go.Proofs.Ytepphdhnkaiamaa
open Go.ChangeShapes Go.WideShapes Go.ChangeAt Go.RowKit
set_option linter.unusedVariables false
set_option linter.unusedSimpArgs false
set_option maxRecDepth 100000
set_option maxHeartbeats 4000000
abbrev k_lim_impl (p : ProgramD) (ys : List RationalD) : AV × List (Nat × Rs) := (.tup [.agg [vI (((limR p ys).1).num), vI (((limR p ys).1).den)], vB ((limR p ys).2)], [])
abbrev K_lim_impl (p : ProgramD) (ys : List RationalD) : Prop := Con Try.prog 22 [.agg [.sl 3 1 (p.objective.map intD), .sl 24 1 (p.rows.map eIntS), .sl 3 1 (p.limits.map intD)], .one (.sl 30 2 (ys.map eRational))] (k_lim_impl p ys).1 (k_lim_impl p ys).2
theorem lim_impl (p : ProgramD) (ys : List RationalD) (hrs : ∀ r ∈ p.rows, r.length ≤ 1048576) : K_lim_impl p ys := by
 refine con_y tbOk mixedW Try.func22 (by kernel_rfl) (.call (vB (okProg p)) [] <| .br (.fin []) (callP (k_prod_impl p.limits ys) <| .fin [])) (p := (p.objective.map intD).length ≤ 9223372036854775807 → (p.rows.map eIntS).length ≤ 9223372036854775807 → (p.limits.map intD).length ≤ 9223372036854775807 → (ys.map eRational).length ≤ 9223372036854775807 → K_prog_impl p ∧ (((!(okProg p)) = true → (0 : Int) = (((limR p ys).1).num) ∧ (0 : Int) = (((limR p ys).1).den) ∧ (false) = ((limR p ys).2) ∧ True) ∧ ((!(okProg p)) = false → K_prod_impl p.limits ys ∧ (((prodR p.limits ys).1).num) = (((limR p ys).1).num) ∧ (((prodR p.limits ys).1).den) = (((limR p ys).1).den) ∧ ((prodR p.limits ys).2) = ((limR p ys).2) ∧ True))) (by kernel_rfl) ?_
 intro n0 n1 n2 n3
 simp only [List.length_map] at n0 n1 n2 n3
 refine ⟨prog_impl p (by first | assumption | exact hrs), fun c0 => ?_, fun c0 => ?_⟩
 ·replace c0 := nt c0
  refine ⟨?_, ?_, ?_, trivial⟩ <;> (first | (rw [limR_no c0] <;> rfl) | (rw [limR_yes c0] <;> rfl))
 ·replace c0 := nf c0
  refine ⟨prod_impl p.limits ys, ?_, ?_, ?_, trivial⟩ <;> (first | (rw [limR_no c0] <;> rfl) | (rw [limR_yes c0] <;> rfl))

abbrev k_lim_spec (p : ProgramD) (ys : List RationalD) : AV × List (Nat × Rs) := (.tup [.agg [vI (((limR p ys).1).num), vI (((limR p ys).1).den)], vB ((limR p ys).2)], [])
abbrev K_lim_spec (p : ProgramD) (ys : List RationalD) : Prop := Con Try.prog 50 [.agg [.sl 3 1 (p.objective.map intD), .sl 24 1 (p.rows.map eIntS), .sl 3 1 (p.limits.map intD)], .one (.sl 30 2 (ys.map eRational))] (k_lim_spec p ys).1 (k_lim_spec p ys).2
theorem lim_spec (p : ProgramD) (ys : List RationalD) : K_lim_spec p ys := by
 refine con_y tbOk mixedW Try.func50 (by kernel_rfl) (.call (vB (okProg p)) [] <| .br (.fin []) (.len ys.length <| .len p.limits.length <| .lit <| .lit <| .br (.fin []) (callP (k_dot_spec p.limits ys) <| .fin []))) (p := (p.objective.map intD).length ≤ 9223372036854775807 → (p.rows.map eIntS).length ≤ 9223372036854775807 → (p.limits.map intD).length ≤ 9223372036854775807 → (ys.map eRational).length ≤ 9223372036854775807 → K_prog_spec p ∧ (((!(okProg p)) = true → (0 : Int) = (((limR p ys).1).num) ∧ (0 : Int) = (((limR p ys).1).den) ∧ (false) = ((limR p ys).2) ∧ True) ∧ ((!(okProg p)) = false → Lm eRational ys ∧ (Lm intD p.limits ∧ (((!(decide (((ys.length : Nat) : Int) = ((p.limits.length : Nat) : Int)))) = true → (0 : Int) = (((limR p ys).1).num) ∧ (0 : Int) = (((limR p ys).1).den) ∧ (false) = ((limR p ys).2) ∧ True) ∧ ((!(decide (((ys.length : Nat) : Int) = ((p.limits.length : Nat) : Int)))) = false → K_dot_spec p.limits ys ∧ (((dotR p.limits ys (wholeR 0)).1).num) = (((limR p ys).1).num) ∧ (((dotR p.limits ys (wholeR 0)).1).den) = (((limR p ys).1).den) ∧ ((dotR p.limits ys (wholeR 0)).2) = ((limR p ys).2) ∧ True)))))) (by kernel_rfl) ?_
 intro n0 n1 n2 n3
 simp only [List.length_map] at n0 n1 n2 n3
 refine ⟨prog_spec p, fun g11 => ?_, fun g11 => ?_⟩
 ·replace g11 := nt g11
  refine ⟨?_, ?_, ?_, trivial⟩ <;> (first | (rw [limR_no g11] <;> rfl) | (rw [limR_yes g11, prodR_no (by omega)] <;> rfl) | (rw [limR_yes g11, prodR_yes (by omega)] <;> rfl))
 ·replace g11 := nf g11
  refine ⟨List.length_map _, List.length_map _, fun c0 => ?_, fun c0 => ?_⟩
  ·replace c0 := nq (nt c0)
   refine ⟨?_, ?_, ?_, trivial⟩ <;> (first | (rw [limR_no g11] <;> rfl) | (rw [limR_yes g11, prodR_no (by omega)] <;> rfl) | (rw [limR_yes g11, prodR_yes (by omega)] <;> rfl))
  ·replace c0 := yq (nf c0)
   refine ⟨dot_spec p.limits ys, ?_, ?_, ?_, trivial⟩ <;> (first | (rw [limR_no g11] <;> rfl) | (rw [limR_yes g11, prodR_no (by omega)] <;> rfl) | (rw [limR_yes g11, prodR_yes (by omega)] <;> rfl))

abbrev K_vrs_impl (l : List RationalD) (n : Int) : Prop := Con Try.prog 77 [.one (.sl 30 2 (l.map eRational)), .one (.int .i64 n)] (vB (decide ((l.length : Int) = n) && l.all validR)) []
theorem vrs_impl (l : List RationalD) (n : Int) : K_vrs_impl l n := by
 refine con_y tbOk mixedW Try.func77 (by kernel_rfl) (.len l.length <| .loop Nat (Q1 Nat) [6, 9, 10, 11, 12, 13, 14, 15, 16] [600] (fun k => [(9, vI (k : Int))]) (fun k => []) (fun k => k ≤ l.length ∧ (l.take k).all validR = true) (fun k => l.length - k) (fun k => .br (.elem _ eRational l (fun e11 => .call (vB (validR e11)) [] <| .br (.fin []) (.back []))) (.len l.length <| .fin []))) (p := (l.map eRational).length ≤ 9223372036854775807 → Lm eRational l ∧ ((∃ (k : Nat), (0 : Int) = (k : Int) ∧ k ≤ l.length ∧ (l.take k).all validR = true) ∧ ∀ (k : Nat), (k ≤ l.length ∧ (l.take k).all validR = true) → ((decide ((k : Int) < ((l.length : Nat) : Int))) = true → 0 ≤ (k : Int) ∧ Em eRational l k fun e11 => K_val_impl e11 ∧ (((!(validR e11)) = true → (false) = (decide ((l.length : Int) = n) && l.all validR) ∧ True) ∧ ((!(validR e11)) = false → inR ((k : Int) + (1 : Int)) ∧ ∃ (k' : Nat), ((k : Int) + (1 : Int)) = (k' : Int) ∧ (k' ≤ l.length ∧ (l.take k').all validR = true) ∧ l.length - k' < l.length - k))) ∧ ((decide ((k : Int) < ((l.length : Nat) : Int))) = false → Lm eRational l ∧ (decide (((l.length : Nat) : Int) = n)) = (decide ((l.length : Int) = n) && l.all validR) ∧ True))) (by kernel_rfl) ?_
 intro n0
 simp only [List.length_map] at n0
 refine ⟨List.length_map _, ⟨0, rfl, Nat.zero_le _, rfl⟩, fun k ⟨hk, ha⟩ => ?_⟩
 refine ⟨fun c0 => ?_, fun c0 => ?_⟩
 ·replace c0 := yq c0
  refine ⟨by omega, rfl, by omega, fun e11 h11 => ?_⟩
  refine ⟨val_impl e11, fun c1 => ?_, fun c1 => ?_⟩
  ·replace c1 := nt c1
   refine ⟨?_, trivial⟩
   ·first | (rw [all_stop h11 c1, Bool.and_false]; done) | (rw [all_done (by omega) ha, Bool.and_true]; done)
  ·replace c1 := nf c1
   refine ⟨⟨by omega, by omega⟩, ?_⟩
   exact ⟨k + 1, rfl, ⟨by omega, all_snoc h11 ha c1⟩, by omega⟩
 ·replace c0 := nq c0
  refine ⟨List.length_map _, ?_, trivial⟩
  ·first | (rw [all_stop h11 c1, Bool.and_false]; done) | (rw [all_done (by omega) ha, Bool.and_true]; done)

abbrev K_nn_impl (l : List RationalD) (n : Int) : Prop := Con Try.prog 53 [.one (.sl 30 2 (l.map eRational)), .one (.int .i64 n)] (vB (notNeg l n)) []
theorem nn_impl (l : List RationalD) (n : Int) : K_nn_impl l n := by
 refine con_y tbOk mixedW Try.func53 (by kernel_rfl) (.len l.length <| .loop Nat (Q1 Nat) [6, 9, 10, 11, 12, 13, 14, 15, 16] [600] (fun k => [(9, vI (k : Int))]) (fun k => []) (fun k => k ≤ l.length ∧ (l.take k).all (fun r => !decide (r.num < 0)) = true) (fun k => l.length - k) (fun k => .br (.elem _ eRational l (fun e11 => .br (.fin []) (.back []))) (.call (vB (decide ((l.length : Int) = n) && l.all validR)) [] <| .fin []))) (p := (l.map eRational).length ≤ 9223372036854775807 → Lm eRational l ∧ ((∃ (k : Nat), (0 : Int) = (k : Int) ∧ k ≤ l.length ∧ (l.take k).all (fun r => !decide (r.num < 0)) = true) ∧ ∀ (k : Nat), (k ≤ l.length ∧ (l.take k).all (fun r => !decide (r.num < 0)) = true) → ((decide ((k : Int) < ((l.length : Nat) : Int))) = true → 0 ≤ (k : Int) ∧ Em eRational l k fun e11 => ((decide (e11.num < (0 : Int))) = true → (false) = (notNeg l n) ∧ True) ∧ ((decide (e11.num < (0 : Int))) = false → inR ((k : Int) + (1 : Int)) ∧ ∃ (k' : Nat), ((k : Int) + (1 : Int)) = (k' : Int) ∧ (k' ≤ l.length ∧ (l.take k').all (fun r => !decide (r.num < 0)) = true) ∧ l.length - k' < l.length - k)) ∧ ((decide ((k : Int) < ((l.length : Nat) : Int))) = false → K_vrs_impl l n ∧ (decide ((l.length : Int) = n) && l.all validR) = (notNeg l n) ∧ True))) (by kernel_rfl) ?_
 intro n0
 simp only [List.length_map] at n0
 refine ⟨List.length_map _, ⟨0, rfl, Nat.zero_le _, rfl⟩, fun k ⟨hk, ha⟩ => ?_⟩
 refine ⟨fun c0 => ?_, fun c0 => ?_⟩
 ·replace c0 := yq c0
  refine ⟨by omega, rfl, by omega, fun e11 h11 => ?_⟩
  refine ⟨fun c1 => ?_, fun c1 => ?_⟩
  ·replace c1 := yq c1
   refine ⟨?_, trivial⟩
   ·first | (rw [notNeg_split, all_stop (p := fun r : RationalD => !decide (r.num < 0)) h11 (by rw [decide_eq_true c1]; rfl), Bool.and_false]; done) | (rw [notNeg_split, all_done (by omega) ha, Bool.and_true]; done)
  ·replace c1 := nq c1
   refine ⟨⟨by omega, by omega⟩, ?_⟩
   exact ⟨k + 1, rfl, ⟨by omega, all_snoc h11 ha (by rw [decide_eq_false c1]; rfl)⟩, by omega⟩
 ·replace c0 := nq c0
  refine ⟨vrs_impl l n, ?_, trivial⟩
  ·first | (rw [notNeg_split, all_stop (p := fun r : RationalD => !decide (r.num < 0)) h11 (by rw [decide_eq_true c1]; rfl), Bool.and_false]; done) | (rw [notNeg_split, all_done (by omega) ha, Bool.and_true]; done)

abbrev K_pos_spec (l : List RationalD) : Prop := Con Try.prog 57 [.one (.sl 30 2 (l.map eRational))] (vB (l.all posR)) []
theorem pos_spec (l : List RationalD) : K_pos_spec l := by
 refine con_y tbOk mixedW Try.func57 (by kernel_rfl) (.loop Nat (Q1 Nat) [3, 4, 5, 6, 7, 8, 9, 10, 11, 12, 13, 14, 15, 16, 17, 18, 19, 20, 21, 22, 23] [] (fun k => [(3, vI (k : Int))]) (fun k => []) (fun k => k ≤ l.length ∧ (l.take k).all posR = true) (fun k => l.length - k) (fun k => .len l.length <| .br (.elem _ eRational l (fun e12 => .call (vB (validR e12)) [] <| .br (.fin []) (.elem _ eRational l (fun e19 => .lit <| .lit <| .lit <| .lit <| .br (.fin []) (.back []))))) (.fin []))) (p := (l.map eRational).length ≤ 9223372036854775807 → (∃ (k : Nat), (0 : Int) = (k : Int) ∧ k ≤ l.length ∧ (l.take k).all posR = true) ∧ ∀ (k : Nat), (k ≤ l.length ∧ (l.take k).all posR = true) → Lm eRational l ∧ (((decide ((k : Int) < ((l.length : Nat) : Int))) = true → 0 ≤ (k : Int) ∧ Em eRational l k fun e12 => K_val_spec e12 ∧ (((!(validR e12)) = true → (false) = (l.all posR) ∧ True) ∧ ((!(validR e12)) = false → 0 ≤ (k : Int) ∧ Em eRational l k fun e19 => ((decide (e19.num < (0 : Int))) = true → (false) = (l.all posR) ∧ True) ∧ ((decide (e19.num < (0 : Int))) = false → inR ((k : Int) + (1 : Int)) ∧ ∃ (k' : Nat), ((k : Int) + (1 : Int)) = (k' : Int) ∧ (k' ≤ l.length ∧ (l.take k').all posR = true) ∧ l.length - k' < l.length - k)))) ∧ ((decide ((k : Int) < ((l.length : Nat) : Int))) = false → (true) = (l.all posR) ∧ True))) (by kernel_rfl) ?_
 intro n0
 simp only [List.length_map] at n0
 refine ⟨⟨0, rfl, Nat.zero_le _, rfl⟩, fun k ⟨hk, ha⟩ => ?_⟩
 refine ⟨List.length_map _, fun c0 => ?_, fun c0 => ?_⟩
 ·replace c0 := yq c0
  refine ⟨by omega, rfl, by omega, fun e12 h12 => ?_⟩
  refine ⟨val_spec e12, fun g16 => ?_, fun g16 => ?_⟩
  ·replace g16 := nt g16
   refine ⟨?_, trivial⟩
   ·first | (rw [all_stop h12 (by rw [posR, g16]; rfl)]; done) | (rw [all_stop h12 (by rw [posR, g16, decide_eq_true c1]; rfl)]; done) | (rw [all_done (by omega) ha]; done)
  ·replace g16 := nf g16
   refine ⟨by omega, rfl, by omega, fun e19 h19 => ?_⟩
   obtain rfl := (same_at h12 h19).symm
   refine ⟨fun c1 => ?_, fun c1 => ?_⟩
   ·replace c1 := yq c1
    refine ⟨?_, trivial⟩
    ·first | (rw [all_stop h12 (by rw [posR, g16]; rfl)]; done) | (rw [all_stop h12 (by rw [posR, g16, decide_eq_true c1]; rfl)]; done) | (rw [all_done (by omega) ha]; done)
   ·replace c1 := nq c1
    refine ⟨⟨by omega, by omega⟩, ?_⟩
    exact ⟨k + 1, rfl, ⟨by omega, all_snoc h12 ha (by rw [posR, g16, decide_eq_false c1]; rfl)⟩, by omega⟩
 ·replace c0 := nq c0
  refine ⟨?_, trivial⟩
  ·first | (rw [all_stop h12 (by rw [posR, g16]; rfl)]; done) | (rw [all_stop h12 (by rw [posR, g16, decide_eq_true c1]; rfl)]; done) | (rw [all_done (by omega) ha]; done)
end Go.Proofs.Ytepphdhnkaiamaa
