/-
  Rationals are made.
-/
import Derived.Test.YtcfilkhjababjaaQa
namespace Go.Proofs.Ytcfilkhjababjaa
open Go.ChangeShapes Go.WideShapes Go.ChangeAt Go.RowKit
set_option linter.unusedVariables false
set_option linter.unusedSimpArgs false
theorem gcd_abs3 {n d : Int} : Int.gcd (-n) (-d) = Int.gcd n d := by simp [Int.gcd]
theorem mk_pos {n d : Int} (h : 0 < d) : makeQ n d = if validQ (n.tdiv (Int.gcd n d)) (d.tdiv (Int.gcd n d)) = true then (n.tdiv (Int.gcd n d), d.tdiv (Int.gcd n d), true) else (0, 0, false) := makeQ_pos h rfl
theorem mk_neg {n d : Int} (h : d < 0) : makeQ n d = if validQ ((-n).tdiv (Int.gcd (-n) (-d))) ((-d).tdiv (Int.gcd (-n) (-d))) = true then ((-n).tdiv (Int.gcd (-n) (-d)), (-d).tdiv (Int.gcd (-n) (-d)), true) else (0, 0, false) := makeQ_neg h rfl
theorem mkR_zero {n : Int} : toR (makeQ n 0) = (⟨0, 0⟩, false) := by rw [makeQ_zero]; rfl
theorem mkR_pos {n d : Int} (h : 0 < d) (c : validR ⟨n.tdiv (Int.gcd n d), d.tdiv (Int.gcd n d)⟩ = true) : toR (makeQ n d) = (⟨n.tdiv (Int.gcd n d), d.tdiv (Int.gcd n d)⟩, true) := by
  rw [mk_pos h, if_pos (show validQ _ _ = true from c)]; rfl
theorem mkR_pos0 {n d : Int} (h : 0 < d) (c : validR ⟨n.tdiv (Int.gcd n d), d.tdiv (Int.gcd n d)⟩ = false) : toR (makeQ n d) = (⟨0, 0⟩, false) := by
  rw [mk_pos h, if_neg (by rw [show validQ _ _ = false from c]; simp)]; rfl
theorem mkR_neg {n d : Int} (h : d < 0) (c : validR ⟨(-n).tdiv (Int.gcd (-n) (-d)), (-d).tdiv (Int.gcd (-n) (-d))⟩ = true) : toR (makeQ n d) = (⟨(-n).tdiv (Int.gcd (-n) (-d)), (-d).tdiv (Int.gcd (-n) (-d))⟩, true) := by
  rw [mk_neg h, if_pos (show validQ _ _ = true from c)]; rfl
theorem mkR_neg0 {n d : Int} (h : d < 0) (c : validR ⟨(-n).tdiv (Int.gcd (-n) (-d)), (-d).tdiv (Int.gcd (-n) (-d))⟩ = false) : toR (makeQ n d) = (⟨0, 0⟩, false) := by
  rw [mk_neg h, if_neg (by rw [show validQ _ _ = false from c]; simp)]; rfl

theorem inR_tdiv {n g : Int} (hn : -9223372036854775807 ≤ n ∧ n ≤ 9223372036854775807) : inR (n.tdiv g) := by have := tdiv_bnd n g hn; exact ⟨by omega, by omega⟩

set_option maxRecDepth 100000 in
set_option maxHeartbeats 4000000 in
theorem mk_impl (n d : Int) (hn : -9223372036854775807 ≤ n ∧ n ≤ 9223372036854775807) (hd : -9223372036854775807 ≤ d ∧ d ≤ 9223372036854775807) : Con Try.prog 177 [.one (.int .i64 n), .one (.int .i64 d)] (.tup [.agg [vI (((toR (makeQ n d)).1).num), vI (((toR (makeQ n d)).1).den)], vB ((toR (makeQ n d)).2)]) [] := by
  refine con_x tbOk mixedW Try.func177 (by kernel_rfl) (.br (.fin []) (.lit <| .lit <| .lit <| .lit <| .br (.lit <| .lit <| .lit <| .lit <| .br (.fin []) (.lit <| .lit <| .lit <| .lit <| .br (.fin []) (.br (.call (vI ((Int.gcd (-n) (-d) : Nat) : Int)) [] <| .call (vB (validR (⟨Int.tdiv (-n) ((Int.gcd (-n) (-d) : Nat) : Int), Int.tdiv (-d) ((Int.gcd (-n) (-d) : Nat) : Int)⟩ : RationalD))) [] <| .br (.fin []) (.fin [])) (.call (vI ((Int.gcd n d : Nat) : Int)) [] <| .call (vB (validR (⟨Int.tdiv n ((Int.gcd n d : Nat) : Int), Int.tdiv d ((Int.gcd n d : Nat) : Int)⟩ : RationalD))) [] <| .br (.fin []) (.fin []))))) (.lit <| .lit <| .lit <| .lit <| .lit <| .lit <| .lit <| .lit <| .lit <| .br (.fin []) (.br (.call (vI ((Int.gcd (-n) (-d) : Nat) : Int)) [] <| .call (vB (validR (⟨Int.tdiv (-n) ((Int.gcd (-n) (-d) : Nat) : Int), Int.tdiv (-d) ((Int.gcd (-n) (-d) : Nat) : Int)⟩ : RationalD))) [] <| .br (.fin []) (.fin [])) (.call (vI ((Int.gcd n d : Nat) : Int)) [] <| .call (vB (validR (⟨Int.tdiv n ((Int.gcd n d : Nat) : Int), Int.tdiv d ((Int.gcd n d : Nat) : Int)⟩ : RationalD))) [] <| .br (.fin []) (.fin [])))))) ?_
  refine Eq.mpr (by kernel_rfl : _ = (((decide (d = (0 : Int))) = true → (0 : Int) = (((toR (makeQ n d)).1).num) ∧ (0 : Int) = (((toR (makeQ n d)).1).den) ∧ (false) = ((toR (makeQ n d)).2) ∧ True) ∧ ((decide (d = (0 : Int))) = false → inR (-n) ∧ (((decide (n = (-n))) = true → ((!(decide (n = (0 : Int)))) = true → (0 : Int) = (((toR (makeQ n d)).1).num) ∧ (0 : Int) = (((toR (makeQ n d)).1).den) ∧ (false) = ((toR (makeQ n d)).2) ∧ True) ∧ ((!(decide (n = (0 : Int)))) = false → inR (-d) ∧ (((decide (d = (-d))) = true → (0 : Int) = (((toR (makeQ n d)).1).num) ∧ (0 : Int) = (((toR (makeQ n d)).1).den) ∧ (false) = ((toR (makeQ n d)).2) ∧ True) ∧ ((decide (d = (-d))) = false → ((decide (d < (0 : Int))) = true → inR (-n) ∧ (inR (-d) ∧ (Con Try.prog 154 [.one (.int .i64 (-n)), .one (.int .i64 (-d))] (vI ((Int.gcd (-n) (-d) : Nat) : Int)) [] ∧ (((Int.gcd (-n) (-d) : Nat) : Int) ≠ 0 ∧ (inR (Int.tdiv (-n) ((Int.gcd (-n) (-d) : Nat) : Int)) ∧ (((Int.gcd (-n) (-d) : Nat) : Int) ≠ 0 ∧ (inR (Int.tdiv (-d) ((Int.gcd (-n) (-d) : Nat) : Int)) ∧ (Con Try.prog 88 [.agg [.int .i64 (Int.tdiv (-n) ((Int.gcd (-n) (-d) : Nat) : Int)), .int .i64 (Int.tdiv (-d) ((Int.gcd (-n) (-d) : Nat) : Int))]] (vB (validR (⟨Int.tdiv (-n) ((Int.gcd (-n) (-d) : Nat) : Int), Int.tdiv (-d) ((Int.gcd (-n) (-d) : Nat) : Int)⟩ : RationalD))) [] ∧ (((!(validR (⟨Int.tdiv (-n) ((Int.gcd (-n) (-d) : Nat) : Int), Int.tdiv (-d) ((Int.gcd (-n) (-d) : Nat) : Int)⟩ : RationalD))) = true → (0 : Int) = (((toR (makeQ n d)).1).num) ∧ (0 : Int) = (((toR (makeQ n d)).1).den) ∧ (false) = ((toR (makeQ n d)).2) ∧ True) ∧ ((!(validR (⟨Int.tdiv (-n) ((Int.gcd (-n) (-d) : Nat) : Int), Int.tdiv (-d) ((Int.gcd (-n) (-d) : Nat) : Int)⟩ : RationalD))) = false → (Int.tdiv (-n) ((Int.gcd (-n) (-d) : Nat) : Int)) = (((toR (makeQ n d)).1).num) ∧ (Int.tdiv (-d) ((Int.gcd (-n) (-d) : Nat) : Int)) = (((toR (makeQ n d)).1).den) ∧ (true) = ((toR (makeQ n d)).2) ∧ True)))))))))) ∧ ((decide (d < (0 : Int))) = false → Con Try.prog 154 [.one (.int .i64 n), .one (.int .i64 d)] (vI ((Int.gcd n d : Nat) : Int)) [] ∧ (((Int.gcd n d : Nat) : Int) ≠ 0 ∧ (inR (Int.tdiv n ((Int.gcd n d : Nat) : Int)) ∧ (((Int.gcd n d : Nat) : Int) ≠ 0 ∧ (inR (Int.tdiv d ((Int.gcd n d : Nat) : Int)) ∧ (Con Try.prog 88 [.agg [.int .i64 (Int.tdiv n ((Int.gcd n d : Nat) : Int)), .int .i64 (Int.tdiv d ((Int.gcd n d : Nat) : Int))]] (vB (validR (⟨Int.tdiv n ((Int.gcd n d : Nat) : Int), Int.tdiv d ((Int.gcd n d : Nat) : Int)⟩ : RationalD))) [] ∧ (((!(validR (⟨Int.tdiv n ((Int.gcd n d : Nat) : Int), Int.tdiv d ((Int.gcd n d : Nat) : Int)⟩ : RationalD))) = true → (0 : Int) = (((toR (makeQ n d)).1).num) ∧ (0 : Int) = (((toR (makeQ n d)).1).den) ∧ (false) = ((toR (makeQ n d)).2) ∧ True) ∧ ((!(validR (⟨Int.tdiv n ((Int.gcd n d : Nat) : Int), Int.tdiv d ((Int.gcd n d : Nat) : Int)⟩ : RationalD))) = false → (Int.tdiv n ((Int.gcd n d : Nat) : Int)) = (((toR (makeQ n d)).1).num) ∧ (Int.tdiv d ((Int.gcd n d : Nat) : Int)) = (((toR (makeQ n d)).1).den) ∧ (true) = ((toR (makeQ n d)).2) ∧ True)))))))))))) ∧ ((decide (n = (-n))) = false → inR (-d) ∧ (((decide (d = (-d))) = true → (0 : Int) = (((toR (makeQ n d)).1).num) ∧ (0 : Int) = (((toR (makeQ n d)).1).den) ∧ (false) = ((toR (makeQ n d)).2) ∧ True) ∧ ((decide (d = (-d))) = false → ((decide (d < (0 : Int))) = true → inR (-n) ∧ (inR (-d) ∧ (Con Try.prog 154 [.one (.int .i64 (-n)), .one (.int .i64 (-d))] (vI ((Int.gcd (-n) (-d) : Nat) : Int)) [] ∧ (((Int.gcd (-n) (-d) : Nat) : Int) ≠ 0 ∧ (inR (Int.tdiv (-n) ((Int.gcd (-n) (-d) : Nat) : Int)) ∧ (((Int.gcd (-n) (-d) : Nat) : Int) ≠ 0 ∧ (inR (Int.tdiv (-d) ((Int.gcd (-n) (-d) : Nat) : Int)) ∧ (Con Try.prog 88 [.agg [.int .i64 (Int.tdiv (-n) ((Int.gcd (-n) (-d) : Nat) : Int)), .int .i64 (Int.tdiv (-d) ((Int.gcd (-n) (-d) : Nat) : Int))]] (vB (validR (⟨Int.tdiv (-n) ((Int.gcd (-n) (-d) : Nat) : Int), Int.tdiv (-d) ((Int.gcd (-n) (-d) : Nat) : Int)⟩ : RationalD))) [] ∧ (((!(validR (⟨Int.tdiv (-n) ((Int.gcd (-n) (-d) : Nat) : Int), Int.tdiv (-d) ((Int.gcd (-n) (-d) : Nat) : Int)⟩ : RationalD))) = true → (0 : Int) = (((toR (makeQ n d)).1).num) ∧ (0 : Int) = (((toR (makeQ n d)).1).den) ∧ (false) = ((toR (makeQ n d)).2) ∧ True) ∧ ((!(validR (⟨Int.tdiv (-n) ((Int.gcd (-n) (-d) : Nat) : Int), Int.tdiv (-d) ((Int.gcd (-n) (-d) : Nat) : Int)⟩ : RationalD))) = false → (Int.tdiv (-n) ((Int.gcd (-n) (-d) : Nat) : Int)) = (((toR (makeQ n d)).1).num) ∧ (Int.tdiv (-d) ((Int.gcd (-n) (-d) : Nat) : Int)) = (((toR (makeQ n d)).1).den) ∧ (true) = ((toR (makeQ n d)).2) ∧ True)))))))))) ∧ ((decide (d < (0 : Int))) = false → Con Try.prog 154 [.one (.int .i64 n), .one (.int .i64 d)] (vI ((Int.gcd n d : Nat) : Int)) [] ∧ (((Int.gcd n d : Nat) : Int) ≠ 0 ∧ (inR (Int.tdiv n ((Int.gcd n d : Nat) : Int)) ∧ (((Int.gcd n d : Nat) : Int) ≠ 0 ∧ (inR (Int.tdiv d ((Int.gcd n d : Nat) : Int)) ∧ (Con Try.prog 88 [.agg [.int .i64 (Int.tdiv n ((Int.gcd n d : Nat) : Int)), .int .i64 (Int.tdiv d ((Int.gcd n d : Nat) : Int))]] (vB (validR (⟨Int.tdiv n ((Int.gcd n d : Nat) : Int), Int.tdiv d ((Int.gcd n d : Nat) : Int)⟩ : RationalD))) [] ∧ (((!(validR (⟨Int.tdiv n ((Int.gcd n d : Nat) : Int), Int.tdiv d ((Int.gcd n d : Nat) : Int)⟩ : RationalD))) = true → (0 : Int) = (((toR (makeQ n d)).1).num) ∧ (0 : Int) = (((toR (makeQ n d)).1).den) ∧ (false) = ((toR (makeQ n d)).2) ∧ True) ∧ ((!(validR (⟨Int.tdiv n ((Int.gcd n d : Nat) : Int), Int.tdiv d ((Int.gcd n d : Nat) : Int)⟩ : RationalD))) = false → (Int.tdiv n ((Int.gcd n d : Nat) : Int)) = (((toR (makeQ n d)).1).num) ∧ (Int.tdiv d ((Int.gcd n d : Nat) : Int)) = (((toR (makeQ n d)).1).den) ∧ (true) = ((toR (makeQ n d)).2) ∧ True))))))))))))))) ?_
  refine ⟨fun g10 => ?_, fun g10 => ?_⟩
  · replace g10 := of_decide_eq_true g10
    refine ⟨?_, ?_, ?_, trivial⟩
    · first | (exfalso; omega) | (subst g10; rw [mkR_zero] <;> rfl) | (rw [mkR_pos (by omega) c2] <;> rfl) | (rw [mkR_pos0 (by omega) c2] <;> rfl) | (rw [mkR_neg (by omega) c2] <;> rfl) | (rw [mkR_neg0 (by omega) c2] <;> rfl)
    · first | (exfalso; omega) | (subst g10; rw [mkR_zero] <;> rfl) | (rw [mkR_pos (by omega) c2] <;> rfl) | (rw [mkR_pos0 (by omega) c2] <;> rfl) | (rw [mkR_neg (by omega) c2] <;> rfl) | (rw [mkR_neg0 (by omega) c2] <;> rfl)
    · first | (exfalso; omega) | (subst g10; rw [mkR_zero] <;> rfl) | (rw [mkR_pos (by omega) c2] <;> rfl) | (rw [mkR_pos0 (by omega) c2] <;> rfl) | (rw [mkR_neg (by omega) c2] <;> rfl) | (rw [mkR_neg0 (by omega) c2] <;> rfl)
  · replace g10 := of_decide_eq_false g10
    refine ⟨by first | exact inR_tdiv hn | exact inR_tdiv (by omega) | exact ⟨by omega, by omega⟩, ?_⟩
    refine ⟨fun g15 => ?_, fun g15 => ?_⟩
    · replace g15 := of_decide_eq_true g15
      refine ⟨fun g20 => ?_, fun g20 => ?_⟩
      · replace g20 := of_decide_eq_false (nt g20)
        refine ⟨?_, ?_, ?_, trivial⟩
        · first | (exfalso; omega) | (subst g10; rw [mkR_zero] <;> rfl) | (rw [mkR_pos (by omega) c2] <;> rfl) | (rw [mkR_pos0 (by omega) c2] <;> rfl) | (rw [mkR_neg (by omega) c2] <;> rfl) | (rw [mkR_neg0 (by omega) c2] <;> rfl)
        · first | (exfalso; omega) | (subst g10; rw [mkR_zero] <;> rfl) | (rw [mkR_pos (by omega) c2] <;> rfl) | (rw [mkR_pos0 (by omega) c2] <;> rfl) | (rw [mkR_neg (by omega) c2] <;> rfl) | (rw [mkR_neg0 (by omega) c2] <;> rfl)
        · first | (exfalso; omega) | (subst g10; rw [mkR_zero] <;> rfl) | (rw [mkR_pos (by omega) c2] <;> rfl) | (rw [mkR_pos0 (by omega) c2] <;> rfl) | (rw [mkR_neg (by omega) c2] <;> rfl) | (rw [mkR_neg0 (by omega) c2] <;> rfl)
      · replace g20 := of_decide_eq_true (nf g20)
        refine ⟨by first | exact inR_tdiv hn | exact inR_tdiv (by omega) | exact ⟨by omega, by omega⟩, ?_⟩
        refine ⟨fun c0 => ?_, fun c0 => ?_⟩
        · replace c0 := of_decide_eq_true c0
          refine ⟨?_, ?_, ?_, trivial⟩
          · first | (exfalso; omega) | (subst g10; rw [mkR_zero] <;> rfl) | (rw [mkR_pos (by omega) c2] <;> rfl) | (rw [mkR_pos0 (by omega) c2] <;> rfl) | (rw [mkR_neg (by omega) c2] <;> rfl) | (rw [mkR_neg0 (by omega) c2] <;> rfl)
          · first | (exfalso; omega) | (subst g10; rw [mkR_zero] <;> rfl) | (rw [mkR_pos (by omega) c2] <;> rfl) | (rw [mkR_pos0 (by omega) c2] <;> rfl) | (rw [mkR_neg (by omega) c2] <;> rfl) | (rw [mkR_neg0 (by omega) c2] <;> rfl)
          · first | (exfalso; omega) | (subst g10; rw [mkR_zero] <;> rfl) | (rw [mkR_pos (by omega) c2] <;> rfl) | (rw [mkR_pos0 (by omega) c2] <;> rfl) | (rw [mkR_neg (by omega) c2] <;> rfl) | (rw [mkR_neg0 (by omega) c2] <;> rfl)
        · replace c0 := of_decide_eq_false c0
          refine ⟨fun c1 => ?_, fun c1 => ?_⟩
          · replace c1 := of_decide_eq_true c1
            have q1 : ((Int.gcd (-n) (-d) : Nat) : Int) ≠ 0 := by have := gcd_pos (n := -n) (d := -d) (by omega); omega
            have q2 : ((Int.gcd ((Int.natAbs (-n) : Nat) : Int) (-d) : Nat) : Int) ≠ 0 := by rw [gcd_abs1]; have := gcd_pos (n := -n) (d := -d) (by omega); omega
            refine ⟨by first | exact inR_tdiv hn | exact inR_tdiv (by omega) | exact ⟨by omega, by omega⟩, ?_⟩
            refine ⟨by first | exact inR_tdiv hn | exact inR_tdiv (by omega) | exact ⟨by omega, by omega⟩, ?_⟩
            refine ⟨gcd_impl _ _ (by first | omega | (dsimp only; omega)) (by first | omega | (dsimp only; omega)), ?_⟩
            refine ⟨by omega, ?_⟩
            refine ⟨by first | exact inR_tdiv hn | exact inR_tdiv (by omega) | exact ⟨by omega, by omega⟩, ?_⟩
            refine ⟨by omega, ?_⟩
            refine ⟨by first | exact inR_tdiv hn | exact inR_tdiv (by omega) | exact ⟨by omega, by omega⟩, ?_⟩
            refine ⟨val_impl (⟨Int.tdiv (-n) ((Int.gcd (-n) (-d) : Nat) : Int), Int.tdiv (-d) ((Int.gcd (-n) (-d) : Nat) : Int)⟩ : RationalD), ?_⟩
            refine ⟨fun c2 => ?_, fun c2 => ?_⟩
            · replace c2 := nt c2
              refine ⟨?_, ?_, ?_, trivial⟩
              · first | (exfalso; omega) | (subst g10; rw [mkR_zero] <;> rfl) | (rw [mkR_pos (by omega) c2] <;> rfl) | (rw [mkR_pos0 (by omega) c2] <;> rfl) | (rw [mkR_neg (by omega) c2] <;> rfl) | (rw [mkR_neg0 (by omega) c2] <;> rfl)
              · first | (exfalso; omega) | (subst g10; rw [mkR_zero] <;> rfl) | (rw [mkR_pos (by omega) c2] <;> rfl) | (rw [mkR_pos0 (by omega) c2] <;> rfl) | (rw [mkR_neg (by omega) c2] <;> rfl) | (rw [mkR_neg0 (by omega) c2] <;> rfl)
              · first | (exfalso; omega) | (subst g10; rw [mkR_zero] <;> rfl) | (rw [mkR_pos (by omega) c2] <;> rfl) | (rw [mkR_pos0 (by omega) c2] <;> rfl) | (rw [mkR_neg (by omega) c2] <;> rfl) | (rw [mkR_neg0 (by omega) c2] <;> rfl)
            · replace c2 := nf c2
              refine ⟨?_, ?_, ?_, trivial⟩
              · first | (exfalso; omega) | (subst g10; rw [mkR_zero] <;> rfl) | (rw [mkR_pos (by omega) c2] <;> rfl) | (rw [mkR_pos0 (by omega) c2] <;> rfl) | (rw [mkR_neg (by omega) c2] <;> rfl) | (rw [mkR_neg0 (by omega) c2] <;> rfl)
              · first | (exfalso; omega) | (subst g10; rw [mkR_zero] <;> rfl) | (rw [mkR_pos (by omega) c2] <;> rfl) | (rw [mkR_pos0 (by omega) c2] <;> rfl) | (rw [mkR_neg (by omega) c2] <;> rfl) | (rw [mkR_neg0 (by omega) c2] <;> rfl)
              · first | (exfalso; omega) | (subst g10; rw [mkR_zero] <;> rfl) | (rw [mkR_pos (by omega) c2] <;> rfl) | (rw [mkR_pos0 (by omega) c2] <;> rfl) | (rw [mkR_neg (by omega) c2] <;> rfl) | (rw [mkR_neg0 (by omega) c2] <;> rfl)
          · replace c1 := of_decide_eq_false c1
            have q1 : ((Int.gcd n d : Nat) : Int) ≠ 0 := by have := gcd_pos (n := n) (d := d) (by omega); omega
            have q2 : ((Int.gcd ((Int.natAbs n : Nat) : Int) d : Nat) : Int) ≠ 0 := by rw [gcd_abs1]; have := gcd_pos (n := n) (d := d) (by omega); omega
            refine ⟨gcd_impl _ _ (by first | omega | (dsimp only; omega)) (by first | omega | (dsimp only; omega)), ?_⟩
            refine ⟨by omega, ?_⟩
            refine ⟨by first | exact inR_tdiv hn | exact inR_tdiv (by omega) | exact ⟨by omega, by omega⟩, ?_⟩
            refine ⟨by omega, ?_⟩
            refine ⟨by first | exact inR_tdiv hn | exact inR_tdiv (by omega) | exact ⟨by omega, by omega⟩, ?_⟩
            refine ⟨val_impl (⟨Int.tdiv n ((Int.gcd n d : Nat) : Int), Int.tdiv d ((Int.gcd n d : Nat) : Int)⟩ : RationalD), ?_⟩
            refine ⟨fun c2 => ?_, fun c2 => ?_⟩
            · replace c2 := nt c2
              refine ⟨?_, ?_, ?_, trivial⟩
              · first | (exfalso; omega) | (subst g10; rw [mkR_zero] <;> rfl) | (rw [mkR_pos (by omega) c2] <;> rfl) | (rw [mkR_pos0 (by omega) c2] <;> rfl) | (rw [mkR_neg (by omega) c2] <;> rfl) | (rw [mkR_neg0 (by omega) c2] <;> rfl)
              · first | (exfalso; omega) | (subst g10; rw [mkR_zero] <;> rfl) | (rw [mkR_pos (by omega) c2] <;> rfl) | (rw [mkR_pos0 (by omega) c2] <;> rfl) | (rw [mkR_neg (by omega) c2] <;> rfl) | (rw [mkR_neg0 (by omega) c2] <;> rfl)
              · first | (exfalso; omega) | (subst g10; rw [mkR_zero] <;> rfl) | (rw [mkR_pos (by omega) c2] <;> rfl) | (rw [mkR_pos0 (by omega) c2] <;> rfl) | (rw [mkR_neg (by omega) c2] <;> rfl) | (rw [mkR_neg0 (by omega) c2] <;> rfl)
            · replace c2 := nf c2
              refine ⟨?_, ?_, ?_, trivial⟩
              · first | (exfalso; omega) | (subst g10; rw [mkR_zero] <;> rfl) | (rw [mkR_pos (by omega) c2] <;> rfl) | (rw [mkR_pos0 (by omega) c2] <;> rfl) | (rw [mkR_neg (by omega) c2] <;> rfl) | (rw [mkR_neg0 (by omega) c2] <;> rfl)
              · first | (exfalso; omega) | (subst g10; rw [mkR_zero] <;> rfl) | (rw [mkR_pos (by omega) c2] <;> rfl) | (rw [mkR_pos0 (by omega) c2] <;> rfl) | (rw [mkR_neg (by omega) c2] <;> rfl) | (rw [mkR_neg0 (by omega) c2] <;> rfl)
              · first | (exfalso; omega) | (subst g10; rw [mkR_zero] <;> rfl) | (rw [mkR_pos (by omega) c2] <;> rfl) | (rw [mkR_pos0 (by omega) c2] <;> rfl) | (rw [mkR_neg (by omega) c2] <;> rfl) | (rw [mkR_neg0 (by omega) c2] <;> rfl)
    · replace g15 := of_decide_eq_false g15
      refine ⟨by first | exact inR_tdiv hn | exact inR_tdiv (by omega) | exact ⟨by omega, by omega⟩, ?_⟩
      refine ⟨fun c0 => ?_, fun c0 => ?_⟩
      · replace c0 := of_decide_eq_true c0
        refine ⟨?_, ?_, ?_, trivial⟩
        · first | (exfalso; omega) | (subst g10; rw [mkR_zero] <;> rfl) | (rw [mkR_pos (by omega) c2] <;> rfl) | (rw [mkR_pos0 (by omega) c2] <;> rfl) | (rw [mkR_neg (by omega) c2] <;> rfl) | (rw [mkR_neg0 (by omega) c2] <;> rfl)
        · first | (exfalso; omega) | (subst g10; rw [mkR_zero] <;> rfl) | (rw [mkR_pos (by omega) c2] <;> rfl) | (rw [mkR_pos0 (by omega) c2] <;> rfl) | (rw [mkR_neg (by omega) c2] <;> rfl) | (rw [mkR_neg0 (by omega) c2] <;> rfl)
        · first | (exfalso; omega) | (subst g10; rw [mkR_zero] <;> rfl) | (rw [mkR_pos (by omega) c2] <;> rfl) | (rw [mkR_pos0 (by omega) c2] <;> rfl) | (rw [mkR_neg (by omega) c2] <;> rfl) | (rw [mkR_neg0 (by omega) c2] <;> rfl)
      · replace c0 := of_decide_eq_false c0
        refine ⟨fun c1 => ?_, fun c1 => ?_⟩
        · replace c1 := of_decide_eq_true c1
          have q1 : ((Int.gcd (-n) (-d) : Nat) : Int) ≠ 0 := by have := gcd_pos (n := -n) (d := -d) (by omega); omega
          have q2 : ((Int.gcd ((Int.natAbs (-n) : Nat) : Int) (-d) : Nat) : Int) ≠ 0 := by rw [gcd_abs1]; have := gcd_pos (n := -n) (d := -d) (by omega); omega
          refine ⟨by first | exact inR_tdiv hn | exact inR_tdiv (by omega) | exact ⟨by omega, by omega⟩, ?_⟩
          refine ⟨by first | exact inR_tdiv hn | exact inR_tdiv (by omega) | exact ⟨by omega, by omega⟩, ?_⟩
          refine ⟨gcd_impl _ _ (by first | omega | (dsimp only; omega)) (by first | omega | (dsimp only; omega)), ?_⟩
          refine ⟨by omega, ?_⟩
          refine ⟨by first | exact inR_tdiv hn | exact inR_tdiv (by omega) | exact ⟨by omega, by omega⟩, ?_⟩
          refine ⟨by omega, ?_⟩
          refine ⟨by first | exact inR_tdiv hn | exact inR_tdiv (by omega) | exact ⟨by omega, by omega⟩, ?_⟩
          refine ⟨val_impl (⟨Int.tdiv (-n) ((Int.gcd (-n) (-d) : Nat) : Int), Int.tdiv (-d) ((Int.gcd (-n) (-d) : Nat) : Int)⟩ : RationalD), ?_⟩
          refine ⟨fun c2 => ?_, fun c2 => ?_⟩
          · replace c2 := nt c2
            refine ⟨?_, ?_, ?_, trivial⟩
            · first | (exfalso; omega) | (subst g10; rw [mkR_zero] <;> rfl) | (rw [mkR_pos (by omega) c2] <;> rfl) | (rw [mkR_pos0 (by omega) c2] <;> rfl) | (rw [mkR_neg (by omega) c2] <;> rfl) | (rw [mkR_neg0 (by omega) c2] <;> rfl)
            · first | (exfalso; omega) | (subst g10; rw [mkR_zero] <;> rfl) | (rw [mkR_pos (by omega) c2] <;> rfl) | (rw [mkR_pos0 (by omega) c2] <;> rfl) | (rw [mkR_neg (by omega) c2] <;> rfl) | (rw [mkR_neg0 (by omega) c2] <;> rfl)
            · first | (exfalso; omega) | (subst g10; rw [mkR_zero] <;> rfl) | (rw [mkR_pos (by omega) c2] <;> rfl) | (rw [mkR_pos0 (by omega) c2] <;> rfl) | (rw [mkR_neg (by omega) c2] <;> rfl) | (rw [mkR_neg0 (by omega) c2] <;> rfl)
          · replace c2 := nf c2
            refine ⟨?_, ?_, ?_, trivial⟩
            · first | (exfalso; omega) | (subst g10; rw [mkR_zero] <;> rfl) | (rw [mkR_pos (by omega) c2] <;> rfl) | (rw [mkR_pos0 (by omega) c2] <;> rfl) | (rw [mkR_neg (by omega) c2] <;> rfl) | (rw [mkR_neg0 (by omega) c2] <;> rfl)
            · first | (exfalso; omega) | (subst g10; rw [mkR_zero] <;> rfl) | (rw [mkR_pos (by omega) c2] <;> rfl) | (rw [mkR_pos0 (by omega) c2] <;> rfl) | (rw [mkR_neg (by omega) c2] <;> rfl) | (rw [mkR_neg0 (by omega) c2] <;> rfl)
            · first | (exfalso; omega) | (subst g10; rw [mkR_zero] <;> rfl) | (rw [mkR_pos (by omega) c2] <;> rfl) | (rw [mkR_pos0 (by omega) c2] <;> rfl) | (rw [mkR_neg (by omega) c2] <;> rfl) | (rw [mkR_neg0 (by omega) c2] <;> rfl)
        · replace c1 := of_decide_eq_false c1
          have q1 : ((Int.gcd n d : Nat) : Int) ≠ 0 := by have := gcd_pos (n := n) (d := d) (by omega); omega
          have q2 : ((Int.gcd ((Int.natAbs n : Nat) : Int) d : Nat) : Int) ≠ 0 := by rw [gcd_abs1]; have := gcd_pos (n := n) (d := d) (by omega); omega
          refine ⟨gcd_impl _ _ (by first | omega | (dsimp only; omega)) (by first | omega | (dsimp only; omega)), ?_⟩
          refine ⟨by omega, ?_⟩
          refine ⟨by first | exact inR_tdiv hn | exact inR_tdiv (by omega) | exact ⟨by omega, by omega⟩, ?_⟩
          refine ⟨by omega, ?_⟩
          refine ⟨by first | exact inR_tdiv hn | exact inR_tdiv (by omega) | exact ⟨by omega, by omega⟩, ?_⟩
          refine ⟨val_impl (⟨Int.tdiv n ((Int.gcd n d : Nat) : Int), Int.tdiv d ((Int.gcd n d : Nat) : Int)⟩ : RationalD), ?_⟩
          refine ⟨fun c2 => ?_, fun c2 => ?_⟩
          · replace c2 := nt c2
            refine ⟨?_, ?_, ?_, trivial⟩
            · first | (exfalso; omega) | (subst g10; rw [mkR_zero] <;> rfl) | (rw [mkR_pos (by omega) c2] <;> rfl) | (rw [mkR_pos0 (by omega) c2] <;> rfl) | (rw [mkR_neg (by omega) c2] <;> rfl) | (rw [mkR_neg0 (by omega) c2] <;> rfl)
            · first | (exfalso; omega) | (subst g10; rw [mkR_zero] <;> rfl) | (rw [mkR_pos (by omega) c2] <;> rfl) | (rw [mkR_pos0 (by omega) c2] <;> rfl) | (rw [mkR_neg (by omega) c2] <;> rfl) | (rw [mkR_neg0 (by omega) c2] <;> rfl)
            · first | (exfalso; omega) | (subst g10; rw [mkR_zero] <;> rfl) | (rw [mkR_pos (by omega) c2] <;> rfl) | (rw [mkR_pos0 (by omega) c2] <;> rfl) | (rw [mkR_neg (by omega) c2] <;> rfl) | (rw [mkR_neg0 (by omega) c2] <;> rfl)
          · replace c2 := nf c2
            refine ⟨?_, ?_, ?_, trivial⟩
            · first | (exfalso; omega) | (subst g10; rw [mkR_zero] <;> rfl) | (rw [mkR_pos (by omega) c2] <;> rfl) | (rw [mkR_pos0 (by omega) c2] <;> rfl) | (rw [mkR_neg (by omega) c2] <;> rfl) | (rw [mkR_neg0 (by omega) c2] <;> rfl)
            · first | (exfalso; omega) | (subst g10; rw [mkR_zero] <;> rfl) | (rw [mkR_pos (by omega) c2] <;> rfl) | (rw [mkR_pos0 (by omega) c2] <;> rfl) | (rw [mkR_neg (by omega) c2] <;> rfl) | (rw [mkR_neg0 (by omega) c2] <;> rfl)
            · first | (exfalso; omega) | (subst g10; rw [mkR_zero] <;> rfl) | (rw [mkR_pos (by omega) c2] <;> rfl) | (rw [mkR_pos0 (by omega) c2] <;> rfl) | (rw [mkR_neg (by omega) c2] <;> rfl) | (rw [mkR_neg0 (by omega) c2] <;> rfl)

set_option maxRecDepth 100000 in
set_option maxHeartbeats 4000000 in
theorem mk_spec (n d : Int) (hn : -9223372036854775807 ≤ n ∧ n ≤ 9223372036854775807) (hd : -9223372036854775807 ≤ d ∧ d ≤ 9223372036854775807) : Con Try.prog 108 [.one (.int .i64 n), .one (.int .i64 d)] (.tup [.agg [vI (((toR (makeQ n d)).1).num), vI (((toR (makeQ n d)).1).den)], vB ((toR (makeQ n d)).2)]) [] := by
  refine con_x tbOk mixedW Try.func108 (by kernel_rfl) (.br (.fin []) (.lit <| .lit <| .br (.fin []) (.lit <| .lit <| .br (.fin []) (.br (.call (vI (((-n).natAbs : Nat) : Int)) [] <| .call (vI ((Int.gcd (((-n).natAbs : Nat) : Int) (-d) : Nat) : Int)) [] <| .call (vB (validR (⟨Int.tdiv (-n) ((Int.gcd (((-n).natAbs : Nat) : Int) (-d) : Nat) : Int), Int.tdiv (-d) ((Int.gcd (((-n).natAbs : Nat) : Int) (-d) : Nat) : Int)⟩ : RationalD))) [] <| .br (.fin []) (.fin [])) (.call (vI ((n.natAbs : Nat) : Int)) [] <| .call (vI ((Int.gcd ((n.natAbs : Nat) : Int) d : Nat) : Int)) [] <| .call (vB (validR (⟨Int.tdiv n ((Int.gcd ((n.natAbs : Nat) : Int) d : Nat) : Int), Int.tdiv d ((Int.gcd ((n.natAbs : Nat) : Int) d : Nat) : Int)⟩ : RationalD))) [] <| .br (.fin []) (.fin [])))))) ?_
  refine Eq.mpr (by kernel_rfl : _ = (((decide (d = (0 : Int))) = true → (0 : Int) = (((toR (makeQ n d)).1).num) ∧ (0 : Int) = (((toR (makeQ n d)).1).den) ∧ (false) = ((toR (makeQ n d)).2) ∧ True) ∧ ((decide (d = (0 : Int))) = false → ((decide (n < (-9223372036854775807 : Int))) = true → (0 : Int) = (((toR (makeQ n d)).1).num) ∧ (0 : Int) = (((toR (makeQ n d)).1).den) ∧ (false) = ((toR (makeQ n d)).2) ∧ True) ∧ ((decide (n < (-9223372036854775807 : Int))) = false → ((decide (d < (-9223372036854775807 : Int))) = true → (0 : Int) = (((toR (makeQ n d)).1).num) ∧ (0 : Int) = (((toR (makeQ n d)).1).den) ∧ (false) = ((toR (makeQ n d)).2) ∧ True) ∧ ((decide (d < (-9223372036854775807 : Int))) = false → ((decide (d < (0 : Int))) = true → inR (-n) ∧ (inR (-d) ∧ (Con Try.prog 111 [.one (.int .i64 (-n))] (vI (((-n).natAbs : Nat) : Int)) [] ∧ (Con Try.prog 110 [.one (.int .i64 (((-n).natAbs : Nat) : Int)), .one (.int .i64 (-d))] (vI ((Int.gcd (((-n).natAbs : Nat) : Int) (-d) : Nat) : Int)) [] ∧ (((Int.gcd (((-n).natAbs : Nat) : Int) (-d) : Nat) : Int) ≠ 0 ∧ (inR (Int.tdiv (-n) ((Int.gcd (((-n).natAbs : Nat) : Int) (-d) : Nat) : Int)) ∧ (((Int.gcd (((-n).natAbs : Nat) : Int) (-d) : Nat) : Int) ≠ 0 ∧ (inR (Int.tdiv (-d) ((Int.gcd (((-n).natAbs : Nat) : Int) (-d) : Nat) : Int)) ∧ (Con Try.prog 44 [.agg [.int .i64 (Int.tdiv (-n) ((Int.gcd (((-n).natAbs : Nat) : Int) (-d) : Nat) : Int)), .int .i64 (Int.tdiv (-d) ((Int.gcd (((-n).natAbs : Nat) : Int) (-d) : Nat) : Int))]] (vB (validR (⟨Int.tdiv (-n) ((Int.gcd (((-n).natAbs : Nat) : Int) (-d) : Nat) : Int), Int.tdiv (-d) ((Int.gcd (((-n).natAbs : Nat) : Int) (-d) : Nat) : Int)⟩ : RationalD))) [] ∧ (((!(validR (⟨Int.tdiv (-n) ((Int.gcd (((-n).natAbs : Nat) : Int) (-d) : Nat) : Int), Int.tdiv (-d) ((Int.gcd (((-n).natAbs : Nat) : Int) (-d) : Nat) : Int)⟩ : RationalD))) = true → (0 : Int) = (((toR (makeQ n d)).1).num) ∧ (0 : Int) = (((toR (makeQ n d)).1).den) ∧ (false) = ((toR (makeQ n d)).2) ∧ True) ∧ ((!(validR (⟨Int.tdiv (-n) ((Int.gcd (((-n).natAbs : Nat) : Int) (-d) : Nat) : Int), Int.tdiv (-d) ((Int.gcd (((-n).natAbs : Nat) : Int) (-d) : Nat) : Int)⟩ : RationalD))) = false → (Int.tdiv (-n) ((Int.gcd (((-n).natAbs : Nat) : Int) (-d) : Nat) : Int)) = (((toR (makeQ n d)).1).num) ∧ (Int.tdiv (-d) ((Int.gcd (((-n).natAbs : Nat) : Int) (-d) : Nat) : Int)) = (((toR (makeQ n d)).1).den) ∧ (true) = ((toR (makeQ n d)).2) ∧ True))))))))))) ∧ ((decide (d < (0 : Int))) = false → Con Try.prog 111 [.one (.int .i64 n)] (vI ((n.natAbs : Nat) : Int)) [] ∧ (Con Try.prog 110 [.one (.int .i64 ((n.natAbs : Nat) : Int)), .one (.int .i64 d)] (vI ((Int.gcd ((n.natAbs : Nat) : Int) d : Nat) : Int)) [] ∧ (((Int.gcd ((n.natAbs : Nat) : Int) d : Nat) : Int) ≠ 0 ∧ (inR (Int.tdiv n ((Int.gcd ((n.natAbs : Nat) : Int) d : Nat) : Int)) ∧ (((Int.gcd ((n.natAbs : Nat) : Int) d : Nat) : Int) ≠ 0 ∧ (inR (Int.tdiv d ((Int.gcd ((n.natAbs : Nat) : Int) d : Nat) : Int)) ∧ (Con Try.prog 44 [.agg [.int .i64 (Int.tdiv n ((Int.gcd ((n.natAbs : Nat) : Int) d : Nat) : Int)), .int .i64 (Int.tdiv d ((Int.gcd ((n.natAbs : Nat) : Int) d : Nat) : Int))]] (vB (validR (⟨Int.tdiv n ((Int.gcd ((n.natAbs : Nat) : Int) d : Nat) : Int), Int.tdiv d ((Int.gcd ((n.natAbs : Nat) : Int) d : Nat) : Int)⟩ : RationalD))) [] ∧ (((!(validR (⟨Int.tdiv n ((Int.gcd ((n.natAbs : Nat) : Int) d : Nat) : Int), Int.tdiv d ((Int.gcd ((n.natAbs : Nat) : Int) d : Nat) : Int)⟩ : RationalD))) = true → (0 : Int) = (((toR (makeQ n d)).1).num) ∧ (0 : Int) = (((toR (makeQ n d)).1).den) ∧ (false) = ((toR (makeQ n d)).2) ∧ True) ∧ ((!(validR (⟨Int.tdiv n ((Int.gcd ((n.natAbs : Nat) : Int) d : Nat) : Int), Int.tdiv d ((Int.gcd ((n.natAbs : Nat) : Int) d : Nat) : Int)⟩ : RationalD))) = false → (Int.tdiv n ((Int.gcd ((n.natAbs : Nat) : Int) d : Nat) : Int)) = (((toR (makeQ n d)).1).num) ∧ (Int.tdiv d ((Int.gcd ((n.natAbs : Nat) : Int) d : Nat) : Int)) = (((toR (makeQ n d)).1).den) ∧ (true) = ((toR (makeQ n d)).2) ∧ True)))))))))))))) ?_
  refine ⟨fun g10 => ?_, fun g10 => ?_⟩
  · replace g10 := of_decide_eq_true g10
    refine ⟨?_, ?_, ?_, trivial⟩
    · (try simp only [gcd_abs1] at *); first | (exfalso; omega) | (subst g10; rw [mkR_zero] <;> rfl) | (rw [mkR_pos (by omega) c2] <;> rfl) | (rw [mkR_pos0 (by omega) c2] <;> rfl) | (rw [mkR_neg (by omega) c2] <;> rfl) | (rw [mkR_neg0 (by omega) c2] <;> rfl)
    · (try simp only [gcd_abs1] at *); first | (exfalso; omega) | (subst g10; rw [mkR_zero] <;> rfl) | (rw [mkR_pos (by omega) c2] <;> rfl) | (rw [mkR_pos0 (by omega) c2] <;> rfl) | (rw [mkR_neg (by omega) c2] <;> rfl) | (rw [mkR_neg0 (by omega) c2] <;> rfl)
    · (try simp only [gcd_abs1] at *); first | (exfalso; omega) | (subst g10; rw [mkR_zero] <;> rfl) | (rw [mkR_pos (by omega) c2] <;> rfl) | (rw [mkR_pos0 (by omega) c2] <;> rfl) | (rw [mkR_neg (by omega) c2] <;> rfl) | (rw [mkR_neg0 (by omega) c2] <;> rfl)
  · replace g10 := of_decide_eq_false g10
    refine ⟨fun g14 => ?_, fun g14 => ?_⟩
    · replace g14 := of_decide_eq_true g14
      refine ⟨?_, ?_, ?_, trivial⟩
      · (try simp only [gcd_abs1] at *); first | (exfalso; omega) | (subst g10; rw [mkR_zero] <;> rfl) | (rw [mkR_pos (by omega) c2] <;> rfl) | (rw [mkR_pos0 (by omega) c2] <;> rfl) | (rw [mkR_neg (by omega) c2] <;> rfl) | (rw [mkR_neg0 (by omega) c2] <;> rfl)
      · (try simp only [gcd_abs1] at *); first | (exfalso; omega) | (subst g10; rw [mkR_zero] <;> rfl) | (rw [mkR_pos (by omega) c2] <;> rfl) | (rw [mkR_pos0 (by omega) c2] <;> rfl) | (rw [mkR_neg (by omega) c2] <;> rfl) | (rw [mkR_neg0 (by omega) c2] <;> rfl)
      · (try simp only [gcd_abs1] at *); first | (exfalso; omega) | (subst g10; rw [mkR_zero] <;> rfl) | (rw [mkR_pos (by omega) c2] <;> rfl) | (rw [mkR_pos0 (by omega) c2] <;> rfl) | (rw [mkR_neg (by omega) c2] <;> rfl) | (rw [mkR_neg0 (by omega) c2] <;> rfl)
    · replace g14 := of_decide_eq_false g14
      refine ⟨fun c0 => ?_, fun c0 => ?_⟩
      · replace c0 := of_decide_eq_true c0
        refine ⟨?_, ?_, ?_, trivial⟩
        · (try simp only [gcd_abs1] at *); first | (exfalso; omega) | (subst g10; rw [mkR_zero] <;> rfl) | (rw [mkR_pos (by omega) c2] <;> rfl) | (rw [mkR_pos0 (by omega) c2] <;> rfl) | (rw [mkR_neg (by omega) c2] <;> rfl) | (rw [mkR_neg0 (by omega) c2] <;> rfl)
        · (try simp only [gcd_abs1] at *); first | (exfalso; omega) | (subst g10; rw [mkR_zero] <;> rfl) | (rw [mkR_pos (by omega) c2] <;> rfl) | (rw [mkR_pos0 (by omega) c2] <;> rfl) | (rw [mkR_neg (by omega) c2] <;> rfl) | (rw [mkR_neg0 (by omega) c2] <;> rfl)
        · (try simp only [gcd_abs1] at *); first | (exfalso; omega) | (subst g10; rw [mkR_zero] <;> rfl) | (rw [mkR_pos (by omega) c2] <;> rfl) | (rw [mkR_pos0 (by omega) c2] <;> rfl) | (rw [mkR_neg (by omega) c2] <;> rfl) | (rw [mkR_neg0 (by omega) c2] <;> rfl)
      · replace c0 := of_decide_eq_false c0
        refine ⟨fun c1 => ?_, fun c1 => ?_⟩
        · replace c1 := of_decide_eq_true c1
          have q1 : ((Int.gcd (-n) (-d) : Nat) : Int) ≠ 0 := by have := gcd_pos (n := -n) (d := -d) (by omega); omega
          have q2 : ((Int.gcd ((Int.natAbs (-n) : Nat) : Int) (-d) : Nat) : Int) ≠ 0 := by rw [gcd_abs1]; have := gcd_pos (n := -n) (d := -d) (by omega); omega
          refine ⟨by first | exact inR_tdiv hn | exact inR_tdiv (by omega) | exact ⟨by omega, by omega⟩, ?_⟩
          refine ⟨by first | exact inR_tdiv hn | exact inR_tdiv (by omega) | exact ⟨by omega, by omega⟩, ?_⟩
          refine ⟨abs_spec _ (by first | omega | (dsimp only; omega)), ?_⟩
          refine ⟨gcd_spec _ _ (by first | omega | (dsimp only; omega)) (by first | omega | (dsimp only; omega)), ?_⟩
          refine ⟨by omega, ?_⟩
          refine ⟨by first | exact inR_tdiv hn | exact inR_tdiv (by omega) | exact ⟨by omega, by omega⟩, ?_⟩
          refine ⟨by omega, ?_⟩
          refine ⟨by first | exact inR_tdiv hn | exact inR_tdiv (by omega) | exact ⟨by omega, by omega⟩, ?_⟩
          refine ⟨val_spec (⟨Int.tdiv (-n) ((Int.gcd (((-n).natAbs : Nat) : Int) (-d) : Nat) : Int), Int.tdiv (-d) ((Int.gcd (((-n).natAbs : Nat) : Int) (-d) : Nat) : Int)⟩ : RationalD), ?_⟩
          refine ⟨fun c2 => ?_, fun c2 => ?_⟩
          · replace c2 := nt c2
            refine ⟨?_, ?_, ?_, trivial⟩
            · (try simp only [gcd_abs1] at *); first | (exfalso; omega) | (subst g10; rw [mkR_zero] <;> rfl) | (rw [mkR_pos (by omega) c2] <;> rfl) | (rw [mkR_pos0 (by omega) c2] <;> rfl) | (rw [mkR_neg (by omega) c2] <;> rfl) | (rw [mkR_neg0 (by omega) c2] <;> rfl)
            · (try simp only [gcd_abs1] at *); first | (exfalso; omega) | (subst g10; rw [mkR_zero] <;> rfl) | (rw [mkR_pos (by omega) c2] <;> rfl) | (rw [mkR_pos0 (by omega) c2] <;> rfl) | (rw [mkR_neg (by omega) c2] <;> rfl) | (rw [mkR_neg0 (by omega) c2] <;> rfl)
            · (try simp only [gcd_abs1] at *); first | (exfalso; omega) | (subst g10; rw [mkR_zero] <;> rfl) | (rw [mkR_pos (by omega) c2] <;> rfl) | (rw [mkR_pos0 (by omega) c2] <;> rfl) | (rw [mkR_neg (by omega) c2] <;> rfl) | (rw [mkR_neg0 (by omega) c2] <;> rfl)
          · replace c2 := nf c2
            refine ⟨?_, ?_, ?_, trivial⟩
            · (try simp only [gcd_abs1] at *); first | (exfalso; omega) | (subst g10; rw [mkR_zero] <;> rfl) | (rw [mkR_pos (by omega) c2] <;> rfl) | (rw [mkR_pos0 (by omega) c2] <;> rfl) | (rw [mkR_neg (by omega) c2] <;> rfl) | (rw [mkR_neg0 (by omega) c2] <;> rfl)
            · (try simp only [gcd_abs1] at *); first | (exfalso; omega) | (subst g10; rw [mkR_zero] <;> rfl) | (rw [mkR_pos (by omega) c2] <;> rfl) | (rw [mkR_pos0 (by omega) c2] <;> rfl) | (rw [mkR_neg (by omega) c2] <;> rfl) | (rw [mkR_neg0 (by omega) c2] <;> rfl)
            · (try simp only [gcd_abs1] at *); first | (exfalso; omega) | (subst g10; rw [mkR_zero] <;> rfl) | (rw [mkR_pos (by omega) c2] <;> rfl) | (rw [mkR_pos0 (by omega) c2] <;> rfl) | (rw [mkR_neg (by omega) c2] <;> rfl) | (rw [mkR_neg0 (by omega) c2] <;> rfl)
        · replace c1 := of_decide_eq_false c1
          have q1 : ((Int.gcd n d : Nat) : Int) ≠ 0 := by have := gcd_pos (n := n) (d := d) (by omega); omega
          have q2 : ((Int.gcd ((Int.natAbs n : Nat) : Int) d : Nat) : Int) ≠ 0 := by rw [gcd_abs1]; have := gcd_pos (n := n) (d := d) (by omega); omega
          refine ⟨abs_spec _ (by first | omega | (dsimp only; omega)), ?_⟩
          refine ⟨gcd_spec _ _ (by first | omega | (dsimp only; omega)) (by first | omega | (dsimp only; omega)), ?_⟩
          refine ⟨by omega, ?_⟩
          refine ⟨by first | exact inR_tdiv hn | exact inR_tdiv (by omega) | exact ⟨by omega, by omega⟩, ?_⟩
          refine ⟨by omega, ?_⟩
          refine ⟨by first | exact inR_tdiv hn | exact inR_tdiv (by omega) | exact ⟨by omega, by omega⟩, ?_⟩
          refine ⟨val_spec (⟨Int.tdiv n ((Int.gcd ((n.natAbs : Nat) : Int) d : Nat) : Int), Int.tdiv d ((Int.gcd ((n.natAbs : Nat) : Int) d : Nat) : Int)⟩ : RationalD), ?_⟩
          refine ⟨fun c2 => ?_, fun c2 => ?_⟩
          · replace c2 := nt c2
            refine ⟨?_, ?_, ?_, trivial⟩
            · (try simp only [gcd_abs1] at *); first | (exfalso; omega) | (subst g10; rw [mkR_zero] <;> rfl) | (rw [mkR_pos (by omega) c2] <;> rfl) | (rw [mkR_pos0 (by omega) c2] <;> rfl) | (rw [mkR_neg (by omega) c2] <;> rfl) | (rw [mkR_neg0 (by omega) c2] <;> rfl)
            · (try simp only [gcd_abs1] at *); first | (exfalso; omega) | (subst g10; rw [mkR_zero] <;> rfl) | (rw [mkR_pos (by omega) c2] <;> rfl) | (rw [mkR_pos0 (by omega) c2] <;> rfl) | (rw [mkR_neg (by omega) c2] <;> rfl) | (rw [mkR_neg0 (by omega) c2] <;> rfl)
            · (try simp only [gcd_abs1] at *); first | (exfalso; omega) | (subst g10; rw [mkR_zero] <;> rfl) | (rw [mkR_pos (by omega) c2] <;> rfl) | (rw [mkR_pos0 (by omega) c2] <;> rfl) | (rw [mkR_neg (by omega) c2] <;> rfl) | (rw [mkR_neg0 (by omega) c2] <;> rfl)
          · replace c2 := nf c2
            refine ⟨?_, ?_, ?_, trivial⟩
            · (try simp only [gcd_abs1] at *); first | (exfalso; omega) | (subst g10; rw [mkR_zero] <;> rfl) | (rw [mkR_pos (by omega) c2] <;> rfl) | (rw [mkR_pos0 (by omega) c2] <;> rfl) | (rw [mkR_neg (by omega) c2] <;> rfl) | (rw [mkR_neg0 (by omega) c2] <;> rfl)
            · (try simp only [gcd_abs1] at *); first | (exfalso; omega) | (subst g10; rw [mkR_zero] <;> rfl) | (rw [mkR_pos (by omega) c2] <;> rfl) | (rw [mkR_pos0 (by omega) c2] <;> rfl) | (rw [mkR_neg (by omega) c2] <;> rfl) | (rw [mkR_neg0 (by omega) c2] <;> rfl)
            · (try simp only [gcd_abs1] at *); first | (exfalso; omega) | (subst g10; rw [mkR_zero] <;> rfl) | (rw [mkR_pos (by omega) c2] <;> rfl) | (rw [mkR_pos0 (by omega) c2] <;> rfl) | (rw [mkR_neg (by omega) c2] <;> rfl) | (rw [mkR_neg0 (by omega) c2] <;> rfl)
end Go.Proofs.Ytcfilkhjababjaa
