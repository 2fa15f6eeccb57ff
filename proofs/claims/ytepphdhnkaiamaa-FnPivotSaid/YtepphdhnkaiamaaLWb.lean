/-
  Products of numbers and rationals, both sides.
-/
import Derived.Test.YtepphdhnkaiamaaLWa
namespace Go.Proofs.Ytepphdhnkaiamaa
open Go.ChangeShapes Go.WideShapes Go.ChangeAt Go.RowKit
set_option linter.unusedVariables false
set_option linter.unusedSimpArgs false
set_option maxRecDepth 100000
set_option maxHeartbeats 4000000
abbrev K_wh_impl (n : Int) : Prop := Con Try.prog 56 [.one (.int .i64 n)] (.agg [vI ((wholeR n).num), vI ((wholeR n).den)]) []
theorem wh_impl (n : Int) : K_wh_impl n := by
 refine con_y tbOk mixedW Try.func56 (by kernel_rfl) (.fin []) (p := n = ((wholeR n).num) ∧ (1 : Int) = ((wholeR n).den) ∧ True) (by kernel_rfl) ?_
 refine ⟨?_, ?_, trivial⟩ <;> (rfl)

abbrev K_wh_spec (n : Int) : Prop := Con Try.prog 46 [.one (.int .i64 n)] (.agg [vI ((wholeR n).num), vI ((wholeR n).den)]) []
theorem wh_spec (n : Int) : K_wh_spec n := by
 refine con_y tbOk mixedW Try.func46 (by kernel_rfl) (.fin []) (p := n = ((wholeR n).num) ∧ (1 : Int) = ((wholeR n).den) ∧ True) (by kernel_rfl) ?_
 refine ⟨?_, ?_, trivial⟩ <;> (rfl)

abbrev k_prod_impl (l : List Int) (xs : List RationalD) : AV × List (Nat × Rs) := (.tup [.agg [vI (((prodR l xs).1).num), vI (((prodR l xs).1).den)], vB ((prodR l xs).2)], [])
abbrev K_prod_impl (l : List Int) (xs : List RationalD) : Prop := Con Try.prog 54 [.one (.sl 3 1 (l.map intD)), .one (.sl 30 2 (xs.map eRational))] (k_prod_impl l xs).1 (k_prod_impl l xs).2
theorem prod_impl (l : List Int) (xs : List RationalD) : K_prod_impl l xs := by
 refine con_y tbOk mixedW Try.func54 (by kernel_rfl) (.call (.agg [vI ((wholeR (0 : Int)).num), vI ((wholeR (0 : Int)).den)]) [] <| .len l.length <| .len xs.length <| .br (.fin []) (.len l.length <| .loop (Nat × RationalD) (Q2 Nat RationalD) [7, 8, 9, 10, 11, 12, 22, 23, 24, 25, 26, 27, 28, 29, 30, 31, 32, 33, 34, 35, 36, 37, 38, 39, 40, 41, 42, 43, 44, 45, 46, 47, 48, 50, 51] [600, 900, 1100] (fun yy0 => [(22, vI (yy0.1 : Int))]) (fun yy0 => [(600, some (.box 30 [vI yy0.2.num, vI yy0.2.den]))]) (fun yy0 => yy0.1 ≤ l.length ∧ dotR (l.drop yy0.1) (xs.drop yy0.1) yy0.2 = dotR l xs (wholeR 0)) (fun yy0 => l.length - yy0.1) (fun yy0 => .br (.elem _ intD l (fun e25 => .call (.agg [vI ((wholeR e25).num), vI ((wholeR e25).den)]) [] <| .elem _ eRational xs (fun e32 => callP (k_mul_impl (wholeR e25) e32) <| callP (k_add_impl yy0.2 ((mulR (wholeR e25) e32).1)) <| .br (.fin []) (.lit <| .lit <| .br (.fin []) (.back [(600, 600)]))))) (.fin [])))) (p := (l.map intD).length ≤ 9223372036854775807 → (xs.map eRational).length ≤ 9223372036854775807 → K_wh_impl (0 : Int) ∧ (Lm intD l ∧ (Lm eRational xs ∧ (((!(decide (((l.length : Nat) : Int) = ((xs.length : Nat) : Int)))) = true → (0 : Int) = (((prodR l xs).1).num) ∧ (0 : Int) = (((prodR l xs).1).den) ∧ (false) = ((prodR l xs).2) ∧ True) ∧ ((!(decide (((l.length : Nat) : Int) = ((xs.length : Nat) : Int)))) = false → Lm intD l ∧ ((∃ (k : Nat) (s : RationalD), (0 : Int) = (k : Int) ∧ ((wholeR (0 : Int)).num) = s.num ∧ ((wholeR (0 : Int)).den) = s.den ∧ k ≤ l.length ∧ dotR (l.drop k) (xs.drop k) s = dotR l xs (wholeR 0)) ∧ ∀ (k : Nat) (s : RationalD), (k ≤ l.length ∧ dotR (l.drop k) (xs.drop k) s = dotR l xs (wholeR 0)) → ((decide ((k : Int) < ((l.length : Nat) : Int))) = true → 0 ≤ (k : Int) ∧ Em intD l k fun e25 => K_wh_impl e25 ∧ (0 ≤ (k : Int) ∧ Em eRational xs k fun e32 => K_mul_impl (wholeR e25) e32 ∧ (K_add_impl s ((mulR (wholeR e25) e32).1) ∧ (((!((mulR (wholeR e25) e32).2)) = true → (0 : Int) = (((prodR l xs).1).num) ∧ (0 : Int) = (((prodR l xs).1).den) ∧ (false) = ((prodR l xs).2) ∧ True) ∧ ((!((mulR (wholeR e25) e32).2)) = false → ((!((addR s ((mulR (wholeR e25) e32).1)).2)) = true → (0 : Int) = (((prodR l xs).1).num) ∧ (0 : Int) = (((prodR l xs).1).den) ∧ (false) = ((prodR l xs).2) ∧ True) ∧ ((!((addR s ((mulR (wholeR e25) e32).1)).2)) = false → inR ((k : Int) + (1 : Int)) ∧ ∃ (k' : Nat) (s' : RationalD), ((k : Int) + (1 : Int)) = (k' : Int) ∧ (((addR s ((mulR (wholeR e25) e32).1)).1).num) = s'.num ∧ (((addR s ((mulR (wholeR e25) e32).1)).1).den) = s'.den ∧ (k' ≤ l.length ∧ dotR (l.drop k') (xs.drop k') s' = dotR l xs (wholeR 0)) ∧ l.length - k' < l.length - k)))))) ∧ ((decide ((k : Int) < ((l.length : Nat) : Int))) = false → s.num = (((prodR l xs).1).num) ∧ s.den = (((prodR l xs).1).den) ∧ (true) = ((prodR l xs).2) ∧ True))))))) (by kernel_rfl) ?_
 intro n0 n1
 simp only [List.length_map] at n0 n1
 refine ⟨wh_impl (0 : Int), List.length_map _, List.length_map _, fun c0 => ?_, fun c0 => ?_⟩
 ·replace c0 := nq (nt c0)
  refine ⟨?_, ?_, ?_, trivial⟩ <;> (first | (rw [prodR_no (by omega)] <;> rfl) | (rw [prodR_yes (by omega), ← hd, dotR_no h25 h32 (.inl g45)] <;> rfl) | (rw [prodR_yes (by omega), ← hd, dotR_no h25 h32 (.inr c2)] <;> rfl) | (rw [prodR_yes (by omega), ← hd, dotR_done (by omega)] <;> rfl))
 ·replace c0 := yq (nf c0)
  refine ⟨List.length_map _, ⟨0, wholeR 0, rfl, rfl, rfl, Nat.zero_le _, rfl⟩, fun k s ⟨hk, hd⟩ => ?_⟩
  refine ⟨fun c1 => ?_, fun c1 => ?_⟩
  ·replace c1 := yq c1
   refine ⟨by omega, rfl, by omega, fun e25 h25 => ?_⟩
   refine ⟨wh_impl e25, by omega, rfl, by omega, fun e32 h32 => ?_⟩
   refine ⟨mul_impl (wholeR e25) e32, add_impl s ((mulR (wholeR e25) e32).1), fun g45 => ?_, fun g45 => ?_⟩
   ·replace g45 := nt g45
    refine ⟨?_, ?_, ?_, trivial⟩ <;> (first | (rw [prodR_no (by omega)] <;> rfl) | (rw [prodR_yes (by omega), ← hd, dotR_no h25 h32 (.inl g45)] <;> rfl) | (rw [prodR_yes (by omega), ← hd, dotR_no h25 h32 (.inr c2)] <;> rfl) | (rw [prodR_yes (by omega), ← hd, dotR_done (by omega)] <;> rfl))
   ·replace g45 := nf g45
    refine ⟨fun c2 => ?_, fun c2 => ?_⟩
    ·replace c2 := nt c2
     refine ⟨?_, ?_, ?_, trivial⟩ <;> (first | (rw [prodR_no (by omega)] <;> rfl) | (rw [prodR_yes (by omega), ← hd, dotR_no h25 h32 (.inl g45)] <;> rfl) | (rw [prodR_yes (by omega), ← hd, dotR_no h25 h32 (.inr c2)] <;> rfl) | (rw [prodR_yes (by omega), ← hd, dotR_done (by omega)] <;> rfl))
    ·replace c2 := nf c2
     refine ⟨⟨by omega, by omega⟩, ?_⟩
     exact ⟨k + 1, (addR s (mulR (wholeR e25) e32).1).1, rfl, rfl, rfl, ⟨by omega, by rw [← hd, dotR_yes h25 h32 g45 c2]⟩, by omega⟩
  ·replace c1 := nq c1
   refine ⟨?_, ?_, ?_, trivial⟩ <;> (first | (rw [prodR_no (by omega)] <;> rfl) | (rw [prodR_yes (by omega), ← hd, dotR_no h25 h32 (.inl g45)] <;> rfl) | (rw [prodR_yes (by omega), ← hd, dotR_no h25 h32 (.inr c2)] <;> rfl) | (rw [prodR_yes (by omega), ← hd, dotR_done (by omega)] <;> rfl))

abbrev k_dot_spec (l : List Int) (xs : List RationalD) : AV × List (Nat × Rs) := (.tup [.agg [vI (((dotR l xs (wholeR 0)).1).num), vI (((dotR l xs (wholeR 0)).1).den)], vB ((dotR l xs (wholeR 0)).2)], [])
abbrev K_dot_spec (l : List Int) (xs : List RationalD) : Prop := Con Try.prog 58 [.one (.sl 3 1 (l.map intD)), .one (.sl 30 2 (xs.map eRational))] (k_dot_spec l xs).1 (k_dot_spec l xs).2
theorem dot_spec (l : List Int) (xs : List RationalD) : K_dot_spec l xs := by
 refine con_y tbOk mixedW Try.func58 (by kernel_rfl) (.call (.agg [vI ((wholeR (0 : Int)).num), vI ((wholeR (0 : Int)).den)]) [] <| .loop (Nat × RationalD) (Q2 Nat RationalD) [7, 8, 9, 10, 11, 13, 14, 15, 16, 17, 18, 19, 20, 21, 22, 23, 24, 25, 26, 27, 28, 29, 30, 31, 32, 33, 34, 35, 36, 37, 38, 39, 40, 41, 42, 43, 44, 45, 46, 47, 48, 49, 51] [600, 800, 1000] (fun yy0 => [(7, vI (yy0.1 : Int))]) (fun yy0 => [(600, some (.box 30 [vI yy0.2.num, vI yy0.2.den]))]) (fun yy0 => yy0.1 ≤ l.length ∧ dotR (l.drop yy0.1) (xs.drop yy0.1) yy0.2 = dotR l xs (wholeR 0)) (fun yy0 => l.length - yy0.1) (fun yy0 => .len l.length <| .br (.len xs.length <| .lit <| .lit <| .br (.elem _ intD l (fun e28 => .call (.agg [vI ((wholeR e28).num), vI ((wholeR e28).den)]) [] <| .elem _ eRational xs (fun e33 => callP (k_mul_spec (wholeR e28) e33) <| callP (k_add_spec yy0.2 ((mulR (wholeR e28) e33).1)) <| .br (.fin []) (.lit <| .lit <| .br (.fin []) (.back [(600, 600)]))))) (.fin [])) (.fin []))) (p := (l.map intD).length ≤ 9223372036854775807 → (xs.map eRational).length ≤ 9223372036854775807 → K_wh_spec (0 : Int) ∧ ((∃ (k : Nat) (s : RationalD), (0 : Int) = (k : Int) ∧ ((wholeR (0 : Int)).num) = s.num ∧ ((wholeR (0 : Int)).den) = s.den ∧ k ≤ l.length ∧ dotR (l.drop k) (xs.drop k) s = dotR l xs (wholeR 0)) ∧ ∀ (k : Nat) (s : RationalD), (k ≤ l.length ∧ dotR (l.drop k) (xs.drop k) s = dotR l xs (wholeR 0)) → Lm intD l ∧ (((decide ((k : Int) < ((l.length : Nat) : Int))) = true → Lm eRational xs ∧ (((decide ((k : Int) < ((xs.length : Nat) : Int))) = true → 0 ≤ (k : Int) ∧ Em intD l k fun e28 => K_wh_spec e28 ∧ (0 ≤ (k : Int) ∧ Em eRational xs k fun e33 => K_mul_spec (wholeR e28) e33 ∧ (K_add_spec s ((mulR (wholeR e28) e33).1) ∧ (((!((mulR (wholeR e28) e33).2)) = true → (0 : Int) = (((dotR l xs (wholeR 0)).1).num) ∧ (0 : Int) = (((dotR l xs (wholeR 0)).1).den) ∧ (false) = ((dotR l xs (wholeR 0)).2) ∧ True) ∧ ((!((mulR (wholeR e28) e33).2)) = false → ((!((addR s ((mulR (wholeR e28) e33).1)).2)) = true → (0 : Int) = (((dotR l xs (wholeR 0)).1).num) ∧ (0 : Int) = (((dotR l xs (wholeR 0)).1).den) ∧ (false) = ((dotR l xs (wholeR 0)).2) ∧ True) ∧ ((!((addR s ((mulR (wholeR e28) e33).1)).2)) = false → inR ((k : Int) + (1 : Int)) ∧ ∃ (k' : Nat) (s' : RationalD), ((k : Int) + (1 : Int)) = (k' : Int) ∧ (((addR s ((mulR (wholeR e28) e33).1)).1).num) = s'.num ∧ (((addR s ((mulR (wholeR e28) e33).1)).1).den) = s'.den ∧ (k' ≤ l.length ∧ dotR (l.drop k') (xs.drop k') s' = dotR l xs (wholeR 0)) ∧ l.length - k' < l.length - k)))))) ∧ ((decide ((k : Int) < ((xs.length : Nat) : Int))) = false → s.num = (((dotR l xs (wholeR 0)).1).num) ∧ s.den = (((dotR l xs (wholeR 0)).1).den) ∧ (true) = ((dotR l xs (wholeR 0)).2) ∧ True))) ∧ ((decide ((k : Int) < ((l.length : Nat) : Int))) = false → s.num = (((dotR l xs (wholeR 0)).1).num) ∧ s.den = (((dotR l xs (wholeR 0)).1).den) ∧ (true) = ((dotR l xs (wholeR 0)).2) ∧ True)))) (by kernel_rfl) ?_
 intro n0 n1
 simp only [List.length_map] at n0 n1
 refine ⟨wh_spec (0 : Int), ⟨0, wholeR 0, rfl, rfl, rfl, Nat.zero_le _, rfl⟩, fun k s ⟨hk, hd⟩ => ?_⟩
 refine ⟨List.length_map _, fun g17 => ?_, fun g17 => ?_⟩
 ·replace g17 := yq g17
  refine ⟨List.length_map _, fun c0 => ?_, fun c0 => ?_⟩
  ·replace c0 := yq c0
   refine ⟨by omega, rfl, by omega, fun e28 h28 => ?_⟩
   refine ⟨wh_spec e28, by omega, rfl, by omega, fun e33 h33 => ?_⟩
   refine ⟨mul_spec (wholeR e28) e33, add_spec s ((mulR (wholeR e28) e33).1), fun g46 => ?_, fun g46 => ?_⟩
   ·replace g46 := nt g46
    refine ⟨?_, ?_, ?_, trivial⟩ <;> (first | (rw [← hd, dotR_no h28 h33 (.inl g46)] <;> rfl) | (rw [← hd, dotR_no h28 h33 (.inr c1)] <;> rfl) | (rw [← hd, dotR_done (by omega)] <;> rfl))
   ·replace g46 := nf g46
    refine ⟨fun c1 => ?_, fun c1 => ?_⟩
    ·replace c1 := nt c1
     refine ⟨?_, ?_, ?_, trivial⟩ <;> (first | (rw [← hd, dotR_no h28 h33 (.inl g46)] <;> rfl) | (rw [← hd, dotR_no h28 h33 (.inr c1)] <;> rfl) | (rw [← hd, dotR_done (by omega)] <;> rfl))
    ·replace c1 := nf c1
     refine ⟨⟨by omega, by omega⟩, ?_⟩
     exact ⟨k + 1, (addR s (mulR (wholeR e28) e33).1).1, rfl, rfl, rfl, ⟨by omega, by rw [← hd, dotR_yes h28 h33 g46 c1]⟩, by omega⟩
  ·replace c0 := nq c0
   refine ⟨?_, ?_, ?_, trivial⟩ <;> (first | (rw [← hd, dotR_no h28 h33 (.inl g46)] <;> rfl) | (rw [← hd, dotR_no h28 h33 (.inr c1)] <;> rfl) | (rw [← hd, dotR_done (by omega)] <;> rfl))
 ·replace g17 := nq g17
  refine ⟨?_, ?_, ?_, trivial⟩ <;> (first | (rw [← hd, dotR_no h28 h33 (.inl g46)] <;> rfl) | (rw [← hd, dotR_no h28 h33 (.inr c1)] <;> rfl) | (rw [← hd, dotR_done (by omega)] <;> rfl))
end Go.Proofs.Ytepphdhnkaiamaa
