/-
  The law on power floors, drawn.
-/
import Derived.Test.YtepphdhnkaiamaaYc
import Derived.Test.YtepphdhnkaiamaaLPa
namespace Go.Proofs.Ytepphdhnkaiamaa
open Go.ChangeShapes Go.WideShapes Go.ChangeAt Go.RowKit
set_option linter.unusedVariables false
set_option linter.unusedSimpArgs false
set_option maxRecDepth 100000
set_option maxHeartbeats 4000000
def powD (l : List Int) : RationalD := if (belowD l (curN l) 4).1 = 0 then (ratD l (belowD l (curN l) 4).2).1 else (toR (makeQ (belowD l (belowD l (curN l) 4).2 45).1 (1 + (belowD l (belowD l (belowD l (curN l) 4).2 45).2 5).1))).1
theorem powD_0 {l : List Int} (h : (belowD l (curN l) 4).1 = 0) : powD l = (ratD l (belowD l (curN l) 4).2).1 := by rw [powD, if_pos h]
theorem powD_1 {l : List Int} (h : ¬ (belowD l (curN l) 4).1 = 0) : powD l = (toR (makeQ (belowD l (belowD l (curN l) 4).2 45).1 (1 + (belowD l (belowD l (belowD l (curN l) 4).2 45).2 5).1))).1 := by rw [powD, if_neg h]

abbrev K_d_pow (l : List Int) : Prop := Con Try.prog 23 [.one (.sl 5 1 (l.map byD))] (.agg [vI ((powD l).num), vI ((powD l).den)]) []
theorem d_pow (l : List Int) (hl : l.length ≤ 1048576) : K_d_pow l := by
 refine con_y tbOk mixedW Try.func23 (by kernel_rfl) (callxsP (k_d_new l) [] <| .callxs [.ptr 0 0, vI (4 : Int)] [(0, .box 84 [.p none (.sl 5 1 (l.map byD)), vI (((curN l).i : Nat) : Int), vI ((curN l).h)])] [(0, 700)] (vB (decide ((belowD l (curN l) (4 : Int)).1 = 0))) [(0, .box 84 [.p none (.sl 5 1 (l.map byD)), vI (((belowD l (curN l) (4 : Int)).2.i : Nat) : Int), vI ((belowD l (curN l) (4 : Int)).2.h)])] <| .br (.callxs [.ptr 0 0] [(0, .box 84 [.p none (.sl 5 1 (l.map byD)), vI ((((belowD l (curN l) (4 : Int)).2).i : Nat) : Int), vI (((belowD l (curN l) (4 : Int)).2).h)])] [(0, 700)] (.agg [vI (((ratD l ((belowD l (curN l) (4 : Int)).2)).1).num), vI (((ratD l ((belowD l (curN l) (4 : Int)).2)).1).den)]) [(0, .box 84 [.p none (.sl 5 1 (l.map byD)), vI (((ratD l ((belowD l (curN l) (4 : Int)).2)).2.i : Nat) : Int), vI ((ratD l ((belowD l (curN l) (4 : Int)).2)).2.h)])] <| .fin []) (.callxs [.ptr 0 0, vI (45 : Int)] [(0, .box 84 [.p none (.sl 5 1 (l.map byD)), vI ((((belowD l (curN l) (4 : Int)).2).i : Nat) : Int), vI (((belowD l (curN l) (4 : Int)).2).h)])] [(0, 700)] (vI ((belowD l ((belowD l (curN l) (4 : Int)).2) (45 : Int)).1)) [(0, .box 84 [.p none (.sl 5 1 (l.map byD)), vI (((belowD l ((belowD l (curN l) (4 : Int)).2) (45 : Int)).2.i : Nat) : Int), vI ((belowD l ((belowD l (curN l) (4 : Int)).2) (45 : Int)).2.h)])] <| .callxs [.ptr 0 0, vI (5 : Int)] [(0, .box 84 [.p none (.sl 5 1 (l.map byD)), vI ((((belowD l ((belowD l (curN l) (4 : Int)).2) (45 : Int)).2).i : Nat) : Int), vI (((belowD l ((belowD l (curN l) (4 : Int)).2) (45 : Int)).2).h)])] [(0, 700)] (vI ((belowD l ((belowD l ((belowD l (curN l) (4 : Int)).2) (45 : Int)).2) (5 : Int)).1)) [(0, .box 84 [.p none (.sl 5 1 (l.map byD)), vI (((belowD l ((belowD l ((belowD l (curN l) (4 : Int)).2) (45 : Int)).2) (5 : Int)).2.i : Nat) : Int), vI ((belowD l ((belowD l ((belowD l (curN l) (4 : Int)).2) (45 : Int)).2) (5 : Int)).2.h)])] <| callP (k_mk_spec ((belowD l ((belowD l (curN l) (4 : Int)).2) (45 : Int)).1) ((1 : Int) + ((belowD l ((belowD l ((belowD l (curN l) (4 : Int)).2) (45 : Int)).2) (5 : Int)).1))) <| .fin [])) (p := (l.map byD).length ≤ 9223372036854775807 → K_d_new l ∧ l.map byD = l.map byD ∧ (Con2 Try.prog 51 [.ptr 0 0, vI (4 : Int)] [(0, .box 84 [.p none (.sl 5 1 (l.map byD)), vI (((curN l).i : Nat) : Int), vI ((curN l).h)])] (vB (decide ((belowD l (curN l) (4 : Int)).1 = 0))) [(0, .box 84 [.p none (.sl 5 1 (l.map byD)), vI (((belowD l (curN l) (4 : Int)).2.i : Nat) : Int), vI ((belowD l (curN l) (4 : Int)).2.h)])] ∧ (4 : Int) = (4 : Int) ∧ l.map byD = l.map byD ∧ (((curN l).i : Nat) : Int) = (((curN l).i : Nat) : Int) ∧ ((curN l).h) = ((curN l).h) ∧ (((decide ((belowD l (curN l) (4 : Int)).1 = 0)) = true → Con2 Try.prog 59 [.ptr 0 0] [(0, .box 84 [.p none (.sl 5 1 (l.map byD)), vI ((((belowD l (curN l) (4 : Int)).2).i : Nat) : Int), vI (((belowD l (curN l) (4 : Int)).2).h)])] (.agg [vI (((ratD l ((belowD l (curN l) (4 : Int)).2)).1).num), vI (((ratD l ((belowD l (curN l) (4 : Int)).2)).1).den)]) [(0, .box 84 [.p none (.sl 5 1 (l.map byD)), vI (((ratD l ((belowD l (curN l) (4 : Int)).2)).2.i : Nat) : Int), vI ((ratD l ((belowD l (curN l) (4 : Int)).2)).2.h)])] ∧ l.map byD = l.map byD ∧ (((belowD l (curN l) (4 : Int)).2.i : Nat) : Int) = ((((belowD l (curN l) (4 : Int)).2).i : Nat) : Int) ∧ ((belowD l (curN l) (4 : Int)).2.h) = (((belowD l (curN l) (4 : Int)).2).h) ∧ (((ratD l ((belowD l (curN l) (4 : Int)).2)).1).num) = ((powD l).num) ∧ (((ratD l ((belowD l (curN l) (4 : Int)).2)).1).den) = ((powD l).den) ∧ True) ∧ ((decide ((belowD l (curN l) (4 : Int)).1 = 0)) = false → Con2 Try.prog 61 [.ptr 0 0, vI (45 : Int)] [(0, .box 84 [.p none (.sl 5 1 (l.map byD)), vI ((((belowD l (curN l) (4 : Int)).2).i : Nat) : Int), vI (((belowD l (curN l) (4 : Int)).2).h)])] (vI ((belowD l ((belowD l (curN l) (4 : Int)).2) (45 : Int)).1)) [(0, .box 84 [.p none (.sl 5 1 (l.map byD)), vI (((belowD l ((belowD l (curN l) (4 : Int)).2) (45 : Int)).2.i : Nat) : Int), vI ((belowD l ((belowD l (curN l) (4 : Int)).2) (45 : Int)).2.h)])] ∧ (45 : Int) = (45 : Int) ∧ l.map byD = l.map byD ∧ (((belowD l (curN l) (4 : Int)).2.i : Nat) : Int) = ((((belowD l (curN l) (4 : Int)).2).i : Nat) : Int) ∧ ((belowD l (curN l) (4 : Int)).2.h) = (((belowD l (curN l) (4 : Int)).2).h) ∧ Con2 Try.prog 61 [.ptr 0 0, vI (5 : Int)] [(0, .box 84 [.p none (.sl 5 1 (l.map byD)), vI ((((belowD l ((belowD l (curN l) (4 : Int)).2) (45 : Int)).2).i : Nat) : Int), vI (((belowD l ((belowD l (curN l) (4 : Int)).2) (45 : Int)).2).h)])] (vI ((belowD l ((belowD l ((belowD l (curN l) (4 : Int)).2) (45 : Int)).2) (5 : Int)).1)) [(0, .box 84 [.p none (.sl 5 1 (l.map byD)), vI (((belowD l ((belowD l ((belowD l (curN l) (4 : Int)).2) (45 : Int)).2) (5 : Int)).2.i : Nat) : Int), vI ((belowD l ((belowD l ((belowD l (curN l) (4 : Int)).2) (45 : Int)).2) (5 : Int)).2.h)])] ∧ (5 : Int) = (5 : Int) ∧ l.map byD = l.map byD ∧ (((belowD l ((belowD l (curN l) (4 : Int)).2) (45 : Int)).2.i : Nat) : Int) = ((((belowD l ((belowD l (curN l) (4 : Int)).2) (45 : Int)).2).i : Nat) : Int) ∧ ((belowD l ((belowD l (curN l) (4 : Int)).2) (45 : Int)).2.h) = (((belowD l ((belowD l (curN l) (4 : Int)).2) (45 : Int)).2).h) ∧ inR ((1 : Int) + ((belowD l ((belowD l ((belowD l (curN l) (4 : Int)).2) (45 : Int)).2) (5 : Int)).1)) ∧ K_mk_spec ((belowD l ((belowD l (curN l) (4 : Int)).2) (45 : Int)).1) ((1 : Int) + ((belowD l ((belowD l ((belowD l (curN l) (4 : Int)).2) (45 : Int)).2) (5 : Int)).1)) ∧ (((toR (makeQ ((belowD l ((belowD l (curN l) (4 : Int)).2) (45 : Int)).1) ((1 : Int) + ((belowD l ((belowD l ((belowD l (curN l) (4 : Int)).2) (45 : Int)).2) (5 : Int)).1)))).1).num) = ((powD l).num) ∧ (((toR (makeQ ((belowD l ((belowD l (curN l) (4 : Int)).2) (45 : Int)).1) ((1 : Int) + ((belowD l ((belowD l ((belowD l (curN l) (4 : Int)).2) (45 : Int)).2) (5 : Int)).1)))).1).den) = ((powD l).den) ∧ True)))) (by kernel_rfl) ?_
 intro n0
 simp only [List.length_map] at n0
 have w1 := below_bnd l (belowD l (curN l) 4).2 (n := 45) (by omega)
 have w2 := below_bnd l (belowD l (belowD l (curN l) 4).2 45).2 (n := 5) (by omega)
 refine ⟨d_new l (by assumption), rfl, d_once l (curN l) (by assumption) (4 : Int), rfl, rfl, rfl, rfl, fun c0 => ?_, fun c0 => ?_⟩
 ·replace c0 := yq c0
  refine ⟨d_rat l ((belowD l (curN l) (4 : Int)).2) (by assumption), rfl, rfl, rfl, ?_, ?_, trivial⟩ <;> (first | (rw [powD_0 c0] <;> rfl) | (rw [powD_1 c0] <;> rfl))
 ·replace c0 := nq c0
  refine ⟨d_below l ((belowD l (curN l) (4 : Int)).2) (by assumption) (45 : Int), rfl, rfl, rfl, rfl, d_below l ((belowD l ((belowD l (curN l) (4 : Int)).2) (45 : Int)).2) (by assumption) (5 : Int), rfl, rfl, rfl, rfl, ⟨by omega, by omega⟩, mk_spec _ _ (by first | omega | (dsimp only; omega)) (by first | omega | (dsimp only; omega)), ?_, ?_, trivial⟩ <;> (first | (rw [powD_0 c0] <;> rfl) | (rw [powD_1 c0] <;> rfl))

theorem pfGo_spec (den num : Nat) : ∀ (f k : Nat), 4096 - k ≤ f → k ≤ 4096 → ((k : Int)) ^ den ≤ 2 ^ num → k ≤ pfGo den num k ∧ pfGo den num k ≤ 4096 ∧ ((pfGo den num k : Nat) : Int) ^ den ≤ 2 ^ num ∧ (pfGo den num k = 4096 ∨ (2 : Int) ^ num < (((pfGo den num k : Nat) : Int) + 1) ^ den) := by
  intro f
  induction f with
  | zero =>
    intro k h1 h2 h3
    have : k = 4096 := by omega
    rw [pfGo, dif_neg (by omega)]
    exact ⟨Nat.le_refl _, h2, h3, .inl this⟩
  | succ f ih =>
    intro k h1 h2 h3
    rw [pfGo]
    split
    · rename_i h
      have := ih (k + 1) (by omega) (by omega) (by have := h.2; rwa [Int.natCast_add] )
      exact ⟨by omega, this.2⟩
    · rename_i h
      refine ⟨Nat.le_refl _, h2, h3, ?_⟩
      by_cases h4 : k = 4096
      · exact .inl h4
      · refine .inr ?_
        by_cases q : ((k : Int) + 1) ^ den ≤ 2 ^ num
        · exact absurd ⟨by omega, q⟩ h
        · omega
theorem pow_bnd {x : Int} {m : Nat} (h : 0 ≤ x ∧ x ≤ 4097) (hm : m ≤ 4) : 0 ≤ x ^ m ∧ x ^ m ≤ 281749955297281 := by
  have e : m = 0 ∨ m = 1 ∨ m = 2 ∨ m = 3 ∨ m = 4 := by omega
  have a1 : 0 ≤ x * x ∧ x * x ≤ 16785409 := ⟨Int.mul_nonneg h.1 h.1, by have := Int.mul_le_mul h.2 h.2 h.1 (by decide); omega⟩
  have a2 : 0 ≤ x * x * x ∧ x * x * x ≤ 68769820673 := ⟨Int.mul_nonneg a1.1 h.1, by have := Int.mul_le_mul a1.2 h.2 h.1 (by decide); omega⟩
  have a3 : 0 ≤ x * x * x * x ∧ x * x * x * x ≤ 281749955297281 := ⟨Int.mul_nonneg a2.1 h.1, by have := Int.mul_le_mul a2.2 h.2 h.1 (by decide); omega⟩
  rcases e with rfl | rfl | rfl | rfl | rfl
  · simp
  · rw [Int.pow_one]; omega
  · rw [Int.pow_succ, Int.pow_one]; omega
  · rw [Int.pow_succ, Int.pow_succ, Int.pow_one]; omega
  · rw [Int.pow_succ, Int.pow_succ, Int.pow_succ, Int.pow_one]; omega

theorem powFl_spec {r : RationalD} (hv : validR r = true) (h0 : 0 ≤ r.num) (h1 : r.num ≤ 40) : 1 ≤ powFl r ∧ powFl r ≤ 4096 ∧ powFl r ^ r.den.toNat ≤ 2 ^ r.num.toNat ∧ (powFl r = 4096 ∨ (2 : Int) ^ r.num.toNat < (powFl r + 1) ^ r.den.toNat) := by
  have hp := pow_pos1 (k := 2) (by omega) r.num.toNat
  have h := pfGo_spec r.den.toNat r.num.toNat 4096 1 (by omega) (by omega) (by rw [show ((1 : Nat) : Int) = 1 from rfl, Int.one_pow]; omega)
  rw [powFl, if_pos ⟨hv, h0⟩, if_neg (by omega)]
  exact ⟨by omega, by omega, h.2.2.1, by rcases h.2.2.2 with q | q; exact .inl (by omega); exact .inr q⟩
theorem pow_step {n : Int} {k m : Nat} (h : 1 ≤ n ∧ n ≤ 4097) (hk : k < m) (hm : m ≤ 4) : inR (n ^ k * n) := by
  have := pow_bnd (x := n) (m := k + 1) ⟨by omega, by omega⟩ (by omega)
  rw [Int.pow_succ] at this
  exact ⟨by omega, by omega⟩
theorem shl_40 {n : Int} (h0 : 0 ≤ n) (h : n ≤ 40) : inR (1 * 2 ^ n.toNat) := by
  have h1 := pow40 (n := n.toNat) (by omega)
  have h2 := pow_pos1 (k := 2) (by omega) n.toNat
  exact ⟨by omega, by omega⟩

theorem lawFnPowerFloor (a0 : List Int) (h0 : FByteS a0) : Con Try.prog 4 [.one (.sl 5 1 (a0.map byD))] (vB true) [] := by
 refine con_y tbOk mixedW Try.func4 (by kernel_rfl) (.call (vB (decide ((1048576 : Int) < (a0.length : Int)))) [] <| .br (.fin []) (.call (.agg [vI ((powD a0).num), vI ((powD a0).den)]) [] <| .call (vI (powFl (powD a0))) [] <| .call (vI (powFl (powD a0))) [] <| .no <| .call (vB (validR (powD a0))) [] <| .br (.fin []) (.lit <| .lit <| .lit <| .br (.fin []) (.lit <| .lit <| .lit <| .br (.fin []) (.lit <| .lit <| .lit <| .br (.fin []) (.loop (Nat × Int × Int) (Q3 Nat Int Int) [5, 6, 7, 36, 37, 38, 39, 40, 41, 42, 43, 44, 45, 46, 47, 48] [] (fun yy0 => [(7, vI (yy0.1 : Int)), (5, vI yy0.2.1), (6, vI yy0.2.2)]) (fun yy0 => []) (fun yy0 => (yy0.1 : Int) ≤ (powD a0).den ∧ yy0.2.1 = powFl (powD a0) ^ yy0.1 ∧ yy0.2.2 = (powFl (powD a0) + 1) ^ yy0.1) (fun yy0 => ((powD a0).den - yy0.1).toNat) (fun yy0 => .br (.back []) (.br (.lit <| .lit <| .br (.fin []) (.fin [])) (.fin []))))))))) (p := (a0.map byD).length ≤ 9223372036854775807 → K_big_law a0 ∧ (((decide ((1048576 : Int) < (a0.length : Int))) = true → (true) = true ∧ True) ∧ ((decide ((1048576 : Int) < (a0.length : Int))) = false → K_d_pow a0 ∧ (K_pf_impl (powD a0) ∧ (K_pf_spec (powD a0) ∧ ((!(decide ((powFl (powD a0)) = (powFl (powD a0))))) = false ∧ (K_val_spec (powD a0) ∧ (((!(validR (powD a0))) = true → (true) = true ∧ True) ∧ ((!(validR (powD a0))) = false → ((decide (((powD a0).num) < (0 : Int))) = true → (true) = true ∧ True) ∧ ((decide (((powD a0).num) < (0 : Int))) = false → ((decide ((40 : Int) < ((powD a0).num))) = true → (true) = true ∧ True) ∧ ((decide ((40 : Int) < ((powD a0).num))) = false → ((decide ((4 : Int) < ((powD a0).den))) = true → (true) = true ∧ True) ∧ ((decide ((4 : Int) < ((powD a0).den))) = false → (∃ (k : Nat) (x : Int) (y : Int), (0 : Int) = (k : Int) ∧ (1 : Int) = x ∧ (1 : Int) = y ∧ (k : Int) ≤ (powD a0).den ∧ x = powFl (powD a0) ^ k ∧ y = (powFl (powD a0) + 1) ^ k) ∧ ∀ (k : Nat) (x : Int) (y : Int), ((k : Int) ≤ (powD a0).den ∧ x = powFl (powD a0) ^ k ∧ y = (powFl (powD a0) + 1) ^ k) → ((decide ((k : Int) < ((powD a0).den))) = true → inR (x * (powFl (powD a0))) ∧ inR ((powFl (powD a0)) + (1 : Int)) ∧ inR (y * ((powFl (powD a0)) + (1 : Int))) ∧ inR ((k : Int) + (1 : Int)) ∧ ∃ (k' : Nat) (x' : Int) (y' : Int), ((k : Int) + (1 : Int)) = (k' : Int) ∧ (x * (powFl (powD a0))) = x' ∧ (y * ((powFl (powD a0)) + (1 : Int))) = y' ∧ ((k' : Int) ≤ (powD a0).den ∧ x' = powFl (powD a0) ^ k' ∧ y' = (powFl (powD a0) + 1) ^ k') ∧ ((powD a0).den - k').toNat < ((powD a0).den - k).toNat) ∧ ((decide ((k : Int) < ((powD a0).den))) = false → (0 ≤ ((powD a0).num) ∧ ((powD a0).num) ≤ 64) ∧ (inR ((1 : Int) * 2 ^ (Int.toNat ((powD a0).num))) ∧ (((decide (x ≤ ((1 : Int) * 2 ^ (Int.toNat ((powD a0).num))))) = true → ((decide ((powFl (powD a0)) = (4096 : Int))) = true → (true) = true ∧ True) ∧ ((decide ((powFl (powD a0)) = (4096 : Int))) = false → (0 ≤ ((powD a0).num) ∧ ((powD a0).num) ≤ 64) ∧ inR ((1 : Int) * 2 ^ (Int.toNat ((powD a0).num))) ∧ (decide (((1 : Int) * 2 ^ (Int.toNat ((powD a0).num))) < y)) = true ∧ True)) ∧ ((decide (x ≤ ((1 : Int) * 2 ^ (Int.toNat ((powD a0).num))))) = false → (false) = true ∧ True)))))))))))))))) (by kernel_rfl) ?_
 intro n0
 simp only [List.length_map] at n0
 refine ⟨big_law a0, fun c0 => ?_, fun c0 => ?_⟩
 ·replace c0 := yq c0
  refine ⟨?_, trivial⟩
  ·first | rfl | (exact absurd e3 g54) | (rcases e4 with q | q; exact absurd q g57; simpa using q) | (simp [*]; done)
 ·replace c0 := nq c0
  have hl : a0.length ≤ 1048576 := by omega
  refine ⟨d_pow a0 (by assumption), pf_impl (powD a0), pf_spec (powD a0), by simp, val_spec (powD a0), fun g21 => ?_, fun g21 => ?_⟩
  ·replace g21 := nt g21
   refine ⟨?_, trivial⟩
   ·first | rfl | (exact absurd e3 g54) | (rcases e4 with q | q; exact absurd q g57; simpa using q) | (simp [*]; done)
  ·replace g21 := nf g21
   refine ⟨fun g26 => ?_, fun g26 => ?_⟩
   ·replace g26 := yq g26
    refine ⟨?_, trivial⟩
    ·first | rfl | (exact absurd e3 g54) | (rcases e4 with q | q; exact absurd q g57; simpa using q) | (simp [*]; done)
   ·replace g26 := nq g26
    refine ⟨fun g31 => ?_, fun g31 => ?_⟩
    ·replace g31 := yq g31
     refine ⟨?_, trivial⟩
     ·first | rfl | (exact absurd e3 g54) | (rcases e4 with q | q; exact absurd q g57; simpa using q) | (simp [*]; done)
    ·replace g31 := nq g31
     refine ⟨fun c2 => ?_, fun c2 => ?_⟩
     ·replace c2 := yq c2
      refine ⟨?_, trivial⟩
      ·first | rfl | (exact absurd e3 g54) | (rcases e4 with q | q; exact absurd q g57; simpa using q) | (simp [*]; done)
     ·replace c2 := nq c2
      have hv : validR (powD a0) = true := by simpa using g21
      have hb := validR_bnd hv
      obtain ⟨s1, s2, s3, s4⟩ := powFl_spec hv (by omega) (by omega)
      refine ⟨⟨0, 1, 1, rfl, rfl, rfl, by omega, by simp, by simp⟩, fun k x y ⟨hk, hx, hy⟩ => ?_⟩
      refine ⟨fun c3 => ?_, fun c3 => ?_⟩
      ·replace c3 := yq c3
       refine ⟨by first | (rw [hx]; exact pow_step ⟨by omega, by omega⟩ (m := (powD a0).den.toNat) (by omega) (by omega)) | (rw [hy]; exact pow_step ⟨by omega, by omega⟩ (m := (powD a0).den.toNat) (by omega) (by omega)) | exact shl_40 (by omega) (by omega) | exact ⟨by omega, by omega⟩, by first | (rw [hx]; exact pow_step ⟨by omega, by omega⟩ (m := (powD a0).den.toNat) (by omega) (by omega)) | (rw [hy]; exact pow_step ⟨by omega, by omega⟩ (m := (powD a0).den.toNat) (by omega) (by omega)) | exact shl_40 (by omega) (by omega) | exact ⟨by omega, by omega⟩, by first | (rw [hx]; exact pow_step ⟨by omega, by omega⟩ (m := (powD a0).den.toNat) (by omega) (by omega)) | (rw [hy]; exact pow_step ⟨by omega, by omega⟩ (m := (powD a0).den.toNat) (by omega) (by omega)) | exact shl_40 (by omega) (by omega) | exact ⟨by omega, by omega⟩, by first | (rw [hx]; exact pow_step ⟨by omega, by omega⟩ (m := (powD a0).den.toNat) (by omega) (by omega)) | (rw [hy]; exact pow_step ⟨by omega, by omega⟩ (m := (powD a0).den.toNat) (by omega) (by omega)) | exact shl_40 (by omega) (by omega) | exact ⟨by omega, by omega⟩, ?_⟩
       exact ⟨k + 1, x * (powFl (powD a0)), y * ((powFl (powD a0)) + (1 : Int)), rfl, rfl, rfl, ⟨by omega, by rw [hx, Int.pow_succ], by rw [hy, Int.pow_succ]⟩, by omega⟩
      ·replace c3 := nq c3
       have ek : (powD a0).den.toNat = k := by omega
       have e3 : x ≤ 1 * 2 ^ (powD a0).num.toNat := by rw [hx, Int.one_mul, ← ek]; exact s3
       have e4 : powFl (powD a0) = 4096 ∨ 1 * 2 ^ (powD a0).num.toNat < y := by rw [hy, Int.one_mul, ← ek]; exact s4
       refine ⟨⟨by omega, by omega⟩, by first | (rw [hx]; exact pow_step ⟨by omega, by omega⟩ (m := (powD a0).den.toNat) (by omega) (by omega)) | (rw [hy]; exact pow_step ⟨by omega, by omega⟩ (m := (powD a0).den.toNat) (by omega) (by omega)) | exact shl_40 (by omega) (by omega) | exact ⟨by omega, by omega⟩, fun g54 => ?_, fun g54 => ?_⟩
       ·replace g54 := yq g54
        refine ⟨fun g57 => ?_, fun g57 => ?_⟩
        ·replace g57 := yq g57
         refine ⟨?_, trivial⟩
         ·first | rfl | (exact absurd e3 g54) | (rcases e4 with q | q; exact absurd q g57; simpa using q) | (simp [*]; done)
        ·replace g57 := nq g57
         refine ⟨⟨by omega, by omega⟩, by first | (rw [hx]; exact pow_step ⟨by omega, by omega⟩ (m := (powD a0).den.toNat) (by omega) (by omega)) | (rw [hy]; exact pow_step ⟨by omega, by omega⟩ (m := (powD a0).den.toNat) (by omega) (by omega)) | exact shl_40 (by omega) (by omega) | exact ⟨by omega, by omega⟩, ?_, trivial⟩
         ·first | rfl | (exact absurd e3 g54) | (rcases e4 with q | q; exact absurd q g57; simpa using q) | (simp [*]; done)
       ·replace g54 := nq g54
        refine ⟨?_, trivial⟩
        ·first | rfl | (exact absurd e3 g54) | (rcases e4 with q | q; exact absurd q g57; simpa using q) | (simp [*]; done)
end Go.Proofs.Ytepphdhnkaiamaa
