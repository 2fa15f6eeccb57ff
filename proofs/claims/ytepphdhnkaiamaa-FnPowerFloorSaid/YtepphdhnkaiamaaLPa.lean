/-
  The power floor, both sides.
-/
import Derived.Test.YtepphdhnkaiamaaLQc
namespace Go.Proofs.Ytepphdhnkaiamaa
open Go.ChangeShapes Go.WideShapes Go.ChangeAt Go.RowKit
set_option linter.unusedVariables false
set_option linter.unusedSimpArgs false
set_option maxRecDepth 100000
set_option maxHeartbeats 4000000
def atMost (k den num : Int) : Bool := decide (k ^ den.toNat ≤ 2 ^ num.toNat)
def pfGo (den num k : Nat) : Nat := if h : k < 4096 ∧ ((k : Int) + 1) ^ den ≤ 2 ^ num then pfGo den num (k + 1) else k
  termination_by 4096 - k
def powFl (r : RationalD) : Int := if validR r = true ∧ 0 ≤ r.num then (if 40 < r.num then (if 12 < ceilR r then 4096 else 2 ^ (ceilR r).toNat) else (pfGo r.den.toNat r.num.toNat 1 : Nat)) else -1
theorem pfGo_yes {den num k : Nat} (h : k < 4096) (h2 : ((k : Int) + 1) ^ den ≤ 2 ^ num) : pfGo den num k = pfGo den num (k + 1) := by rw [pfGo, dif_pos ⟨h, h2⟩]
theorem pfGo_no {den num k : Nat} (h : ¬ (k < 4096 ∧ ((k : Int) + 1) ^ den ≤ 2 ^ num)) : pfGo den num k = k := by rw [pfGo, dif_neg h]
theorem mul_40 {x k : Int} (h0 : 1 ≤ x) (hx : x ≤ 1099511627776) (h1 : 1 ≤ k) (hk : k ≤ 4096) : 1 ≤ x * k ∧ x * k ≤ 4503599627370496 := by
  have h2 : 1 * 1 ≤ x * k := Int.mul_le_mul h0 h1 (by omega) (by omega)
  have h3 : x * k ≤ 1099511627776 * 4096 := Int.mul_le_mul hx hk (by omega) (by omega)
  omega
theorem atMost_no {k den num x : Int} {i : Nat} (hk : 1 ≤ k) (hx : x = k ^ i) (h : 2 ^ num.toNat < x * k) (hi : (i : Int) < den) : atMost k den num = false := by
  have h1 := pow_mono1 hk (show i + 1 ≤ den.toNat by omega)
  rw [Int.pow_succ, ← hx] at h1
  simp only [atMost, decide_eq_false_iff_not]
  omega
theorem atMost_yes {k den num x : Int} {i : Nat} (hx : x = k ^ i) (h : x ≤ 2 ^ num.toNat) (hi : (i : Int) = den ∨ (i = 0 ∧ den ≤ 0)) : atMost k den num = true := by
  simp only [atMost, decide_eq_true_eq]
  rw [show den.toNat = i by omega, ← hx]; exact h

abbrev K_atm_impl (k : Int) (den : Int) (num : Int) : Prop := Con Try.prog 64 [.one (.int .i64 k), .one (.int .i64 den), .one (.int .i64 num)] (vB (atMost k den num)) []
theorem atm_impl (k den num : Int) (hk : 1 ≤ k ∧ k ≤ 4096) (hd : 1 ≤ den ∧ den ≤ 2147483647) (hn : 0 ≤ num ∧ num ≤ 40) : K_atm_impl k den num := by
 refine con_y tbOk mixedW Try.func64 (by kernel_rfl) (.loop (Nat × Int) (Q2 Nat Int) [1, 7, 8, 9, 10, 11, 12, 13, 14, 15, 16, 17, 18] [] (fun yy0 => [(7, vI yy0.2), (1, vI (den - ((yy0.1 : Nat) : Int)))]) (fun yy0 => []) (fun yy0 => (yy0.1 : Int) ≤ den ∧ yy0.2 = k ^ yy0.1 ∧ yy0.2 ≤ 2 ^ num.toNat ∧ 1 ≤ yy0.2) (fun yy0 => (den - yy0.1).toNat) (fun yy0 => .br (.br (.fin []) (.back [])) (.fin []))) (p := (∃ (i : Nat) (x : Int), (1 : Int) = x ∧ den = (den - ((i : Nat) : Int)) ∧ (i : Int) ≤ den ∧ x = k ^ i ∧ x ≤ 2 ^ num.toNat ∧ 1 ≤ x) ∧ ∀ (i : Nat) (x : Int), ((i : Int) ≤ den ∧ x = k ^ i ∧ x ≤ 2 ^ num.toNat ∧ 1 ≤ x) → ((decide ((0 : Int) < (den - ((i : Nat) : Int)))) = true → inR (x * k) ∧ ((0 ≤ num ∧ num ≤ 64) ∧ (inR ((1 : Int) * 2 ^ (Int.toNat num)) ∧ (((decide (((1 : Int) * 2 ^ (Int.toNat num)) < (x * k))) = true → (false) = (atMost k den num) ∧ True) ∧ ((decide (((1 : Int) * 2 ^ (Int.toNat num)) < (x * k))) = false → inR ((den - ((i : Nat) : Int)) - (1 : Int)) ∧ ∃ (i' : Nat) (x' : Int), (x * k) = x' ∧ ((den - ((i : Nat) : Int)) - (1 : Int)) = (den - ((i' : Nat) : Int)) ∧ ((i' : Int) ≤ den ∧ x' = k ^ i' ∧ x' ≤ 2 ^ num.toNat ∧ 1 ≤ x') ∧ (den - i').toNat < (den - i).toNat))))) ∧ ((decide ((0 : Int) < (den - ((i : Nat) : Int)))) = false → (true) = (atMost k den num) ∧ True)) (by kernel_rfl) ?_
 have p40 := pow40 (n := num.toNat) (by omega)
 have p1 := pow_pos1 (k := 2) (by omega) num.toNat
 refine ⟨⟨0, 1, by first | rfl | omega, by first | rfl | omega, by omega, by simp, by omega, by omega⟩, fun i x ⟨hi, hx, hl, h1⟩ => ?_⟩
 refine ⟨fun c0 => ?_, fun c0 => ?_⟩
 ·replace c0 := yq c0
  have mm := mul_40 h1 (by omega) hk.1 hk.2
  refine ⟨⟨by omega, by omega⟩, ⟨by omega, by omega⟩, ⟨by omega, by omega⟩, fun c1 => ?_, fun c1 => ?_⟩
  ·replace c1 := yq c1
   refine ⟨?_, trivial⟩
   ·first | (rw [atMost_no hk.1 hx (by omega) (by omega)]; done) | (rw [atMost_yes hx hl (by omega)]; done)
  ·replace c1 := nq c1
   refine ⟨⟨by omega, by omega⟩, ?_⟩
   exact ⟨i + 1, x * k, by first | rfl | omega, by first | rfl | omega, ⟨by omega, by rw [hx, Int.pow_succ], by omega, mm.1⟩, by omega⟩
 ·replace c0 := nq c0
  refine ⟨?_, trivial⟩
  ·first | (rw [atMost_no hk.1 hx (by omega) (by omega)]; done) | (rw [atMost_yes hx hl (by omega)]; done)

abbrev K_atm_spec (k : Int) (den : Int) (num : Int) : Prop := Con Try.prog 67 [.one (.int .i64 k), .one (.int .i64 den), .one (.int .i64 num)] (vB (atMost k den num)) []
theorem atm_spec (k den num : Int) (hk : 1 ≤ k ∧ k ≤ 4096) (hd : 1 ≤ den ∧ den ≤ 2147483647) (hn : 0 ≤ num ∧ num ≤ 40) : K_atm_spec k den num := by
 refine con_y tbOk mixedW Try.func67 (by kernel_rfl) (.loop (Nat × Int) (Q2 Nat Int) [7, 8, 9, 10, 11, 12, 13, 14, 15, 16, 17, 18, 19, 20] [] (fun yy0 => [(7, vI yy0.2), (8, vI (yy0.1 : Int))]) (fun yy0 => []) (fun yy0 => (yy0.1 : Int) ≤ den ∧ yy0.2 = k ^ yy0.1 ∧ yy0.2 ≤ 2 ^ num.toNat ∧ 1 ≤ yy0.2) (fun yy0 => (den - yy0.1).toNat) (fun yy0 => .br (.br (.fin []) (.back [])) (.fin []))) (p := (∃ (i : Nat) (x : Int), (1 : Int) = x ∧ (0 : Int) = (i : Int) ∧ (i : Int) ≤ den ∧ x = k ^ i ∧ x ≤ 2 ^ num.toNat ∧ 1 ≤ x) ∧ ∀ (i : Nat) (x : Int), ((i : Int) ≤ den ∧ x = k ^ i ∧ x ≤ 2 ^ num.toNat ∧ 1 ≤ x) → ((decide ((i : Int) < den)) = true → inR (x * k) ∧ ((0 ≤ num ∧ num ≤ 64) ∧ (inR ((1 : Int) * 2 ^ (Int.toNat num)) ∧ (((decide (((1 : Int) * 2 ^ (Int.toNat num)) < (x * k))) = true → (false) = (atMost k den num) ∧ True) ∧ ((decide (((1 : Int) * 2 ^ (Int.toNat num)) < (x * k))) = false → inR ((i : Int) + (1 : Int)) ∧ ∃ (i' : Nat) (x' : Int), (x * k) = x' ∧ ((i : Int) + (1 : Int)) = (i' : Int) ∧ ((i' : Int) ≤ den ∧ x' = k ^ i' ∧ x' ≤ 2 ^ num.toNat ∧ 1 ≤ x') ∧ (den - i').toNat < (den - i).toNat))))) ∧ ((decide ((i : Int) < den)) = false → (true) = (atMost k den num) ∧ True)) (by kernel_rfl) ?_
 have p40 := pow40 (n := num.toNat) (by omega)
 have p1 := pow_pos1 (k := 2) (by omega) num.toNat
 refine ⟨⟨0, 1, by first | rfl | omega, by first | rfl | omega, by omega, by simp, by omega, by omega⟩, fun i x ⟨hi, hx, hl, h1⟩ => ?_⟩
 refine ⟨fun c0 => ?_, fun c0 => ?_⟩
 ·replace c0 := yq c0
  have mm := mul_40 h1 (by omega) hk.1 hk.2
  refine ⟨⟨by omega, by omega⟩, ⟨by omega, by omega⟩, ⟨by omega, by omega⟩, fun c1 => ?_, fun c1 => ?_⟩
  ·replace c1 := yq c1
   refine ⟨?_, trivial⟩
   ·first | (rw [atMost_no hk.1 hx (by omega) (by omega)]; done) | (rw [atMost_yes hx hl (by omega)]; done)
  ·replace c1 := nq c1
   refine ⟨⟨by omega, by omega⟩, ?_⟩
   exact ⟨i + 1, x * k, by first | rfl | omega, by first | rfl | omega, ⟨by omega, by rw [hx, Int.pow_succ], by omega, mm.1⟩, by omega⟩
 ·replace c0 := nq c0
  refine ⟨?_, trivial⟩
  ·first | (rw [atMost_no hk.1 hx (by omega) (by omega)]; done) | (rw [atMost_yes hx hl (by omega)]; done)

theorem two_le {b : Int} (h0 : 0 ≤ b) (h : b ≤ 12) : inR (1 * 2 ^ b.toNat) := by
  have h1 := pow12 (n := b.toNat) (by omega)
  have h2 := pow_pos1 (k := 2) (by omega) b.toNat
  exact ⟨by omega, by omega⟩
def two12 (b : Int) : Int := if 12 < b then 4096 else 2 ^ b.toNat
theorem ceil_pos {r : RationalD} (h : validR r = true) (hn : 40 < r.num) : 0 ≤ ceilR r := by
  have q := validR_bnd h
  have h0 : 0 ≤ r.num.tdiv r.den := Int.tdiv_nonneg (by omega) (by omega)
  rw [ceilR, ceilQ, if_pos (show validQ r.num r.den = true from h)]
  split <;> omega
theorem pf_one {den num : Nat} (h : num < den) : pfGo den num 1 = 1 := by
  refine pfGo_no fun ⟨_, q⟩ => ?_
  have h1 : ((2 : Int)) ^ (num + 1) ≤ 2 ^ den := pow_mono1 (by omega) (by omega)
  have h2 := pow_pos1 (k := 2) (by omega) num
  rw [Int.pow_succ] at h1
  have h3 : (((1 : Nat) : Int) + 1) = 2 := by decide
  rw [h3] at q
  omega

abbrev K_two_spec (n : Int) : Prop := Con Try.prog 65 [.one (.int .i64 n)] (vI (two12 n)) []
theorem two_spec (n : Int) (hn : 0 ≤ n) : K_two_spec n := by
 refine con_y tbOk mixedW Try.func65 (by kernel_rfl) (.br (.fin []) (.fin [])) (p := ((decide ((12 : Int) < n)) = true → (4096 : Int) = (two12 n) ∧ True) ∧ ((decide ((12 : Int) < n)) = false → (0 ≤ n ∧ n ≤ 64) ∧ inR ((1 : Int) * 2 ^ (Int.toNat n)) ∧ ((1 : Int) * 2 ^ (Int.toNat n)) = (two12 n) ∧ True)) (by kernel_rfl) ?_
 refine ⟨fun c0 => ?_, fun c0 => ?_⟩
 ·replace c0 := yq c0
  refine ⟨?_, trivial⟩
  ·first | (rw [two12, if_pos c0]; done) | (rw [two12, if_neg c0, Int.one_mul]; done)
 ·replace c0 := nq c0
  refine ⟨⟨by omega, by omega⟩, two_le hn (by omega), ?_, trivial⟩
  ·first | (rw [two12, if_pos c0]; done) | (rw [two12, if_neg c0, Int.one_mul]; done)

abbrev K_pf_impl (r : RationalD) : Prop := Con Try.prog 24 [.agg [.int .i64 r.num, .int .i64 r.den]] (vI (powFl r)) []
theorem pf_impl (r : RationalD) : K_pf_impl r := by
 refine con_y tbOk mixedW Try.func24 (by kernel_rfl) (.call (vB (validR r)) [] <| .br (.fin []) (.lit <| .lit <| .lit <| .br (.fin []) (.br (.call (vI (ceilR r)) [] <| .br (.fin []) (.call (vI (ceilR r)) [] <| .fin [])) (.br (.fin []) (.loop Nat (Q1 Nat) [3, 26, 27, 28, 29, 30, 31, 32, 33, 34, 35, 36, 37, 38] [] (fun k => [(3, vI (k : Int))]) (fun k => []) (fun k => (1 ≤ k ∧ k ≤ 4096) ∧ pfGo r.den.toNat r.num.toNat k = pfGo r.den.toNat r.num.toNat 1) (fun k => 4096 - k) (fun k => .br (.call (vB (atMost ((k : Int) + (1 : Int)) r.den r.num)) [] <| .lit <| .br (.back []) (.fin [])) (.fin []))))))) (p := K_val_impl r ∧ (((!(validR r)) = true → (-1 : Int) = (powFl r) ∧ True) ∧ ((!(validR r)) = false → ((decide (r.num < (0 : Int))) = true → (-1 : Int) = (powFl r) ∧ True) ∧ ((decide (r.num < (0 : Int))) = false → ((decide ((40 : Int) < r.num)) = true → K_ceil_impl r ∧ (((decide ((12 : Int) ≤ (ceilR r))) = true → (4096 : Int) = (powFl r) ∧ True) ∧ ((decide ((12 : Int) ≤ (ceilR r))) = false → K_ceil_impl r ∧ (0 ≤ (ceilR r) ∧ (ceilR r) ≤ 64) ∧ inR ((1 : Int) * 2 ^ (Int.toNat (ceilR r))) ∧ ((1 : Int) * 2 ^ (Int.toNat (ceilR r))) = (powFl r) ∧ True))) ∧ ((decide ((40 : Int) < r.num)) = false → ((decide (r.num < r.den)) = true → (1 : Int) = (powFl r) ∧ True) ∧ ((decide (r.num < r.den)) = false → (∃ (k : Nat), (1 : Int) = (k : Int) ∧ (1 ≤ k ∧ k ≤ 4096) ∧ pfGo r.den.toNat r.num.toNat k = pfGo r.den.toNat r.num.toNat 1) ∧ ∀ (k : Nat), ((1 ≤ k ∧ k ≤ 4096) ∧ pfGo r.den.toNat r.num.toNat k = pfGo r.den.toNat r.num.toNat 1) → ((decide ((k : Int) < (4096 : Int))) = true → inR ((k : Int) + (1 : Int)) ∧ (K_atm_impl ((k : Int) + (1 : Int)) r.den r.num ∧ (((atMost ((k : Int) + (1 : Int)) r.den r.num) = true → inR ((k : Int) + (1 : Int)) ∧ ∃ (k' : Nat), ((k : Int) + (1 : Int)) = (k' : Int) ∧ ((1 ≤ k' ∧ k' ≤ 4096) ∧ pfGo r.den.toNat r.num.toNat k' = pfGo r.den.toNat r.num.toNat 1) ∧ 4096 - k' < 4096 - k) ∧ ((atMost ((k : Int) + (1 : Int)) r.den r.num) = false → (k : Int) = (powFl r) ∧ True)))) ∧ ((decide ((k : Int) < (4096 : Int))) = false → (k : Int) = (powFl r) ∧ True))))))) (by kernel_rfl) ?_
 refine ⟨val_impl r, fun g7 => ?_, fun g7 => ?_⟩
 ·replace g7 := nt g7
  refine ⟨?_, trivial⟩
  ·first | (rw [powFl, if_neg (by rintro ⟨q1, q2⟩; first | omega | (rw [g7] at q1; exact absurd q1 (by decide)))]; done) | (rw [powFl, if_pos ⟨g7, by omega⟩, if_pos c1]; first | rfl | (rw [if_neg (by omega), Int.one_mul]; done) | (split; rfl; rw [show ceilR r = 12 by omega]; rfl)) | (rw [powFl, if_pos ⟨g7, by omega⟩, if_neg c1, pf_one (by omega)]; rfl) | (rw [powFl, if_pos ⟨g7, by omega⟩, if_neg c1, ← hv, pfGo_no (by rintro ⟨q1, q2⟩; first | omega | (simp [atMost] at c4; omega))]; done)
 ·replace g7 := nf g7
  refine ⟨fun c0 => ?_, fun c0 => ?_⟩
  ·replace c0 := yq c0
   refine ⟨?_, trivial⟩
   ·first | (rw [powFl, if_neg (by rintro ⟨q1, q2⟩; first | omega | (rw [g7] at q1; exact absurd q1 (by decide)))]; done) | (rw [powFl, if_pos ⟨g7, by omega⟩, if_pos c1]; first | rfl | (rw [if_neg (by omega), Int.one_mul]; done) | (split; rfl; rw [show ceilR r = 12 by omega]; rfl)) | (rw [powFl, if_pos ⟨g7, by omega⟩, if_neg c1, pf_one (by omega)]; rfl) | (rw [powFl, if_pos ⟨g7, by omega⟩, if_neg c1, ← hv, pfGo_no (by rintro ⟨q1, q2⟩; first | omega | (simp [atMost] at c4; omega))]; done)
  ·replace c0 := nq c0
   have q1 := validR_bnd g7
   refine ⟨fun c1 => ?_, fun c1 => ?_⟩
   ·replace c1 := yq c1
    have cp := ceil_pos g7 c1
    refine ⟨ceil_impl r, fun c2 => ?_, fun c2 => ?_⟩
    ·replace c2 := yq c2
     refine ⟨?_, trivial⟩
     ·first | (rw [powFl, if_neg (by rintro ⟨q1, q2⟩; first | omega | (rw [g7] at q1; exact absurd q1 (by decide)))]; done) | (rw [powFl, if_pos ⟨g7, by omega⟩, if_pos c1]; first | rfl | (rw [if_neg (by omega), Int.one_mul]; done) | (split; rfl; rw [show ceilR r = 12 by omega]; rfl)) | (rw [powFl, if_pos ⟨g7, by omega⟩, if_neg c1, pf_one (by omega)]; rfl) | (rw [powFl, if_pos ⟨g7, by omega⟩, if_neg c1, ← hv, pfGo_no (by rintro ⟨q1, q2⟩; first | omega | (simp [atMost] at c4; omega))]; done)
    ·replace c2 := nq c2
     refine ⟨ceil_impl r, ⟨by omega, by omega⟩, by first | exact two_le cp (by omega) | exact ⟨by omega, by omega⟩, ?_, trivial⟩
     ·first | (rw [powFl, if_neg (by rintro ⟨q1, q2⟩; first | omega | (rw [g7] at q1; exact absurd q1 (by decide)))]; done) | (rw [powFl, if_pos ⟨g7, by omega⟩, if_pos c1]; first | rfl | (rw [if_neg (by omega), Int.one_mul]; done) | (split; rfl; rw [show ceilR r = 12 by omega]; rfl)) | (rw [powFl, if_pos ⟨g7, by omega⟩, if_neg c1, pf_one (by omega)]; rfl) | (rw [powFl, if_pos ⟨g7, by omega⟩, if_neg c1, ← hv, pfGo_no (by rintro ⟨q1, q2⟩; first | omega | (simp [atMost] at c4; omega))]; done)
   ·replace c1 := nq c1
    refine ⟨fun c3 => ?_, fun c3 => ?_⟩
    ·replace c3 := yq c3
     refine ⟨?_, trivial⟩
     ·first | (rw [powFl, if_neg (by rintro ⟨q1, q2⟩; first | omega | (rw [g7] at q1; exact absurd q1 (by decide)))]; done) | (rw [powFl, if_pos ⟨g7, by omega⟩, if_pos c1]; first | rfl | (rw [if_neg (by omega), Int.one_mul]; done) | (split; rfl; rw [show ceilR r = 12 by omega]; rfl)) | (rw [powFl, if_pos ⟨g7, by omega⟩, if_neg c1, pf_one (by omega)]; rfl) | (rw [powFl, if_pos ⟨g7, by omega⟩, if_neg c1, ← hv, pfGo_no (by rintro ⟨q1, q2⟩; first | omega | (simp [atMost] at c4; omega))]; done)
    ·replace c3 := nq c3
     refine ⟨⟨1, rfl, by omega, rfl⟩, fun k ⟨hk, hv⟩ => ?_⟩
     refine ⟨fun g28 => ?_, fun g28 => ?_⟩
     ·replace g28 := yq g28
      refine ⟨by first | exact two_le cp (by omega) | exact ⟨by omega, by omega⟩, atm_impl _ _ _ (by omega) (by omega) (by omega), fun c4 => ?_, fun c4 => ?_⟩
      ·refine ⟨by first | exact two_le cp (by omega) | exact ⟨by omega, by omega⟩, ?_⟩
       exact ⟨k + 1, rfl, ⟨by omega, by rw [← pfGo_yes (by omega) (by simpa [atMost] using c4)]; exact hv⟩, by omega⟩
      ·refine ⟨?_, trivial⟩
       ·first | (rw [powFl, if_neg (by rintro ⟨q1, q2⟩; first | omega | (rw [g7] at q1; exact absurd q1 (by decide)))]; done) | (rw [powFl, if_pos ⟨g7, by omega⟩, if_pos c1]; first | rfl | (rw [if_neg (by omega), Int.one_mul]; done) | (split; rfl; rw [show ceilR r = 12 by omega]; rfl)) | (rw [powFl, if_pos ⟨g7, by omega⟩, if_neg c1, pf_one (by omega)]; rfl) | (rw [powFl, if_pos ⟨g7, by omega⟩, if_neg c1, ← hv, pfGo_no (by rintro ⟨q1, q2⟩; first | omega | (simp [atMost] at c4; omega))]; done)
     ·replace g28 := nq g28
      refine ⟨?_, trivial⟩
      ·first | (rw [powFl, if_neg (by rintro ⟨q1, q2⟩; first | omega | (rw [g7] at q1; exact absurd q1 (by decide)))]; done) | (rw [powFl, if_pos ⟨g7, by omega⟩, if_pos c1]; first | rfl | (rw [if_neg (by omega), Int.one_mul]; done) | (split; rfl; rw [show ceilR r = 12 by omega]; rfl)) | (rw [powFl, if_pos ⟨g7, by omega⟩, if_neg c1, pf_one (by omega)]; rfl) | (rw [powFl, if_pos ⟨g7, by omega⟩, if_neg c1, ← hv, pfGo_no (by rintro ⟨q1, q2⟩; first | omega | (simp [atMost] at c4; omega))]; done)

abbrev K_pf_spec (r : RationalD) : Prop := Con Try.prog 25 [.agg [.int .i64 r.num, .int .i64 r.den]] (vI (powFl r)) []
theorem pf_spec (r : RationalD) : K_pf_spec r := by
 refine con_y tbOk mixedW Try.func25 (by kernel_rfl) (.call (vB (validR r)) [] <| .br (.fin []) (.lit <| .lit <| .lit <| .br (.fin []) (.br (.call (vI (ceilR r)) [] <| .call (vI (two12 (ceilR r))) [] <| .fin []) (.loop Nat (Q1 Nat) [3, 18, 19, 20, 21, 22, 23, 24, 25, 26, 27, 28, 29, 30] [] (fun k => [(3, vI (k : Int))]) (fun k => []) (fun k => (1 ≤ k ∧ k ≤ 4096) ∧ pfGo r.den.toNat r.num.toNat k = pfGo r.den.toNat r.num.toNat 1) (fun k => 4096 - k) (fun k => .br (.call (vB (atMost ((k : Int) + (1 : Int)) r.den r.num)) [] <| .lit <| .br (.back []) (.fin [])) (.fin [])))))) (p := K_val_spec r ∧ (((!(validR r)) = true → (-1 : Int) = (powFl r) ∧ True) ∧ ((!(validR r)) = false → ((decide (r.num < (0 : Int))) = true → (-1 : Int) = (powFl r) ∧ True) ∧ ((decide (r.num < (0 : Int))) = false → ((decide ((40 : Int) < r.num)) = true → K_ceil_spec r ∧ K_two_spec (ceilR r) ∧ (two12 (ceilR r)) = (powFl r) ∧ True) ∧ ((decide ((40 : Int) < r.num)) = false → (∃ (k : Nat), (1 : Int) = (k : Int) ∧ (1 ≤ k ∧ k ≤ 4096) ∧ pfGo r.den.toNat r.num.toNat k = pfGo r.den.toNat r.num.toNat 1) ∧ ∀ (k : Nat), ((1 ≤ k ∧ k ≤ 4096) ∧ pfGo r.den.toNat r.num.toNat k = pfGo r.den.toNat r.num.toNat 1) → ((decide ((k : Int) < (4096 : Int))) = true → inR ((k : Int) + (1 : Int)) ∧ (K_atm_spec ((k : Int) + (1 : Int)) r.den r.num ∧ (((atMost ((k : Int) + (1 : Int)) r.den r.num) = true → inR ((k : Int) + (1 : Int)) ∧ ∃ (k' : Nat), ((k : Int) + (1 : Int)) = (k' : Int) ∧ ((1 ≤ k' ∧ k' ≤ 4096) ∧ pfGo r.den.toNat r.num.toNat k' = pfGo r.den.toNat r.num.toNat 1) ∧ 4096 - k' < 4096 - k) ∧ ((atMost ((k : Int) + (1 : Int)) r.den r.num) = false → (k : Int) = (powFl r) ∧ True)))) ∧ ((decide ((k : Int) < (4096 : Int))) = false → (k : Int) = (powFl r) ∧ True)))))) (by kernel_rfl) ?_
 refine ⟨val_spec r, fun g7 => ?_, fun g7 => ?_⟩
 ·replace g7 := nt g7
  refine ⟨?_, trivial⟩
  ·first | (rw [powFl, if_neg (by rintro ⟨q1, q2⟩; first | omega | (rw [g7] at q1; exact absurd q1 (by decide)))]; done) | (rw [powFl, if_pos ⟨g7, by omega⟩, if_pos c1]; first | rfl | (rw [if_neg (by omega), Int.one_mul]; done) | (split; rfl; rw [show ceilR r = 12 by omega]; rfl)) | (rw [powFl, if_pos ⟨g7, by omega⟩, if_neg c1, pf_one (by omega)]; rfl) | (rw [powFl, if_pos ⟨g7, by omega⟩, if_neg c1, ← hv, pfGo_no (by rintro ⟨q1, q2⟩; first | omega | (simp [atMost] at c2; omega))]; done)
 ·replace g7 := nf g7
  refine ⟨fun c0 => ?_, fun c0 => ?_⟩
  ·replace c0 := yq c0
   refine ⟨?_, trivial⟩
   ·first | (rw [powFl, if_neg (by rintro ⟨q1, q2⟩; first | omega | (rw [g7] at q1; exact absurd q1 (by decide)))]; done) | (rw [powFl, if_pos ⟨g7, by omega⟩, if_pos c1]; first | rfl | (rw [if_neg (by omega), Int.one_mul]; done) | (split; rfl; rw [show ceilR r = 12 by omega]; rfl)) | (rw [powFl, if_pos ⟨g7, by omega⟩, if_neg c1, pf_one (by omega)]; rfl) | (rw [powFl, if_pos ⟨g7, by omega⟩, if_neg c1, ← hv, pfGo_no (by rintro ⟨q1, q2⟩; first | omega | (simp [atMost] at c2; omega))]; done)
  ·replace c0 := nq c0
   have q1 := validR_bnd g7
   refine ⟨fun c1 => ?_, fun c1 => ?_⟩
   ·replace c1 := yq c1
    have cp := ceil_pos g7 c1
    refine ⟨ceil_spec r, two_spec _ (ceil_pos g7 c1), ?_, trivial⟩
    ·first | (rw [powFl, if_neg (by rintro ⟨q1, q2⟩; first | omega | (rw [g7] at q1; exact absurd q1 (by decide)))]; done) | (rw [powFl, if_pos ⟨g7, by omega⟩, if_pos c1]; first | rfl | (rw [if_neg (by omega), Int.one_mul]; done) | (split; rfl; rw [show ceilR r = 12 by omega]; rfl)) | (rw [powFl, if_pos ⟨g7, by omega⟩, if_neg c1, pf_one (by omega)]; rfl) | (rw [powFl, if_pos ⟨g7, by omega⟩, if_neg c1, ← hv, pfGo_no (by rintro ⟨q1, q2⟩; first | omega | (simp [atMost] at c2; omega))]; done)
   ·replace c1 := nq c1
    refine ⟨⟨1, rfl, by omega, rfl⟩, fun k ⟨hk, hv⟩ => ?_⟩
    refine ⟨fun g20 => ?_, fun g20 => ?_⟩
    ·replace g20 := yq g20
     refine ⟨by first | exact two_le cp (by omega) | exact ⟨by omega, by omega⟩, atm_spec _ _ _ (by omega) (by omega) (by omega), fun c2 => ?_, fun c2 => ?_⟩
     ·refine ⟨by first | exact two_le cp (by omega) | exact ⟨by omega, by omega⟩, ?_⟩
      exact ⟨k + 1, rfl, ⟨by omega, by rw [← pfGo_yes (by omega) (by simpa [atMost] using c2)]; exact hv⟩, by omega⟩
     ·refine ⟨?_, trivial⟩
      ·first | (rw [powFl, if_neg (by rintro ⟨q1, q2⟩; first | omega | (rw [g7] at q1; exact absurd q1 (by decide)))]; done) | (rw [powFl, if_pos ⟨g7, by omega⟩, if_pos c1]; first | rfl | (rw [if_neg (by omega), Int.one_mul]; done) | (split; rfl; rw [show ceilR r = 12 by omega]; rfl)) | (rw [powFl, if_pos ⟨g7, by omega⟩, if_neg c1, pf_one (by omega)]; rfl) | (rw [powFl, if_pos ⟨g7, by omega⟩, if_neg c1, ← hv, pfGo_no (by rintro ⟨q1, q2⟩; first | omega | (simp [atMost] at c2; omega))]; done)
    ·replace g20 := nq g20
     refine ⟨?_, trivial⟩
     ·first | (rw [powFl, if_neg (by rintro ⟨q1, q2⟩; first | omega | (rw [g7] at q1; exact absurd q1 (by decide)))]; done) | (rw [powFl, if_pos ⟨g7, by omega⟩, if_pos c1]; first | rfl | (rw [if_neg (by omega), Int.one_mul]; done) | (split; rfl; rw [show ceilR r = 12 by omega]; rfl)) | (rw [powFl, if_pos ⟨g7, by omega⟩, if_neg c1, pf_one (by omega)]; rfl) | (rw [powFl, if_pos ⟨g7, by omega⟩, if_neg c1, ← hv, pfGo_no (by rintro ⟨q1, q2⟩; first | omega | (simp [atMost] at c2; omega))]; done)
end Go.Proofs.Ytepphdhnkaiamaa
