/-
  Rationals: what they are; which are valid.
-/
import Derived.Test.YtepphdhnkaiamaaDa
namespace Go.Proofs.Ytepphdhnkaiamaa
open Go.ChangeShapes Go.WideShapes Go.ChangeAt Go.RowKit
set_option linter.unusedVariables false
set_option linter.unusedSimpArgs false
set_option maxRecDepth 100000
set_option maxHeartbeats 4000000
def validQ (n d : Int) : Bool := inB d 1 2147483647 && inB n (-2147483647) 2147483647 && decide (Int.gcd n d = 1)
theorem validQ_bnd {n d : Int} (h : validQ n d = true) : 1 ≤ d ∧ d ≤ 2147483647 ∧ -2147483647 ≤ n ∧ n ≤ 2147483647 ∧ Int.gcd n d = 1 := by
  simp only [validQ, Bool.and_eq_true, decide_eq_true_eq] at h
  obtain ⟨⟨h1, h2⟩, h3⟩ := h
  have := inB_true h1
  have := inB_true h2
  exact ⟨by omega, by omega, by omega, by omega, h3⟩
/-- A rational is made: numerator, denominator, whether it is valid. -/
def makeQ (n d : Int) : Int × Int × Bool :=
  if d = 0 then (0, 0, false) else
  let n1 := if d < 0 then -n else n
  let d1 := if d < 0 then -d else d
  let g : Int := Int.gcd n1 d1
  if validQ (n1.tdiv g) (d1.tdiv g) = true then (n1.tdiv g, d1.tdiv g, true) else (0, 0, false)
def addQ (a b c d : Int) : Int × Int × Bool := if validQ a b = true ∧ validQ c d = true then makeQ (a * d + c * b) (b * d) else (0, 0, false)
def subQ (a b c d : Int) : Int × Int × Bool := if validQ a b = true ∧ validQ c d = true then makeQ (a * d - c * b) (b * d) else (0, 0, false)
def mulQ (a b c d : Int) : Int × Int × Bool := if validQ a b = true ∧ validQ c d = true then makeQ (a * c) (b * d) else (0, 0, false)
def divQ (a b c d : Int) : Int × Int × Bool := if validQ a b = true ∧ validQ c d = true then makeQ (a * d) (b * c) else (0, 0, false)
def cmpQ (a b c d : Int) : Int := if validQ a b = true ∧ validQ c d = true then (if a * d < c * b then -1 else if c * b < a * d then 1 else 0) else 0
def ceilQ (n d : Int) : Int := if validQ n d = true then (if (n.tdiv d) * d < n then n.tdiv d + 1 else n.tdiv d) else 0

theorem gcd_step (x y : Int) : Int.gcd y (x.tmod y) = Int.gcd x y := by
  rw [Int.gcd_comm x y]
  unfold Int.gcd
  rw [Int.natAbs_tmod, Nat.gcd_comm y.natAbs (x.natAbs % y.natAbs), ← Nat.gcd_rec]
theorem gcd_abs (x : Int) : (Int.gcd x 0 : Int) = (if x < -x then -x else x) := by
  rw [Int.gcd_zero_right]
  split <;> omega
theorem tmod_bnd {x y : Int} (h : y ≠ 0) : (x.tmod y).natAbs < y.natAbs := by
  rw [Int.natAbs_tmod]
  exact Nat.mod_lt _ (by omega)
theorem bnd_of_abs {x : Int} {n : Nat} (h : x.natAbs < n) (hn : n ≤ 9223372036854775807) : -9223372036854775807 ≤ x ∧ x ≤ 9223372036854775807 := by omega

theorem tdiv_bnd (n g : Int) (hn : -9223372036854775807 ≤ n ∧ n ≤ 9223372036854775807) : -9223372036854775807 ≤ n.tdiv g ∧ n.tdiv g ≤ 9223372036854775807 := by
  have h1 : (n.tdiv g).natAbs = n.natAbs / g.natAbs := Int.natAbs_tdiv n g
  have h2 : n.natAbs / g.natAbs ≤ n.natAbs := Nat.div_le_self _ _
  omega
theorem gcd_pos {n d : Int} (h : d ≠ 0) : 1 ≤ (Int.gcd n d : Int) := by
  have : 0 < Int.gcd n d := Int.gcd_pos_of_ne_zero_right n h
  omega
theorem gcd_le {n d : Int} (h : d ≠ 0) : (Int.gcd n d : Int) ≤ d.natAbs := by
  have : Int.gcd n d ≤ d.natAbs := by
    unfold Int.gcd
    exact Nat.gcd_le_right _ (by omega)
  omega
theorem makeQ_zero (n : Int) : makeQ n 0 = (0, 0, false) := by simp [makeQ]
theorem makeQ_pos {n d g : Int} (h : 0 < d) (hg : g = Int.gcd n d) : makeQ n d = if validQ (n.tdiv g) (d.tdiv g) = true then (n.tdiv g, d.tdiv g, true) else (0, 0, false) := by
  subst hg
  unfold makeQ
  rw [if_neg (by omega)]
  simp only [if_neg (show ¬ d < 0 by omega)]
theorem makeQ_neg {n d g : Int} (h : d < 0) (hg : g = Int.gcd (-n) (-d)) : makeQ n d = if validQ ((-n).tdiv g) ((-d).tdiv g) = true then ((-n).tdiv g, (-d).tdiv g, true) else (0, 0, false) := by
  subst hg
  unfold makeQ
  rw [if_neg (by omega)]
  simp only [if_pos h]
theorem mul_M {x y : Int} (hx : -2147483647 ≤ x ∧ x ≤ 2147483647) (hy : -2147483647 ≤ y ∧ y ≤ 2147483647) : -4611686014132420609 ≤ x * y ∧ x * y ≤ 4611686014132420609 := by
  have h1 : (x * y).natAbs = x.natAbs * y.natAbs := Int.natAbs_mul x y
  have h2 : x.natAbs * y.natAbs ≤ 2147483647 * 2147483647 := Nat.mul_le_mul (by omega) (by omega)
  omega
theorem addQ_no {a b c d : Int} (h : validQ a b = false ∨ validQ c d = false) : addQ a b c d = (0, 0, false) := by rcases h with h | h <;> simp [addQ, h]
theorem addQ_yes {a b c d : Int} (h : validQ a b = true) (h' : validQ c d = true) : addQ a b c d = makeQ (a * d + c * b) (b * d) := by simp [addQ, h, h']
theorem subQ_no {a b c d : Int} (h : validQ a b = false ∨ validQ c d = false) : subQ a b c d = (0, 0, false) := by rcases h with h | h <;> simp [subQ, h]
theorem subQ_yes {a b c d : Int} (h : validQ a b = true) (h' : validQ c d = true) : subQ a b c d = makeQ (a * d - c * b) (b * d) := by simp [subQ, h, h']
theorem mulQ_no {a b c d : Int} (h : validQ a b = false ∨ validQ c d = false) : mulQ a b c d = (0, 0, false) := by rcases h with h | h <;> simp [mulQ, h]
theorem mulQ_yes {a b c d : Int} (h : validQ a b = true) (h' : validQ c d = true) : mulQ a b c d = makeQ (a * c) (b * d) := by simp [mulQ, h, h']
theorem divQ_no {a b c d : Int} (h : validQ a b = false ∨ validQ c d = false) : divQ a b c d = (0, 0, false) := by rcases h with h | h <;> simp [divQ, h]
theorem divQ_yes {a b c d : Int} (h : validQ a b = true) (h' : validQ c d = true) : divQ a b c d = makeQ (a * d) (b * c) := by simp [divQ, h, h']
theorem divQ_zero {a b d : Int} : divQ a b 0 d = (0, 0, false) := by unfold divQ; split <;> simp [makeQ]
theorem cmpQ_no {a b c d : Int} (h : validQ a b = false ∨ validQ c d = false) : cmpQ a b c d = 0 := by rcases h with h | h <;> simp [cmpQ, h]
theorem cmpQ_yes {a b c d : Int} (h : validQ a b = true) (h' : validQ c d = true) : cmpQ a b c d = if a * d < c * b then -1 else if c * b < a * d then 1 else 0 := by simp [cmpQ, h, h']
def validR (r : RationalD) : Bool := validQ r.num r.den
def toR (q : Int × Int × Bool) : RationalD × Bool := (⟨q.1, q.2.1⟩, q.2.2)
def addR (a b : RationalD) : RationalD × Bool := toR (addQ a.num a.den b.num b.den)
def subR (a b : RationalD) : RationalD × Bool := toR (subQ a.num a.den b.num b.den)
def mulR (a b : RationalD) : RationalD × Bool := toR (mulQ a.num a.den b.num b.den)
def divR (a b : RationalD) : RationalD × Bool := toR (divQ a.num a.den b.num b.den)
def cmpRat (a b : RationalD) : Int := cmpQ a.num a.den b.num b.den
def ceilR (a : RationalD) : Int := ceilQ a.num a.den
theorem validR_bnd {r : RationalD} (h : validR r = true) : 1 ≤ r.den ∧ r.den ≤ 2147483647 ∧ -2147483647 ≤ r.num ∧ r.num ≤ 2147483647 ∧ Int.gcd r.num r.den = 1 := validQ_bnd h
theorem gcd_abs1 {n d : Int} : Int.gcd ((n.natAbs : Nat) : Int) d = Int.gcd n d := by simp [Int.gcd]
theorem gcd_abs2 {n d : Int} : Int.gcd (if n < 0 then -n else n) d = Int.gcd n d := by
  split
  · simp [Int.gcd]
  · rfl
theorem validQ_dec {n d : Int} : validQ n d = (decide (1 ≤ d ∧ d ≤ 2147483647) && (decide (-2147483647 ≤ n ∧ n ≤ 2147483647) && decide (((Int.gcd n d : Nat) : Int) = 1))) := by
  have e : decide (((Int.gcd n d : Nat) : Int) = 1) = decide (Int.gcd n d = 1) := by congr 1; simp; omega
  rw [e]
  simp only [validQ, Bool.and_assoc]
  congr 1
  · simp [inB, Bool.decide_and]
  · congr 1
    simp [inB, Bool.decide_and]

theorem pow_pos1 {k : Int} (hk : 1 ≤ k) : ∀ i : Nat, 1 ≤ k ^ i
  | 0 => by simp
  | i + 1 => by
    rw [Int.pow_succ]
    have h1 := pow_pos1 hk i
    have h2 : 1 * 1 ≤ k ^ i * k := Int.mul_le_mul h1 hk (by omega) (by omega)
    omega
theorem pow_mono1 {k : Int} (hk : 1 ≤ k) {i j : Nat} (h : i ≤ j) : k ^ i ≤ k ^ j := by
  obtain ⟨t, rfl⟩ := Nat.exists_eq_add_of_le h
  rw [Int.pow_add]
  have h1 := pow_pos1 hk i
  have h2 := pow_pos1 hk t
  have h3 : k ^ i * 1 ≤ k ^ i * k ^ t := Int.mul_le_mul_of_nonneg_left h2 (by omega)
  omega
theorem pow40 {n : Nat} (h : n ≤ 40) : (2 : Int) ^ n ≤ 1099511627776 := by
  have := pow_mono1 (k := 2) (by omega) h
  exact Int.le_trans this (by decide)
theorem pow12 {n : Nat} (h : n ≤ 12) : (2 : Int) ^ n ≤ 4096 := by
  have := pow_mono1 (k := 2) (by omega) h
  exact Int.le_trans this (by decide)
theorem two_small {i : Nat} (h : i ≤ 12) : inR ((1 : Int) * 2 ^ i) := by
  have h1 := pow12 h
  have h2 := pow_pos1 (k := 2) (by omega) i
  exact ⟨by omega, by omega⟩

abbrev K_in_impl (n : Int) (a : Int) (c : Int) : Prop := Con Try.prog 47 [.one (.int .i64 n), .one (.int .i64 a), .one (.int .i64 c)] (vB (decide (a ≤ n ∧ n ≤ c))) []
theorem in_impl (n a c : Int) : K_in_impl n a c := by
 refine con_y tbOk mixedW Try.func47 (by kernel_rfl) (.br (.fin []) (.fin [])) (p := ((decide (a ≤ n)) = true → ((decide (n ≤ c)) = (decide (a ≤ n ∧ n ≤ c))) ∧ True) ∧ ((decide (a ≤ n)) = false → ((false) = (decide (a ≤ n ∧ n ≤ c))) ∧ True)) (by kernel_rfl) ?_
 refine ⟨fun g10 => ?_, fun g10 => ?_⟩
 ·replace g10 := yq g10
  refine ⟨?_, trivial⟩
  ·first | (simp [*]; done) | (simp; omega)
 ·replace g10 := nq g10
  refine ⟨?_, trivial⟩
  ·first | (simp [*]; done) | (simp; omega)

abbrev K_in_spec (n : Int) (a : Int) (c : Int) : Prop := Con Try.prog 48 [.one (.int .i64 n), .one (.int .i64 a), .one (.int .i64 c)] (vB (decide (a ≤ n ∧ n ≤ c))) []
theorem in_spec (n a c : Int) : K_in_spec n a c := by
 refine con_y tbOk mixedW Try.func48 (by kernel_rfl) (.br (.fin []) (.fin [])) (p := ((decide (a ≤ n)) = true → ((decide (n ≤ c)) = (decide (a ≤ n ∧ n ≤ c))) ∧ True) ∧ ((decide (a ≤ n)) = false → ((false) = (decide (a ≤ n ∧ n ≤ c))) ∧ True)) (by kernel_rfl) ?_
 refine ⟨fun g10 => ?_, fun g10 => ?_⟩
 ·replace g10 := yq g10
  refine ⟨?_, trivial⟩
  ·first | (simp [*]; done) | (simp; omega)
 ·replace g10 := nq g10
  refine ⟨?_, trivial⟩
  ·first | (simp [*]; done) | (simp; omega)

abbrev K_gcd_impl (a : Int) (c : Int) : Prop := Con Try.prog 89 [.one (.int .i64 a), .one (.int .i64 c)] (vI ((Int.gcd a c : Nat) : Int)) []
theorem gcd_impl (a c : Int) (ha : -9223372036854775807 ≤ a ∧ a ≤ 9223372036854775807) (hc : -9223372036854775807 ≤ c ∧ c ≤ 9223372036854775807) : K_gcd_impl a c := by
 refine con_y tbOk mixedW Try.func89 (by kernel_rfl) (.loop (Int × Int) (Q2 Int Int) [0, 1, 5, 6, 7, 8, 9, 10] [] (fun yy0 => [(0, vI yy0.1), (1, vI yy0.2)]) (fun yy0 => []) (fun yy0 => (-9223372036854775807 ≤ yy0.1 ∧ yy0.1 ≤ 9223372036854775807) ∧ (-9223372036854775807 ≤ yy0.2 ∧ yy0.2 ≤ 9223372036854775807) ∧ Int.gcd yy0.1 yy0.2 = Int.gcd a c) (fun yy0 => yy0.2.natAbs) (fun yy0 => .br (.back []) (.fin []))) (p := (∃ (x : Int) (y : Int), a = x ∧ c = y ∧ (-9223372036854775807 ≤ x ∧ x ≤ 9223372036854775807) ∧ (-9223372036854775807 ≤ y ∧ y ≤ 9223372036854775807) ∧ Int.gcd x y = Int.gcd a c) ∧ ∀ (x : Int) (y : Int), ((-9223372036854775807 ≤ x ∧ x ≤ 9223372036854775807) ∧ (-9223372036854775807 ≤ y ∧ y ≤ 9223372036854775807) ∧ Int.gcd x y = Int.gcd a c) → ((!(decide (y = (0 : Int)))) = true → y ≠ 0 ∧ ∃ (x' : Int) (y' : Int), y = x' ∧ (Int.tmod x y) = y' ∧ ((-9223372036854775807 ≤ x' ∧ x' ≤ 9223372036854775807) ∧ (-9223372036854775807 ≤ y' ∧ y' ≤ 9223372036854775807) ∧ Int.gcd x' y' = Int.gcd a c) ∧ y'.natAbs < y.natAbs) ∧ ((!(decide (y = (0 : Int)))) = false → inR (-x) ∧ (if x < (-x) then (-x) else x) = ((Int.gcd a c : Nat) : Int) ∧ True)) (by kernel_rfl) ?_
 refine ⟨⟨a, c, rfl, rfl, ha, hc, rfl⟩, fun x y ⟨hx, hy, hg⟩ => ?_⟩
 refine ⟨fun c0 => ?_, fun c0 => ?_⟩
 ·replace c0 := nq (nt c0)
  refine ⟨by omega, ?_⟩
  exact ⟨y, Int.tmod x y, rfl, rfl, ⟨hy, bnd_of_abs (tmod_bnd c0) (by omega), by rw [gcd_step]; exact hg⟩, tmod_bnd c0⟩
 ·replace c0 := yq (nf c0)
  refine ⟨⟨by omega, by omega⟩, ?_, trivial⟩
  ·subst c0; rw [← hg, gcd_abs]

abbrev K_gcd_spec (a : Int) (c : Int) : Prop := Con Try.prog 68 [.one (.int .i64 a), .one (.int .i64 c)] (vI ((Int.gcd a c : Nat) : Int)) []
theorem gcd_spec (a c : Int) (ha : 0 ≤ a ∧ a ≤ 9223372036854775807) (hc : 0 ≤ c ∧ c ≤ 9223372036854775807) : K_gcd_spec a c := by
 refine con_y tbOk mixedW Try.func68 (by kernel_rfl) (.loop (Int × Int) (Q2 Int Int) [0, 1, 5, 6, 7, 8, 9, 10, 11, 12] [] (fun yy0 => [(0, vI yy0.1), (1, vI yy0.2)]) (fun yy0 => []) (fun yy0 => (0 ≤ yy0.1 ∧ yy0.1 ≤ 9223372036854775807) ∧ (0 ≤ yy0.2 ∧ yy0.2 ≤ 9223372036854775807) ∧ Int.gcd yy0.1 yy0.2 = Int.gcd a c) (fun yy0 => yy0.2.natAbs) (fun yy0 => .br (.back []) (.fin []))) (p := (∃ (x : Int) (y : Int), a = x ∧ c = y ∧ (0 ≤ x ∧ x ≤ 9223372036854775807) ∧ (0 ≤ y ∧ y ≤ 9223372036854775807) ∧ Int.gcd x y = Int.gcd a c) ∧ ∀ (x : Int) (y : Int), ((0 ≤ x ∧ x ≤ 9223372036854775807) ∧ (0 ≤ y ∧ y ≤ 9223372036854775807) ∧ Int.gcd x y = Int.gcd a c) → ((!(decide (y = (0 : Int)))) = true → y ≠ 0 ∧ ∃ (x' : Int) (y' : Int), y = x' ∧ (Int.tmod x y) = y' ∧ ((0 ≤ x' ∧ x' ≤ 9223372036854775807) ∧ (0 ≤ y' ∧ y' ≤ 9223372036854775807) ∧ Int.gcd x' y' = Int.gcd a c) ∧ y'.natAbs < y.natAbs) ∧ ((!(decide (y = (0 : Int)))) = false → x = ((Int.gcd a c : Nat) : Int) ∧ True)) (by kernel_rfl) ?_
 refine ⟨⟨a, c, rfl, rfl, ha, hc, rfl⟩, fun x y ⟨hx, hy, hg⟩ => ?_⟩
 refine ⟨fun c0 => ?_, fun c0 => ?_⟩
 ·replace c0 := nq (nt c0)
  refine ⟨by omega, ?_⟩
  exact ⟨y, Int.tmod x y, rfl, rfl, ⟨hy, ⟨Int.tmod_nonneg _ hx.1, (bnd_of_abs (tmod_bnd c0) (by omega)).2⟩, by rw [gcd_step]; exact hg⟩, tmod_bnd c0⟩
 ·replace c0 := yq (nf c0)
  refine ⟨?_, trivial⟩
  ·subst c0; rw [← hg, Int.gcd_zero_right]; omega

abbrev K_abs_spec (n : Int) : Prop := Con Try.prog 69 [.one (.int .i64 n)] (vI ((n.natAbs : Nat) : Int)) []
theorem abs_spec (n : Int) (hn : -9223372036854775807 ≤ n ∧ n ≤ 9223372036854775807) : K_abs_spec n := by
 refine con_y tbOk mixedW Try.func69 (by kernel_rfl) (.br (.fin []) (.fin [])) (p := ((decide (n < (0 : Int))) = true → inR (-n) ∧ (-n) = ((n.natAbs : Nat) : Int) ∧ True) ∧ ((decide (n < (0 : Int))) = false → n = ((n.natAbs : Nat) : Int) ∧ True)) (by kernel_rfl) ?_
 refine ⟨fun c0 => ?_, fun c0 => ?_⟩
 ·replace c0 := yq c0
  refine ⟨⟨by omega, by omega⟩, ?_, trivial⟩
  ·omega
 ·replace c0 := nq c0
  refine ⟨?_, trivial⟩
  ·omega

abbrev K_val_impl (r : RationalD) : Prop := Con Try.prog 62 [.agg [.int .i64 r.num, .int .i64 r.den]] (vB (validR r)) []
theorem val_impl (r : RationalD) : K_val_impl r := by
 refine con_y tbOk mixedW Try.func62 (by kernel_rfl) (.call (vB (decide ((1 : Int) ≤ r.den ∧ r.den ≤ (2147483647 : Int)))) [] <| .br (.call (vB (decide ((-2147483647 : Int) ≤ r.num ∧ r.num ≤ (2147483647 : Int)))) [] <| .lit <| .br (.call (vI ((Int.gcd r.num r.den : Nat) : Int)) [] <| .fin []) (.fin [])) (.fin [])) (p := K_in_impl r.den (1 : Int) (2147483647 : Int) ∧ (((decide ((1 : Int) ≤ r.den ∧ r.den ≤ (2147483647 : Int))) = true → K_in_impl r.num (-2147483647 : Int) (2147483647 : Int) ∧ (((decide ((-2147483647 : Int) ≤ r.num ∧ r.num ≤ (2147483647 : Int))) = true → K_gcd_impl r.num r.den ∧ (decide (((Int.gcd r.num r.den : Nat) : Int) = (1 : Int))) = (validR r) ∧ True) ∧ ((decide ((-2147483647 : Int) ≤ r.num ∧ r.num ≤ (2147483647 : Int))) = false → (false) = (validR r) ∧ True))) ∧ ((decide ((1 : Int) ≤ r.den ∧ r.den ≤ (2147483647 : Int))) = false → (false) = (validR r) ∧ True))) (by kernel_rfl) ?_
 refine ⟨in_impl _ _ _, fun g6 => ?_, fun g6 => ?_⟩
 ·replace g6 := yq g6
  refine ⟨in_impl _ _ _, fun g11 => ?_, fun g11 => ?_⟩
  ·replace g11 := yq g11
   refine ⟨gcd_impl _ _ (by first | omega | (dsimp only; omega)) (by first | omega | (dsimp only; omega)), ?_, trivial⟩
   ·(try rw [gcd_abs1]); rw [validR, validQ_dec]; simp [*]
  ·replace g11 := nq g11
   refine ⟨?_, trivial⟩
   ·(try rw [gcd_abs1]); rw [validR, validQ_dec]; simp [*]
 ·replace g6 := nq g6
  refine ⟨?_, trivial⟩
  ·(try rw [gcd_abs1]); rw [validR, validQ_dec]; simp [*]

abbrev K_val_spec (r : RationalD) : Prop := Con Try.prog 26 [.agg [.int .i64 r.num, .int .i64 r.den]] (vB (validR r)) []
theorem val_spec (r : RationalD) : K_val_spec r := by
 refine con_y tbOk mixedW Try.func26 (by kernel_rfl) (.call (vB (decide ((1 : Int) ≤ r.den ∧ r.den ≤ (2147483647 : Int)))) [] <| .br (.call (vB (decide ((-2147483647 : Int) ≤ r.num ∧ r.num ≤ (2147483647 : Int)))) [] <| .lit <| .br (.call (vI ((r.num.natAbs : Nat) : Int)) [] <| .call (vI ((Int.gcd ((r.num.natAbs : Nat) : Int) r.den : Nat) : Int)) [] <| .fin []) (.fin [])) (.fin [])) (p := K_in_spec r.den (1 : Int) (2147483647 : Int) ∧ (((decide ((1 : Int) ≤ r.den ∧ r.den ≤ (2147483647 : Int))) = true → K_in_spec r.num (-2147483647 : Int) (2147483647 : Int) ∧ (((decide ((-2147483647 : Int) ≤ r.num ∧ r.num ≤ (2147483647 : Int))) = true → K_abs_spec r.num ∧ K_gcd_spec ((r.num.natAbs : Nat) : Int) r.den ∧ (decide (((Int.gcd ((r.num.natAbs : Nat) : Int) r.den : Nat) : Int) = (1 : Int))) = (validR r) ∧ True) ∧ ((decide ((-2147483647 : Int) ≤ r.num ∧ r.num ≤ (2147483647 : Int))) = false → (false) = (validR r) ∧ True))) ∧ ((decide ((1 : Int) ≤ r.den ∧ r.den ≤ (2147483647 : Int))) = false → (false) = (validR r) ∧ True))) (by kernel_rfl) ?_
 refine ⟨in_spec _ _ _, fun g6 => ?_, fun g6 => ?_⟩
 ·replace g6 := yq g6
  refine ⟨in_spec _ _ _, fun g11 => ?_, fun g11 => ?_⟩
  ·replace g11 := yq g11
   refine ⟨abs_spec _ (by first | omega | (dsimp only; omega)), gcd_spec _ _ (by first | omega | (dsimp only; omega)) (by first | omega | (dsimp only; omega)), ?_, trivial⟩
   ·(try rw [gcd_abs1]); rw [validR, validQ_dec]; simp [*]
  ·replace g11 := nq g11
   refine ⟨?_, trivial⟩
   ·(try rw [gcd_abs1]); rw [validR, validQ_dec]; simp [*]
 ·replace g6 := nq g6
  refine ⟨?_, trivial⟩
  ·(try rw [gcd_abs1]); rw [validR, validQ_dec]; simp [*]
end Go.Proofs.Ytepphdhnkaiamaa
