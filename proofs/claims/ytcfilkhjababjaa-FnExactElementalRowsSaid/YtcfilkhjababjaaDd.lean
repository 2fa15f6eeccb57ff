/-
  The laws' helpers: equal data are equal.
-/
import Derived.Test.YtcfilkhjababjaaDa
namespace Go.Proofs.Ytcfilkhjababjaa
open Go.ChangeShapes Go.WideShapes Go.ChangeAt Go.RowKit
set_option linter.unusedVariables false
set_option linter.unusedSimpArgs false
set_option maxRecDepth 100000 in
set_option maxHeartbeats 4000000 in
theorem eq_IntS (x : List Int) : Con Try.prog 28 [.one (.sl 3 1 (x.map intD)), .one (.sl 3 1 (x.map intD))] (vB true) [] := by
  refine con_x tbOk mixedW Try.func28 (by kernel_rfl) (.len x.length <| .len x.length <| .no <| .loop Nat (Q1 Nat) [5, 11, 12, 13, 14, 15, 16, 17, 18, 19, 20, 21, 22, 23, 24, 25] [] (fun k => [(5, vI (k : Int))]) (fun k => []) (fun k => k ≤ x.length) (fun k => x.length - k) (fun k => .len x.length <| .br (.elem Int intD x (fun e19 => .elem Int intD x (fun e23 => .no <| .back []))) (.fin []))) ?_
  refine Eq.mpr (by kernel_rfl : _ = ((x.map intD).length ≤ 9223372036854775807 → (x.map intD).length ≤ 9223372036854775807 → (x.map intD).length = x.length ∧ ((x.map intD).length = x.length ∧ ((!(decide (((x.length : Nat) : Int) = ((x.length : Nat) : Int)))) = false ∧ ((∃ (k : Nat), (0 : Int) = (k : Int) ∧ k ≤ x.length) ∧ ∀ (k : Nat), k ≤ x.length → (x.map intD).length = x.length ∧ (((decide ((k : Int) < ((x.length : Nat) : Int))) = true → 0 ≤ (k : Int) ∧ (x.map intD = x.map intD ∧ k < x.length ∧ ∀ e19, x[k]? = some e19 → 0 ≤ (k : Int) ∧ (x.map intD = x.map intD ∧ k < x.length ∧ ∀ e23, x[k]? = some e23 → (!(decide (e19 = e23))) = false ∧ inR ((k : Int) + (1 : Int)) ∧ ∃ (k' : Nat), ((k : Int) + (1 : Int)) = (k' : Int) ∧ k' ≤ x.length ∧ x.length - k' < x.length - k))) ∧ ((decide ((k : Int) < ((x.length : Nat) : Int))) = false → (true) = true ∧ True))))))) ?_
  intro n0 n1
  simp only [List.length_map] at n0 n1
  refine ⟨List.length_map _, ?_⟩
  refine ⟨List.length_map _, ?_⟩
  refine ⟨by simp, ?_⟩
  refine ⟨⟨0, rfl, Nat.zero_le _⟩, fun k hk => ?_⟩
  refine ⟨List.length_map _, ?_⟩
  refine ⟨fun c1 => ?_, fun c1 => ?_⟩
  · replace c1 := of_decide_eq_true c1
    obtain ⟨y, hy⟩ := at_some (l := x) (k := k) (by omega)
    refine ⟨by omega, ?_⟩
    refine ⟨rfl, by omega, fun e19 h19 => ?_⟩
    try (obtain rfl := same_at hy h19)
    refine ⟨by omega, ?_⟩
    refine ⟨rfl, by omega, fun e23 h23 => ?_⟩
    try (obtain rfl := same_at hy h23)
    refine ⟨by simp, ?_⟩
    refine ⟨⟨by omega, by omega⟩, ?_⟩
    exact ⟨k + 1, rfl, by omega, by omega⟩
  · replace c1 := of_decide_eq_false c1
    refine ⟨?_, trivial⟩
    · rfl

set_option maxRecDepth 100000 in
set_option maxHeartbeats 4000000 in
theorem eq_IntSS (x : List (List Int)) : Con Try.prog 19 [.one (.sl 34 1 (x.map eIntS)), .one (.sl 34 1 (x.map eIntS))] (vB true) [] := by
  refine con_x tbOk mixedW Try.func19 (by kernel_rfl) (.len x.length <| .len x.length <| .no <| .loop Nat (Q1 Nat) [5, 11, 12, 13, 14, 15, 16, 17, 18, 19, 20, 21, 22, 23, 24, 25, 26] [] (fun k => [(5, vI (k : Int))]) (fun k => []) (fun k => k ≤ x.length) (fun k => x.length - k) (fun k => .len x.length <| .br (.elem (List Int) eIntS x (fun e19 => .elem (List Int) eIntS x (fun e23 => .call (vB true) [] <| .back []))) (.fin []))) ?_
  refine Eq.mpr (by kernel_rfl : _ = ((x.map eIntS).length ≤ 9223372036854775807 → (x.map eIntS).length ≤ 9223372036854775807 → (x.map eIntS).length = x.length ∧ ((x.map eIntS).length = x.length ∧ ((!(decide (((x.length : Nat) : Int) = ((x.length : Nat) : Int)))) = false ∧ ((∃ (k : Nat), (0 : Int) = (k : Int) ∧ k ≤ x.length) ∧ ∀ (k : Nat), k ≤ x.length → (x.map eIntS).length = x.length ∧ (((decide ((k : Int) < ((x.length : Nat) : Int))) = true → 0 ≤ (k : Int) ∧ (x.map eIntS = x.map eIntS ∧ k < x.length ∧ ∀ e19, x[k]? = some e19 → 0 ≤ (k : Int) ∧ (x.map eIntS = x.map eIntS ∧ k < x.length ∧ ∀ e23, x[k]? = some e23 → Con Try.prog 28 [.one (.sl 3 1 (e19.map intD)), .one (.sl 3 1 (e23.map intD))] (vB true) [] ∧ inR ((k : Int) + (1 : Int)) ∧ ∃ (k' : Nat), ((k : Int) + (1 : Int)) = (k' : Int) ∧ k' ≤ x.length ∧ x.length - k' < x.length - k))) ∧ ((decide ((k : Int) < ((x.length : Nat) : Int))) = false → (true) = true ∧ True))))))) ?_
  intro n0 n1
  simp only [List.length_map] at n0 n1
  refine ⟨List.length_map _, ?_⟩
  refine ⟨List.length_map _, ?_⟩
  refine ⟨by simp, ?_⟩
  refine ⟨⟨0, rfl, Nat.zero_le _⟩, fun k hk => ?_⟩
  refine ⟨List.length_map _, ?_⟩
  refine ⟨fun c1 => ?_, fun c1 => ?_⟩
  · replace c1 := of_decide_eq_true c1
    obtain ⟨y, hy⟩ := at_some (l := x) (k := k) (by omega)
    refine ⟨by omega, ?_⟩
    refine ⟨rfl, by omega, fun e19 h19 => ?_⟩
    try (obtain rfl := same_at hy h19)
    refine ⟨by omega, ?_⟩
    refine ⟨rfl, by omega, fun e23 h23 => ?_⟩
    try (obtain rfl := same_at hy h23)
    refine ⟨by first | exact eq_IntS e19 | exact eq_IntS _, ?_⟩
    refine ⟨⟨by omega, by omega⟩, ?_⟩
    exact ⟨k + 1, rfl, by omega, by omega⟩
  · replace c1 := of_decide_eq_false c1
    refine ⟨?_, trivial⟩
    · rfl

set_option maxRecDepth 100000 in
set_option maxHeartbeats 4000000 in
theorem eq_Rational (x : RationalD) : Con Try.prog 122 [.agg [.int .i64 x.num, .int .i64 x.den], .agg [.int .i64 x.num, .int .i64 x.den]] (vB true) [] := by
  refine con_x tbOk mixedW Try.func122 (by kernel_rfl) (.no <| .no <| .fin []) ?_
  refine Eq.mpr (by kernel_rfl : _ = ((!(decide (x.num = x.num))) = false ∧ (!(decide (x.den = x.den))) = false ∧ (true) = true ∧ True)) ?_
  refine ⟨by simp, ?_⟩
  refine ⟨by simp, ?_⟩
  refine ⟨?_, trivial⟩
  · rfl

set_option maxRecDepth 100000 in
set_option maxHeartbeats 4000000 in
theorem eq_RationalS (x : List RationalD) : Con Try.prog 123 [.one (.sl 25 2 (x.map eRational)), .one (.sl 25 2 (x.map eRational))] (vB true) [] := by
  refine con_x tbOk mixedW Try.func123 (by kernel_rfl) (.len x.length <| .len x.length <| .no <| .loop Nat (Q1 Nat) [5, 11, 12, 13, 14, 15, 16, 17, 18, 19, 20, 21, 22, 23, 24, 25, 26] [] (fun k => [(5, vI (k : Int))]) (fun k => []) (fun k => k ≤ x.length) (fun k => x.length - k) (fun k => .len x.length <| .br (.elem RationalD eRational x (fun e19 => .elem RationalD eRational x (fun e23 => .call (vB true) [] <| .back []))) (.fin []))) ?_
  refine Eq.mpr (by kernel_rfl : _ = ((x.map eRational).length ≤ 9223372036854775807 → (x.map eRational).length ≤ 9223372036854775807 → (x.map eRational).length = x.length ∧ ((x.map eRational).length = x.length ∧ ((!(decide (((x.length : Nat) : Int) = ((x.length : Nat) : Int)))) = false ∧ ((∃ (k : Nat), (0 : Int) = (k : Int) ∧ k ≤ x.length) ∧ ∀ (k : Nat), k ≤ x.length → (x.map eRational).length = x.length ∧ (((decide ((k : Int) < ((x.length : Nat) : Int))) = true → 0 ≤ (k : Int) ∧ (x.map eRational = x.map eRational ∧ k < x.length ∧ ∀ e19, x[k]? = some e19 → 0 ≤ (k : Int) ∧ (x.map eRational = x.map eRational ∧ k < x.length ∧ ∀ e23, x[k]? = some e23 → Con Try.prog 122 [.agg [.int .i64 e19.num, .int .i64 e19.den], .agg [.int .i64 e23.num, .int .i64 e23.den]] (vB true) [] ∧ inR ((k : Int) + (1 : Int)) ∧ ∃ (k' : Nat), ((k : Int) + (1 : Int)) = (k' : Int) ∧ k' ≤ x.length ∧ x.length - k' < x.length - k))) ∧ ((decide ((k : Int) < ((x.length : Nat) : Int))) = false → (true) = true ∧ True))))))) ?_
  intro n0 n1
  simp only [List.length_map] at n0 n1
  refine ⟨List.length_map _, ?_⟩
  refine ⟨List.length_map _, ?_⟩
  refine ⟨by simp, ?_⟩
  refine ⟨⟨0, rfl, Nat.zero_le _⟩, fun k hk => ?_⟩
  refine ⟨List.length_map _, ?_⟩
  refine ⟨fun c1 => ?_, fun c1 => ?_⟩
  · replace c1 := of_decide_eq_true c1
    obtain ⟨y, hy⟩ := at_some (l := x) (k := k) (by omega)
    refine ⟨by omega, ?_⟩
    refine ⟨rfl, by omega, fun e19 h19 => ?_⟩
    try (obtain rfl := same_at hy h19)
    refine ⟨by omega, ?_⟩
    refine ⟨rfl, by omega, fun e23 h23 => ?_⟩
    try (obtain rfl := same_at hy h23)
    refine ⟨by first | exact eq_Rational e19 | exact eq_Rational _, ?_⟩
    refine ⟨⟨by omega, by omega⟩, ?_⟩
    exact ⟨k + 1, rfl, by omega, by omega⟩
  · replace c1 := of_decide_eq_false c1
    refine ⟨?_, trivial⟩
    · rfl

set_option maxRecDepth 100000 in
set_option maxHeartbeats 4000000 in
theorem eq_RationalSS (x : List (List RationalD)) : Con Try.prog 134 [.one (.sl 66 1 (x.map eRationalS)), .one (.sl 66 1 (x.map eRationalS))] (vB true) [] := by
  refine con_x tbOk mixedW Try.func134 (by kernel_rfl) (.len x.length <| .len x.length <| .no <| .loop Nat (Q1 Nat) [5, 11, 12, 13, 14, 15, 16, 17, 18, 19, 20, 21, 22, 23, 24, 25, 26] [] (fun k => [(5, vI (k : Int))]) (fun k => []) (fun k => k ≤ x.length) (fun k => x.length - k) (fun k => .len x.length <| .br (.elem (List RationalD) eRationalS x (fun e19 => .elem (List RationalD) eRationalS x (fun e23 => .call (vB true) [] <| .back []))) (.fin []))) ?_
  refine Eq.mpr (by kernel_rfl : _ = ((x.map eRationalS).length ≤ 9223372036854775807 → (x.map eRationalS).length ≤ 9223372036854775807 → (x.map eRationalS).length = x.length ∧ ((x.map eRationalS).length = x.length ∧ ((!(decide (((x.length : Nat) : Int) = ((x.length : Nat) : Int)))) = false ∧ ((∃ (k : Nat), (0 : Int) = (k : Int) ∧ k ≤ x.length) ∧ ∀ (k : Nat), k ≤ x.length → (x.map eRationalS).length = x.length ∧ (((decide ((k : Int) < ((x.length : Nat) : Int))) = true → 0 ≤ (k : Int) ∧ (x.map eRationalS = x.map eRationalS ∧ k < x.length ∧ ∀ e19, x[k]? = some e19 → 0 ≤ (k : Int) ∧ (x.map eRationalS = x.map eRationalS ∧ k < x.length ∧ ∀ e23, x[k]? = some e23 → Con Try.prog 123 [.one (.sl 25 2 (e19.map eRational)), .one (.sl 25 2 (e23.map eRational))] (vB true) [] ∧ inR ((k : Int) + (1 : Int)) ∧ ∃ (k' : Nat), ((k : Int) + (1 : Int)) = (k' : Int) ∧ k' ≤ x.length ∧ x.length - k' < x.length - k))) ∧ ((decide ((k : Int) < ((x.length : Nat) : Int))) = false → (true) = true ∧ True))))))) ?_
  intro n0 n1
  simp only [List.length_map] at n0 n1
  refine ⟨List.length_map _, ?_⟩
  refine ⟨List.length_map _, ?_⟩
  refine ⟨by simp, ?_⟩
  refine ⟨⟨0, rfl, Nat.zero_le _⟩, fun k hk => ?_⟩
  refine ⟨List.length_map _, ?_⟩
  refine ⟨fun c1 => ?_, fun c1 => ?_⟩
  · replace c1 := of_decide_eq_true c1
    obtain ⟨y, hy⟩ := at_some (l := x) (k := k) (by omega)
    refine ⟨by omega, ?_⟩
    refine ⟨rfl, by omega, fun e19 h19 => ?_⟩
    try (obtain rfl := same_at hy h19)
    refine ⟨by omega, ?_⟩
    refine ⟨rfl, by omega, fun e23 h23 => ?_⟩
    try (obtain rfl := same_at hy h23)
    refine ⟨by first | exact eq_RationalS e19 | exact eq_RationalS _, ?_⟩
    refine ⟨⟨by omega, by omega⟩, ?_⟩
    exact ⟨k + 1, rfl, by omega, by omega⟩
  · replace c1 := of_decide_eq_false c1
    refine ⟨?_, trivial⟩
    · rfl

set_option maxRecDepth 100000 in
set_option maxHeartbeats 4000000 in
theorem eq_SizeConstraint (x : SizeConstraintD) : Con Try.prog 99 [.agg [.int .i64 x.src, .int .i64 x.dst, .int .i64 x.bits], .agg [.int .i64 x.src, .int .i64 x.dst, .int .i64 x.bits]] (vB true) [] := by
  refine con_x tbOk mixedW Try.func99 (by kernel_rfl) (.no <| .no <| .no <| .fin []) ?_
  refine Eq.mpr (by kernel_rfl : _ = ((!(decide (x.src = x.src))) = false ∧ (!(decide (x.dst = x.dst))) = false ∧ (!(decide (x.bits = x.bits))) = false ∧ (true) = true ∧ True)) ?_
  refine ⟨by simp, ?_⟩
  refine ⟨by simp, ?_⟩
  refine ⟨by simp, ?_⟩
  refine ⟨?_, trivial⟩
  · rfl

set_option maxRecDepth 100000 in
set_option maxHeartbeats 4000000 in
theorem eq_SizeConstraintS (x : List SizeConstraintD) : Con Try.prog 27 [.one (.sl 111 3 (x.map eSizeConstraint)), .one (.sl 111 3 (x.map eSizeConstraint))] (vB true) [] := by
  refine con_x tbOk mixedW Try.func27 (by kernel_rfl) (.len x.length <| .len x.length <| .no <| .loop Nat (Q1 Nat) [5, 11, 12, 13, 14, 15, 16, 17, 18, 19, 20, 21, 22, 23, 24, 25, 26] [] (fun k => [(5, vI (k : Int))]) (fun k => []) (fun k => k ≤ x.length) (fun k => x.length - k) (fun k => .len x.length <| .br (.elem SizeConstraintD eSizeConstraint x (fun e19 => .elem SizeConstraintD eSizeConstraint x (fun e23 => .call (vB true) [] <| .back []))) (.fin []))) ?_
  refine Eq.mpr (by kernel_rfl : _ = ((x.map eSizeConstraint).length ≤ 9223372036854775807 → (x.map eSizeConstraint).length ≤ 9223372036854775807 → (x.map eSizeConstraint).length = x.length ∧ ((x.map eSizeConstraint).length = x.length ∧ ((!(decide (((x.length : Nat) : Int) = ((x.length : Nat) : Int)))) = false ∧ ((∃ (k : Nat), (0 : Int) = (k : Int) ∧ k ≤ x.length) ∧ ∀ (k : Nat), k ≤ x.length → (x.map eSizeConstraint).length = x.length ∧ (((decide ((k : Int) < ((x.length : Nat) : Int))) = true → 0 ≤ (k : Int) ∧ (x.map eSizeConstraint = x.map eSizeConstraint ∧ k < x.length ∧ ∀ e19, x[k]? = some e19 → 0 ≤ (k : Int) ∧ (x.map eSizeConstraint = x.map eSizeConstraint ∧ k < x.length ∧ ∀ e23, x[k]? = some e23 → Con Try.prog 99 [.agg [.int .i64 e19.src, .int .i64 e19.dst, .int .i64 e19.bits], .agg [.int .i64 e23.src, .int .i64 e23.dst, .int .i64 e23.bits]] (vB true) [] ∧ inR ((k : Int) + (1 : Int)) ∧ ∃ (k' : Nat), ((k : Int) + (1 : Int)) = (k' : Int) ∧ k' ≤ x.length ∧ x.length - k' < x.length - k))) ∧ ((decide ((k : Int) < ((x.length : Nat) : Int))) = false → (true) = true ∧ True))))))) ?_
  intro n0 n1
  simp only [List.length_map] at n0 n1
  refine ⟨List.length_map _, ?_⟩
  refine ⟨List.length_map _, ?_⟩
  refine ⟨by simp, ?_⟩
  refine ⟨⟨0, rfl, Nat.zero_le _⟩, fun k hk => ?_⟩
  refine ⟨List.length_map _, ?_⟩
  refine ⟨fun c1 => ?_, fun c1 => ?_⟩
  · replace c1 := of_decide_eq_true c1
    obtain ⟨y, hy⟩ := at_some (l := x) (k := k) (by omega)
    refine ⟨by omega, ?_⟩
    refine ⟨rfl, by omega, fun e19 h19 => ?_⟩
    try (obtain rfl := same_at hy h19)
    refine ⟨by omega, ?_⟩
    refine ⟨rfl, by omega, fun e23 h23 => ?_⟩
    try (obtain rfl := same_at hy h23)
    refine ⟨by first | exact eq_SizeConstraint e19 | exact eq_SizeConstraint _, ?_⟩
    refine ⟨⟨by omega, by omega⟩, ?_⟩
    exact ⟨k + 1, rfl, by omega, by omega⟩
  · replace c1 := of_decide_eq_false c1
    refine ⟨?_, trivial⟩
    · rfl

set_option maxRecDepth 100000 in
set_option maxHeartbeats 4000000 in
theorem eq_Box (x : BoxD) : Con Try.prog 36 [.agg [.sl 3 1 (x.low.map intD), .sl 3 1 (x.high.map intD)], .agg [.sl 3 1 (x.low.map intD), .sl 3 1 (x.high.map intD)]] (vB true) [] := by
  refine con_x tbOk mixedW Try.func36 (by kernel_rfl) (.call (vB true) [] <| .call (vB true) [] <| .fin []) ?_
  refine Eq.mpr (by kernel_rfl : _ = ((x.low.map intD).length ≤ 9223372036854775807 → (x.high.map intD).length ≤ 9223372036854775807 → (x.low.map intD).length ≤ 9223372036854775807 → (x.high.map intD).length ≤ 9223372036854775807 → Con Try.prog 28 [.one (.sl 3 1 (x.low.map intD)), .one (.sl 3 1 (x.low.map intD))] (vB true) [] ∧ Con Try.prog 28 [.one (.sl 3 1 (x.high.map intD)), .one (.sl 3 1 (x.high.map intD))] (vB true) [] ∧ (true) = true ∧ True)) ?_
  intro n0 n1 n2 n3
  simp only [List.length_map] at n0 n1 n2 n3
  refine ⟨by first | exact eq_IntS x.low | exact eq_IntS _, ?_⟩
  refine ⟨by first | exact eq_IntS x.high | exact eq_IntS _, ?_⟩
  refine ⟨?_, trivial⟩
  · rfl

set_option maxRecDepth 100000 in
set_option maxHeartbeats 4000000 in
theorem eq_Program (x : ProgramD) : Con Try.prog 39 [.agg [.sl 3 1 (x.objective.map intD), .sl 34 1 (x.rows.map eIntS), .sl 3 1 (x.limits.map intD)], .agg [.sl 3 1 (x.objective.map intD), .sl 34 1 (x.rows.map eIntS), .sl 3 1 (x.limits.map intD)]] (vB true) [] := by
  refine con_x tbOk mixedW Try.func39 (by kernel_rfl) (.call (vB true) [] <| .call (vB true) [] <| .call (vB true) [] <| .fin []) ?_
  refine Eq.mpr (by kernel_rfl : _ = ((x.objective.map intD).length ≤ 9223372036854775807 → (x.rows.map eIntS).length ≤ 9223372036854775807 → (x.limits.map intD).length ≤ 9223372036854775807 → (x.objective.map intD).length ≤ 9223372036854775807 → (x.rows.map eIntS).length ≤ 9223372036854775807 → (x.limits.map intD).length ≤ 9223372036854775807 → Con Try.prog 28 [.one (.sl 3 1 (x.objective.map intD)), .one (.sl 3 1 (x.objective.map intD))] (vB true) [] ∧ Con Try.prog 19 [.one (.sl 34 1 (x.rows.map eIntS)), .one (.sl 34 1 (x.rows.map eIntS))] (vB true) [] ∧ Con Try.prog 28 [.one (.sl 3 1 (x.limits.map intD)), .one (.sl 3 1 (x.limits.map intD))] (vB true) [] ∧ (true) = true ∧ True)) ?_
  intro n0 n1 n2 n3 n4 n5
  simp only [List.length_map] at n0 n1 n2 n3 n4 n5
  refine ⟨by first | exact eq_IntS x.objective | exact eq_IntS _, ?_⟩
  refine ⟨by first | exact eq_IntSS x.rows | exact eq_IntSS _, ?_⟩
  refine ⟨by first | exact eq_IntS x.limits | exact eq_IntS _, ?_⟩
  refine ⟨?_, trivial⟩
  · rfl

set_option maxRecDepth 100000 in
set_option maxHeartbeats 4000000 in
theorem eq_Dictionary (x : DictionaryD) : Con Try.prog 56 [.agg [.sl 3 1 (x.basic.map intD), .sl 3 1 (x.others.map intD), .sl 66 1 (x.table.map eRationalS), .sl 25 2 (x.limits.map eRational), .sl 25 2 (x.costs.map eRational), .int .i64 x.value.num, .int .i64 x.value.den], .agg [.sl 3 1 (x.basic.map intD), .sl 3 1 (x.others.map intD), .sl 66 1 (x.table.map eRationalS), .sl 25 2 (x.limits.map eRational), .sl 25 2 (x.costs.map eRational), .int .i64 x.value.num, .int .i64 x.value.den]] (vB true) [] := by
  refine con_x tbOk mixedW Try.func56 (by kernel_rfl) (.call (vB true) [] <| .call (vB true) [] <| .call (vB true) [] <| .call (vB true) [] <| .call (vB true) [] <| .call (vB true) [] <| .fin []) ?_
  refine Eq.mpr (by kernel_rfl : _ = ((x.basic.map intD).length ≤ 9223372036854775807 → (x.others.map intD).length ≤ 9223372036854775807 → (x.table.map eRationalS).length ≤ 9223372036854775807 → (x.limits.map eRational).length ≤ 9223372036854775807 → (x.costs.map eRational).length ≤ 9223372036854775807 → (x.basic.map intD).length ≤ 9223372036854775807 → (x.others.map intD).length ≤ 9223372036854775807 → (x.table.map eRationalS).length ≤ 9223372036854775807 → (x.limits.map eRational).length ≤ 9223372036854775807 → (x.costs.map eRational).length ≤ 9223372036854775807 → Con Try.prog 28 [.one (.sl 3 1 (x.basic.map intD)), .one (.sl 3 1 (x.basic.map intD))] (vB true) [] ∧ Con Try.prog 28 [.one (.sl 3 1 (x.others.map intD)), .one (.sl 3 1 (x.others.map intD))] (vB true) [] ∧ Con Try.prog 134 [.one (.sl 66 1 (x.table.map eRationalS)), .one (.sl 66 1 (x.table.map eRationalS))] (vB true) [] ∧ Con Try.prog 123 [.one (.sl 25 2 (x.limits.map eRational)), .one (.sl 25 2 (x.limits.map eRational))] (vB true) [] ∧ Con Try.prog 123 [.one (.sl 25 2 (x.costs.map eRational)), .one (.sl 25 2 (x.costs.map eRational))] (vB true) [] ∧ Con Try.prog 122 [.agg [.int .i64 x.value.num, .int .i64 x.value.den], .agg [.int .i64 x.value.num, .int .i64 x.value.den]] (vB true) [] ∧ (true) = true ∧ True)) ?_
  intro n0 n1 n2 n3 n4 n5 n6 n7 n8 n9
  simp only [List.length_map] at n0 n1 n2 n3 n4 n5 n6 n7 n8 n9
  refine ⟨by first | exact eq_IntS x.basic | exact eq_IntS _, ?_⟩
  refine ⟨by first | exact eq_IntS x.others | exact eq_IntS _, ?_⟩
  refine ⟨by first | exact eq_RationalSS x.table | exact eq_RationalSS _, ?_⟩
  refine ⟨by first | exact eq_RationalS x.limits | exact eq_RationalS _, ?_⟩
  refine ⟨by first | exact eq_RationalS x.costs | exact eq_RationalS _, ?_⟩
  refine ⟨by first | exact eq_Rational x.value | exact eq_Rational _, ?_⟩
  refine ⟨?_, trivial⟩
  · rfl

set_option maxRecDepth 100000 in
set_option maxHeartbeats 4000000 in
theorem eq_Solution (x : SolutionD) : Con Try.prog 49 [.agg [.int .i64 x.value.num, .int .i64 x.value.den, .sl 25 2 (x.primal.map eRational), .sl 25 2 (x.dual.map eRational)], .agg [.int .i64 x.value.num, .int .i64 x.value.den, .sl 25 2 (x.primal.map eRational), .sl 25 2 (x.dual.map eRational)]] (vB true) [] := by
  refine con_x tbOk mixedW Try.func49 (by kernel_rfl) (.call (vB true) [] <| .call (vB true) [] <| .call (vB true) [] <| .fin []) ?_
  refine Eq.mpr (by kernel_rfl : _ = ((x.primal.map eRational).length ≤ 9223372036854775807 → (x.dual.map eRational).length ≤ 9223372036854775807 → (x.primal.map eRational).length ≤ 9223372036854775807 → (x.dual.map eRational).length ≤ 9223372036854775807 → Con Try.prog 122 [.agg [.int .i64 x.value.num, .int .i64 x.value.den], .agg [.int .i64 x.value.num, .int .i64 x.value.den]] (vB true) [] ∧ Con Try.prog 123 [.one (.sl 25 2 (x.primal.map eRational)), .one (.sl 25 2 (x.primal.map eRational))] (vB true) [] ∧ Con Try.prog 123 [.one (.sl 25 2 (x.dual.map eRational)), .one (.sl 25 2 (x.dual.map eRational))] (vB true) [] ∧ (true) = true ∧ True)) ?_
  intro n0 n1 n2 n3
  simp only [List.length_map] at n0 n1 n2 n3
  refine ⟨by first | exact eq_Rational x.value | exact eq_Rational _, ?_⟩
  refine ⟨by first | exact eq_RationalS x.primal | exact eq_RationalS _, ?_⟩
  refine ⟨by first | exact eq_RationalS x.dual | exact eq_RationalS _, ?_⟩
  refine ⟨?_, trivial⟩
  · rfl
end Go.Proofs.Ytcfilkhjababjaa
