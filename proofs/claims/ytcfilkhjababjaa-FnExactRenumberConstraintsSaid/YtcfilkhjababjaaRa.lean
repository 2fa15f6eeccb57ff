/-
  Constraints with new numbers, both sides.
-/
import Derived.Test.YtcfilkhjababjaaQa
namespace Go.Proofs.Ytcfilkhjababjaa
open Go.ChangeShapes Go.WideShapes Go.ChangeAt Go.RowKit
set_option linter.unusedVariables false
set_option linter.unusedSimpArgs false
def moveS (m : Int) (l : List Int) : Nat → Int
  | 0 => 0
  | k + 1 => if (k < 4 ∧ 0 ≤ l.getD k 0 ∧ l.getD k 0 ≤ 3) ∧ bitI .and .i64 (m / 2 ^ (l.getD k 0).toNat) 1 = 1 then bitI .or .i64 (moveS m l k) (1 * 2 ^ k) else moveS m l k
def moveM (m : Int) (l : List Int) : Int := moveS m l l.length
theorem moveS_yes {m : Int} {l : List Int} {k : Nat} {x : Int} (hx : l[k]? = some x) (h : (k < 4 ∧ 0 ≤ x ∧ x ≤ 3) ∧ bitI .and .i64 (m / 2 ^ x.toNat) 1 = 1) : moveS m l (k + 1) = bitI .or .i64 (moveS m l k) (1 * 2 ^ k) := by
  have e : l.getD k 0 = x := by simp [List.getD_eq_getElem?_getD, hx]
  rw [moveS, e, if_pos h]
theorem moveS_no {m : Int} {l : List Int} {k : Nat} {x : Int} (hx : l[k]? = some x) (h : ¬ ((k < 4 ∧ 0 ≤ x ∧ x ≤ 3) ∧ bitI .and .i64 (m / 2 ^ x.toNat) 1 = 1)) : moveS m l (k + 1) = moveS m l k := by
  have e : l.getD k 0 = x := by simp [List.getD_eq_getElem?_getD, hx]
  rw [moveS, e, if_neg h]
theorem moveS_four {m : Int} {l : List Int} {k : Nat} (h : 4 ≤ k) : moveS m l k = moveS m l 4 := by
  induction k with
  | zero => omega
  | succ k ih =>
    by_cases h4 : k + 1 = 4
    · rw [h4]
    · rw [moveS, if_neg (by omega), ih (by omega)]
def renC (l : List Int) (c : SizeConstraintD) : SizeConstraintD := ⟨moveM c.src l, moveM c.dst l, c.bits⟩

set_option maxRecDepth 100000 in
set_option maxHeartbeats 4000000 in
theorem mv_impl (m : Int) (l : List Int) : Con Try.prog 98 [.one (.int .i64 m), .ref [.sl 3 1 (l.map intD)]] (vI (moveM m l)) [] := by
  refine con_x tbOk mixedW Try.func98 (by kernel_rfl) (.len l.length <| .loop (Nat × Int) (Q2 Nat Int) [4, 5, 6, 9, 10, 11, 12, 13, 14, 15, 16, 17, 18, 19, 20, 21, 22, 23, 24, 25, 26, 27, 28, 29, 30, 31] [] (fun yy0 => [(4, vI yy0.2), (9, vI (yy0.1 : Int))]) (fun yy0 => []) (fun yy0 => yy0.1 ≤ l.length ∧ yy0.2 = moveS m l yy0.1) (fun yy0 => l.length - yy0.1) (fun yy0 => .br (.elem Int intD l (fun e12 => .br (.call (vB (decide ((0 : Int) ≤ e12 ∧ e12 ≤ (3 : Int)))) [] <| .lit <| .br (.lit <| .lit <| .lit <| .lit <| .lit <| .br (.back []) (.back [])) (.back [])) (.back []))) (.fin []))) ?_
  refine Eq.mpr (by kernel_rfl : _ = ((l.map intD).length ≤ 9223372036854775807 → (l.map intD).length = l.length ∧ ((∃ (k : Nat) (o : Int), (0 : Int) = o ∧ (0 : Int) = (k : Int) ∧ k ≤ l.length ∧ o = moveS m l k) ∧ ∀ (k : Nat) (o : Int), (k ≤ l.length ∧ o = moveS m l k) → ((decide ((k : Int) < ((l.length : Nat) : Int))) = true → 0 ≤ (k : Int) ∧ (l.map intD = l.map intD ∧ k < l.length ∧ ∀ e12, l[k]? = some e12 → ((decide ((k : Int) < (4 : Int))) = true → (Con Try.prog 93 [.one (.int .i64 e12), .one (.int .i64 (0 : Int)), .one (.int .i64 (3 : Int))] (vB (decide ((0 : Int) ≤ e12 ∧ e12 ≤ (3 : Int)))) []) ∧ (((decide ((0 : Int) ≤ e12 ∧ e12 ≤ (3 : Int))) = true → (0 ≤ e12 ∧ e12 ≤ 64) ∧ (((decide ((bitI .and .i64 (m / 2 ^ (Int.toNat e12)) (1 : Int)) = (1 : Int))) = true → (0 ≤ (k : Int) ∧ (k : Int) ≤ 64) ∧ inR ((1 : Int) * 2 ^ k) ∧ inR ((k : Int) + (1 : Int)) ∧ ∃ (k' : Nat) (o' : Int), (bitI .or .i64 o ((1 : Int) * 2 ^ k)) = o' ∧ ((k : Int) + (1 : Int)) = (k' : Int) ∧ (k' ≤ l.length ∧ o' = moveS m l k') ∧ l.length - k' < l.length - k) ∧ ((decide ((bitI .and .i64 (m / 2 ^ (Int.toNat e12)) (1 : Int)) = (1 : Int))) = false → inR ((k : Int) + (1 : Int)) ∧ ∃ (k' : Nat) (o' : Int), o = o' ∧ ((k : Int) + (1 : Int)) = (k' : Int) ∧ (k' ≤ l.length ∧ o' = moveS m l k') ∧ l.length - k' < l.length - k))) ∧ ((decide ((0 : Int) ≤ e12 ∧ e12 ≤ (3 : Int))) = false → inR ((k : Int) + (1 : Int)) ∧ ∃ (k' : Nat) (o' : Int), o = o' ∧ ((k : Int) + (1 : Int)) = (k' : Int) ∧ (k' ≤ l.length ∧ o' = moveS m l k') ∧ l.length - k' < l.length - k))) ∧ ((decide ((k : Int) < (4 : Int))) = false → inR ((k : Int) + (1 : Int)) ∧ ∃ (k' : Nat) (o' : Int), o = o' ∧ ((k : Int) + (1 : Int)) = (k' : Int) ∧ (k' ≤ l.length ∧ o' = moveS m l k') ∧ l.length - k' < l.length - k))) ∧ ((decide ((k : Int) < ((l.length : Nat) : Int))) = false → o = (moveM m l) ∧ True)))) ?_
  intro n0
  simp only [List.length_map] at n0
  refine ⟨List.length_map _, ?_⟩
  refine ⟨⟨0, (0 : Int), rfl, rfl, Nat.zero_le _, rfl⟩, fun k o ⟨hk, hv⟩ => ?_⟩
  refine ⟨fun c0 => ?_, fun c0 => ?_⟩
  · replace c0 := of_decide_eq_true c0
    refine ⟨by omega, ?_⟩
    refine ⟨rfl, by omega, fun e12 h12 => ?_⟩
    have hk2 := h12
    refine ⟨fun g16 => ?_, fun g16 => ?_⟩
    · replace g16 := of_decide_eq_true g16
      refine ⟨in_impl _ _ _, ?_⟩
      refine ⟨fun g20 => ?_, fun g20 => ?_⟩
      · replace g20 := of_decide_eq_true g20
        refine ⟨⟨by omega, by omega⟩, ?_⟩
        refine ⟨fun c1 => ?_, fun c1 => ?_⟩
        · replace c1 := of_decide_eq_true c1
          refine ⟨⟨by omega, by omega⟩, ?_⟩
          refine ⟨by first | exact two_small (by omega) | exact ⟨by omega, by omega⟩, ?_⟩
          refine ⟨by first | exact two_small (by omega) | exact ⟨by omega, by omega⟩, ?_⟩
          exact ⟨k + 1, bitI .or .i64 o ((1 : Int) * 2 ^ k), rfl, rfl, ⟨by omega, by first | (rw [moveS_yes hk2 (by refine ⟨⟨by omega, by omega, by omega⟩, by assumption⟩), hv]; done) | (rw [moveS_no hk2 (by rintro ⟨⟨_, _, _⟩, _⟩; first | omega | contradiction), hv]; done)⟩, by omega⟩
        · replace c1 := of_decide_eq_false c1
          refine ⟨by first | exact two_small (by omega) | exact ⟨by omega, by omega⟩, ?_⟩
          exact ⟨k + 1, o, rfl, rfl, ⟨by omega, by first | (rw [moveS_yes hk2 (by refine ⟨⟨by omega, by omega, by omega⟩, by assumption⟩), hv]; done) | (rw [moveS_no hk2 (by rintro ⟨⟨_, _, _⟩, _⟩; first | omega | contradiction), hv]; done)⟩, by omega⟩
      · replace g20 := of_decide_eq_false g20
        refine ⟨by first | exact two_small (by omega) | exact ⟨by omega, by omega⟩, ?_⟩
        exact ⟨k + 1, o, rfl, rfl, ⟨by omega, by first | (rw [moveS_yes hk2 (by refine ⟨⟨by omega, by omega, by omega⟩, by assumption⟩), hv]; done) | (rw [moveS_no hk2 (by rintro ⟨⟨_, _, _⟩, _⟩; first | omega | contradiction), hv]; done)⟩, by omega⟩
    · replace g16 := of_decide_eq_false g16
      refine ⟨by first | exact two_small (by omega) | exact ⟨by omega, by omega⟩, ?_⟩
      exact ⟨k + 1, o, rfl, rfl, ⟨by omega, by first | (rw [moveS_yes hk2 (by refine ⟨⟨by omega, by omega, by omega⟩, by assumption⟩), hv]; done) | (rw [moveS_no hk2 (by rintro ⟨⟨_, _, _⟩, _⟩; first | omega | contradiction), hv]; done)⟩, by omega⟩
  · replace c0 := of_decide_eq_false c0
    refine ⟨?_, trivial⟩
    · rw [hv, moveM, show k = l.length by omega]

set_option maxRecDepth 100000 in
set_option maxHeartbeats 4000000 in
theorem mv_spec (m : Int) (l : List Int) : Con Try.prog 96 [.one (.int .i64 m), .one (.sl 3 1 (l.map intD))] (vI (moveM m l)) [] := by
  refine con_x tbOk mixedW Try.func96 (by kernel_rfl) (.loop (Nat × Int) (Q2 Nat Int) [5, 6, 7, 8, 9, 10, 11, 12, 13, 14, 15, 16, 17, 18, 19, 20, 21, 22, 23, 24, 25, 26, 27, 28, 29, 30, 31, 32, 33, 34, 35] [] (fun yy0 => [(5, vI yy0.2), (6, vI (yy0.1 : Int))]) (fun yy0 => []) (fun yy0 => (yy0.1 ≤ l.length ∧ yy0.1 ≤ 4) ∧ yy0.2 = moveS m l yy0.1) (fun yy0 => l.length - yy0.1) (fun yy0 => .len l.length <| .br (.lit <| .lit <| .br (.elem Int intD l (fun e19 => .call (vB (decide ((0 : Int) ≤ e19 ∧ e19 ≤ (3 : Int)))) [] <| .br (.elem Int intD l (fun e26 => .lit <| .lit <| .lit <| .lit <| .lit <| .br (.back []) (.back []))) (.back []))) (.fin [])) (.fin []))) ?_
  refine Eq.mpr (by kernel_rfl : _ = ((l.map intD).length ≤ 9223372036854775807 → (∃ (k : Nat) (o : Int), (0 : Int) = o ∧ (0 : Int) = (k : Int) ∧ (k ≤ l.length ∧ k ≤ 4) ∧ o = moveS m l k) ∧ ∀ (k : Nat) (o : Int), ((k ≤ l.length ∧ k ≤ 4) ∧ o = moveS m l k) → (l.map intD).length = l.length ∧ (((decide ((k : Int) < ((l.length : Nat) : Int))) = true → ((decide ((k : Int) < (4 : Int))) = true → 0 ≤ (k : Int) ∧ (l.map intD = l.map intD ∧ k < l.length ∧ ∀ e19, l[k]? = some e19 → (Con Try.prog 91 [.one (.int .i64 e19), .one (.int .i64 (0 : Int)), .one (.int .i64 (3 : Int))] (vB (decide ((0 : Int) ≤ e19 ∧ e19 ≤ (3 : Int)))) []) ∧ (((decide ((0 : Int) ≤ e19 ∧ e19 ≤ (3 : Int))) = true → 0 ≤ (k : Int) ∧ (l.map intD = l.map intD ∧ k < l.length ∧ ∀ e26, l[k]? = some e26 → (0 ≤ e26 ∧ e26 ≤ 64) ∧ (((decide ((bitI .and .i64 (m / 2 ^ (Int.toNat e26)) (1 : Int)) = (1 : Int))) = true → (0 ≤ (k : Int) ∧ (k : Int) ≤ 64) ∧ inR ((1 : Int) * 2 ^ k) ∧ inR ((k : Int) + (1 : Int)) ∧ ∃ (k' : Nat) (o' : Int), (bitI .or .i64 o ((1 : Int) * 2 ^ k)) = o' ∧ ((k : Int) + (1 : Int)) = (k' : Int) ∧ ((k' ≤ l.length ∧ k' ≤ 4) ∧ o' = moveS m l k') ∧ l.length - k' < l.length - k) ∧ ((decide ((bitI .and .i64 (m / 2 ^ (Int.toNat e26)) (1 : Int)) = (1 : Int))) = false → inR ((k : Int) + (1 : Int)) ∧ ∃ (k' : Nat) (o' : Int), o = o' ∧ ((k : Int) + (1 : Int)) = (k' : Int) ∧ ((k' ≤ l.length ∧ k' ≤ 4) ∧ o' = moveS m l k') ∧ l.length - k' < l.length - k)))) ∧ ((decide ((0 : Int) ≤ e19 ∧ e19 ≤ (3 : Int))) = false → inR ((k : Int) + (1 : Int)) ∧ ∃ (k' : Nat) (o' : Int), o = o' ∧ ((k : Int) + (1 : Int)) = (k' : Int) ∧ ((k' ≤ l.length ∧ k' ≤ 4) ∧ o' = moveS m l k') ∧ l.length - k' < l.length - k)))) ∧ ((decide ((k : Int) < (4 : Int))) = false → o = (moveM m l) ∧ True)) ∧ ((decide ((k : Int) < ((l.length : Nat) : Int))) = false → o = (moveM m l) ∧ True)))) ?_
  intro n0
  simp only [List.length_map] at n0
  refine ⟨⟨0, (0 : Int), rfl, rfl, ⟨Nat.zero_le _, by omega⟩, rfl⟩, fun k o ⟨hk, hv⟩ => ?_⟩
  refine ⟨List.length_map _, ?_⟩
  refine ⟨fun g11 => ?_, fun g11 => ?_⟩
  · replace g11 := of_decide_eq_true g11
    refine ⟨fun c0 => ?_, fun c0 => ?_⟩
    · replace c0 := of_decide_eq_true c0
      refine ⟨by omega, ?_⟩
      refine ⟨rfl, by omega, fun e19 h19 => ?_⟩
      have hk2 := h19
      refine ⟨in_spec _ _ _, ?_⟩
      refine ⟨fun g22 => ?_, fun g22 => ?_⟩
      · replace g22 := of_decide_eq_true g22
        refine ⟨by omega, ?_⟩
        refine ⟨rfl, by omega, fun e26 h26 => ?_⟩
        obtain rfl := (same_at hk2 h26).symm
        refine ⟨⟨by omega, by omega⟩, ?_⟩
        refine ⟨fun c1 => ?_, fun c1 => ?_⟩
        · replace c1 := of_decide_eq_true c1
          refine ⟨⟨by omega, by omega⟩, ?_⟩
          refine ⟨by first | exact two_small (by omega) | exact ⟨by omega, by omega⟩, ?_⟩
          refine ⟨by first | exact two_small (by omega) | exact ⟨by omega, by omega⟩, ?_⟩
          exact ⟨k + 1, bitI .or .i64 o ((1 : Int) * 2 ^ k), rfl, rfl, ⟨by omega, by first | (rw [moveS_yes hk2 (by refine ⟨⟨by omega, by omega, by omega⟩, by assumption⟩), hv]; done) | (rw [moveS_no hk2 (by rintro ⟨⟨_, _, _⟩, _⟩; first | omega | contradiction), hv]; done)⟩, by omega⟩
        · replace c1 := of_decide_eq_false c1
          refine ⟨by first | exact two_small (by omega) | exact ⟨by omega, by omega⟩, ?_⟩
          exact ⟨k + 1, o, rfl, rfl, ⟨by omega, by first | (rw [moveS_yes hk2 (by refine ⟨⟨by omega, by omega, by omega⟩, by assumption⟩), hv]; done) | (rw [moveS_no hk2 (by rintro ⟨⟨_, _, _⟩, _⟩; first | omega | contradiction), hv]; done)⟩, by omega⟩
      · replace g22 := of_decide_eq_false g22
        refine ⟨by first | exact two_small (by omega) | exact ⟨by omega, by omega⟩, ?_⟩
        exact ⟨k + 1, o, rfl, rfl, ⟨by omega, by first | (rw [moveS_yes hk2 (by refine ⟨⟨by omega, by omega, by omega⟩, by assumption⟩), hv]; done) | (rw [moveS_no hk2 (by rintro ⟨⟨_, _, _⟩, _⟩; first | omega | contradiction), hv]; done)⟩, by omega⟩
    · replace c0 := of_decide_eq_false c0
      refine ⟨?_, trivial⟩
      · first | (rw [hv, moveM, show k = l.length by omega]; done) | (rw [hv, moveM, moveS_four (k := l.length) (by omega), show k = 4 by omega]; done)
  · replace g11 := of_decide_eq_false g11
    refine ⟨?_, trivial⟩
    · first | (rw [hv, moveM, show k = l.length by omega]; done) | (rw [hv, moveM, moveS_four (k := l.length) (by omega), show k = 4 by omega]; done)

set_option maxRecDepth 100000 in
set_option maxHeartbeats 4000000 in
theorem ren_impl (l : List SizeConstraintD) (v : List Int) (hl : l.length ≤ 1048576) : Con Try.prog 26 [.one (.sl 111 3 (l.map eSizeConstraint)), .one (.sl 3 1 (v.map intD))] (.own 0) [(0, .arr 111 3 true ((l.map (renC v)).map eSizeConstraint))] := by
  refine con_x tbOk mixedW Try.func26 (by kernel_rfl) (.len l.length <| .loop (Nat × (List SizeConstraintD)) (Q2 Nat (List SizeConstraintD)) [6, 8, 10, 13, 14, 15, 16, 17, 18, 19, 20, 21, 22, 23, 24, 25, 26, 27, 28, 29, 30, 31] [800, 1000, 2900, 3000] (fun yy0 => [(6, .own 1000), (13, vI (yy0.1 : Int))]) (fun yy0 => [(1000, some (.arr 111 3 true (yy0.2.map eSizeConstraint)))]) (fun yy0 => yy0.1 ≤ l.length ∧ yy0.2 = (l.take yy0.1).map (renC v)) (fun yy0 => l.length - yy0.1) (fun yy0 => .br (.elem SizeConstraintD eSizeConstraint l (fun e15 => .call (vI (moveM e15.src v)) [] <| .call (vI (moveM e15.dst v)) [] <| .app SizeConstraintD eSizeConstraint yy0.2 ([(⟨moveM e15.src v, moveM e15.dst v, e15.bits⟩ : SizeConstraintD)] : List SizeConstraintD) <| .back [(1000, 3000)])) (.fin [(0, 1000)]))) ?_
  refine Eq.mpr (by kernel_rfl : _ = ((l.map eSizeConstraint).length ≤ 9223372036854775807 → (v.map intD).length ≤ 9223372036854775807 → (l.map eSizeConstraint).length = l.length ∧ ((∃ (k : Nat) (out : List SizeConstraintD), (0 : Int) = (k : Int) ∧ [] = out.map eSizeConstraint ∧ k ≤ l.length ∧ out = (l.take k).map (renC v)) ∧ ∀ (k : Nat) (out : List SizeConstraintD), (k ≤ l.length ∧ out = (l.take k).map (renC v)) → ((decide ((k : Int) < ((l.length : Nat) : Int))) = true → 0 ≤ (k : Int) ∧ (l.map eSizeConstraint = l.map eSizeConstraint ∧ k < l.length ∧ ∀ e15, l[k]? = some e15 → Con Try.prog 98 [.one (.int .i64 e15.src), .ref [.sl 3 1 (v.map intD)]] (vI (moveM e15.src v)) [] ∧ Con Try.prog 98 [.one (.int .i64 e15.dst), .ref [.sl 3 1 (v.map intD)]] (vI (moveM e15.dst v)) [] ∧ out.map eSizeConstraint = out.map eSizeConstraint ∧ [[.int .i64 (moveM e15.src v), .int .i64 (moveM e15.dst v), .int .i64 e15.bits]] = ([(⟨moveM e15.src v, moveM e15.dst v, e15.bits⟩ : SizeConstraintD)] : List SizeConstraintD).map eSizeConstraint ∧ (∀ x, flatB (eSizeConstraint x) = true) ∧ (out.length + ([(⟨moveM e15.src v, moveM e15.dst v, e15.bits⟩ : SizeConstraintD)] : List SizeConstraintD).length) * 24 ≤ 140737488355328 ∧ inR ((k : Int) + (1 : Int)) ∧ ∃ (k' : Nat) (out' : List SizeConstraintD), ((k : Int) + (1 : Int)) = (k' : Int) ∧ (out ++ [(⟨moveM e15.src v, moveM e15.dst v, e15.bits⟩ : SizeConstraintD)]).map eSizeConstraint = out'.map eSizeConstraint ∧ (k' ≤ l.length ∧ out' = (l.take k').map (renC v)) ∧ l.length - k' < l.length - k)) ∧ ((decide ((k : Int) < ((l.length : Nat) : Int))) = false → out.map eSizeConstraint = (l.map (renC v)).map eSizeConstraint ∧ True)))) ?_
  intro n0 n1
  simp only [List.length_map] at n0 n1
  refine ⟨List.length_map _, ?_⟩
  refine ⟨⟨0, ([] : List SizeConstraintD), rfl, rfl, Nat.zero_le _, rfl⟩, fun k out ⟨hk, ho⟩ => ?_⟩
  refine ⟨fun c0 => ?_, fun c0 => ?_⟩
  · replace c0 := of_decide_eq_true c0
    refine ⟨by omega, ?_⟩
    refine ⟨rfl, by omega, fun e15 h15 => ?_⟩
    have hk2 := h15
    refine ⟨mv_impl _ _, ?_⟩
    refine ⟨mv_impl _ _, ?_⟩
    refine ⟨rfl, rfl, fun _ => rfl, by simp [ho]; omega, ?_⟩
    refine ⟨⟨by omega, by omega⟩, ?_⟩
    exact ⟨k + 1, _, rfl, rfl, ⟨by omega, by rw [ho, take_snoc hk2, List.map_append]; rfl⟩, by omega⟩
  · replace c0 := of_decide_eq_false c0
    refine ⟨?_, trivial⟩
    · rw [ho, List.take_of_length_le (by omega)]

set_option maxRecDepth 100000 in
set_option maxHeartbeats 4000000 in
theorem ren_spec (l : List SizeConstraintD) (v : List Int) (hl : l.length ≤ 1048576) : Con Try.prog 23 [.one (.sl 111 3 (l.map eSizeConstraint)), .one (.sl 3 1 (v.map intD))] (.own 0) [(0, .arr 111 3 true ((l.map (renC v)).map eSizeConstraint))] := by
  refine con_x tbOk mixedW Try.func23 (by kernel_rfl) (.loop (Nat × (List SizeConstraintD)) (Q2 Nat (List SizeConstraintD)) [5, 6, 7, 8, 9, 10, 11, 12, 13, 14, 15, 16, 17, 18, 19, 20, 21, 22, 23, 24, 25, 26, 27, 28, 29, 30, 31, 32, 33, 34, 35, 36] [700, 3500, 3600] (fun yy0 => [(5, .own 700), (6, vI (yy0.1 : Int))]) (fun yy0 => [(700, some (.arr 111 3 true (yy0.2.map eSizeConstraint)))]) (fun yy0 => yy0.1 ≤ l.length ∧ yy0.2 = (l.take yy0.1).map (renC v)) (fun yy0 => l.length - yy0.1) (fun yy0 => .len l.length <| .br (.elem SizeConstraintD eSizeConstraint l (fun e17 => .call (vI (moveM e17.src v)) [] <| .elem SizeConstraintD eSizeConstraint l (fun e24 => .call (vI (moveM e24.dst v)) [] <| .elem SizeConstraintD eSizeConstraint l (fun e31 => .app SizeConstraintD eSizeConstraint yy0.2 ([(⟨moveM e17.src v, moveM e24.dst v, e31.bits⟩ : SizeConstraintD)] : List SizeConstraintD) <| .back [(700, 3600)])))) (.fin [(0, 700)]))) ?_
  refine Eq.mpr (by kernel_rfl : _ = ((l.map eSizeConstraint).length ≤ 9223372036854775807 → (v.map intD).length ≤ 9223372036854775807 → (∃ (k : Nat) (out : List SizeConstraintD), (0 : Int) = (k : Int) ∧ [] = out.map eSizeConstraint ∧ k ≤ l.length ∧ out = (l.take k).map (renC v)) ∧ ∀ (k : Nat) (out : List SizeConstraintD), (k ≤ l.length ∧ out = (l.take k).map (renC v)) → (l.map eSizeConstraint).length = l.length ∧ (((decide ((k : Int) < ((l.length : Nat) : Int))) = true → 0 ≤ (k : Int) ∧ (l.map eSizeConstraint = l.map eSizeConstraint ∧ k < l.length ∧ ∀ e17, l[k]? = some e17 → Con Try.prog 96 [.one (.int .i64 e17.src), .one (.sl 3 1 (v.map intD))] (vI (moveM e17.src v)) [] ∧ (0 ≤ (k : Int) ∧ (l.map eSizeConstraint = l.map eSizeConstraint ∧ k < l.length ∧ ∀ e24, l[k]? = some e24 → Con Try.prog 96 [.one (.int .i64 e24.dst), .one (.sl 3 1 (v.map intD))] (vI (moveM e24.dst v)) [] ∧ (0 ≤ (k : Int) ∧ (l.map eSizeConstraint = l.map eSizeConstraint ∧ k < l.length ∧ ∀ e31, l[k]? = some e31 → out.map eSizeConstraint = out.map eSizeConstraint ∧ [[.int .i64 (moveM e17.src v), .int .i64 (moveM e24.dst v), .int .i64 e31.bits]] = ([(⟨moveM e17.src v, moveM e24.dst v, e31.bits⟩ : SizeConstraintD)] : List SizeConstraintD).map eSizeConstraint ∧ (∀ x, flatB (eSizeConstraint x) = true) ∧ (out.length + ([(⟨moveM e17.src v, moveM e24.dst v, e31.bits⟩ : SizeConstraintD)] : List SizeConstraintD).length) * 24 ≤ 140737488355328 ∧ inR ((k : Int) + (1 : Int)) ∧ ∃ (k' : Nat) (out' : List SizeConstraintD), ((k : Int) + (1 : Int)) = (k' : Int) ∧ (out ++ [(⟨moveM e17.src v, moveM e24.dst v, e31.bits⟩ : SizeConstraintD)]).map eSizeConstraint = out'.map eSizeConstraint ∧ (k' ≤ l.length ∧ out' = (l.take k').map (renC v)) ∧ l.length - k' < l.length - k)))))) ∧ ((decide ((k : Int) < ((l.length : Nat) : Int))) = false → out.map eSizeConstraint = (l.map (renC v)).map eSizeConstraint ∧ True)))) ?_
  intro n0 n1
  simp only [List.length_map] at n0 n1
  refine ⟨⟨0, ([] : List SizeConstraintD), rfl, rfl, Nat.zero_le _, rfl⟩, fun k out ⟨hk, ho⟩ => ?_⟩
  refine ⟨List.length_map _, ?_⟩
  refine ⟨fun c0 => ?_, fun c0 => ?_⟩
  · replace c0 := of_decide_eq_true c0
    refine ⟨by omega, ?_⟩
    refine ⟨rfl, by omega, fun e17 h17 => ?_⟩
    have hk2 := h17
    refine ⟨mv_spec _ _, ?_⟩
    refine ⟨by omega, ?_⟩
    refine ⟨rfl, by omega, fun e24 h24 => ?_⟩
    obtain rfl := (same_at hk2 h24).symm
    refine ⟨mv_spec _ _, ?_⟩
    refine ⟨by omega, ?_⟩
    refine ⟨rfl, by omega, fun e31 h31 => ?_⟩
    obtain rfl := (same_at hk2 h31).symm
    refine ⟨rfl, rfl, fun _ => rfl, by simp [ho]; omega, ?_⟩
    refine ⟨⟨by omega, by omega⟩, ?_⟩
    exact ⟨k + 1, _, rfl, rfl, ⟨by omega, by rw [ho, take_snoc hk2, List.map_append]; rfl⟩, by omega⟩
  · replace c0 := of_decide_eq_false c0
    refine ⟨?_, trivial⟩
    · rw [ho, List.take_of_length_le (by omega)]
end Go.Proofs.Ytcfilkhjababjaa
