/-
  Marks are held: the laws' helpers.
-/
import Derived.Test.YtcfilkhjababjaaDm
namespace Go.Proofs.Ytcfilkhjababjaa
open Go.ChangeShapes Go.WideShapes Go.ChangeAt Go.RowKit
set_option linter.unusedVariables false
set_option linter.unusedSimpArgs false
set_option maxRecDepth 100000 in
set_option maxHeartbeats 4000000 in
theorem hd_IntS (x : List Int) (m : Int) (h0 : 0 ≤ m) (hm : m + 5 * ((cIntS x : Nat) : Int) ≤ 4611686018427387904) : Con Try.prog 95 [.one (.sl 3 1 ((mIntS m x).map intD)), .one (.int .i64 m)] (vI (m + ((sIntS x : Nat) : Int))) [] := by
  refine con_x tbOk mixedW Try.func95 (by kernel_rfl) (.loop (Nat × Int) (Q2 Nat Int) [1, 5, 6, 7, 8, 9, 10, 11, 12, 13, 14, 15, 16, 17, 18, 19] [] (fun yy0 => [(5, vI (yy0.1 : Int)), (1, vI yy0.2)]) (fun yy0 => []) (fun yy0 => yy0.1 ≤ x.length ∧ yy0.2 = m + ((sumL sInt (x.take yy0.1) : Nat) : Int)) (fun yy0 => x.length - yy0.1) (fun yy0 => .len ((mIntS m x).length) <| .br (.elem Int intD (mIntS m x) (fun e14 => .no <| .back [])) (.fin []))) ?_
  refine Eq.mpr (by kernel_rfl : _ = (((mIntS m x).map intD).length ≤ 9223372036854775807 → (∃ (k : Nat) (z : Int), (0 : Int) = (k : Int) ∧ m = z ∧ k ≤ x.length ∧ z = m + ((sumL sInt (x.take k) : Nat) : Int)) ∧ ∀ (k : Nat) (z : Int), (k ≤ x.length ∧ z = m + ((sumL sInt (x.take k) : Nat) : Int)) → ((mIntS m x).map intD).length = (mIntS m x).length ∧ (((decide ((k : Int) < (((mIntS m x).length : Nat) : Int))) = true → 0 ≤ (k : Int) ∧ ((mIntS m x).map intD = (mIntS m x).map intD ∧ k < (mIntS m x).length ∧ ∀ e14, (mIntS m x)[k]? = some e14 → (!(decide (e14 = z))) = false ∧ inR (z + (1 : Int)) ∧ inR ((k : Int) + (1 : Int)) ∧ ∃ (k' : Nat) (z' : Int), ((k : Int) + (1 : Int)) = (k' : Int) ∧ (z + (1 : Int)) = z' ∧ (k' ≤ x.length ∧ z' = m + ((sumL sInt (x.take k') : Nat) : Int)) ∧ x.length - k' < x.length - k)) ∧ ((decide ((k : Int) < (((mIntS m x).length : Nat) : Int))) = false → z = (m + ((sIntS x : Nat) : Int)) ∧ True)))) ?_
  intro n0
  simp only [List.length_map] at n0
  have hS : sIntS x = sumL sInt x := rfl
  have hC : cIntS x = x.length := rfl
  have hlen : (mIntS m x).length = x.length := markL_len _ _ _ _
  refine ⟨⟨0, m, rfl, rfl, Nat.zero_le _, by simp [sumL]⟩, fun k z ⟨hk, hz⟩ => ?_⟩
  refine ⟨List.length_map _, ?_⟩
  refine ⟨fun c0 => ?_, fun c0 => ?_⟩
  · replace c0 := of_decide_eq_true c0
    obtain ⟨y, hy⟩ := at_some (l := x) (k := k) (by omega)
    have hY : (mIntS m x)[k]? = some (mInt z y) := by rw [hz]; exact markL_at _ _ x m k y hy
    have hs := sumL_snoc sInt hy
    have hle := sumL_le sInt x (k + 1)
    have hA : sumL sInt (x.take k) ≤ 5 * k := pre4 (fun _ => by simp [sInt]) x k hk
    have hle5 := sIntS_le x
    have hE : sInt y = 1 := rfl
    refine ⟨by omega, ?_⟩
    refine ⟨rfl, by omega, fun e14 h14 => ?_⟩
    obtain rfl := (same_at hY h14).symm
    refine ⟨by simp [mInt], ?_⟩
    refine ⟨⟨by omega, by omega⟩, ?_⟩
    refine ⟨⟨by omega, by omega⟩, ?_⟩
    exact ⟨k + 1, _, rfl, rfl, ⟨by omega, by rw [hs]; (try dsimp only); omega⟩, by omega⟩
  · replace c0 := of_decide_eq_false c0
    have hkx : k = x.length := by omega
    rw [hkx, List.take_length] at hz
    refine ⟨?_, trivial⟩
    · rw [hz]; rfl

set_option maxRecDepth 100000 in
set_option maxHeartbeats 4000000 in
theorem hd_IntSS (x : List (List Int)) (m : Int) (h0 : 0 ≤ m) (hm : m + 5 * ((cIntSS x : Nat) : Int) ≤ 4611686018427387904) : Con Try.prog 21 [.one (.sl 34 1 ((mIntSS m x).map eIntS)), .one (.int .i64 m)] (vI (m + ((sIntSS x : Nat) : Int))) [] := by
  refine con_x tbOk mixedW Try.func21 (by kernel_rfl) (.loop (Nat × Int) (Q2 Nat Int) [1, 5, 6, 7, 8, 9, 10, 11, 12, 13, 14, 15, 16, 17, 18, 19] [] (fun yy0 => [(5, vI (yy0.1 : Int)), (1, vI yy0.2)]) (fun yy0 => []) (fun yy0 => yy0.1 ≤ x.length ∧ yy0.2 = m + ((sumL sIntS (x.take yy0.1) : Nat) : Int)) (fun yy0 => x.length - yy0.1) (fun yy0 => .len ((mIntSS m x).length) <| .br (.elem (List Int) eIntS (mIntSS m x) (fun e14 => .call (vI (yy0.2 + ((sIntS (x.getD yy0.1 ([] : List Int)) : Nat) : Int))) [] <| .no <| .back [])) (.fin []))) ?_
  refine Eq.mpr (by kernel_rfl : _ = (((mIntSS m x).map eIntS).length ≤ 9223372036854775807 → (∃ (k : Nat) (z : Int), (0 : Int) = (k : Int) ∧ m = z ∧ k ≤ x.length ∧ z = m + ((sumL sIntS (x.take k) : Nat) : Int)) ∧ ∀ (k : Nat) (z : Int), (k ≤ x.length ∧ z = m + ((sumL sIntS (x.take k) : Nat) : Int)) → ((mIntSS m x).map eIntS).length = (mIntSS m x).length ∧ (((decide ((k : Int) < (((mIntSS m x).length : Nat) : Int))) = true → 0 ≤ (k : Int) ∧ ((mIntSS m x).map eIntS = (mIntSS m x).map eIntS ∧ k < (mIntSS m x).length ∧ ∀ e14, (mIntSS m x)[k]? = some e14 → Con Try.prog 95 [.one (.sl 3 1 (e14.map intD)), .one (.int .i64 z)] (vI (z + ((sIntS (x.getD k ([] : List Int)) : Nat) : Int))) [] ∧ (decide ((z + ((sIntS (x.getD k ([] : List Int)) : Nat) : Int)) < (0 : Int))) = false ∧ inR ((k : Int) + (1 : Int)) ∧ ∃ (k' : Nat) (z' : Int), ((k : Int) + (1 : Int)) = (k' : Int) ∧ (z + ((sIntS (x.getD k ([] : List Int)) : Nat) : Int)) = z' ∧ (k' ≤ x.length ∧ z' = m + ((sumL sIntS (x.take k') : Nat) : Int)) ∧ x.length - k' < x.length - k)) ∧ ((decide ((k : Int) < (((mIntSS m x).length : Nat) : Int))) = false → z = (m + ((sIntSS x : Nat) : Int)) ∧ True)))) ?_
  intro n0
  simp only [List.length_map] at n0
  have hS : sIntSS x = sumL sIntS x := rfl
  have hC : cIntSS x = x.length + sumL cIntS x := rfl
  have hlen : (mIntSS m x).length = x.length := markL_len _ _ _ _
  refine ⟨⟨0, m, rfl, rfl, Nat.zero_le _, by simp [sumL]⟩, fun k z ⟨hk, hz⟩ => ?_⟩
  refine ⟨List.length_map _, ?_⟩
  refine ⟨fun c0 => ?_, fun c0 => ?_⟩
  · replace c0 := of_decide_eq_true c0
    obtain ⟨y, hy⟩ := at_some (l := x) (k := k) (by omega)
    have hY : (mIntSS m x)[k]? = some (mIntS z y) := by rw [hz]; exact markL_at _ _ x m k y hy
    have hs := sumL_snoc sIntS hy
    have hle := sumL_le sIntS x (k + 1)
    have hA : sumL sIntS (x.take k) ≤ 5 * (k + sumL cIntS (x.take k)) := pre5 (s := sIntS) (c := cIntS) (fun y => by have := sIntS_le y; omega) x k hk
    have hB := sumL_snoc cIntS hy
    have hD := sumL_le cIntS x (k + 1)
    have hle5 := sIntSS_le x
    have hy5 := sIntS_le y
    have hg : x.getD k ([] : List Int) = y := by simp [List.getD_eq_getElem?_getD, hy]
    try rw [hg]
    refine ⟨by omega, ?_⟩
    refine ⟨rfl, by omega, fun e14 h14 => ?_⟩
    obtain rfl := (same_at hY h14).symm
    refine ⟨hd_IntS _ _ (by omega) (by first | omega | (dsimp only; omega)), ?_⟩
    refine ⟨by simp; omega, ?_⟩
    refine ⟨⟨by omega, by omega⟩, ?_⟩
    exact ⟨k + 1, _, rfl, rfl, ⟨by omega, by rw [hs, hz]; omega⟩, by omega⟩
  · replace c0 := of_decide_eq_false c0
    have hkx : k = x.length := by omega
    rw [hkx, List.take_length] at hz
    refine ⟨?_, trivial⟩
    · rw [hz]; rfl

set_option maxRecDepth 100000 in
set_option maxHeartbeats 4000000 in
theorem hd_RationalS (x : List RationalD) (m : Int) (h0 : 0 ≤ m) (hm : m + 5 * ((cRationalS x : Nat) : Int) ≤ 4611686018427387904) : Con Try.prog 125 [.one (.sl 25 2 ((mRationalS m x).map eRational)), .one (.int .i64 m)] (vI (m + ((sRationalS x : Nat) : Int))) [] := by
  refine con_x tbOk mixedW Try.func125 (by kernel_rfl) (.loop (Nat × Int) (Q2 Nat Int) [1, 5, 6, 7, 8, 9, 10, 11, 12, 13, 14, 15, 16, 17, 18, 19, 20, 21, 22, 23, 24, 25, 26, 27, 28, 29] [] (fun yy0 => [(5, vI (yy0.1 : Int)), (1, vI yy0.2)]) (fun yy0 => []) (fun yy0 => yy0.1 ≤ x.length ∧ yy0.2 = m + ((sumL seRational (x.take yy0.1) : Nat) : Int)) (fun yy0 => x.length - yy0.1) (fun yy0 => .len ((mRationalS m x).length) <| .br (.elem RationalD eRational (mRationalS m x) (fun e14 => .no <| .elem RationalD eRational (mRationalS m x) (fun e23 => .no <| .back []))) (.fin []))) ?_
  refine Eq.mpr (by kernel_rfl : _ = (((mRationalS m x).map eRational).length ≤ 9223372036854775807 → (∃ (k : Nat) (z : Int), (0 : Int) = (k : Int) ∧ m = z ∧ k ≤ x.length ∧ z = m + ((sumL seRational (x.take k) : Nat) : Int)) ∧ ∀ (k : Nat) (z : Int), (k ≤ x.length ∧ z = m + ((sumL seRational (x.take k) : Nat) : Int)) → ((mRationalS m x).map eRational).length = (mRationalS m x).length ∧ (((decide ((k : Int) < (((mRationalS m x).length : Nat) : Int))) = true → 0 ≤ (k : Int) ∧ ((mRationalS m x).map eRational = (mRationalS m x).map eRational ∧ k < (mRationalS m x).length ∧ ∀ e14, (mRationalS m x)[k]? = some e14 → (!(decide (e14.num = z))) = false ∧ (inR (z + (1 : Int)) ∧ (0 ≤ (k : Int) ∧ ((mRationalS m x).map eRational = (mRationalS m x).map eRational ∧ k < (mRationalS m x).length ∧ ∀ e23, (mRationalS m x)[k]? = some e23 → (!(decide (e23.den = (z + (1 : Int))))) = false ∧ inR ((z + (1 : Int)) + (1 : Int)) ∧ inR ((k : Int) + (1 : Int)) ∧ ∃ (k' : Nat) (z' : Int), ((k : Int) + (1 : Int)) = (k' : Int) ∧ ((z + (1 : Int)) + (1 : Int)) = z' ∧ (k' ≤ x.length ∧ z' = m + ((sumL seRational (x.take k') : Nat) : Int)) ∧ x.length - k' < x.length - k))))) ∧ ((decide ((k : Int) < (((mRationalS m x).length : Nat) : Int))) = false → z = (m + ((sRationalS x : Nat) : Int)) ∧ True)))) ?_
  intro n0
  simp only [List.length_map] at n0
  have hS : sRationalS x = sumL seRational x := rfl
  have hC : cRationalS x = x.length := rfl
  have hlen : (mRationalS m x).length = x.length := markL_len _ _ _ _
  refine ⟨⟨0, m, rfl, rfl, Nat.zero_le _, by simp [sumL]⟩, fun k z ⟨hk, hz⟩ => ?_⟩
  refine ⟨List.length_map _, ?_⟩
  refine ⟨fun c0 => ?_, fun c0 => ?_⟩
  · replace c0 := of_decide_eq_true c0
    obtain ⟨y, hy⟩ := at_some (l := x) (k := k) (by omega)
    have hY : (mRationalS m x)[k]? = some (meRational z y) := by rw [hz]; exact markL_at _ _ x m k y hy
    have hs := sumL_snoc seRational hy
    have hle := sumL_le seRational x (k + 1)
    have hA : sumL seRational (x.take k) ≤ 5 * k := pre4 (fun y => by have := seRational_le y; simpa [cRational] using this) x k hk
    have hle5 := sRationalS_le x
    have hE : seRational y = 1 + 1 := rfl
    have hg : x.getD k zRational = y := by simp [List.getD_eq_getElem?_getD, hy]
    try rw [hg]
    refine ⟨by omega, ?_⟩
    refine ⟨rfl, by omega, fun e14 h14 => ?_⟩
    obtain rfl := (same_at hY h14).symm
    refine ⟨by simp [meRational], ?_⟩
    refine ⟨⟨by omega, by omega⟩, ?_⟩
    refine ⟨by omega, ?_⟩
    refine ⟨rfl, by omega, fun e23 h23 => ?_⟩
    obtain rfl := (same_at hY h23).symm
    refine ⟨by simp [meRational], ?_⟩
    refine ⟨⟨by omega, by omega⟩, ?_⟩
    refine ⟨⟨by omega, by omega⟩, ?_⟩
    exact ⟨k + 1, _, rfl, rfl, ⟨by omega, by rw [hs]; (try dsimp only); omega⟩, by omega⟩
  · replace c0 := of_decide_eq_false c0
    have hkx : k = x.length := by omega
    rw [hkx, List.take_length] at hz
    refine ⟨?_, trivial⟩
    · rw [hz]; rfl

set_option maxRecDepth 100000 in
set_option maxHeartbeats 4000000 in
theorem hd_RationalSS (x : List (List RationalD)) (m : Int) (h0 : 0 ≤ m) (hm : m + 5 * ((cRationalSS x : Nat) : Int) ≤ 4611686018427387904) : Con Try.prog 136 [.one (.sl 66 1 ((mRationalSS m x).map eRationalS)), .one (.int .i64 m)] (vI (m + ((sRationalSS x : Nat) : Int))) [] := by
  refine con_x tbOk mixedW Try.func136 (by kernel_rfl) (.loop (Nat × Int) (Q2 Nat Int) [1, 5, 6, 7, 8, 9, 10, 11, 12, 13, 14, 15, 16, 17, 18, 19] [] (fun yy0 => [(5, vI (yy0.1 : Int)), (1, vI yy0.2)]) (fun yy0 => []) (fun yy0 => yy0.1 ≤ x.length ∧ yy0.2 = m + ((sumL sRationalS (x.take yy0.1) : Nat) : Int)) (fun yy0 => x.length - yy0.1) (fun yy0 => .len ((mRationalSS m x).length) <| .br (.elem (List RationalD) eRationalS (mRationalSS m x) (fun e14 => .call (vI (yy0.2 + ((sRationalS (x.getD yy0.1 ([] : List RationalD)) : Nat) : Int))) [] <| .no <| .back [])) (.fin []))) ?_
  refine Eq.mpr (by kernel_rfl : _ = (((mRationalSS m x).map eRationalS).length ≤ 9223372036854775807 → (∃ (k : Nat) (z : Int), (0 : Int) = (k : Int) ∧ m = z ∧ k ≤ x.length ∧ z = m + ((sumL sRationalS (x.take k) : Nat) : Int)) ∧ ∀ (k : Nat) (z : Int), (k ≤ x.length ∧ z = m + ((sumL sRationalS (x.take k) : Nat) : Int)) → ((mRationalSS m x).map eRationalS).length = (mRationalSS m x).length ∧ (((decide ((k : Int) < (((mRationalSS m x).length : Nat) : Int))) = true → 0 ≤ (k : Int) ∧ ((mRationalSS m x).map eRationalS = (mRationalSS m x).map eRationalS ∧ k < (mRationalSS m x).length ∧ ∀ e14, (mRationalSS m x)[k]? = some e14 → Con Try.prog 125 [.one (.sl 25 2 (e14.map eRational)), .one (.int .i64 z)] (vI (z + ((sRationalS (x.getD k ([] : List RationalD)) : Nat) : Int))) [] ∧ (decide ((z + ((sRationalS (x.getD k ([] : List RationalD)) : Nat) : Int)) < (0 : Int))) = false ∧ inR ((k : Int) + (1 : Int)) ∧ ∃ (k' : Nat) (z' : Int), ((k : Int) + (1 : Int)) = (k' : Int) ∧ (z + ((sRationalS (x.getD k ([] : List RationalD)) : Nat) : Int)) = z' ∧ (k' ≤ x.length ∧ z' = m + ((sumL sRationalS (x.take k') : Nat) : Int)) ∧ x.length - k' < x.length - k)) ∧ ((decide ((k : Int) < (((mRationalSS m x).length : Nat) : Int))) = false → z = (m + ((sRationalSS x : Nat) : Int)) ∧ True)))) ?_
  intro n0
  simp only [List.length_map] at n0
  have hS : sRationalSS x = sumL sRationalS x := rfl
  have hC : cRationalSS x = x.length + sumL cRationalS x := rfl
  have hlen : (mRationalSS m x).length = x.length := markL_len _ _ _ _
  refine ⟨⟨0, m, rfl, rfl, Nat.zero_le _, by simp [sumL]⟩, fun k z ⟨hk, hz⟩ => ?_⟩
  refine ⟨List.length_map _, ?_⟩
  refine ⟨fun c0 => ?_, fun c0 => ?_⟩
  · replace c0 := of_decide_eq_true c0
    obtain ⟨y, hy⟩ := at_some (l := x) (k := k) (by omega)
    have hY : (mRationalSS m x)[k]? = some (mRationalS z y) := by rw [hz]; exact markL_at _ _ x m k y hy
    have hs := sumL_snoc sRationalS hy
    have hle := sumL_le sRationalS x (k + 1)
    have hA : sumL sRationalS (x.take k) ≤ 5 * (k + sumL cRationalS (x.take k)) := pre5 (s := sRationalS) (c := cRationalS) (fun y => by have := sRationalS_le y; omega) x k hk
    have hB := sumL_snoc cRationalS hy
    have hD := sumL_le cRationalS x (k + 1)
    have hle5 := sRationalSS_le x
    have hy5 := sRationalS_le y
    have hg : x.getD k ([] : List RationalD) = y := by simp [List.getD_eq_getElem?_getD, hy]
    try rw [hg]
    refine ⟨by omega, ?_⟩
    refine ⟨rfl, by omega, fun e14 h14 => ?_⟩
    obtain rfl := (same_at hY h14).symm
    refine ⟨hd_RationalS _ _ (by omega) (by first | omega | (dsimp only; omega)), ?_⟩
    refine ⟨by simp; omega, ?_⟩
    refine ⟨⟨by omega, by omega⟩, ?_⟩
    exact ⟨k + 1, _, rfl, rfl, ⟨by omega, by rw [hs, hz]; omega⟩, by omega⟩
  · replace c0 := of_decide_eq_false c0
    have hkx : k = x.length := by omega
    rw [hkx, List.take_length] at hz
    refine ⟨?_, trivial⟩
    · rw [hz]; rfl

set_option maxRecDepth 100000 in
set_option maxHeartbeats 4000000 in
theorem hd_SizeConstraintS (x : List SizeConstraintD) (m : Int) (h0 : 0 ≤ m) (hm : m + 5 * ((cSizeConstraintS x : Nat) : Int) ≤ 4611686018427387904) : Con Try.prog 31 [.one (.sl 111 3 ((mSizeConstraintS m x).map eSizeConstraint)), .one (.int .i64 m)] (vI (m + ((sSizeConstraintS x : Nat) : Int))) [] := by
  refine con_x tbOk mixedW Try.func31 (by kernel_rfl) (.loop (Nat × Int) (Q2 Nat Int) [1, 5, 6, 7, 8, 9, 10, 11, 12, 13, 14, 15, 16, 17, 18, 19, 20, 21, 22, 23, 24, 25, 26, 27, 28, 29, 30, 31, 32, 33, 34, 35, 36, 37, 38] [] (fun yy0 => [(5, vI (yy0.1 : Int)), (1, vI yy0.2)]) (fun yy0 => []) (fun yy0 => yy0.1 ≤ x.length ∧ yy0.2 = m + ((sumL seSizeConstraint (x.take yy0.1) : Nat) : Int)) (fun yy0 => x.length - yy0.1) (fun yy0 => .len ((mSizeConstraintS m x).length) <| .br (.elem SizeConstraintD eSizeConstraint (mSizeConstraintS m x) (fun e14 => .no <| .elem SizeConstraintD eSizeConstraint (mSizeConstraintS m x) (fun e23 => .no <| .elem SizeConstraintD eSizeConstraint (mSizeConstraintS m x) (fun e32 => .no <| .back [])))) (.fin []))) ?_
  refine Eq.mpr (by kernel_rfl : _ = (((mSizeConstraintS m x).map eSizeConstraint).length ≤ 9223372036854775807 → (∃ (k : Nat) (z : Int), (0 : Int) = (k : Int) ∧ m = z ∧ k ≤ x.length ∧ z = m + ((sumL seSizeConstraint (x.take k) : Nat) : Int)) ∧ ∀ (k : Nat) (z : Int), (k ≤ x.length ∧ z = m + ((sumL seSizeConstraint (x.take k) : Nat) : Int)) → ((mSizeConstraintS m x).map eSizeConstraint).length = (mSizeConstraintS m x).length ∧ (((decide ((k : Int) < (((mSizeConstraintS m x).length : Nat) : Int))) = true → 0 ≤ (k : Int) ∧ ((mSizeConstraintS m x).map eSizeConstraint = (mSizeConstraintS m x).map eSizeConstraint ∧ k < (mSizeConstraintS m x).length ∧ ∀ e14, (mSizeConstraintS m x)[k]? = some e14 → (!(decide (e14.src = z))) = false ∧ (inR (z + (1 : Int)) ∧ (0 ≤ (k : Int) ∧ ((mSizeConstraintS m x).map eSizeConstraint = (mSizeConstraintS m x).map eSizeConstraint ∧ k < (mSizeConstraintS m x).length ∧ ∀ e23, (mSizeConstraintS m x)[k]? = some e23 → (!(decide (e23.dst = (z + (1 : Int))))) = false ∧ (inR ((z + (1 : Int)) + (1 : Int)) ∧ (0 ≤ (k : Int) ∧ ((mSizeConstraintS m x).map eSizeConstraint = (mSizeConstraintS m x).map eSizeConstraint ∧ k < (mSizeConstraintS m x).length ∧ ∀ e32, (mSizeConstraintS m x)[k]? = some e32 → (!(decide (e32.bits = ((z + (1 : Int)) + (1 : Int))))) = false ∧ inR (((z + (1 : Int)) + (1 : Int)) + (1 : Int)) ∧ inR ((k : Int) + (1 : Int)) ∧ ∃ (k' : Nat) (z' : Int), ((k : Int) + (1 : Int)) = (k' : Int) ∧ (((z + (1 : Int)) + (1 : Int)) + (1 : Int)) = z' ∧ (k' ≤ x.length ∧ z' = m + ((sumL seSizeConstraint (x.take k') : Nat) : Int)) ∧ x.length - k' < x.length - k)))))))) ∧ ((decide ((k : Int) < (((mSizeConstraintS m x).length : Nat) : Int))) = false → z = (m + ((sSizeConstraintS x : Nat) : Int)) ∧ True)))) ?_
  intro n0
  simp only [List.length_map] at n0
  have hS : sSizeConstraintS x = sumL seSizeConstraint x := rfl
  have hC : cSizeConstraintS x = x.length := rfl
  have hlen : (mSizeConstraintS m x).length = x.length := markL_len _ _ _ _
  refine ⟨⟨0, m, rfl, rfl, Nat.zero_le _, by simp [sumL]⟩, fun k z ⟨hk, hz⟩ => ?_⟩
  refine ⟨List.length_map _, ?_⟩
  refine ⟨fun c0 => ?_, fun c0 => ?_⟩
  · replace c0 := of_decide_eq_true c0
    obtain ⟨y, hy⟩ := at_some (l := x) (k := k) (by omega)
    have hY : (mSizeConstraintS m x)[k]? = some (meSizeConstraint z y) := by rw [hz]; exact markL_at _ _ x m k y hy
    have hs := sumL_snoc seSizeConstraint hy
    have hle := sumL_le seSizeConstraint x (k + 1)
    have hA : sumL seSizeConstraint (x.take k) ≤ 5 * k := pre4 (fun y => by have := seSizeConstraint_le y; simpa [cSizeConstraint] using this) x k hk
    have hle5 := sSizeConstraintS_le x
    have hE : seSizeConstraint y = 1 + 1 + 1 := rfl
    have hg : x.getD k zSizeConstraint = y := by simp [List.getD_eq_getElem?_getD, hy]
    try rw [hg]
    refine ⟨by omega, ?_⟩
    refine ⟨rfl, by omega, fun e14 h14 => ?_⟩
    obtain rfl := (same_at hY h14).symm
    refine ⟨by simp [meSizeConstraint], ?_⟩
    refine ⟨⟨by omega, by omega⟩, ?_⟩
    refine ⟨by omega, ?_⟩
    refine ⟨rfl, by omega, fun e23 h23 => ?_⟩
    obtain rfl := (same_at hY h23).symm
    refine ⟨by simp [meSizeConstraint], ?_⟩
    refine ⟨⟨by omega, by omega⟩, ?_⟩
    refine ⟨by omega, ?_⟩
    refine ⟨rfl, by omega, fun e32 h32 => ?_⟩
    obtain rfl := (same_at hY h32).symm
    refine ⟨by simp [meSizeConstraint], ?_⟩
    refine ⟨⟨by omega, by omega⟩, ?_⟩
    refine ⟨⟨by omega, by omega⟩, ?_⟩
    exact ⟨k + 1, _, rfl, rfl, ⟨by omega, by rw [hs]; (try dsimp only); omega⟩, by omega⟩
  · replace c0 := of_decide_eq_false c0
    have hkx : k = x.length := by omega
    rw [hkx, List.take_length] at hz
    refine ⟨?_, trivial⟩
    · rw [hz]; rfl

set_option maxRecDepth 100000 in
set_option maxHeartbeats 4000000 in
theorem hd_Program (x : ProgramD) (m : Int) (h0 : 0 ≤ m) (hm : m + 5 * ((cProgram x : Nat) : Int) ≤ 4611686018427387904) : Con Try.prog 41 [.agg [.sl 3 1 (((mtProgram m x).objective).map intD), .sl 34 1 (((mtProgram m x).rows).map eIntS), .sl 3 1 (((mtProgram m x).limits).map intD)], .one (.int .i64 m)] (vI (m + ((stProgram x : Nat) : Int))) [] := by
  refine con_x tbOk mixedW Try.func41 (by kernel_rfl) (.call (vI (m + ((sIntS x.objective : Nat) : Int))) [] <| .no <| .call (vI ((m + ((sIntS x.objective : Nat) : Int)) + ((sIntSS x.rows : Nat) : Int))) [] <| .no <| .call (vI (((m + ((sIntS x.objective : Nat) : Int)) + ((sIntSS x.rows : Nat) : Int)) + ((sIntS x.limits : Nat) : Int))) [] <| .no <| .fin []) ?_
  refine Eq.mpr (by kernel_rfl : _ = ((((mtProgram m x).objective).map intD).length ≤ 9223372036854775807 → (((mtProgram m x).rows).map eIntS).length ≤ 9223372036854775807 → (((mtProgram m x).limits).map intD).length ≤ 9223372036854775807 → Con Try.prog 95 [.one (.sl 3 1 (((mtProgram m x).objective).map intD)), .one (.int .i64 m)] (vI (m + ((sIntS x.objective : Nat) : Int))) [] ∧ (decide ((m + ((sIntS x.objective : Nat) : Int)) < (0 : Int))) = false ∧ Con Try.prog 21 [.one (.sl 34 1 (((mtProgram m x).rows).map eIntS)), .one (.int .i64 (m + ((sIntS x.objective : Nat) : Int)))] (vI ((m + ((sIntS x.objective : Nat) : Int)) + ((sIntSS x.rows : Nat) : Int))) [] ∧ (decide (((m + ((sIntS x.objective : Nat) : Int)) + ((sIntSS x.rows : Nat) : Int)) < (0 : Int))) = false ∧ Con Try.prog 95 [.one (.sl 3 1 (((mtProgram m x).limits).map intD)), .one (.int .i64 ((m + ((sIntS x.objective : Nat) : Int)) + ((sIntSS x.rows : Nat) : Int)))] (vI (((m + ((sIntS x.objective : Nat) : Int)) + ((sIntSS x.rows : Nat) : Int)) + ((sIntS x.limits : Nat) : Int))) [] ∧ (decide ((((m + ((sIntS x.objective : Nat) : Int)) + ((sIntSS x.rows : Nat) : Int)) + ((sIntS x.limits : Nat) : Int)) < (0 : Int))) = false ∧ (((m + ((sIntS x.objective : Nat) : Int)) + ((sIntSS x.rows : Nat) : Int)) + ((sIntS x.limits : Nat) : Int)) = (m + ((stProgram x : Nat) : Int)) ∧ True)) ?_
  intro n0 n1 n2
  simp only [List.length_map] at n0 n1 n2
  have hS : stProgram x = sIntS x.objective + sIntSS x.rows + sIntS x.limits := rfl
  have hC : cProgram x = cIntS x.objective + cIntSS x.rows + cIntS x.limits := rfl
  have := sIntS_le x.objective
  have := sIntSS_le x.rows
  have := sIntS_le x.limits
  refine ⟨hd_IntS _ _ (by omega) (by first | omega | (dsimp only; omega)), ?_⟩
  refine ⟨by simp; omega, ?_⟩
  refine ⟨hd_IntSS _ _ (by omega) (by first | omega | (dsimp only; omega)), ?_⟩
  refine ⟨by simp; omega, ?_⟩
  refine ⟨hd_IntS _ _ (by omega) (by first | omega | (dsimp only; omega)), ?_⟩
  refine ⟨by simp; omega, ?_⟩
  refine ⟨?_, trivial⟩
  · first | rfl | (rw [hS]; omega)

set_option maxRecDepth 100000 in
set_option maxHeartbeats 4000000 in
theorem hd_Dictionary (x : DictionaryD) (m : Int) (h0 : 0 ≤ m) (hm : m + 5 * ((cDictionary x : Nat) : Int) ≤ 4611686018427387904) : Con Try.prog 58 [.agg [.sl 3 1 (((mtDictionary m x).basic).map intD), .sl 3 1 (((mtDictionary m x).others).map intD), .sl 66 1 (((mtDictionary m x).table).map eRationalS), .sl 25 2 (((mtDictionary m x).limits).map eRational), .sl 25 2 (((mtDictionary m x).costs).map eRational), .int .i64 (((mtDictionary m x).value).num), .int .i64 (((mtDictionary m x).value).den)], .one (.int .i64 m)] (vI (m + ((stDictionary x : Nat) : Int))) [] := by
  refine con_x tbOk mixedW Try.func58 (by kernel_rfl) (.call (vI (m + ((sIntS x.basic : Nat) : Int))) [] <| .no <| .call (vI ((m + ((sIntS x.basic : Nat) : Int)) + ((sIntS x.others : Nat) : Int))) [] <| .no <| .call (vI (((m + ((sIntS x.basic : Nat) : Int)) + ((sIntS x.others : Nat) : Int)) + ((sRationalSS x.table : Nat) : Int))) [] <| .no <| .call (vI ((((m + ((sIntS x.basic : Nat) : Int)) + ((sIntS x.others : Nat) : Int)) + ((sRationalSS x.table : Nat) : Int)) + ((sRationalS x.limits : Nat) : Int))) [] <| .no <| .call (vI (((((m + ((sIntS x.basic : Nat) : Int)) + ((sIntS x.others : Nat) : Int)) + ((sRationalSS x.table : Nat) : Int)) + ((sRationalS x.limits : Nat) : Int)) + ((sRationalS x.costs : Nat) : Int))) [] <| .no <| .fin []) ?_
  refine Eq.mpr (by kernel_rfl : _ = ((((mtDictionary m x).basic).map intD).length ≤ 9223372036854775807 → (((mtDictionary m x).others).map intD).length ≤ 9223372036854775807 → (((mtDictionary m x).table).map eRationalS).length ≤ 9223372036854775807 → (((mtDictionary m x).limits).map eRational).length ≤ 9223372036854775807 → (((mtDictionary m x).costs).map eRational).length ≤ 9223372036854775807 → Con Try.prog 95 [.one (.sl 3 1 (((mtDictionary m x).basic).map intD)), .one (.int .i64 m)] (vI (m + ((sIntS x.basic : Nat) : Int))) [] ∧ (decide ((m + ((sIntS x.basic : Nat) : Int)) < (0 : Int))) = false ∧ Con Try.prog 95 [.one (.sl 3 1 (((mtDictionary m x).others).map intD)), .one (.int .i64 (m + ((sIntS x.basic : Nat) : Int)))] (vI ((m + ((sIntS x.basic : Nat) : Int)) + ((sIntS x.others : Nat) : Int))) [] ∧ (decide (((m + ((sIntS x.basic : Nat) : Int)) + ((sIntS x.others : Nat) : Int)) < (0 : Int))) = false ∧ Con Try.prog 136 [.one (.sl 66 1 (((mtDictionary m x).table).map eRationalS)), .one (.int .i64 ((m + ((sIntS x.basic : Nat) : Int)) + ((sIntS x.others : Nat) : Int)))] (vI (((m + ((sIntS x.basic : Nat) : Int)) + ((sIntS x.others : Nat) : Int)) + ((sRationalSS x.table : Nat) : Int))) [] ∧ (decide ((((m + ((sIntS x.basic : Nat) : Int)) + ((sIntS x.others : Nat) : Int)) + ((sRationalSS x.table : Nat) : Int)) < (0 : Int))) = false ∧ Con Try.prog 125 [.one (.sl 25 2 (((mtDictionary m x).limits).map eRational)), .one (.int .i64 (((m + ((sIntS x.basic : Nat) : Int)) + ((sIntS x.others : Nat) : Int)) + ((sRationalSS x.table : Nat) : Int)))] (vI ((((m + ((sIntS x.basic : Nat) : Int)) + ((sIntS x.others : Nat) : Int)) + ((sRationalSS x.table : Nat) : Int)) + ((sRationalS x.limits : Nat) : Int))) [] ∧ (decide (((((m + ((sIntS x.basic : Nat) : Int)) + ((sIntS x.others : Nat) : Int)) + ((sRationalSS x.table : Nat) : Int)) + ((sRationalS x.limits : Nat) : Int)) < (0 : Int))) = false ∧ Con Try.prog 125 [.one (.sl 25 2 (((mtDictionary m x).costs).map eRational)), .one (.int .i64 ((((m + ((sIntS x.basic : Nat) : Int)) + ((sIntS x.others : Nat) : Int)) + ((sRationalSS x.table : Nat) : Int)) + ((sRationalS x.limits : Nat) : Int)))] (vI (((((m + ((sIntS x.basic : Nat) : Int)) + ((sIntS x.others : Nat) : Int)) + ((sRationalSS x.table : Nat) : Int)) + ((sRationalS x.limits : Nat) : Int)) + ((sRationalS x.costs : Nat) : Int))) [] ∧ (decide ((((((m + ((sIntS x.basic : Nat) : Int)) + ((sIntS x.others : Nat) : Int)) + ((sRationalSS x.table : Nat) : Int)) + ((sRationalS x.limits : Nat) : Int)) + ((sRationalS x.costs : Nat) : Int)) < (0 : Int))) = false ∧ (((((m + ((sIntS x.basic : Nat) : Int)) + ((sIntS x.others : Nat) : Int)) + ((sRationalSS x.table : Nat) : Int)) + ((sRationalS x.limits : Nat) : Int)) + ((sRationalS x.costs : Nat) : Int)) = (m + ((stDictionary x : Nat) : Int)) ∧ True)) ?_
  intro n0 n1 n2 n3 n4
  simp only [List.length_map] at n0 n1 n2 n3 n4
  have hS : stDictionary x = sIntS x.basic + sIntS x.others + sRationalSS x.table + sRationalS x.limits + sRationalS x.costs := rfl
  have hC : cDictionary x = cIntS x.basic + cIntS x.others + cRationalSS x.table + cRationalS x.limits + cRationalS x.costs := rfl
  have := sIntS_le x.basic
  have := sIntS_le x.others
  have := sRationalSS_le x.table
  have := sRationalS_le x.limits
  have := sRationalS_le x.costs
  refine ⟨hd_IntS _ _ (by omega) (by first | omega | (dsimp only; omega)), ?_⟩
  refine ⟨by simp; omega, ?_⟩
  refine ⟨hd_IntS _ _ (by omega) (by first | omega | (dsimp only; omega)), ?_⟩
  refine ⟨by simp; omega, ?_⟩
  refine ⟨hd_RationalSS _ _ (by omega) (by first | omega | (dsimp only; omega)), ?_⟩
  refine ⟨by simp; omega, ?_⟩
  refine ⟨hd_RationalS _ _ (by omega) (by first | omega | (dsimp only; omega)), ?_⟩
  refine ⟨by simp; omega, ?_⟩
  refine ⟨hd_RationalS _ _ (by omega) (by first | omega | (dsimp only; omega)), ?_⟩
  refine ⟨by simp; omega, ?_⟩
  refine ⟨?_, trivial⟩
  · first | rfl | (rw [hS]; omega)

set_option maxRecDepth 100000 in
set_option maxHeartbeats 4000000 in
theorem hd_Solution (x : SolutionD) (m : Int) (h0 : 0 ≤ m) (hm : m + 5 * ((cSolution x : Nat) : Int) ≤ 4611686018427387904) : Con Try.prog 51 [.agg [.int .i64 (((mtSolution m x).value).num), .int .i64 (((mtSolution m x).value).den), .sl 25 2 (((mtSolution m x).primal).map eRational), .sl 25 2 (((mtSolution m x).dual).map eRational)], .one (.int .i64 m)] (vI (m + ((stSolution x : Nat) : Int))) [] := by
  refine con_x tbOk mixedW Try.func51 (by kernel_rfl) (.call (vI (m + ((sRationalS x.primal : Nat) : Int))) [] <| .no <| .call (vI ((m + ((sRationalS x.primal : Nat) : Int)) + ((sRationalS x.dual : Nat) : Int))) [] <| .no <| .fin []) ?_
  refine Eq.mpr (by kernel_rfl : _ = ((((mtSolution m x).primal).map eRational).length ≤ 9223372036854775807 → (((mtSolution m x).dual).map eRational).length ≤ 9223372036854775807 → Con Try.prog 125 [.one (.sl 25 2 (((mtSolution m x).primal).map eRational)), .one (.int .i64 m)] (vI (m + ((sRationalS x.primal : Nat) : Int))) [] ∧ (decide ((m + ((sRationalS x.primal : Nat) : Int)) < (0 : Int))) = false ∧ Con Try.prog 125 [.one (.sl 25 2 (((mtSolution m x).dual).map eRational)), .one (.int .i64 (m + ((sRationalS x.primal : Nat) : Int)))] (vI ((m + ((sRationalS x.primal : Nat) : Int)) + ((sRationalS x.dual : Nat) : Int))) [] ∧ (decide (((m + ((sRationalS x.primal : Nat) : Int)) + ((sRationalS x.dual : Nat) : Int)) < (0 : Int))) = false ∧ ((m + ((sRationalS x.primal : Nat) : Int)) + ((sRationalS x.dual : Nat) : Int)) = (m + ((stSolution x : Nat) : Int)) ∧ True)) ?_
  intro n0 n1
  simp only [List.length_map] at n0 n1
  have hS : stSolution x = sRationalS x.primal + sRationalS x.dual := rfl
  have hC : cSolution x = cRationalS x.primal + cRationalS x.dual := rfl
  have := sRationalS_le x.primal
  have := sRationalS_le x.dual
  refine ⟨hd_RationalS _ _ (by omega) (by first | omega | (dsimp only; omega)), ?_⟩
  refine ⟨by simp; omega, ?_⟩
  refine ⟨hd_RationalS _ _ (by omega) (by first | omega | (dsimp only; omega)), ?_⟩
  refine ⟨by simp; omega, ?_⟩
  refine ⟨?_, trivial⟩
  · first | rfl | (rw [hS]; omega)
end Go.Proofs.Ytcfilkhjababjaa
