/-
  Marks: the laws' helpers.
-/
import Derived.Test.YtcfilkhjababjaaDm
namespace Go.Proofs.Ytcfilkhjababjaa
open Go.ChangeShapes Go.WideShapes Go.ChangeAt Go.RowKit
set_option linter.unusedVariables false
set_option linter.unusedSimpArgs false
set_option maxRecDepth 100000 in
set_option maxHeartbeats 4000000 in
theorem mk_IntS (x : List Int) (m : Int) (h0 : 0 ≤ m) (hm : m + 5 * ((cIntS x : Nat) : Int) ≤ 4611686018427387904) : Con2 Try.prog 30 [.own 0, vI m] [(0, .arr 3 1 true (x.map intD))] (vI (m + ((sIntS x : Nat) : Int))) [(0, .arr 3 1 true ((mIntS m x).map intD))] := by
  refine con2_x tbOk mixedW Try.func30 (by kernel_rfl) (by kernel_rfl) (.loop (Nat × Int × (List Int)) (Q3 Nat Int (List Int)) [1, 5, 6, 7, 8, 9, 10, 11, 12, 13, 14, 15, 16, 17] [0] (fun yy0 => [(5, vI (yy0.1 : Int)), (1, vI yy0.2.1)]) (fun yy0 => [(0, some (.arr 3 1 true (yy0.2.2.map intD)))]) (fun yy0 => yy0.1 ≤ x.length ∧ yy0.2.1 = m + ((sumL sInt (x.take yy0.1) : Nat) : Int) ∧ yy0.2.2 = markPre mInt sInt m x yy0.1) (fun yy0 => x.length - yy0.1) (fun yy0 => .len yy0.2.2.length <| .br (.len yy0.2.2.length <| .set Int intD yy0.2.2 (fun s4_4 => yy0.2.1) (fun s4_4 => .back [(0, 0)])) (.fin [(0, 0)]))) ?_
  refine Eq.mpr (by kernel_rfl : _ = ((∃ (k : Nat) (z : Int) (r : List Int), (0 : Int) = (k : Int) ∧ m = z ∧ x.map intD = r.map intD ∧ k ≤ x.length ∧ z = m + ((sumL sInt (x.take k) : Nat) : Int) ∧ r = markPre mInt sInt m x k) ∧ ∀ (k : Nat) (z : Int) (r : List Int), (k ≤ x.length ∧ z = m + ((sumL sInt (x.take k) : Nat) : Int) ∧ r = markPre mInt sInt m x k) → (r.map intD).length = r.length ∧ (((decide ((k : Int) < ((r.length : Nat) : Int))) = true → 0 ≤ (k : Int) ∧ (r.map intD).length = r.length ∧ (k : Int) < ((r.length : Nat) : Int) ∧ (r.map intD = r.map intD ∧ k < r.length ∧ ∀ s4_4, r[k]? = some s4_4 → flatB (intD s4_4) = true ∧ 0 + 1 ≤ (intD s4_4).length ∧ (intD s4_4).take 0 ++ [.int .i64 z] ++ (intD s4_4).drop (0 + 1) = intD z ∧ inR (z + (1 : Int)) ∧ inR ((k : Int) + (1 : Int)) ∧ ∃ (k' : Nat) (z' : Int) (r' : List Int), ((k : Int) + (1 : Int)) = (k' : Int) ∧ (z + (1 : Int)) = z' ∧ (r.set k z).map intD = r'.map intD ∧ (k' ≤ x.length ∧ z' = m + ((sumL sInt (x.take k') : Nat) : Int) ∧ r' = markPre mInt sInt m x k') ∧ x.length - k' < x.length - k)) ∧ ((decide ((k : Int) < ((r.length : Nat) : Int))) = false → z = (m + ((sIntS x : Nat) : Int)) ∧ r.map intD = (mIntS m x).map intD ∧ True)))) ?_
  have hS : sIntS x = sumL sInt x := rfl
  have hC : cIntS x = x.length := rfl
  refine ⟨⟨0, m, x, rfl, rfl, rfl, Nat.zero_le _, by simp [sumL], (markPre_zero _ _ _ _).symm⟩, fun k z r ⟨hk, hz, hr⟩ => ?_⟩
  have hrl : r.length = x.length := by rw [hr]; exact markPre_len _ _ _ _ _ hk
  refine ⟨List.length_map _, ?_⟩
  refine ⟨fun c0 => ?_, fun c0 => ?_⟩
  · replace c0 := of_decide_eq_true c0
    obtain ⟨y, hy⟩ := at_some (l := x) (k := k) (by omega)
    have hry : r[k]? = some y := by rw [hr, markPre_get _ _ _ _ _ (by omega)]; exact hy
    have hs := sumL_snoc sInt hy
    have hle := sumL_le sInt x (k + 1)
    have hA : sumL sInt (x.take k) ≤ 5 * k := pre4 (fun _ => by simp [sInt]) x k hk
    have hle5 := sIntS_le x
    have hE : sInt y = 1 := rfl
    refine ⟨by omega, List.length_map _, by first | omega | (simp only [List.length_set]; omega), ?_⟩
    refine ⟨rfl, by first | omega | (simp only [List.length_set]; omega), fun s4_4 hs4_4 => ⟨rfl, Nat.le_of_ble_eq_true rfl, rfl, ?_⟩⟩
    obtain rfl := (same_at hry hs4_4).symm
    refine ⟨⟨by omega, by omega⟩, ?_⟩
    refine ⟨⟨by omega, by omega⟩, ?_⟩
    exact ⟨k + 1, _, _, rfl, rfl, rfl, ⟨by omega, by rw [hs]; (try dsimp only); omega, by subst hz hr; (try simp only [List.set_set]); exact markPre_set _ _ _ _ _ _ hy⟩, by omega⟩
  · replace c0 := of_decide_eq_false c0
    have hkx : k = x.length := by omega
    rw [hkx, List.take_length] at hz
    rw [hkx, markPre_done] at hr
    refine ⟨?_, ?_, trivial⟩
    · first | (rw [hz]; rfl) | (rw [hr]; rfl) | (rw [hz, hS])
    · first | (rw [hz]; rfl) | (rw [hr]; rfl) | (rw [hz, hS])

set_option maxRecDepth 100000 in
set_option maxHeartbeats 4000000 in
theorem mk_IntSS (x : List (List Int)) (m : Int) (h0 : 0 ≤ m) (hm : m + 5 * ((cIntSS x : Nat) : Int) ≤ 4611686018427387904) : Con2 Try.prog 20 [.own 0, vI m] [(0, .arr 34 1 true (x.map eIntS))] (vI (m + ((sIntSS x : Nat) : Int))) [(0, .arr 34 1 true ((mIntSS m x).map eIntS))] := by
  refine con2_x tbOk mixedW Try.func20 (by kernel_rfl) (by kernel_rfl) (.loop (Nat × Int × (List (List Int))) (Q3 Nat Int (List (List Int))) [1, 5, 6, 7, 8, 9, 10, 11, 12, 13, 14, 15, 16, 17] [0, 1507] (fun yy0 => [(5, vI (yy0.1 : Int)), (1, vI yy0.2.1)]) (fun yy0 => [(0, some (.arr 34 1 true (yy0.2.2.map eIntS)))]) (fun yy0 => yy0.1 ≤ x.length ∧ yy0.2.1 = m + ((sumL sIntS (x.take yy0.1) : Nat) : Int) ∧ yy0.2.2 = markPre mIntS sIntS m x yy0.1) (fun yy0 => x.length - yy0.1) (fun yy0 => .len yy0.2.2.length <| .br (.split 4 0 yy0.1 0 1507 (List Int) eIntS yy0.2.2 (fun b1507 => .len yy0.2.2.length <| .callx [.own 0, vI yy0.2.1] [(0, .arr 3 1 true (b1507.map intD))] [(0, 1507)] (vI (yy0.2.1 + ((sIntS b1507 : Nat) : Int))) [(0, .arr 3 1 true ((mIntS yy0.2.1 b1507).map intD))] <| .join 3 0 1507 (List Int) eIntS yy0.2.2 (fun a1507 => mIntS yy0.2.1 b1507) (fun a1507 => .back [(0, 0)]))) (.fin [(0, 0)]))) ?_
  refine Eq.mpr (by kernel_rfl : _ = ((∃ (k : Nat) (z : Int) (r : List (List Int)), (0 : Int) = (k : Int) ∧ m = z ∧ x.map eIntS = r.map eIntS ∧ k ≤ x.length ∧ z = m + ((sumL sIntS (x.take k) : Nat) : Int) ∧ r = markPre mIntS sIntS m x k) ∧ ∀ (k : Nat) (z : Int) (r : List (List Int)), (k ≤ x.length ∧ z = m + ((sumL sIntS (x.take k) : Nat) : Int) ∧ r = markPre mIntS sIntS m x k) → (r.map eIntS).length = r.length ∧ (((decide ((k : Int) < ((r.length : Nat) : Int))) = true → r.map eIntS = r.map eIntS ∧ k < r.length ∧ ∀ b1507, r[k]? = some b1507 → 0 ≤ (k : Int) ∧ (r.map eIntS).length = r.length ∧ (k : Int) < ((r.length : Nat) : Int) ∧ (k = k ∧ (Con2 Try.prog 30 [.own 0, vI z] [(0, .arr 3 1 true (b1507.map intD))] (vI (z + ((sIntS b1507 : Nat) : Int))) [(0, .arr 3 1 true ((mIntS z b1507).map intD))] ∧ z = z ∧ b1507.map intD = b1507.map intD ∧ (r.map eIntS = r.map eIntS ∧ k < r.length ∧ ∀ a1507, r[k]? = some a1507 → ((eIntS a1507).take 0 ++ .sl 3 1 ((mIntS z b1507).map intD) :: (eIntS a1507).drop (0 + 1) = eIntS (mIntS z b1507)) ∧ inR ((k : Int) + (1 : Int)) ∧ ∃ (k' : Nat) (z' : Int) (r' : List (List Int)), ((k : Int) + (1 : Int)) = (k' : Int) ∧ (z + ((sIntS b1507 : Nat) : Int)) = z' ∧ (r.set k (mIntS z b1507)).map eIntS = r'.map eIntS ∧ (k' ≤ x.length ∧ z' = m + ((sumL sIntS (x.take k') : Nat) : Int) ∧ r' = markPre mIntS sIntS m x k') ∧ x.length - k' < x.length - k)))) ∧ ((decide ((k : Int) < ((r.length : Nat) : Int))) = false → z = (m + ((sIntSS x : Nat) : Int)) ∧ r.map eIntS = (mIntSS m x).map eIntS ∧ True)))) ?_
  have hS : sIntSS x = sumL sIntS x := rfl
  have hC : cIntSS x = x.length + sumL cIntS x := rfl
  refine ⟨⟨0, m, x, rfl, rfl, rfl, Nat.zero_le _, by simp [sumL], (markPre_zero _ _ _ _).symm⟩, fun k z r ⟨hk, hz, hr⟩ => ?_⟩
  have hrl : r.length = x.length := by rw [hr]; exact markPre_len _ _ _ _ _ hk
  refine ⟨List.length_map _, ?_⟩
  refine ⟨fun c0 => ?_, fun c0 => ?_⟩
  · replace c0 := of_decide_eq_true c0
    obtain ⟨y, hy⟩ := at_some (l := x) (k := k) (by omega)
    have hry : r[k]? = some y := by rw [hr, markPre_get _ _ _ _ _ (by omega)]; exact hy
    have hs := sumL_snoc sIntS hy
    have hle := sumL_le sIntS x (k + 1)
    have hA : sumL sIntS (x.take k) ≤ 5 * (k + sumL cIntS (x.take k)) := pre5 (s := sIntS) (c := cIntS) (fun y => by have := sIntS_le y; omega) x k hk
    have hB := sumL_snoc cIntS hy
    have hD := sumL_le cIntS x (k + 1)
    have hle5 := sIntSS_le x
    have hy5 := sIntS_le y
    refine ⟨rfl, by first | omega | (simp only [List.length_set]; omega), fun b1507 hb1507 => ?_⟩
    obtain rfl := (same_at hry hb1507).symm
    refine ⟨by omega, List.length_map _, by first | omega | (simp only [List.length_set]; omega), ?_⟩
    refine ⟨rfl, ?_⟩
    refine ⟨mk_IntS _ _ (by omega) (by first | omega | (dsimp only; omega)), rfl, rfl, ?_⟩
    refine ⟨rfl, by first | omega | (simp only [List.length_set]; omega), fun a1507 ha1507 => ⟨rfl, ?_⟩⟩
    obtain rfl := (same_at hry ha1507).symm
    refine ⟨⟨by omega, by omega⟩, ?_⟩
    exact ⟨k + 1, _, _, rfl, rfl, rfl, ⟨by omega, by rw [hs, hz]; unfold sIntS; omega, by subst hz hr; (try simp only [List.set_set]); exact markPre_set _ _ _ _ _ _ hy⟩, by omega⟩
  · replace c0 := of_decide_eq_false c0
    have hkx : k = x.length := by omega
    rw [hkx, List.take_length] at hz
    rw [hkx, markPre_done] at hr
    refine ⟨?_, ?_, trivial⟩
    · first | (rw [hz]; rfl) | (rw [hr]; rfl) | (rw [hz, hS])
    · first | (rw [hz]; rfl) | (rw [hr]; rfl) | (rw [hz, hS])

set_option maxRecDepth 100000 in
set_option maxHeartbeats 4000000 in
theorem mk_RationalS (x : List RationalD) (m : Int) (h0 : 0 ≤ m) (hm : m + 5 * ((cRationalS x : Nat) : Int) ≤ 4611686018427387904) : Con2 Try.prog 124 [.own 0, vI m] [(0, .arr 25 2 true (x.map eRational))] (vI (m + ((sRationalS x : Nat) : Int))) [(0, .arr 25 2 true ((mRationalS m x).map eRational))] := by
  refine con2_x tbOk mixedW Try.func124 (by kernel_rfl) (by kernel_rfl) (.loop (Nat × Int × (List RationalD)) (Q3 Nat Int (List RationalD)) [1, 5, 6, 7, 8, 9, 10, 11, 12, 13, 14, 15, 16, 17, 18, 19, 20, 21, 22, 23, 24, 25] [0] (fun yy0 => [(5, vI (yy0.1 : Int)), (1, vI yy0.2.1)]) (fun yy0 => [(0, some (.arr 25 2 true (yy0.2.2.map eRational)))]) (fun yy0 => yy0.1 ≤ x.length ∧ yy0.2.1 = m + ((sumL seRational (x.take yy0.1) : Nat) : Int) ∧ yy0.2.2 = markPre meRational seRational m x yy0.1) (fun yy0 => x.length - yy0.1) (fun yy0 => .len yy0.2.2.length <| .br (.len yy0.2.2.length <| .set RationalD eRational yy0.2.2 (fun s4_5 => (⟨yy0.2.1, s4_5.den⟩ : RationalD)) (fun s4_5 => .len ((yy0.2.2.set yy0.1 (⟨yy0.2.1, s4_5.den⟩ : RationalD)).length) <| .set RationalD eRational (yy0.2.2.set yy0.1 (⟨yy0.2.1, s4_5.den⟩ : RationalD)) (fun s6_5 => (⟨s6_5.num, yy0.2.1 + (1 : Int)⟩ : RationalD)) (fun s6_5 => .back [(0, 0)]))) (.fin [(0, 0)]))) ?_
  refine Eq.mpr (by kernel_rfl : _ = ((∃ (k : Nat) (z : Int) (r : List RationalD), (0 : Int) = (k : Int) ∧ m = z ∧ x.map eRational = r.map eRational ∧ k ≤ x.length ∧ z = m + ((sumL seRational (x.take k) : Nat) : Int) ∧ r = markPre meRational seRational m x k) ∧ ∀ (k : Nat) (z : Int) (r : List RationalD), (k ≤ x.length ∧ z = m + ((sumL seRational (x.take k) : Nat) : Int) ∧ r = markPre meRational seRational m x k) → (r.map eRational).length = r.length ∧ (((decide ((k : Int) < ((r.length : Nat) : Int))) = true → 0 ≤ (k : Int) ∧ (r.map eRational).length = r.length ∧ (k : Int) < ((r.length : Nat) : Int) ∧ (r.map eRational = r.map eRational ∧ k < r.length ∧ ∀ s4_5, r[k]? = some s4_5 → flatB (eRational s4_5) = true ∧ 0 + 1 ≤ (eRational s4_5).length ∧ (eRational s4_5).take 0 ++ [.int .i64 z] ++ (eRational s4_5).drop (0 + 1) = eRational (⟨z, s4_5.den⟩ : RationalD) ∧ (inR (z + (1 : Int)) ∧ (0 ≤ (k : Int) ∧ ((r.set k (⟨z, s4_5.den⟩ : RationalD)).map eRational).length = (r.set k (⟨z, s4_5.den⟩ : RationalD)).length ∧ (k : Int) < (((r.set k (⟨z, s4_5.den⟩ : RationalD)).length : Nat) : Int) ∧ ((r.set k (⟨z, s4_5.den⟩ : RationalD)).map eRational = (r.set k (⟨z, s4_5.den⟩ : RationalD)).map eRational ∧ k < (r.set k (⟨z, s4_5.den⟩ : RationalD)).length ∧ ∀ s6_5, (r.set k (⟨z, s4_5.den⟩ : RationalD))[k]? = some s6_5 → flatB (eRational s6_5) = true ∧ 1 + 1 ≤ (eRational s6_5).length ∧ (eRational s6_5).take 1 ++ [.int .i64 (z + (1 : Int))] ++ (eRational s6_5).drop (1 + 1) = eRational (⟨s6_5.num, z + (1 : Int)⟩ : RationalD) ∧ inR ((z + (1 : Int)) + (1 : Int)) ∧ inR ((k : Int) + (1 : Int)) ∧ ∃ (k' : Nat) (z' : Int) (r' : List RationalD), ((k : Int) + (1 : Int)) = (k' : Int) ∧ ((z + (1 : Int)) + (1 : Int)) = z' ∧ ((r.set k (⟨z, s4_5.den⟩ : RationalD)).set k (⟨s6_5.num, z + (1 : Int)⟩ : RationalD)).map eRational = r'.map eRational ∧ (k' ≤ x.length ∧ z' = m + ((sumL seRational (x.take k') : Nat) : Int) ∧ r' = markPre meRational seRational m x k') ∧ x.length - k' < x.length - k))))) ∧ ((decide ((k : Int) < ((r.length : Nat) : Int))) = false → z = (m + ((sRationalS x : Nat) : Int)) ∧ r.map eRational = (mRationalS m x).map eRational ∧ True)))) ?_
  have hS : sRationalS x = sumL seRational x := rfl
  have hC : cRationalS x = x.length := rfl
  refine ⟨⟨0, m, x, rfl, rfl, rfl, Nat.zero_le _, by simp [sumL], (markPre_zero _ _ _ _).symm⟩, fun k z r ⟨hk, hz, hr⟩ => ?_⟩
  have hrl : r.length = x.length := by rw [hr]; exact markPre_len _ _ _ _ _ hk
  refine ⟨List.length_map _, ?_⟩
  refine ⟨fun c0 => ?_, fun c0 => ?_⟩
  · replace c0 := of_decide_eq_true c0
    obtain ⟨y, hy⟩ := at_some (l := x) (k := k) (by omega)
    have hry : r[k]? = some y := by rw [hr, markPre_get _ _ _ _ _ (by omega)]; exact hy
    have hs := sumL_snoc seRational hy
    have hle := sumL_le seRational x (k + 1)
    have hA : sumL seRational (x.take k) ≤ 5 * k := pre4 (fun y => by have := seRational_le y; simpa [cRational] using this) x k hk
    have hle5 := sRationalS_le x
    have hE : seRational y = 1 + 1 := rfl
    refine ⟨by omega, List.length_map _, by first | omega | (simp only [List.length_set]; omega), ?_⟩
    refine ⟨rfl, by first | omega | (simp only [List.length_set]; omega), fun s4_5 hs4_5 => ⟨rfl, Nat.le_of_ble_eq_true rfl, rfl, ?_⟩⟩
    obtain rfl := (same_at hry hs4_5).symm
    refine ⟨⟨by omega, by omega⟩, ?_⟩
    refine ⟨by omega, List.length_map _, by first | omega | (simp only [List.length_set]; omega), ?_⟩
    refine ⟨rfl, by first | omega | (simp only [List.length_set]; omega), fun s6_5 hs6_5 => ⟨rfl, Nat.le_of_ble_eq_true rfl, rfl, ?_⟩⟩
    obtain rfl := at_set hs6_5
    refine ⟨⟨by omega, by omega⟩, ?_⟩
    refine ⟨⟨by omega, by omega⟩, ?_⟩
    exact ⟨k + 1, _, _, rfl, rfl, rfl, ⟨by omega, by rw [hs]; (try dsimp only); omega, by subst hz hr; (try simp only [List.set_set]); exact markPre_set _ _ _ _ _ _ hy⟩, by omega⟩
  · replace c0 := of_decide_eq_false c0
    have hkx : k = x.length := by omega
    rw [hkx, List.take_length] at hz
    rw [hkx, markPre_done] at hr
    refine ⟨?_, ?_, trivial⟩
    · first | (rw [hz]; rfl) | (rw [hr]; rfl) | (rw [hz, hS])
    · first | (rw [hz]; rfl) | (rw [hr]; rfl) | (rw [hz, hS])

set_option maxRecDepth 100000 in
set_option maxHeartbeats 4000000 in
theorem mk_RationalSS (x : List (List RationalD)) (m : Int) (h0 : 0 ≤ m) (hm : m + 5 * ((cRationalSS x : Nat) : Int) ≤ 4611686018427387904) : Con2 Try.prog 135 [.own 0, vI m] [(0, .arr 66 1 true (x.map eRationalS))] (vI (m + ((sRationalSS x : Nat) : Int))) [(0, .arr 66 1 true ((mRationalSS m x).map eRationalS))] := by
  refine con2_x tbOk mixedW Try.func135 (by kernel_rfl) (by kernel_rfl) (.loop (Nat × Int × (List (List RationalD))) (Q3 Nat Int (List (List RationalD))) [1, 5, 6, 7, 8, 9, 10, 11, 12, 13, 14, 15, 16, 17] [0, 1507] (fun yy0 => [(5, vI (yy0.1 : Int)), (1, vI yy0.2.1)]) (fun yy0 => [(0, some (.arr 66 1 true (yy0.2.2.map eRationalS)))]) (fun yy0 => yy0.1 ≤ x.length ∧ yy0.2.1 = m + ((sumL sRationalS (x.take yy0.1) : Nat) : Int) ∧ yy0.2.2 = markPre mRationalS sRationalS m x yy0.1) (fun yy0 => x.length - yy0.1) (fun yy0 => .len yy0.2.2.length <| .br (.split 4 0 yy0.1 0 1507 (List RationalD) eRationalS yy0.2.2 (fun b1507 => .len yy0.2.2.length <| .callx [.own 0, vI yy0.2.1] [(0, .arr 25 2 true (b1507.map eRational))] [(0, 1507)] (vI (yy0.2.1 + ((sRationalS b1507 : Nat) : Int))) [(0, .arr 25 2 true ((mRationalS yy0.2.1 b1507).map eRational))] <| .join 3 0 1507 (List RationalD) eRationalS yy0.2.2 (fun a1507 => mRationalS yy0.2.1 b1507) (fun a1507 => .back [(0, 0)]))) (.fin [(0, 0)]))) ?_
  refine Eq.mpr (by kernel_rfl : _ = ((∃ (k : Nat) (z : Int) (r : List (List RationalD)), (0 : Int) = (k : Int) ∧ m = z ∧ x.map eRationalS = r.map eRationalS ∧ k ≤ x.length ∧ z = m + ((sumL sRationalS (x.take k) : Nat) : Int) ∧ r = markPre mRationalS sRationalS m x k) ∧ ∀ (k : Nat) (z : Int) (r : List (List RationalD)), (k ≤ x.length ∧ z = m + ((sumL sRationalS (x.take k) : Nat) : Int) ∧ r = markPre mRationalS sRationalS m x k) → (r.map eRationalS).length = r.length ∧ (((decide ((k : Int) < ((r.length : Nat) : Int))) = true → r.map eRationalS = r.map eRationalS ∧ k < r.length ∧ ∀ b1507, r[k]? = some b1507 → 0 ≤ (k : Int) ∧ (r.map eRationalS).length = r.length ∧ (k : Int) < ((r.length : Nat) : Int) ∧ (k = k ∧ (Con2 Try.prog 124 [.own 0, vI z] [(0, .arr 25 2 true (b1507.map eRational))] (vI (z + ((sRationalS b1507 : Nat) : Int))) [(0, .arr 25 2 true ((mRationalS z b1507).map eRational))] ∧ z = z ∧ b1507.map eRational = b1507.map eRational ∧ (r.map eRationalS = r.map eRationalS ∧ k < r.length ∧ ∀ a1507, r[k]? = some a1507 → ((eRationalS a1507).take 0 ++ .sl 25 2 ((mRationalS z b1507).map eRational) :: (eRationalS a1507).drop (0 + 1) = eRationalS (mRationalS z b1507)) ∧ inR ((k : Int) + (1 : Int)) ∧ ∃ (k' : Nat) (z' : Int) (r' : List (List RationalD)), ((k : Int) + (1 : Int)) = (k' : Int) ∧ (z + ((sRationalS b1507 : Nat) : Int)) = z' ∧ (r.set k (mRationalS z b1507)).map eRationalS = r'.map eRationalS ∧ (k' ≤ x.length ∧ z' = m + ((sumL sRationalS (x.take k') : Nat) : Int) ∧ r' = markPre mRationalS sRationalS m x k') ∧ x.length - k' < x.length - k)))) ∧ ((decide ((k : Int) < ((r.length : Nat) : Int))) = false → z = (m + ((sRationalSS x : Nat) : Int)) ∧ r.map eRationalS = (mRationalSS m x).map eRationalS ∧ True)))) ?_
  have hS : sRationalSS x = sumL sRationalS x := rfl
  have hC : cRationalSS x = x.length + sumL cRationalS x := rfl
  refine ⟨⟨0, m, x, rfl, rfl, rfl, Nat.zero_le _, by simp [sumL], (markPre_zero _ _ _ _).symm⟩, fun k z r ⟨hk, hz, hr⟩ => ?_⟩
  have hrl : r.length = x.length := by rw [hr]; exact markPre_len _ _ _ _ _ hk
  refine ⟨List.length_map _, ?_⟩
  refine ⟨fun c0 => ?_, fun c0 => ?_⟩
  · replace c0 := of_decide_eq_true c0
    obtain ⟨y, hy⟩ := at_some (l := x) (k := k) (by omega)
    have hry : r[k]? = some y := by rw [hr, markPre_get _ _ _ _ _ (by omega)]; exact hy
    have hs := sumL_snoc sRationalS hy
    have hle := sumL_le sRationalS x (k + 1)
    have hA : sumL sRationalS (x.take k) ≤ 5 * (k + sumL cRationalS (x.take k)) := pre5 (s := sRationalS) (c := cRationalS) (fun y => by have := sRationalS_le y; omega) x k hk
    have hB := sumL_snoc cRationalS hy
    have hD := sumL_le cRationalS x (k + 1)
    have hle5 := sRationalSS_le x
    have hy5 := sRationalS_le y
    refine ⟨rfl, by first | omega | (simp only [List.length_set]; omega), fun b1507 hb1507 => ?_⟩
    obtain rfl := (same_at hry hb1507).symm
    refine ⟨by omega, List.length_map _, by first | omega | (simp only [List.length_set]; omega), ?_⟩
    refine ⟨rfl, ?_⟩
    refine ⟨mk_RationalS _ _ (by omega) (by first | omega | (dsimp only; omega)), rfl, rfl, ?_⟩
    refine ⟨rfl, by first | omega | (simp only [List.length_set]; omega), fun a1507 ha1507 => ⟨rfl, ?_⟩⟩
    obtain rfl := (same_at hry ha1507).symm
    refine ⟨⟨by omega, by omega⟩, ?_⟩
    exact ⟨k + 1, _, _, rfl, rfl, rfl, ⟨by omega, by rw [hs, hz]; unfold sRationalS; omega, by subst hz hr; (try simp only [List.set_set]); exact markPre_set _ _ _ _ _ _ hy⟩, by omega⟩
  · replace c0 := of_decide_eq_false c0
    have hkx : k = x.length := by omega
    rw [hkx, List.take_length] at hz
    rw [hkx, markPre_done] at hr
    refine ⟨?_, ?_, trivial⟩
    · first | (rw [hz]; rfl) | (rw [hr]; rfl) | (rw [hz, hS])
    · first | (rw [hz]; rfl) | (rw [hr]; rfl) | (rw [hz, hS])

set_option maxRecDepth 100000 in
set_option maxHeartbeats 4000000 in
theorem mk_SizeConstraintS (x : List SizeConstraintD) (m : Int) (h0 : 0 ≤ m) (hm : m + 5 * ((cSizeConstraintS x : Nat) : Int) ≤ 4611686018427387904) : Con2 Try.prog 29 [.own 0, vI m] [(0, .arr 111 3 true (x.map eSizeConstraint))] (vI (m + ((sSizeConstraintS x : Nat) : Int))) [(0, .arr 111 3 true ((mSizeConstraintS m x).map eSizeConstraint))] := by
  refine con2_x tbOk mixedW Try.func29 (by kernel_rfl) (by kernel_rfl) (.loop (Nat × Int × (List SizeConstraintD)) (Q3 Nat Int (List SizeConstraintD)) [1, 5, 6, 7, 8, 9, 10, 11, 12, 13, 14, 15, 16, 17, 18, 19, 20, 21, 22, 23, 24, 25, 26, 27, 28, 29, 30, 31, 32] [0] (fun yy0 => [(5, vI (yy0.1 : Int)), (1, vI yy0.2.1)]) (fun yy0 => [(0, some (.arr 111 3 true (yy0.2.2.map eSizeConstraint)))]) (fun yy0 => yy0.1 ≤ x.length ∧ yy0.2.1 = m + ((sumL seSizeConstraint (x.take yy0.1) : Nat) : Int) ∧ yy0.2.2 = markPre meSizeConstraint seSizeConstraint m x yy0.1) (fun yy0 => x.length - yy0.1) (fun yy0 => .len yy0.2.2.length <| .br (.len yy0.2.2.length <| .set SizeConstraintD eSizeConstraint yy0.2.2 (fun s4_5 => (⟨yy0.2.1, s4_5.dst, s4_5.bits⟩ : SizeConstraintD)) (fun s4_5 => .len ((yy0.2.2.set yy0.1 (⟨yy0.2.1, s4_5.dst, s4_5.bits⟩ : SizeConstraintD)).length) <| .set SizeConstraintD eSizeConstraint (yy0.2.2.set yy0.1 (⟨yy0.2.1, s4_5.dst, s4_5.bits⟩ : SizeConstraintD)) (fun s6_5 => (⟨s6_5.src, yy0.2.1 + (1 : Int), s6_5.bits⟩ : SizeConstraintD)) (fun s6_5 => .len (((yy0.2.2.set yy0.1 (⟨yy0.2.1, s4_5.dst, s4_5.bits⟩ : SizeConstraintD)).set yy0.1 (⟨s6_5.src, yy0.2.1 + (1 : Int), s6_5.bits⟩ : SizeConstraintD)).length) <| .set SizeConstraintD eSizeConstraint ((yy0.2.2.set yy0.1 (⟨yy0.2.1, s4_5.dst, s4_5.bits⟩ : SizeConstraintD)).set yy0.1 (⟨s6_5.src, yy0.2.1 + (1 : Int), s6_5.bits⟩ : SizeConstraintD)) (fun s8_5 => (⟨s8_5.src, s8_5.dst, (yy0.2.1 + (1 : Int)) + (1 : Int)⟩ : SizeConstraintD)) (fun s8_5 => .back [(0, 0)])))) (.fin [(0, 0)]))) ?_
  refine Eq.mpr (by kernel_rfl : _ = ((∃ (k : Nat) (z : Int) (r : List SizeConstraintD), (0 : Int) = (k : Int) ∧ m = z ∧ x.map eSizeConstraint = r.map eSizeConstraint ∧ k ≤ x.length ∧ z = m + ((sumL seSizeConstraint (x.take k) : Nat) : Int) ∧ r = markPre meSizeConstraint seSizeConstraint m x k) ∧ ∀ (k : Nat) (z : Int) (r : List SizeConstraintD), (k ≤ x.length ∧ z = m + ((sumL seSizeConstraint (x.take k) : Nat) : Int) ∧ r = markPre meSizeConstraint seSizeConstraint m x k) → (r.map eSizeConstraint).length = r.length ∧ (((decide ((k : Int) < ((r.length : Nat) : Int))) = true → 0 ≤ (k : Int) ∧ (r.map eSizeConstraint).length = r.length ∧ (k : Int) < ((r.length : Nat) : Int) ∧ (r.map eSizeConstraint = r.map eSizeConstraint ∧ k < r.length ∧ ∀ s4_5, r[k]? = some s4_5 → flatB (eSizeConstraint s4_5) = true ∧ 0 + 1 ≤ (eSizeConstraint s4_5).length ∧ (eSizeConstraint s4_5).take 0 ++ [.int .i64 z] ++ (eSizeConstraint s4_5).drop (0 + 1) = eSizeConstraint (⟨z, s4_5.dst, s4_5.bits⟩ : SizeConstraintD) ∧ (inR (z + (1 : Int)) ∧ (0 ≤ (k : Int) ∧ ((r.set k (⟨z, s4_5.dst, s4_5.bits⟩ : SizeConstraintD)).map eSizeConstraint).length = (r.set k (⟨z, s4_5.dst, s4_5.bits⟩ : SizeConstraintD)).length ∧ (k : Int) < (((r.set k (⟨z, s4_5.dst, s4_5.bits⟩ : SizeConstraintD)).length : Nat) : Int) ∧ ((r.set k (⟨z, s4_5.dst, s4_5.bits⟩ : SizeConstraintD)).map eSizeConstraint = (r.set k (⟨z, s4_5.dst, s4_5.bits⟩ : SizeConstraintD)).map eSizeConstraint ∧ k < (r.set k (⟨z, s4_5.dst, s4_5.bits⟩ : SizeConstraintD)).length ∧ ∀ s6_5, (r.set k (⟨z, s4_5.dst, s4_5.bits⟩ : SizeConstraintD))[k]? = some s6_5 → flatB (eSizeConstraint s6_5) = true ∧ 1 + 1 ≤ (eSizeConstraint s6_5).length ∧ (eSizeConstraint s6_5).take 1 ++ [.int .i64 (z + (1 : Int))] ++ (eSizeConstraint s6_5).drop (1 + 1) = eSizeConstraint (⟨s6_5.src, z + (1 : Int), s6_5.bits⟩ : SizeConstraintD) ∧ (inR ((z + (1 : Int)) + (1 : Int)) ∧ (0 ≤ (k : Int) ∧ (((r.set k (⟨z, s4_5.dst, s4_5.bits⟩ : SizeConstraintD)).set k (⟨s6_5.src, z + (1 : Int), s6_5.bits⟩ : SizeConstraintD)).map eSizeConstraint).length = ((r.set k (⟨z, s4_5.dst, s4_5.bits⟩ : SizeConstraintD)).set k (⟨s6_5.src, z + (1 : Int), s6_5.bits⟩ : SizeConstraintD)).length ∧ (k : Int) < ((((r.set k (⟨z, s4_5.dst, s4_5.bits⟩ : SizeConstraintD)).set k (⟨s6_5.src, z + (1 : Int), s6_5.bits⟩ : SizeConstraintD)).length : Nat) : Int) ∧ (((r.set k (⟨z, s4_5.dst, s4_5.bits⟩ : SizeConstraintD)).set k (⟨s6_5.src, z + (1 : Int), s6_5.bits⟩ : SizeConstraintD)).map eSizeConstraint = ((r.set k (⟨z, s4_5.dst, s4_5.bits⟩ : SizeConstraintD)).set k (⟨s6_5.src, z + (1 : Int), s6_5.bits⟩ : SizeConstraintD)).map eSizeConstraint ∧ k < ((r.set k (⟨z, s4_5.dst, s4_5.bits⟩ : SizeConstraintD)).set k (⟨s6_5.src, z + (1 : Int), s6_5.bits⟩ : SizeConstraintD)).length ∧ ∀ s8_5, ((r.set k (⟨z, s4_5.dst, s4_5.bits⟩ : SizeConstraintD)).set k (⟨s6_5.src, z + (1 : Int), s6_5.bits⟩ : SizeConstraintD))[k]? = some s8_5 → flatB (eSizeConstraint s8_5) = true ∧ 2 + 1 ≤ (eSizeConstraint s8_5).length ∧ (eSizeConstraint s8_5).take 2 ++ [.int .i64 ((z + (1 : Int)) + (1 : Int))] ++ (eSizeConstraint s8_5).drop (2 + 1) = eSizeConstraint (⟨s8_5.src, s8_5.dst, (z + (1 : Int)) + (1 : Int)⟩ : SizeConstraintD) ∧ inR (((z + (1 : Int)) + (1 : Int)) + (1 : Int)) ∧ inR ((k : Int) + (1 : Int)) ∧ ∃ (k' : Nat) (z' : Int) (r' : List SizeConstraintD), ((k : Int) + (1 : Int)) = (k' : Int) ∧ (((z + (1 : Int)) + (1 : Int)) + (1 : Int)) = z' ∧ (((r.set k (⟨z, s4_5.dst, s4_5.bits⟩ : SizeConstraintD)).set k (⟨s6_5.src, z + (1 : Int), s6_5.bits⟩ : SizeConstraintD)).set k (⟨s8_5.src, s8_5.dst, (z + (1 : Int)) + (1 : Int)⟩ : SizeConstraintD)).map eSizeConstraint = r'.map eSizeConstraint ∧ (k' ≤ x.length ∧ z' = m + ((sumL seSizeConstraint (x.take k') : Nat) : Int) ∧ r' = markPre meSizeConstraint seSizeConstraint m x k') ∧ x.length - k' < x.length - k)))))))) ∧ ((decide ((k : Int) < ((r.length : Nat) : Int))) = false → z = (m + ((sSizeConstraintS x : Nat) : Int)) ∧ r.map eSizeConstraint = (mSizeConstraintS m x).map eSizeConstraint ∧ True)))) ?_
  have hS : sSizeConstraintS x = sumL seSizeConstraint x := rfl
  have hC : cSizeConstraintS x = x.length := rfl
  refine ⟨⟨0, m, x, rfl, rfl, rfl, Nat.zero_le _, by simp [sumL], (markPre_zero _ _ _ _).symm⟩, fun k z r ⟨hk, hz, hr⟩ => ?_⟩
  have hrl : r.length = x.length := by rw [hr]; exact markPre_len _ _ _ _ _ hk
  refine ⟨List.length_map _, ?_⟩
  refine ⟨fun c0 => ?_, fun c0 => ?_⟩
  · replace c0 := of_decide_eq_true c0
    obtain ⟨y, hy⟩ := at_some (l := x) (k := k) (by omega)
    have hry : r[k]? = some y := by rw [hr, markPre_get _ _ _ _ _ (by omega)]; exact hy
    have hs := sumL_snoc seSizeConstraint hy
    have hle := sumL_le seSizeConstraint x (k + 1)
    have hA : sumL seSizeConstraint (x.take k) ≤ 5 * k := pre4 (fun y => by have := seSizeConstraint_le y; simpa [cSizeConstraint] using this) x k hk
    have hle5 := sSizeConstraintS_le x
    have hE : seSizeConstraint y = 1 + 1 + 1 := rfl
    refine ⟨by omega, List.length_map _, by first | omega | (simp only [List.length_set]; omega), ?_⟩
    refine ⟨rfl, by first | omega | (simp only [List.length_set]; omega), fun s4_5 hs4_5 => ⟨rfl, Nat.le_of_ble_eq_true rfl, rfl, ?_⟩⟩
    obtain rfl := (same_at hry hs4_5).symm
    refine ⟨⟨by omega, by omega⟩, ?_⟩
    refine ⟨by omega, List.length_map _, by first | omega | (simp only [List.length_set]; omega), ?_⟩
    refine ⟨rfl, by first | omega | (simp only [List.length_set]; omega), fun s6_5 hs6_5 => ⟨rfl, Nat.le_of_ble_eq_true rfl, rfl, ?_⟩⟩
    obtain rfl := at_set hs6_5
    refine ⟨⟨by omega, by omega⟩, ?_⟩
    refine ⟨by omega, List.length_map _, by first | omega | (simp only [List.length_set]; omega), ?_⟩
    refine ⟨rfl, by first | omega | (simp only [List.length_set]; omega), fun s8_5 hs8_5 => ⟨rfl, Nat.le_of_ble_eq_true rfl, rfl, ?_⟩⟩
    obtain rfl := at_set hs8_5
    refine ⟨⟨by omega, by omega⟩, ?_⟩
    refine ⟨⟨by omega, by omega⟩, ?_⟩
    exact ⟨k + 1, _, _, rfl, rfl, rfl, ⟨by omega, by rw [hs]; (try dsimp only); omega, by subst hz hr; (try simp only [List.set_set]); exact markPre_set _ _ _ _ _ _ hy⟩, by omega⟩
  · replace c0 := of_decide_eq_false c0
    have hkx : k = x.length := by omega
    rw [hkx, List.take_length] at hz
    rw [hkx, markPre_done] at hr
    refine ⟨?_, ?_, trivial⟩
    · first | (rw [hz]; rfl) | (rw [hr]; rfl) | (rw [hz, hS])
    · first | (rw [hz]; rfl) | (rw [hr]; rfl) | (rw [hz, hS])

set_option maxRecDepth 100000 in
set_option maxHeartbeats 4000000 in
theorem mk_Program (x : ProgramD) (m : Int) (h0 : 0 ≤ m) (hm : m + 5 * ((cProgram x : Nat) : Int) ≤ 4611686018427387904) : Con2 Try.prog 40 [.agg [.own 0, .own 1, .own 2], vI m] [(0, .arr 3 1 true (x.objective.map intD)), (1, .arr 34 1 true (x.rows.map eIntS)), (2, .arr 3 1 true (x.limits.map intD))] (vI (m + ((stProgram x : Nat) : Int))) [(0, .arr 3 1 true (((mtProgram m x).objective).map intD)), (1, .arr 34 1 true (((mtProgram m x).rows).map eIntS)), (2, .arr 3 1 true (((mtProgram m x).limits).map intD))] := by
  refine con2_x tbOk mixedW Try.func40 (by kernel_rfl) (by kernel_rfl) (.callx [.own 0, vI m] [(0, .arr 3 1 true (x.objective.map intD))] [(0, 0)] (vI (m + ((sIntS x.objective : Nat) : Int))) [(0, .arr 3 1 true ((mIntS m x.objective).map intD))] <| .callx [.own 0, vI (m + ((sIntS x.objective : Nat) : Int))] [(0, .arr 34 1 true (x.rows.map eIntS))] [(0, 1)] (vI ((m + ((sIntS x.objective : Nat) : Int)) + ((sIntSS x.rows : Nat) : Int))) [(0, .arr 34 1 true ((mIntSS (m + ((sIntS x.objective : Nat) : Int)) x.rows).map eIntS))] <| .callx [.own 0, vI ((m + ((sIntS x.objective : Nat) : Int)) + ((sIntSS x.rows : Nat) : Int))] [(0, .arr 3 1 true (x.limits.map intD))] [(0, 2)] (vI (((m + ((sIntS x.objective : Nat) : Int)) + ((sIntSS x.rows : Nat) : Int)) + ((sIntS x.limits : Nat) : Int))) [(0, .arr 3 1 true ((mIntS ((m + ((sIntS x.objective : Nat) : Int)) + ((sIntSS x.rows : Nat) : Int)) x.limits).map intD))] <| .fin [(0, 0), (1, 1), (2, 2)]) ?_
  refine Eq.mpr (by kernel_rfl : _ = (Con2 Try.prog 30 [.own 0, vI m] [(0, .arr 3 1 true (x.objective.map intD))] (vI (m + ((sIntS x.objective : Nat) : Int))) [(0, .arr 3 1 true ((mIntS m x.objective).map intD))] ∧ m = m ∧ x.objective.map intD = x.objective.map intD ∧ Con2 Try.prog 20 [.own 0, vI (m + ((sIntS x.objective : Nat) : Int))] [(0, .arr 34 1 true (x.rows.map eIntS))] (vI ((m + ((sIntS x.objective : Nat) : Int)) + ((sIntSS x.rows : Nat) : Int))) [(0, .arr 34 1 true ((mIntSS (m + ((sIntS x.objective : Nat) : Int)) x.rows).map eIntS))] ∧ (m + ((sIntS x.objective : Nat) : Int)) = (m + ((sIntS x.objective : Nat) : Int)) ∧ x.rows.map eIntS = x.rows.map eIntS ∧ Con2 Try.prog 30 [.own 0, vI ((m + ((sIntS x.objective : Nat) : Int)) + ((sIntSS x.rows : Nat) : Int))] [(0, .arr 3 1 true (x.limits.map intD))] (vI (((m + ((sIntS x.objective : Nat) : Int)) + ((sIntSS x.rows : Nat) : Int)) + ((sIntS x.limits : Nat) : Int))) [(0, .arr 3 1 true ((mIntS ((m + ((sIntS x.objective : Nat) : Int)) + ((sIntSS x.rows : Nat) : Int)) x.limits).map intD))] ∧ ((m + ((sIntS x.objective : Nat) : Int)) + ((sIntSS x.rows : Nat) : Int)) = ((m + ((sIntS x.objective : Nat) : Int)) + ((sIntSS x.rows : Nat) : Int)) ∧ x.limits.map intD = x.limits.map intD ∧ (((m + ((sIntS x.objective : Nat) : Int)) + ((sIntSS x.rows : Nat) : Int)) + ((sIntS x.limits : Nat) : Int)) = (m + ((stProgram x : Nat) : Int)) ∧ (mIntS m x.objective).map intD = ((mtProgram m x).objective).map intD ∧ (mIntSS (m + ((sIntS x.objective : Nat) : Int)) x.rows).map eIntS = ((mtProgram m x).rows).map eIntS ∧ (mIntS ((m + ((sIntS x.objective : Nat) : Int)) + ((sIntSS x.rows : Nat) : Int)) x.limits).map intD = ((mtProgram m x).limits).map intD ∧ True)) ?_
  have hS : stProgram x = sIntS x.objective + sIntSS x.rows + sIntS x.limits := rfl
  have hC : cProgram x = cIntS x.objective + cIntSS x.rows + cIntS x.limits := rfl
  have := sIntS_le x.objective
  have := sIntSS_le x.rows
  have := sIntS_le x.limits
  refine ⟨mk_IntS _ _ (by omega) (by first | omega | (dsimp only; omega)), rfl, rfl, ?_⟩
  refine ⟨mk_IntSS _ _ (by omega) (by first | omega | (dsimp only; omega)), rfl, rfl, ?_⟩
  refine ⟨mk_IntS _ _ (by omega) (by first | omega | (dsimp only; omega)), rfl, rfl, ?_⟩
  refine ⟨?_, ?_, ?_, ?_, trivial⟩
  · first | rfl | (rw [hS]; omega)
  · first | rfl | (rw [hS]; omega)
  · first | rfl | (rw [hS]; omega)
  · first | rfl | (rw [hS]; omega)

set_option maxRecDepth 100000 in
set_option maxHeartbeats 4000000 in
theorem mk_Dictionary (x : DictionaryD) (m : Int) (h0 : 0 ≤ m) (hm : m + 5 * ((cDictionary x : Nat) : Int) ≤ 4611686018427387904) : Con2 Try.prog 57 [.agg [.own 0, .own 1, .own 2, .own 3, .own 4, vI x.value.num, vI x.value.den], vI m] [(0, .arr 3 1 true (x.basic.map intD)), (1, .arr 3 1 true (x.others.map intD)), (2, .arr 66 1 true (x.table.map eRationalS)), (3, .arr 25 2 true (x.limits.map eRational)), (4, .arr 25 2 true (x.costs.map eRational))] (vI (m + ((stDictionary x : Nat) : Int))) [(0, .arr 3 1 true (((mtDictionary m x).basic).map intD)), (1, .arr 3 1 true (((mtDictionary m x).others).map intD)), (2, .arr 66 1 true (((mtDictionary m x).table).map eRationalS)), (3, .arr 25 2 true (((mtDictionary m x).limits).map eRational)), (4, .arr 25 2 true (((mtDictionary m x).costs).map eRational))] := by
  refine con2_x tbOk mixedW Try.func57 (by kernel_rfl) (by kernel_rfl) (.callx [.own 0, vI m] [(0, .arr 3 1 true (x.basic.map intD))] [(0, 0)] (vI (m + ((sIntS x.basic : Nat) : Int))) [(0, .arr 3 1 true ((mIntS m x.basic).map intD))] <| .callx [.own 0, vI (m + ((sIntS x.basic : Nat) : Int))] [(0, .arr 3 1 true (x.others.map intD))] [(0, 1)] (vI ((m + ((sIntS x.basic : Nat) : Int)) + ((sIntS x.others : Nat) : Int))) [(0, .arr 3 1 true ((mIntS (m + ((sIntS x.basic : Nat) : Int)) x.others).map intD))] <| .callx [.own 0, vI ((m + ((sIntS x.basic : Nat) : Int)) + ((sIntS x.others : Nat) : Int))] [(0, .arr 66 1 true (x.table.map eRationalS))] [(0, 2)] (vI (((m + ((sIntS x.basic : Nat) : Int)) + ((sIntS x.others : Nat) : Int)) + ((sRationalSS x.table : Nat) : Int))) [(0, .arr 66 1 true ((mRationalSS ((m + ((sIntS x.basic : Nat) : Int)) + ((sIntS x.others : Nat) : Int)) x.table).map eRationalS))] <| .callx [.own 0, vI (((m + ((sIntS x.basic : Nat) : Int)) + ((sIntS x.others : Nat) : Int)) + ((sRationalSS x.table : Nat) : Int))] [(0, .arr 25 2 true (x.limits.map eRational))] [(0, 3)] (vI ((((m + ((sIntS x.basic : Nat) : Int)) + ((sIntS x.others : Nat) : Int)) + ((sRationalSS x.table : Nat) : Int)) + ((sRationalS x.limits : Nat) : Int))) [(0, .arr 25 2 true ((mRationalS (((m + ((sIntS x.basic : Nat) : Int)) + ((sIntS x.others : Nat) : Int)) + ((sRationalSS x.table : Nat) : Int)) x.limits).map eRational))] <| .callx [.own 0, vI ((((m + ((sIntS x.basic : Nat) : Int)) + ((sIntS x.others : Nat) : Int)) + ((sRationalSS x.table : Nat) : Int)) + ((sRationalS x.limits : Nat) : Int))] [(0, .arr 25 2 true (x.costs.map eRational))] [(0, 4)] (vI (((((m + ((sIntS x.basic : Nat) : Int)) + ((sIntS x.others : Nat) : Int)) + ((sRationalSS x.table : Nat) : Int)) + ((sRationalS x.limits : Nat) : Int)) + ((sRationalS x.costs : Nat) : Int))) [(0, .arr 25 2 true ((mRationalS ((((m + ((sIntS x.basic : Nat) : Int)) + ((sIntS x.others : Nat) : Int)) + ((sRationalSS x.table : Nat) : Int)) + ((sRationalS x.limits : Nat) : Int)) x.costs).map eRational))] <| .fin [(0, 0), (1, 1), (2, 2), (3, 3), (4, 4)]) ?_
  refine Eq.mpr (by kernel_rfl : _ = (Con2 Try.prog 30 [.own 0, vI m] [(0, .arr 3 1 true (x.basic.map intD))] (vI (m + ((sIntS x.basic : Nat) : Int))) [(0, .arr 3 1 true ((mIntS m x.basic).map intD))] ∧ m = m ∧ x.basic.map intD = x.basic.map intD ∧ Con2 Try.prog 30 [.own 0, vI (m + ((sIntS x.basic : Nat) : Int))] [(0, .arr 3 1 true (x.others.map intD))] (vI ((m + ((sIntS x.basic : Nat) : Int)) + ((sIntS x.others : Nat) : Int))) [(0, .arr 3 1 true ((mIntS (m + ((sIntS x.basic : Nat) : Int)) x.others).map intD))] ∧ (m + ((sIntS x.basic : Nat) : Int)) = (m + ((sIntS x.basic : Nat) : Int)) ∧ x.others.map intD = x.others.map intD ∧ Con2 Try.prog 135 [.own 0, vI ((m + ((sIntS x.basic : Nat) : Int)) + ((sIntS x.others : Nat) : Int))] [(0, .arr 66 1 true (x.table.map eRationalS))] (vI (((m + ((sIntS x.basic : Nat) : Int)) + ((sIntS x.others : Nat) : Int)) + ((sRationalSS x.table : Nat) : Int))) [(0, .arr 66 1 true ((mRationalSS ((m + ((sIntS x.basic : Nat) : Int)) + ((sIntS x.others : Nat) : Int)) x.table).map eRationalS))] ∧ ((m + ((sIntS x.basic : Nat) : Int)) + ((sIntS x.others : Nat) : Int)) = ((m + ((sIntS x.basic : Nat) : Int)) + ((sIntS x.others : Nat) : Int)) ∧ x.table.map eRationalS = x.table.map eRationalS ∧ Con2 Try.prog 124 [.own 0, vI (((m + ((sIntS x.basic : Nat) : Int)) + ((sIntS x.others : Nat) : Int)) + ((sRationalSS x.table : Nat) : Int))] [(0, .arr 25 2 true (x.limits.map eRational))] (vI ((((m + ((sIntS x.basic : Nat) : Int)) + ((sIntS x.others : Nat) : Int)) + ((sRationalSS x.table : Nat) : Int)) + ((sRationalS x.limits : Nat) : Int))) [(0, .arr 25 2 true ((mRationalS (((m + ((sIntS x.basic : Nat) : Int)) + ((sIntS x.others : Nat) : Int)) + ((sRationalSS x.table : Nat) : Int)) x.limits).map eRational))] ∧ (((m + ((sIntS x.basic : Nat) : Int)) + ((sIntS x.others : Nat) : Int)) + ((sRationalSS x.table : Nat) : Int)) = (((m + ((sIntS x.basic : Nat) : Int)) + ((sIntS x.others : Nat) : Int)) + ((sRationalSS x.table : Nat) : Int)) ∧ x.limits.map eRational = x.limits.map eRational ∧ Con2 Try.prog 124 [.own 0, vI ((((m + ((sIntS x.basic : Nat) : Int)) + ((sIntS x.others : Nat) : Int)) + ((sRationalSS x.table : Nat) : Int)) + ((sRationalS x.limits : Nat) : Int))] [(0, .arr 25 2 true (x.costs.map eRational))] (vI (((((m + ((sIntS x.basic : Nat) : Int)) + ((sIntS x.others : Nat) : Int)) + ((sRationalSS x.table : Nat) : Int)) + ((sRationalS x.limits : Nat) : Int)) + ((sRationalS x.costs : Nat) : Int))) [(0, .arr 25 2 true ((mRationalS ((((m + ((sIntS x.basic : Nat) : Int)) + ((sIntS x.others : Nat) : Int)) + ((sRationalSS x.table : Nat) : Int)) + ((sRationalS x.limits : Nat) : Int)) x.costs).map eRational))] ∧ ((((m + ((sIntS x.basic : Nat) : Int)) + ((sIntS x.others : Nat) : Int)) + ((sRationalSS x.table : Nat) : Int)) + ((sRationalS x.limits : Nat) : Int)) = ((((m + ((sIntS x.basic : Nat) : Int)) + ((sIntS x.others : Nat) : Int)) + ((sRationalSS x.table : Nat) : Int)) + ((sRationalS x.limits : Nat) : Int)) ∧ x.costs.map eRational = x.costs.map eRational ∧ (((((m + ((sIntS x.basic : Nat) : Int)) + ((sIntS x.others : Nat) : Int)) + ((sRationalSS x.table : Nat) : Int)) + ((sRationalS x.limits : Nat) : Int)) + ((sRationalS x.costs : Nat) : Int)) = (m + ((stDictionary x : Nat) : Int)) ∧ (mIntS m x.basic).map intD = ((mtDictionary m x).basic).map intD ∧ (mIntS (m + ((sIntS x.basic : Nat) : Int)) x.others).map intD = ((mtDictionary m x).others).map intD ∧ (mRationalSS ((m + ((sIntS x.basic : Nat) : Int)) + ((sIntS x.others : Nat) : Int)) x.table).map eRationalS = ((mtDictionary m x).table).map eRationalS ∧ (mRationalS (((m + ((sIntS x.basic : Nat) : Int)) + ((sIntS x.others : Nat) : Int)) + ((sRationalSS x.table : Nat) : Int)) x.limits).map eRational = ((mtDictionary m x).limits).map eRational ∧ (mRationalS ((((m + ((sIntS x.basic : Nat) : Int)) + ((sIntS x.others : Nat) : Int)) + ((sRationalSS x.table : Nat) : Int)) + ((sRationalS x.limits : Nat) : Int)) x.costs).map eRational = ((mtDictionary m x).costs).map eRational ∧ True)) ?_
  have hS : stDictionary x = sIntS x.basic + sIntS x.others + sRationalSS x.table + sRationalS x.limits + sRationalS x.costs := rfl
  have hC : cDictionary x = cIntS x.basic + cIntS x.others + cRationalSS x.table + cRationalS x.limits + cRationalS x.costs := rfl
  have := sIntS_le x.basic
  have := sIntS_le x.others
  have := sRationalSS_le x.table
  have := sRationalS_le x.limits
  have := sRationalS_le x.costs
  refine ⟨mk_IntS _ _ (by omega) (by first | omega | (dsimp only; omega)), rfl, rfl, ?_⟩
  refine ⟨mk_IntS _ _ (by omega) (by first | omega | (dsimp only; omega)), rfl, rfl, ?_⟩
  refine ⟨mk_RationalSS _ _ (by omega) (by first | omega | (dsimp only; omega)), rfl, rfl, ?_⟩
  refine ⟨mk_RationalS _ _ (by omega) (by first | omega | (dsimp only; omega)), rfl, rfl, ?_⟩
  refine ⟨mk_RationalS _ _ (by omega) (by first | omega | (dsimp only; omega)), rfl, rfl, ?_⟩
  refine ⟨?_, ?_, ?_, ?_, ?_, ?_, trivial⟩
  · first | rfl | (rw [hS]; omega)
  · first | rfl | (rw [hS]; omega)
  · first | rfl | (rw [hS]; omega)
  · first | rfl | (rw [hS]; omega)
  · first | rfl | (rw [hS]; omega)
  · first | rfl | (rw [hS]; omega)

set_option maxRecDepth 100000 in
set_option maxHeartbeats 4000000 in
theorem mk_Solution (x : SolutionD) (m : Int) (h0 : 0 ≤ m) (hm : m + 5 * ((cSolution x : Nat) : Int) ≤ 4611686018427387904) : Con2 Try.prog 50 [.agg [vI x.value.num, vI x.value.den, .own 0, .own 1], vI m] [(0, .arr 25 2 true (x.primal.map eRational)), (1, .arr 25 2 true (x.dual.map eRational))] (vI (m + ((stSolution x : Nat) : Int))) [(0, .arr 25 2 true (((mtSolution m x).primal).map eRational)), (1, .arr 25 2 true (((mtSolution m x).dual).map eRational))] := by
  refine con2_x tbOk mixedW Try.func50 (by kernel_rfl) (by kernel_rfl) (.callx [.own 0, vI m] [(0, .arr 25 2 true (x.primal.map eRational))] [(0, 0)] (vI (m + ((sRationalS x.primal : Nat) : Int))) [(0, .arr 25 2 true ((mRationalS m x.primal).map eRational))] <| .callx [.own 0, vI (m + ((sRationalS x.primal : Nat) : Int))] [(0, .arr 25 2 true (x.dual.map eRational))] [(0, 1)] (vI ((m + ((sRationalS x.primal : Nat) : Int)) + ((sRationalS x.dual : Nat) : Int))) [(0, .arr 25 2 true ((mRationalS (m + ((sRationalS x.primal : Nat) : Int)) x.dual).map eRational))] <| .fin [(0, 0), (1, 1)]) ?_
  refine Eq.mpr (by kernel_rfl : _ = (Con2 Try.prog 124 [.own 0, vI m] [(0, .arr 25 2 true (x.primal.map eRational))] (vI (m + ((sRationalS x.primal : Nat) : Int))) [(0, .arr 25 2 true ((mRationalS m x.primal).map eRational))] ∧ m = m ∧ x.primal.map eRational = x.primal.map eRational ∧ Con2 Try.prog 124 [.own 0, vI (m + ((sRationalS x.primal : Nat) : Int))] [(0, .arr 25 2 true (x.dual.map eRational))] (vI ((m + ((sRationalS x.primal : Nat) : Int)) + ((sRationalS x.dual : Nat) : Int))) [(0, .arr 25 2 true ((mRationalS (m + ((sRationalS x.primal : Nat) : Int)) x.dual).map eRational))] ∧ (m + ((sRationalS x.primal : Nat) : Int)) = (m + ((sRationalS x.primal : Nat) : Int)) ∧ x.dual.map eRational = x.dual.map eRational ∧ ((m + ((sRationalS x.primal : Nat) : Int)) + ((sRationalS x.dual : Nat) : Int)) = (m + ((stSolution x : Nat) : Int)) ∧ (mRationalS m x.primal).map eRational = ((mtSolution m x).primal).map eRational ∧ (mRationalS (m + ((sRationalS x.primal : Nat) : Int)) x.dual).map eRational = ((mtSolution m x).dual).map eRational ∧ True)) ?_
  have hS : stSolution x = sRationalS x.primal + sRationalS x.dual := rfl
  have hC : cSolution x = cRationalS x.primal + cRationalS x.dual := rfl
  have := sRationalS_le x.primal
  have := sRationalS_le x.dual
  refine ⟨mk_RationalS _ _ (by omega) (by first | omega | (dsimp only; omega)), rfl, rfl, ?_⟩
  refine ⟨mk_RationalS _ _ (by omega) (by first | omega | (dsimp only; omega)), rfl, rfl, ?_⟩
  refine ⟨?_, ?_, ?_, trivial⟩
  · first | rfl | (rw [hS]; omega)
  · first | rfl | (rw [hS]; omega)
  · first | rfl | (rw [hS]; omega)
end Go.Proofs.Ytcfilkhjababjaa
