/-
  Marks: the laws' helpers.
-/
import Derived.Test.YtjlagjhmlmfjeaaDm
namespace Go.Proofs.Ytjlagjhmlmfjeaa
open Go.ChangeShapes Go.WideShapes Go.ChangeAt Go.RowKit
set_option linter.unusedVariables false
set_option linter.unusedSimpArgs false
set_option maxRecDepth 100000 in
set_option maxHeartbeats 4000000 in
theorem mk_IntS (x : List Int) (m : Int) (h0 : 0 ≤ m) (hm : m + 5 * ((cIntS x : Nat) : Int) ≤ 4611686018427387904) : Con2 Try.prog 97 [.own 0, vI m] [(0, .arr 3 1 true (x.map intD))] (vI (m + ((sIntS x : Nat) : Int))) [(0, .arr 3 1 true ((mIntS m x).map intD))] := by
  refine con2_x tbOk mixedW Try.func97 (by kernel_rfl) (by kernel_rfl) (.loop (Nat × Int × (List Int)) (Q3 Nat Int (List Int)) [1, 5, 6, 7, 8, 9, 10, 11, 12, 13, 14, 15, 16, 17] [0] (fun yy0 => [(5, vI (yy0.1 : Int)), (1, vI yy0.2.1)]) (fun yy0 => [(0, some (.arr 3 1 true (yy0.2.2.map intD)))]) (fun yy0 => yy0.1 ≤ x.length ∧ yy0.2.1 = m + ((sumL sInt (x.take yy0.1) : Nat) : Int) ∧ yy0.2.2 = markPre mInt sInt m x yy0.1) (fun yy0 => x.length - yy0.1) (fun yy0 => .len yy0.2.2.length <| .br (.len yy0.2.2.length <| .set Int intD yy0.2.2 (fun s4_4 => yy0.2.1) (fun s4_4 => .back [(0, 0)])) (.fin [(0, 0)]))) ?_
  refine Eq.mpr (by kernel_rfl : _ = ((∃ (k : Nat) (z : Int) (r : List Int), (0 : Int) = (k : Int) ∧ m = z ∧ x.map intD = r.map intD ∧ k ≤ x.length ∧ z = m + ((sumL sInt (x.take k) : Nat) : Int) ∧ r = markPre mInt sInt m x k) ∧ ∀ (k : Nat) (z : Int) (r : List Int), (k ≤ x.length ∧ z = m + ((sumL sInt (x.take k) : Nat) : Int) ∧ r = markPre mInt sInt m x k) → (r.map intD).length = r.length ∧ (((decide ((k : Int) < ((r.length : Nat) : Int))) = true → 0 ≤ (k : Int) ∧ (r.map intD).length = r.length ∧ (k : Int) < ((r.length : Nat) : Int) ∧ (r.map intD = r.map intD ∧ k < r.length ∧ ∀ s4_4, r[k]? = some s4_4 → flatB (intD s4_4) = true ∧ 0 + 1 ≤ (intD s4_4).length ∧ (intD s4_4).take 0 ++ [.int .i64 z] ++ (intD s4_4).drop (0 + 1) = intD z ∧ inR (z + (1 : Int)) ∧ inR ((k : Int) + (1 : Int)) ∧ ∃ (k' : Nat) (z' : Int) (r' : List Int), ((k : Int) + (1 : Int)) = (k' : Int) ∧ (z + (1 : Int)) = z' ∧ (r.set k z).map intD = r'.map intD ∧ (k' ≤ x.length ∧ z' = m + ((sumL sInt (x.take k') : Nat) : Int) ∧ r' = markPre mInt sInt m x k') ∧ x.length - k' < x.length - k)) ∧ ((decide ((k : Int) < ((r.length : Nat) : Int))) = false → z = (m + ((sIntS x : Nat) : Int)) ∧ r.map intD = (mIntS m x).map intD ∧ True)))) ?_
  have hS : sIntS x = sumL sInt x := rfl
  have hC : cIntS x = x.length := rfl
  refine ⟨⟨0, m, x, rfl, rfl, rfl, Nat.zero_le _, by simp [sumL], (markPre_zero _ _ _ _).symm⟩, fun k z r ⟨hk, hz, hr⟩ => ?_⟩
  have hrl : r.length = x.length := by rw [hr]; exact markPre_len _ _ _ _ _ hk
  refine ⟨List.length_map _, ?_⟩
  refine ⟨fun c0 => ?_, fun c0 => ?_⟩
  · replace c0 := of_decide_eq_true c0
    obtain ⟨y, hy⟩ := at_some (l := x) (k := k) (by omega)
    have hry : r[k]? = some y := by rw [hr, markPre_get _ _ _ _ _ (by omega)]; exact hy
    have hs := sumL_snoc sInt hy
    have hle := sumL_le sInt x (k + 1)
    have hA : sumL sInt (x.take k) ≤ 5 * k := pre4 (fun _ => by simp [sInt]) x k hk
    have hle5 := sIntS_le x
    have hE : sInt y = 1 := rfl
    refine ⟨by omega, List.length_map _, by first | omega | (simp only [List.length_set]; omega), ?_⟩
    refine ⟨rfl, by first | omega | (simp only [List.length_set]; omega), fun s4_4 hs4_4 => ⟨rfl, Nat.le_of_ble_eq_true rfl, rfl, ?_⟩⟩
    obtain rfl := (same_at hry hs4_4).symm
    refine ⟨⟨by omega, by omega⟩, ?_⟩
    refine ⟨⟨by omega, by omega⟩, ?_⟩
    exact ⟨k + 1, _, _, rfl, rfl, rfl, ⟨by omega, by rw [hs]; (try dsimp only); omega, by subst hz hr; (try simp only [List.set_set]); exact markPre_set _ _ _ _ _ _ hy⟩, by omega⟩
  · replace c0 := of_decide_eq_false c0
    have hkx : k = x.length := by omega
    rw [hkx, List.take_length] at hz
    rw [hkx, markPre_done] at hr
    refine ⟨?_, ?_, trivial⟩
    · first | (rw [hz]; rfl) | (rw [hr]; rfl) | (rw [hz, hS])
    · first | (rw [hz]; rfl) | (rw [hr]; rfl) | (rw [hz, hS])

set_option maxRecDepth 100000 in
set_option maxHeartbeats 4000000 in
theorem mk_IntSS (x : List (List Int)) (m : Int) (h0 : 0 ≤ m) (hm : m + 5 * ((cIntSS x : Nat) : Int) ≤ 4611686018427387904) : Con2 Try.prog 91 [.own 0, vI m] [(0, .arr 72 1 true (x.map eIntS))] (vI (m + ((sIntSS x : Nat) : Int))) [(0, .arr 72 1 true ((mIntSS m x).map eIntS))] := by
  refine con2_x tbOk mixedW Try.func91 (by kernel_rfl) (by kernel_rfl) (.loop (Nat × Int × (List (List Int))) (Q3 Nat Int (List (List Int))) [1, 5, 6, 7, 8, 9, 10, 11, 12, 13, 14, 15, 16, 17] [0, 1507] (fun yy0 => [(5, vI (yy0.1 : Int)), (1, vI yy0.2.1)]) (fun yy0 => [(0, some (.arr 72 1 true (yy0.2.2.map eIntS)))]) (fun yy0 => yy0.1 ≤ x.length ∧ yy0.2.1 = m + ((sumL sIntS (x.take yy0.1) : Nat) : Int) ∧ yy0.2.2 = markPre mIntS sIntS m x yy0.1) (fun yy0 => x.length - yy0.1) (fun yy0 => .len yy0.2.2.length <| .br (.split 4 0 yy0.1 0 1507 (List Int) eIntS yy0.2.2 (fun b1507 => .len yy0.2.2.length <| .callx [.own 0, vI yy0.2.1] [(0, .arr 3 1 true (b1507.map intD))] [(0, 1507)] (vI (yy0.2.1 + ((sIntS b1507 : Nat) : Int))) [(0, .arr 3 1 true ((mIntS yy0.2.1 b1507).map intD))] <| .join 3 0 1507 (List Int) eIntS yy0.2.2 (fun a1507 => mIntS yy0.2.1 b1507) (fun a1507 => .back [(0, 0)]))) (.fin [(0, 0)]))) ?_
  refine Eq.mpr (by kernel_rfl : _ = ((∃ (k : Nat) (z : Int) (r : List (List Int)), (0 : Int) = (k : Int) ∧ m = z ∧ x.map eIntS = r.map eIntS ∧ k ≤ x.length ∧ z = m + ((sumL sIntS (x.take k) : Nat) : Int) ∧ r = markPre mIntS sIntS m x k) ∧ ∀ (k : Nat) (z : Int) (r : List (List Int)), (k ≤ x.length ∧ z = m + ((sumL sIntS (x.take k) : Nat) : Int) ∧ r = markPre mIntS sIntS m x k) → (r.map eIntS).length = r.length ∧ (((decide ((k : Int) < ((r.length : Nat) : Int))) = true → r.map eIntS = r.map eIntS ∧ k < r.length ∧ ∀ b1507, r[k]? = some b1507 → 0 ≤ (k : Int) ∧ (r.map eIntS).length = r.length ∧ (k : Int) < ((r.length : Nat) : Int) ∧ (k = k ∧ (Con2 Try.prog 97 [.own 0, vI z] [(0, .arr 3 1 true (b1507.map intD))] (vI (z + ((sIntS b1507 : Nat) : Int))) [(0, .arr 3 1 true ((mIntS z b1507).map intD))] ∧ z = z ∧ b1507.map intD = b1507.map intD ∧ (r.map eIntS = r.map eIntS ∧ k < r.length ∧ ∀ a1507, r[k]? = some a1507 → ((eIntS a1507).take 0 ++ .sl 3 1 ((mIntS z b1507).map intD) :: (eIntS a1507).drop (0 + 1) = eIntS (mIntS z b1507)) ∧ inR ((k : Int) + (1 : Int)) ∧ ∃ (k' : Nat) (z' : Int) (r' : List (List Int)), ((k : Int) + (1 : Int)) = (k' : Int) ∧ (z + ((sIntS b1507 : Nat) : Int)) = z' ∧ (r.set k (mIntS z b1507)).map eIntS = r'.map eIntS ∧ (k' ≤ x.length ∧ z' = m + ((sumL sIntS (x.take k') : Nat) : Int) ∧ r' = markPre mIntS sIntS m x k') ∧ x.length - k' < x.length - k)))) ∧ ((decide ((k : Int) < ((r.length : Nat) : Int))) = false → z = (m + ((sIntSS x : Nat) : Int)) ∧ r.map eIntS = (mIntSS m x).map eIntS ∧ True)))) ?_
  have hS : sIntSS x = sumL sIntS x := rfl
  have hC : cIntSS x = x.length + sumL cIntS x := rfl
  refine ⟨⟨0, m, x, rfl, rfl, rfl, Nat.zero_le _, by simp [sumL], (markPre_zero _ _ _ _).symm⟩, fun k z r ⟨hk, hz, hr⟩ => ?_⟩
  have hrl : r.length = x.length := by rw [hr]; exact markPre_len _ _ _ _ _ hk
  refine ⟨List.length_map _, ?_⟩
  refine ⟨fun c0 => ?_, fun c0 => ?_⟩
  · replace c0 := of_decide_eq_true c0
    obtain ⟨y, hy⟩ := at_some (l := x) (k := k) (by omega)
    have hry : r[k]? = some y := by rw [hr, markPre_get _ _ _ _ _ (by omega)]; exact hy
    have hs := sumL_snoc sIntS hy
    have hle := sumL_le sIntS x (k + 1)
    have hA : sumL sIntS (x.take k) ≤ 5 * (k + sumL cIntS (x.take k)) := pre5 (s := sIntS) (c := cIntS) (fun y => by have := sIntS_le y; omega) x k hk
    have hB := sumL_snoc cIntS hy
    have hD := sumL_le cIntS x (k + 1)
    have hle5 := sIntSS_le x
    have hy5 := sIntS_le y
    refine ⟨rfl, by first | omega | (simp only [List.length_set]; omega), fun b1507 hb1507 => ?_⟩
    obtain rfl := (same_at hry hb1507).symm
    refine ⟨by omega, List.length_map _, by first | omega | (simp only [List.length_set]; omega), ?_⟩
    refine ⟨rfl, ?_⟩
    refine ⟨mk_IntS _ _ (by omega) (by first | omega | (dsimp only; omega)), rfl, rfl, ?_⟩
    refine ⟨rfl, by first | omega | (simp only [List.length_set]; omega), fun a1507 ha1507 => ⟨rfl, ?_⟩⟩
    obtain rfl := (same_at hry ha1507).symm
    refine ⟨⟨by omega, by omega⟩, ?_⟩
    exact ⟨k + 1, _, _, rfl, rfl, rfl, ⟨by omega, by rw [hs, hz]; unfold sIntS; omega, by subst hz hr; (try simp only [List.set_set]); exact markPre_set _ _ _ _ _ _ hy⟩, by omega⟩
  · replace c0 := of_decide_eq_false c0
    have hkx : k = x.length := by omega
    rw [hkx, List.take_length] at hz
    rw [hkx, markPre_done] at hr
    refine ⟨?_, ?_, trivial⟩
    · first | (rw [hz]; rfl) | (rw [hr]; rfl) | (rw [hz, hS])
    · first | (rw [hz]; rfl) | (rw [hr]; rfl) | (rw [hz, hS])

set_option maxRecDepth 100000 in
set_option maxHeartbeats 4000000 in
theorem mk_TableS (x : List TableD) (m : Int) (h0 : 0 ≤ m) (hm : m + 5 * ((cTableS x : Nat) : Int) ≤ 4611686018427387904) : Con2 Try.prog 57 [.own 0, vI m] [(0, .arr 90 3 true (x.map eTable))] (vI (m + ((sTableS x : Nat) : Int))) [(0, .arr 90 3 true ((mTableS m x).map eTable))] := by
  refine con2_x tbOk mixedW Try.func57 (by kernel_rfl) (by kernel_rfl) (.loop (Nat × Int × (List TableD)) (Q3 Nat Int (List TableD)) [1, 5, 6, 7, 8, 9, 10, 11, 12, 13, 14, 15, 16, 17, 18, 19, 20, 21, 22, 23, 24, 25, 26, 27, 28, 29, 30, 31, 32, 33] [0, 3107] (fun yy0 => [(5, vI (yy0.1 : Int)), (1, vI yy0.2.1)]) (fun yy0 => [(0, some (.arr 90 3 true (yy0.2.2.map eTable)))]) (fun yy0 => yy0.1 ≤ x.length ∧ yy0.2.1 = m + ((sumL seTable (x.take yy0.1) : Nat) : Int) ∧ yy0.2.2 = markPre meTable seTable m x yy0.1) (fun yy0 => x.length - yy0.1) (fun yy0 => .len yy0.2.2.length <| .br (.call (.p none (.str (mtext yy0.2.1))) [] <| .len yy0.2.2.length <| .setm TableD eTable yy0.2.2 (fun s4_6 => (⟨mtext yy0.2.1, s4_6.arity, s4_6.rows⟩ : TableD)) (fun s4_6 => .len ((yy0.2.2.set yy0.1 (⟨mtext yy0.2.1, s4_6.arity, s4_6.rows⟩ : TableD)).length) <| .setm TableD eTable (yy0.2.2.set yy0.1 (⟨mtext yy0.2.1, s4_6.arity, s4_6.rows⟩ : TableD)) (fun s6_5 => (⟨s6_5.name, yy0.2.1 + (1 : Int), s6_5.rows⟩ : TableD)) (fun s6_5 => .split 8 0 yy0.1 2 3107 TableD eTable ((yy0.2.2.set yy0.1 (⟨mtext yy0.2.1, s4_6.arity, s4_6.rows⟩ : TableD)).set yy0.1 (⟨s6_5.name, yy0.2.1 + (1 : Int), s6_5.rows⟩ : TableD)) (fun b3107 => .len (((yy0.2.2.set yy0.1 (⟨mtext yy0.2.1, s4_6.arity, s4_6.rows⟩ : TableD)).set yy0.1 (⟨s6_5.name, yy0.2.1 + (1 : Int), s6_5.rows⟩ : TableD)).length) <| .callx [.own 0, vI ((yy0.2.1 + (1 : Int)) + (1 : Int))] [(0, .arr 72 1 true (b3107.rows.map eIntS))] [(0, 3107)] (vI (((yy0.2.1 + (1 : Int)) + (1 : Int)) + ((sIntSS b3107.rows : Nat) : Int))) [(0, .arr 72 1 true ((mIntSS ((yy0.2.1 + (1 : Int)) + (1 : Int)) b3107.rows).map eIntS))] <| .join 3 0 3107 TableD eTable ((yy0.2.2.set yy0.1 (⟨mtext yy0.2.1, s4_6.arity, s4_6.rows⟩ : TableD)).set yy0.1 (⟨s6_5.name, yy0.2.1 + (1 : Int), s6_5.rows⟩ : TableD)) (fun a3107 => (⟨a3107.name, a3107.arity, mIntSS ((yy0.2.1 + (1 : Int)) + (1 : Int)) b3107.rows⟩ : TableD)) (fun a3107 => .back [(0, 0)]))))) (.fin [(0, 0)]))) ?_
  refine Eq.mpr (by kernel_rfl : _ = ((∃ (k : Nat) (z : Int) (r : List TableD), (0 : Int) = (k : Int) ∧ m = z ∧ x.map eTable = r.map eTable ∧ k ≤ x.length ∧ z = m + ((sumL seTable (x.take k) : Nat) : Int) ∧ r = markPre meTable seTable m x k) ∧ ∀ (k : Nat) (z : Int) (r : List TableD), (k ≤ x.length ∧ z = m + ((sumL seTable (x.take k) : Nat) : Int) ∧ r = markPre meTable seTable m x k) → (r.map eTable).length = r.length ∧ (((decide ((k : Int) < ((r.length : Nat) : Int))) = true → Con Try.prog 90 [.one (.int .i64 z)] (.p none (.str (mtext z))) [] ∧ (0 ≤ (k : Int) ∧ (r.map eTable).length = r.length ∧ (k : Int) < ((r.length : Nat) : Int) ∧ (r.map eTable = r.map eTable ∧ k < r.length ∧ ∀ s4_6, r[k]? = some s4_6 → 0 + 1 ≤ (eTable s4_6).length ∧ (eTable s4_6).take 0 ++ ((eTable (⟨mtext z, s4_6.arity, s4_6.rows⟩ : TableD)).drop 0).take 1 ++ (eTable s4_6).drop (0 + 1) = eTable (⟨mtext z, s4_6.arity, s4_6.rows⟩ : TableD) ∧ (mtext z) = ((⟨mtext z, s4_6.arity, s4_6.rows⟩ : TableD).name) ∧ (inR (z + (1 : Int)) ∧ (0 ≤ (k : Int) ∧ ((r.set k (⟨mtext z, s4_6.arity, s4_6.rows⟩ : TableD)).map eTable).length = (r.set k (⟨mtext z, s4_6.arity, s4_6.rows⟩ : TableD)).length ∧ (k : Int) < (((r.set k (⟨mtext z, s4_6.arity, s4_6.rows⟩ : TableD)).length : Nat) : Int) ∧ ((r.set k (⟨mtext z, s4_6.arity, s4_6.rows⟩ : TableD)).map eTable = (r.set k (⟨mtext z, s4_6.arity, s4_6.rows⟩ : TableD)).map eTable ∧ k < (r.set k (⟨mtext z, s4_6.arity, s4_6.rows⟩ : TableD)).length ∧ ∀ s6_5, (r.set k (⟨mtext z, s4_6.arity, s4_6.rows⟩ : TableD))[k]? = some s6_5 → 1 + 1 ≤ (eTable s6_5).length ∧ (eTable s6_5).take 1 ++ ((eTable (⟨s6_5.name, z + (1 : Int), s6_5.rows⟩ : TableD)).drop 1).take 1 ++ (eTable s6_5).drop (1 + 1) = eTable (⟨s6_5.name, z + (1 : Int), s6_5.rows⟩ : TableD) ∧ (z + (1 : Int)) = ((⟨s6_5.name, z + (1 : Int), s6_5.rows⟩ : TableD).arity) ∧ (inR ((z + (1 : Int)) + (1 : Int)) ∧ (((r.set k (⟨mtext z, s4_6.arity, s4_6.rows⟩ : TableD)).set k (⟨s6_5.name, z + (1 : Int), s6_5.rows⟩ : TableD)).map eTable = ((r.set k (⟨mtext z, s4_6.arity, s4_6.rows⟩ : TableD)).set k (⟨s6_5.name, z + (1 : Int), s6_5.rows⟩ : TableD)).map eTable ∧ k < ((r.set k (⟨mtext z, s4_6.arity, s4_6.rows⟩ : TableD)).set k (⟨s6_5.name, z + (1 : Int), s6_5.rows⟩ : TableD)).length ∧ ∀ b3107, ((r.set k (⟨mtext z, s4_6.arity, s4_6.rows⟩ : TableD)).set k (⟨s6_5.name, z + (1 : Int), s6_5.rows⟩ : TableD))[k]? = some b3107 → 0 ≤ (k : Int) ∧ (((r.set k (⟨mtext z, s4_6.arity, s4_6.rows⟩ : TableD)).set k (⟨s6_5.name, z + (1 : Int), s6_5.rows⟩ : TableD)).map eTable).length = ((r.set k (⟨mtext z, s4_6.arity, s4_6.rows⟩ : TableD)).set k (⟨s6_5.name, z + (1 : Int), s6_5.rows⟩ : TableD)).length ∧ (k : Int) < ((((r.set k (⟨mtext z, s4_6.arity, s4_6.rows⟩ : TableD)).set k (⟨s6_5.name, z + (1 : Int), s6_5.rows⟩ : TableD)).length : Nat) : Int) ∧ (k = k ∧ (Con2 Try.prog 91 [.own 0, vI ((z + (1 : Int)) + (1 : Int))] [(0, .arr 72 1 true (b3107.rows.map eIntS))] (vI (((z + (1 : Int)) + (1 : Int)) + ((sIntSS b3107.rows : Nat) : Int))) [(0, .arr 72 1 true ((mIntSS ((z + (1 : Int)) + (1 : Int)) b3107.rows).map eIntS))] ∧ ((z + (1 : Int)) + (1 : Int)) = ((z + (1 : Int)) + (1 : Int)) ∧ b3107.rows.map eIntS = b3107.rows.map eIntS ∧ (((r.set k (⟨mtext z, s4_6.arity, s4_6.rows⟩ : TableD)).set k (⟨s6_5.name, z + (1 : Int), s6_5.rows⟩ : TableD)).map eTable = ((r.set k (⟨mtext z, s4_6.arity, s4_6.rows⟩ : TableD)).set k (⟨s6_5.name, z + (1 : Int), s6_5.rows⟩ : TableD)).map eTable ∧ k < ((r.set k (⟨mtext z, s4_6.arity, s4_6.rows⟩ : TableD)).set k (⟨s6_5.name, z + (1 : Int), s6_5.rows⟩ : TableD)).length ∧ ∀ a3107, ((r.set k (⟨mtext z, s4_6.arity, s4_6.rows⟩ : TableD)).set k (⟨s6_5.name, z + (1 : Int), s6_5.rows⟩ : TableD))[k]? = some a3107 → ((eTable a3107).take 2 ++ .sl 72 1 ((mIntSS ((z + (1 : Int)) + (1 : Int)) b3107.rows).map eIntS) :: (eTable a3107).drop (2 + 1) = eTable (⟨a3107.name, a3107.arity, mIntSS ((z + (1 : Int)) + (1 : Int)) b3107.rows⟩ : TableD)) ∧ inR ((k : Int) + (1 : Int)) ∧ ∃ (k' : Nat) (z' : Int) (r' : List TableD), ((k : Int) + (1 : Int)) = (k' : Int) ∧ (((z + (1 : Int)) + (1 : Int)) + ((sIntSS b3107.rows : Nat) : Int)) = z' ∧ (((r.set k (⟨mtext z, s4_6.arity, s4_6.rows⟩ : TableD)).set k (⟨s6_5.name, z + (1 : Int), s6_5.rows⟩ : TableD)).set k (⟨a3107.name, a3107.arity, mIntSS ((z + (1 : Int)) + (1 : Int)) b3107.rows⟩ : TableD)).map eTable = r'.map eTable ∧ (k' ≤ x.length ∧ z' = m + ((sumL seTable (x.take k') : Nat) : Int) ∧ r' = markPre meTable seTable m x k') ∧ x.length - k' < x.length - k))))))))))) ∧ ((decide ((k : Int) < ((r.length : Nat) : Int))) = false → z = (m + ((sTableS x : Nat) : Int)) ∧ r.map eTable = (mTableS m x).map eTable ∧ True)))) ?_
  have hS : sTableS x = sumL seTable x := rfl
  have hC : cTableS x = x.length + sumL cTable x := rfl
  refine ⟨⟨0, m, x, rfl, rfl, rfl, Nat.zero_le _, by simp [sumL], (markPre_zero _ _ _ _).symm⟩, fun k z r ⟨hk, hz, hr⟩ => ?_⟩
  have hrl : r.length = x.length := by rw [hr]; exact markPre_len _ _ _ _ _ hk
  refine ⟨List.length_map _, ?_⟩
  refine ⟨fun c0 => ?_, fun c0 => ?_⟩
  · replace c0 := of_decide_eq_true c0
    obtain ⟨y, hy⟩ := at_some (l := x) (k := k) (by omega)
    have hry : r[k]? = some y := by rw [hr, markPre_get _ _ _ _ _ (by omega)]; exact hy
    have hs := sumL_snoc seTable hy
    have hle := sumL_le seTable x (k + 1)
    have hA : sumL seTable (x.take k) ≤ 5 * (k + sumL cTable (x.take k)) := pre5 seTable_le x k hk
    have hB := sumL_snoc cTable hy
    have hD := sumL_le cTable x (k + 1)
    have hF : cTable y = ByteArray.size y.name + cIntSS y.rows := rfl
    have hle5 := sTableS_le x
    have hE : seTable y = 1 + 1 + sIntSS y.rows := rfl
    have hy_rows := sIntSS_le y.rows
    refine ⟨mk_text _ (by omega), ?_⟩
    refine ⟨by omega, List.length_map _, by first | omega | (simp only [List.length_set]; omega), ?_⟩
    refine ⟨rfl, by first | omega | (simp only [List.length_set]; omega), fun s4_6 hs4_6 => ?_⟩
    obtain rfl := (same_at hry hs4_6).symm
    refine ⟨Nat.le_of_ble_eq_true rfl, rfl, rfl, ?_⟩
    refine ⟨⟨by omega, by omega⟩, ?_⟩
    refine ⟨by omega, List.length_map _, by first | omega | (simp only [List.length_set]; omega), ?_⟩
    refine ⟨rfl, by first | omega | (simp only [List.length_set]; omega), fun s6_5 hs6_5 => ?_⟩
    obtain rfl := at_set hs6_5
    refine ⟨Nat.le_of_ble_eq_true rfl, rfl, rfl, ?_⟩
    refine ⟨⟨by omega, by omega⟩, ?_⟩
    refine ⟨rfl, by first | omega | (simp only [List.length_set]; omega), fun b3107 hb3107 => ?_⟩
    obtain rfl := at_set hb3107
    refine ⟨by omega, List.length_map _, by first | omega | (simp only [List.length_set]; omega), ?_⟩
    refine ⟨rfl, ?_⟩
    refine ⟨mk_IntSS _ _ (by omega) (by first | omega | (dsimp only; omega)), rfl, rfl, ?_⟩
    refine ⟨rfl, by first | omega | (simp only [List.length_set]; omega), fun a3107 ha3107 => ⟨rfl, ?_⟩⟩
    obtain rfl := at_set ha3107
    refine ⟨⟨by omega, by omega⟩, ?_⟩
    exact ⟨k + 1, _, _, rfl, rfl, rfl, ⟨by omega, by rw [hs]; (try dsimp only); omega, by subst hz hr; (try simp only [List.set_set]); exact markPre_set _ _ _ _ _ _ hy⟩, by omega⟩
  · replace c0 := of_decide_eq_false c0
    have hkx : k = x.length := by omega
    rw [hkx, List.take_length] at hz
    rw [hkx, markPre_done] at hr
    refine ⟨?_, ?_, trivial⟩
    · first | (rw [hz]; rfl) | (rw [hr]; rfl) | (rw [hz, hS])
    · first | (rw [hz]; rfl) | (rw [hr]; rfl) | (rw [hz, hS])

set_option maxRecDepth 100000 in
set_option maxHeartbeats 4000000 in
theorem mk_Database (x : DatabaseD) (m : Int) (h0 : 0 ≤ m) (hm : m + 5 * ((cDatabase x : Nat) : Int) ≤ 4611686018427387904) : Con2 Try.prog 22 [.agg [.own 0], vI m] [(0, .arr 90 3 true (x.tables.map eTable))] (vI (m + ((stDatabase x : Nat) : Int))) [(0, .arr 90 3 true (((mtDatabase m x).tables).map eTable))] := by
  refine con2_x tbOk mixedW Try.func22 (by kernel_rfl) (by kernel_rfl) (.callx [.own 0, vI m] [(0, .arr 90 3 true (x.tables.map eTable))] [(0, 0)] (vI (m + ((sTableS x.tables : Nat) : Int))) [(0, .arr 90 3 true ((mTableS m x.tables).map eTable))] <| .fin [(0, 0)]) ?_
  refine Eq.mpr (by kernel_rfl : _ = (Con2 Try.prog 57 [.own 0, vI m] [(0, .arr 90 3 true (x.tables.map eTable))] (vI (m + ((sTableS x.tables : Nat) : Int))) [(0, .arr 90 3 true ((mTableS m x.tables).map eTable))] ∧ m = m ∧ x.tables.map eTable = x.tables.map eTable ∧ (m + ((sTableS x.tables : Nat) : Int)) = (m + ((stDatabase x : Nat) : Int)) ∧ (mTableS m x.tables).map eTable = ((mtDatabase m x).tables).map eTable ∧ True)) ?_
  have hS : stDatabase x = sTableS x.tables := rfl
  have hC : cDatabase x = cTableS x.tables := rfl
  have := sTableS_le x.tables
  refine ⟨mk_TableS _ _ (by omega) (by first | omega | (dsimp only; omega)), rfl, rfl, ?_⟩
  refine ⟨?_, ?_, trivial⟩
  · first | rfl | (rw [hS]; omega)
  · first | rfl | (rw [hS]; omega)

set_option maxRecDepth 100000 in
set_option maxHeartbeats 4000000 in
theorem mk_GroupStatsS (x : List GroupStatsD) (m : Int) (h0 : 0 ≤ m) (hm : m + 5 * ((cGroupStatsS x : Nat) : Int) ≤ 4611686018427387904) : Con2 Try.prog 65 [.own 0, vI m] [(0, .arr 104 3 true (x.map eGroupStats))] (vI (m + ((sGroupStatsS x : Nat) : Int))) [(0, .arr 104 3 true ((mGroupStatsS m x).map eGroupStats))] := by
  refine con2_x tbOk mixedW Try.func65 (by kernel_rfl) (by kernel_rfl) (.loop (Nat × Int × (List GroupStatsD)) (Q3 Nat Int (List GroupStatsD)) [1, 5, 6, 7, 8, 9, 10, 11, 12, 13, 14, 15, 16, 17, 18, 19, 20, 21, 22, 23, 24, 25, 26, 27, 28, 29, 30, 31, 32] [0, 1607, 2307, 3007] (fun yy0 => [(5, vI (yy0.1 : Int)), (1, vI yy0.2.1)]) (fun yy0 => [(0, some (.arr 104 3 true (yy0.2.2.map eGroupStats)))]) (fun yy0 => yy0.1 ≤ x.length ∧ yy0.2.1 = m + ((sumL seGroupStats (x.take yy0.1) : Nat) : Int) ∧ yy0.2.2 = markPre meGroupStats seGroupStats m x yy0.1) (fun yy0 => x.length - yy0.1) (fun yy0 => .len yy0.2.2.length <| .br (.split 4 0 yy0.1 0 1607 GroupStatsD eGroupStats yy0.2.2 (fun b1607 => .len yy0.2.2.length <| .callx [.own 0, vI yy0.2.1] [(0, .arr 3 1 true (b1607.columns.map intD))] [(0, 1607)] (vI (yy0.2.1 + ((sIntS b1607.columns : Nat) : Int))) [(0, .arr 3 1 true ((mIntS yy0.2.1 b1607.columns).map intD))] <| .join 5 0 1607 GroupStatsD eGroupStats yy0.2.2 (fun a1607 => (⟨mIntS yy0.2.1 b1607.columns, a1607.values, a1607.counts⟩ : GroupStatsD)) (fun a1607 => .split 5 0 yy0.1 1 2307 GroupStatsD eGroupStats (yy0.2.2.set yy0.1 (⟨mIntS yy0.2.1 b1607.columns, a1607.values, a1607.counts⟩ : GroupStatsD)) (fun b2307 => .len ((yy0.2.2.set yy0.1 (⟨mIntS yy0.2.1 b1607.columns, a1607.values, a1607.counts⟩ : GroupStatsD)).length) <| .callx [.own 0, vI (yy0.2.1 + ((sIntS b1607.columns : Nat) : Int))] [(0, .arr 72 1 true (b2307.values.map eIntS))] [(0, 2307)] (vI ((yy0.2.1 + ((sIntS b1607.columns : Nat) : Int)) + ((sIntSS b2307.values : Nat) : Int))) [(0, .arr 72 1 true ((mIntSS (yy0.2.1 + ((sIntS b1607.columns : Nat) : Int)) b2307.values).map eIntS))] <| .join 6 0 2307 GroupStatsD eGroupStats (yy0.2.2.set yy0.1 (⟨mIntS yy0.2.1 b1607.columns, a1607.values, a1607.counts⟩ : GroupStatsD)) (fun a2307 => (⟨a2307.columns, mIntSS (yy0.2.1 + ((sIntS b1607.columns : Nat) : Int)) b2307.values, a2307.counts⟩ : GroupStatsD)) (fun a2307 => .split 6 0 yy0.1 2 3007 GroupStatsD eGroupStats ((yy0.2.2.set yy0.1 (⟨mIntS yy0.2.1 b1607.columns, a1607.values, a1607.counts⟩ : GroupStatsD)).set yy0.1 (⟨a2307.columns, mIntSS (yy0.2.1 + ((sIntS b1607.columns : Nat) : Int)) b2307.values, a2307.counts⟩ : GroupStatsD)) (fun b3007 => .len (((yy0.2.2.set yy0.1 (⟨mIntS yy0.2.1 b1607.columns, a1607.values, a1607.counts⟩ : GroupStatsD)).set yy0.1 (⟨a2307.columns, mIntSS (yy0.2.1 + ((sIntS b1607.columns : Nat) : Int)) b2307.values, a2307.counts⟩ : GroupStatsD)).length) <| .callx [.own 0, vI ((yy0.2.1 + ((sIntS b1607.columns : Nat) : Int)) + ((sIntSS b2307.values : Nat) : Int))] [(0, .arr 3 1 true (b3007.counts.map intD))] [(0, 3007)] (vI (((yy0.2.1 + ((sIntS b1607.columns : Nat) : Int)) + ((sIntSS b2307.values : Nat) : Int)) + ((sIntS b3007.counts : Nat) : Int))) [(0, .arr 3 1 true ((mIntS ((yy0.2.1 + ((sIntS b1607.columns : Nat) : Int)) + ((sIntSS b2307.values : Nat) : Int)) b3007.counts).map intD))] <| .join 3 0 3007 GroupStatsD eGroupStats ((yy0.2.2.set yy0.1 (⟨mIntS yy0.2.1 b1607.columns, a1607.values, a1607.counts⟩ : GroupStatsD)).set yy0.1 (⟨a2307.columns, mIntSS (yy0.2.1 + ((sIntS b1607.columns : Nat) : Int)) b2307.values, a2307.counts⟩ : GroupStatsD)) (fun a3007 => (⟨a3007.columns, a3007.values, mIntS ((yy0.2.1 + ((sIntS b1607.columns : Nat) : Int)) + ((sIntSS b2307.values : Nat) : Int)) b3007.counts⟩ : GroupStatsD)) (fun a3007 => .back [(0, 0)]))))))) (.fin [(0, 0)]))) ?_
  refine Eq.mpr (by kernel_rfl : _ = ((∃ (k : Nat) (z : Int) (r : List GroupStatsD), (0 : Int) = (k : Int) ∧ m = z ∧ x.map eGroupStats = r.map eGroupStats ∧ k ≤ x.length ∧ z = m + ((sumL seGroupStats (x.take k) : Nat) : Int) ∧ r = markPre meGroupStats seGroupStats m x k) ∧ ∀ (k : Nat) (z : Int) (r : List GroupStatsD), (k ≤ x.length ∧ z = m + ((sumL seGroupStats (x.take k) : Nat) : Int) ∧ r = markPre meGroupStats seGroupStats m x k) → (r.map eGroupStats).length = r.length ∧ (((decide ((k : Int) < ((r.length : Nat) : Int))) = true → r.map eGroupStats = r.map eGroupStats ∧ k < r.length ∧ ∀ b1607, r[k]? = some b1607 → 0 ≤ (k : Int) ∧ (r.map eGroupStats).length = r.length ∧ (k : Int) < ((r.length : Nat) : Int) ∧ (k = k ∧ (Con2 Try.prog 97 [.own 0, vI z] [(0, .arr 3 1 true (b1607.columns.map intD))] (vI (z + ((sIntS b1607.columns : Nat) : Int))) [(0, .arr 3 1 true ((mIntS z b1607.columns).map intD))] ∧ z = z ∧ b1607.columns.map intD = b1607.columns.map intD ∧ (r.map eGroupStats = r.map eGroupStats ∧ k < r.length ∧ ∀ a1607, r[k]? = some a1607 → ((eGroupStats a1607).take 0 ++ .sl 3 1 ((mIntS z b1607.columns).map intD) :: (eGroupStats a1607).drop (0 + 1) = eGroupStats (⟨mIntS z b1607.columns, a1607.values, a1607.counts⟩ : GroupStatsD)) ∧ (r.set k (⟨mIntS z b1607.columns, a1607.values, a1607.counts⟩ : GroupStatsD)).map eGroupStats = (r.set k (⟨mIntS z b1607.columns, a1607.values, a1607.counts⟩ : GroupStatsD)).map eGroupStats ∧ k < (r.set k (⟨mIntS z b1607.columns, a1607.values, a1607.counts⟩ : GroupStatsD)).length ∧ ∀ b2307, (r.set k (⟨mIntS z b1607.columns, a1607.values, a1607.counts⟩ : GroupStatsD))[k]? = some b2307 → 0 ≤ (k : Int) ∧ ((r.set k (⟨mIntS z b1607.columns, a1607.values, a1607.counts⟩ : GroupStatsD)).map eGroupStats).length = (r.set k (⟨mIntS z b1607.columns, a1607.values, a1607.counts⟩ : GroupStatsD)).length ∧ (k : Int) < (((r.set k (⟨mIntS z b1607.columns, a1607.values, a1607.counts⟩ : GroupStatsD)).length : Nat) : Int) ∧ (k = k ∧ (Con2 Try.prog 91 [.own 0, vI (z + ((sIntS b1607.columns : Nat) : Int))] [(0, .arr 72 1 true (b2307.values.map eIntS))] (vI ((z + ((sIntS b1607.columns : Nat) : Int)) + ((sIntSS b2307.values : Nat) : Int))) [(0, .arr 72 1 true ((mIntSS (z + ((sIntS b1607.columns : Nat) : Int)) b2307.values).map eIntS))] ∧ (z + ((sIntS b1607.columns : Nat) : Int)) = (z + ((sIntS b1607.columns : Nat) : Int)) ∧ b2307.values.map eIntS = b2307.values.map eIntS ∧ ((r.set k (⟨mIntS z b1607.columns, a1607.values, a1607.counts⟩ : GroupStatsD)).map eGroupStats = (r.set k (⟨mIntS z b1607.columns, a1607.values, a1607.counts⟩ : GroupStatsD)).map eGroupStats ∧ k < (r.set k (⟨mIntS z b1607.columns, a1607.values, a1607.counts⟩ : GroupStatsD)).length ∧ ∀ a2307, (r.set k (⟨mIntS z b1607.columns, a1607.values, a1607.counts⟩ : GroupStatsD))[k]? = some a2307 → ((eGroupStats a2307).take 1 ++ .sl 72 1 ((mIntSS (z + ((sIntS b1607.columns : Nat) : Int)) b2307.values).map eIntS) :: (eGroupStats a2307).drop (1 + 1) = eGroupStats (⟨a2307.columns, mIntSS (z + ((sIntS b1607.columns : Nat) : Int)) b2307.values, a2307.counts⟩ : GroupStatsD)) ∧ ((r.set k (⟨mIntS z b1607.columns, a1607.values, a1607.counts⟩ : GroupStatsD)).set k (⟨a2307.columns, mIntSS (z + ((sIntS b1607.columns : Nat) : Int)) b2307.values, a2307.counts⟩ : GroupStatsD)).map eGroupStats = ((r.set k (⟨mIntS z b1607.columns, a1607.values, a1607.counts⟩ : GroupStatsD)).set k (⟨a2307.columns, mIntSS (z + ((sIntS b1607.columns : Nat) : Int)) b2307.values, a2307.counts⟩ : GroupStatsD)).map eGroupStats ∧ k < ((r.set k (⟨mIntS z b1607.columns, a1607.values, a1607.counts⟩ : GroupStatsD)).set k (⟨a2307.columns, mIntSS (z + ((sIntS b1607.columns : Nat) : Int)) b2307.values, a2307.counts⟩ : GroupStatsD)).length ∧ ∀ b3007, ((r.set k (⟨mIntS z b1607.columns, a1607.values, a1607.counts⟩ : GroupStatsD)).set k (⟨a2307.columns, mIntSS (z + ((sIntS b1607.columns : Nat) : Int)) b2307.values, a2307.counts⟩ : GroupStatsD))[k]? = some b3007 → 0 ≤ (k : Int) ∧ (((r.set k (⟨mIntS z b1607.columns, a1607.values, a1607.counts⟩ : GroupStatsD)).set k (⟨a2307.columns, mIntSS (z + ((sIntS b1607.columns : Nat) : Int)) b2307.values, a2307.counts⟩ : GroupStatsD)).map eGroupStats).length = ((r.set k (⟨mIntS z b1607.columns, a1607.values, a1607.counts⟩ : GroupStatsD)).set k (⟨a2307.columns, mIntSS (z + ((sIntS b1607.columns : Nat) : Int)) b2307.values, a2307.counts⟩ : GroupStatsD)).length ∧ (k : Int) < ((((r.set k (⟨mIntS z b1607.columns, a1607.values, a1607.counts⟩ : GroupStatsD)).set k (⟨a2307.columns, mIntSS (z + ((sIntS b1607.columns : Nat) : Int)) b2307.values, a2307.counts⟩ : GroupStatsD)).length : Nat) : Int) ∧ (k = k ∧ (Con2 Try.prog 97 [.own 0, vI ((z + ((sIntS b1607.columns : Nat) : Int)) + ((sIntSS b2307.values : Nat) : Int))] [(0, .arr 3 1 true (b3007.counts.map intD))] (vI (((z + ((sIntS b1607.columns : Nat) : Int)) + ((sIntSS b2307.values : Nat) : Int)) + ((sIntS b3007.counts : Nat) : Int))) [(0, .arr 3 1 true ((mIntS ((z + ((sIntS b1607.columns : Nat) : Int)) + ((sIntSS b2307.values : Nat) : Int)) b3007.counts).map intD))] ∧ ((z + ((sIntS b1607.columns : Nat) : Int)) + ((sIntSS b2307.values : Nat) : Int)) = ((z + ((sIntS b1607.columns : Nat) : Int)) + ((sIntSS b2307.values : Nat) : Int)) ∧ b3007.counts.map intD = b3007.counts.map intD ∧ (((r.set k (⟨mIntS z b1607.columns, a1607.values, a1607.counts⟩ : GroupStatsD)).set k (⟨a2307.columns, mIntSS (z + ((sIntS b1607.columns : Nat) : Int)) b2307.values, a2307.counts⟩ : GroupStatsD)).map eGroupStats = ((r.set k (⟨mIntS z b1607.columns, a1607.values, a1607.counts⟩ : GroupStatsD)).set k (⟨a2307.columns, mIntSS (z + ((sIntS b1607.columns : Nat) : Int)) b2307.values, a2307.counts⟩ : GroupStatsD)).map eGroupStats ∧ k < ((r.set k (⟨mIntS z b1607.columns, a1607.values, a1607.counts⟩ : GroupStatsD)).set k (⟨a2307.columns, mIntSS (z + ((sIntS b1607.columns : Nat) : Int)) b2307.values, a2307.counts⟩ : GroupStatsD)).length ∧ ∀ a3007, ((r.set k (⟨mIntS z b1607.columns, a1607.values, a1607.counts⟩ : GroupStatsD)).set k (⟨a2307.columns, mIntSS (z + ((sIntS b1607.columns : Nat) : Int)) b2307.values, a2307.counts⟩ : GroupStatsD))[k]? = some a3007 → ((eGroupStats a3007).take 2 ++ .sl 3 1 ((mIntS ((z + ((sIntS b1607.columns : Nat) : Int)) + ((sIntSS b2307.values : Nat) : Int)) b3007.counts).map intD) :: (eGroupStats a3007).drop (2 + 1) = eGroupStats (⟨a3007.columns, a3007.values, mIntS ((z + ((sIntS b1607.columns : Nat) : Int)) + ((sIntSS b2307.values : Nat) : Int)) b3007.counts⟩ : GroupStatsD)) ∧ inR ((k : Int) + (1 : Int)) ∧ ∃ (k' : Nat) (z' : Int) (r' : List GroupStatsD), ((k : Int) + (1 : Int)) = (k' : Int) ∧ (((z + ((sIntS b1607.columns : Nat) : Int)) + ((sIntSS b2307.values : Nat) : Int)) + ((sIntS b3007.counts : Nat) : Int)) = z' ∧ (((r.set k (⟨mIntS z b1607.columns, a1607.values, a1607.counts⟩ : GroupStatsD)).set k (⟨a2307.columns, mIntSS (z + ((sIntS b1607.columns : Nat) : Int)) b2307.values, a2307.counts⟩ : GroupStatsD)).set k (⟨a3007.columns, a3007.values, mIntS ((z + ((sIntS b1607.columns : Nat) : Int)) + ((sIntSS b2307.values : Nat) : Int)) b3007.counts⟩ : GroupStatsD)).map eGroupStats = r'.map eGroupStats ∧ (k' ≤ x.length ∧ z' = m + ((sumL seGroupStats (x.take k') : Nat) : Int) ∧ r' = markPre meGroupStats seGroupStats m x k') ∧ x.length - k' < x.length - k)))))))))) ∧ ((decide ((k : Int) < ((r.length : Nat) : Int))) = false → z = (m + ((sGroupStatsS x : Nat) : Int)) ∧ r.map eGroupStats = (mGroupStatsS m x).map eGroupStats ∧ True)))) ?_
  have hS : sGroupStatsS x = sumL seGroupStats x := rfl
  have hC : cGroupStatsS x = x.length + sumL cGroupStats x := rfl
  refine ⟨⟨0, m, x, rfl, rfl, rfl, Nat.zero_le _, by simp [sumL], (markPre_zero _ _ _ _).symm⟩, fun k z r ⟨hk, hz, hr⟩ => ?_⟩
  have hrl : r.length = x.length := by rw [hr]; exact markPre_len _ _ _ _ _ hk
  refine ⟨List.length_map _, ?_⟩
  refine ⟨fun c0 => ?_, fun c0 => ?_⟩
  · replace c0 := of_decide_eq_true c0
    obtain ⟨y, hy⟩ := at_some (l := x) (k := k) (by omega)
    have hry : r[k]? = some y := by rw [hr, markPre_get _ _ _ _ _ (by omega)]; exact hy
    have hs := sumL_snoc seGroupStats hy
    have hle := sumL_le seGroupStats x (k + 1)
    have hA : sumL seGroupStats (x.take k) ≤ 5 * (k + sumL cGroupStats (x.take k)) := pre5 seGroupStats_le x k hk
    have hB := sumL_snoc cGroupStats hy
    have hD := sumL_le cGroupStats x (k + 1)
    have hF : cGroupStats y = cIntS y.columns + cIntSS y.values + cIntS y.counts := rfl
    have hle5 := sGroupStatsS_le x
    have hE : seGroupStats y = sIntS y.columns + sIntSS y.values + sIntS y.counts := rfl
    have hy_columns := sIntS_le y.columns
    have hy_values := sIntSS_le y.values
    have hy_counts := sIntS_le y.counts
    refine ⟨rfl, by first | omega | (simp only [List.length_set]; omega), fun b1607 hb1607 => ?_⟩
    obtain rfl := (same_at hry hb1607).symm
    refine ⟨by omega, List.length_map _, by first | omega | (simp only [List.length_set]; omega), ?_⟩
    refine ⟨rfl, ?_⟩
    refine ⟨mk_IntS _ _ (by omega) (by first | omega | (dsimp only; omega)), rfl, rfl, ?_⟩
    refine ⟨rfl, by first | omega | (simp only [List.length_set]; omega), fun a1607 ha1607 => ⟨rfl, ?_⟩⟩
    obtain rfl := (same_at hry ha1607).symm
    refine ⟨rfl, by first | omega | (simp only [List.length_set]; omega), fun b2307 hb2307 => ?_⟩
    obtain rfl := at_set hb2307
    refine ⟨by omega, List.length_map _, by first | omega | (simp only [List.length_set]; omega), ?_⟩
    refine ⟨rfl, ?_⟩
    refine ⟨mk_IntSS _ _ (by omega) (by first | omega | (dsimp only; omega)), rfl, rfl, ?_⟩
    refine ⟨rfl, by first | omega | (simp only [List.length_set]; omega), fun a2307 ha2307 => ⟨rfl, ?_⟩⟩
    obtain rfl := at_set ha2307
    refine ⟨rfl, by first | omega | (simp only [List.length_set]; omega), fun b3007 hb3007 => ?_⟩
    obtain rfl := at_set hb3007
    refine ⟨by omega, List.length_map _, by first | omega | (simp only [List.length_set]; omega), ?_⟩
    refine ⟨rfl, ?_⟩
    refine ⟨mk_IntS _ _ (by omega) (by first | omega | (dsimp only; omega)), rfl, rfl, ?_⟩
    refine ⟨rfl, by first | omega | (simp only [List.length_set]; omega), fun a3007 ha3007 => ⟨rfl, ?_⟩⟩
    obtain rfl := at_set ha3007
    refine ⟨⟨by omega, by omega⟩, ?_⟩
    exact ⟨k + 1, _, _, rfl, rfl, rfl, ⟨by omega, by rw [hs]; (try dsimp only); omega, by subst hz hr; (try simp only [List.set_set]); exact markPre_set _ _ _ _ _ _ hy⟩, by omega⟩
  · replace c0 := of_decide_eq_false c0
    have hkx : k = x.length := by omega
    rw [hkx, List.take_length] at hz
    rw [hkx, markPre_done] at hr
    refine ⟨?_, ?_, trivial⟩
    · first | (rw [hz]; rfl) | (rw [hr]; rfl) | (rw [hz, hS])
    · first | (rw [hz]; rfl) | (rw [hr]; rfl) | (rw [hz, hS])

set_option maxRecDepth 100000 in
set_option maxHeartbeats 4000000 in
theorem mk_TableStats (x : TableStatsD) (m : Int) (h0 : 0 ≤ m) (hm : m + 5 * ((cTableStats x : Nat) : Int) ≤ 4611686018427387904) : Con2 Try.prog 28 [.agg [.p none (.str x.name), vI x.arity, vI x.rowCount, .own 0], vI m] [(0, .arr 104 3 true (x.groups.map eGroupStats))] (vI (m + ((stTableStats x : Nat) : Int))) [(0, .arr 104 3 true (((mtTableStats m x).groups).map eGroupStats))] := by
  refine con2_x tbOk mixedW Try.func28 (by kernel_rfl) (by kernel_rfl) (.callx [.own 0, vI m] [(0, .arr 104 3 true (x.groups.map eGroupStats))] [(0, 0)] (vI (m + ((sGroupStatsS x.groups : Nat) : Int))) [(0, .arr 104 3 true ((mGroupStatsS m x.groups).map eGroupStats))] <| .fin [(0, 0)]) ?_
  refine Eq.mpr (by kernel_rfl : _ = (Con2 Try.prog 65 [.own 0, vI m] [(0, .arr 104 3 true (x.groups.map eGroupStats))] (vI (m + ((sGroupStatsS x.groups : Nat) : Int))) [(0, .arr 104 3 true ((mGroupStatsS m x.groups).map eGroupStats))] ∧ m = m ∧ x.groups.map eGroupStats = x.groups.map eGroupStats ∧ (m + ((sGroupStatsS x.groups : Nat) : Int)) = (m + ((stTableStats x : Nat) : Int)) ∧ (mGroupStatsS m x.groups).map eGroupStats = ((mtTableStats m x).groups).map eGroupStats ∧ True)) ?_
  have hS : stTableStats x = sGroupStatsS x.groups := rfl
  have hC : cTableStats x = ByteArray.size x.name + cGroupStatsS x.groups := rfl
  have := sGroupStatsS_le x.groups
  refine ⟨mk_GroupStatsS _ _ (by omega) (by first | omega | (dsimp only; omega)), rfl, rfl, ?_⟩
  refine ⟨?_, ?_, trivial⟩
  · first | rfl | (rw [hS]; omega)
  · first | rfl | (rw [hS]; omega)

set_option maxRecDepth 100000 in
set_option maxHeartbeats 4000000 in
theorem mk_TableStatsS (x : List TableStatsD) (m : Int) (h0 : 0 ≤ m) (hm : m + 5 * ((cTableStatsS x : Nat) : Int) ≤ 4611686018427387904) : Con2 Try.prog 58 [.own 0, vI m] [(0, .arr 60 4 true (x.map eTableStats))] (vI (m + ((sTableStatsS x : Nat) : Int))) [(0, .arr 60 4 true ((mTableStatsS m x).map eTableStats))] := by
  refine con2_x tbOk mixedW Try.func58 (by kernel_rfl) (by kernel_rfl) (.loop (Nat × Int × (List TableStatsD)) (Q3 Nat Int (List TableStatsD)) [1, 5, 6, 7, 8, 9, 10, 11, 12, 13, 14, 15, 16, 17, 18, 19, 20, 21, 22, 23, 24, 25, 26, 27, 28, 29, 30, 31, 32, 33, 34, 35, 36, 37, 38, 39, 40] [0, 3807] (fun yy0 => [(5, vI (yy0.1 : Int)), (1, vI yy0.2.1)]) (fun yy0 => [(0, some (.arr 60 4 true (yy0.2.2.map eTableStats)))]) (fun yy0 => yy0.1 ≤ x.length ∧ yy0.2.1 = m + ((sumL seTableStats (x.take yy0.1) : Nat) : Int) ∧ yy0.2.2 = markPre meTableStats seTableStats m x yy0.1) (fun yy0 => x.length - yy0.1) (fun yy0 => .len yy0.2.2.length <| .br (.call (.p none (.str (mtext yy0.2.1))) [] <| .len yy0.2.2.length <| .setm TableStatsD eTableStats yy0.2.2 (fun s4_6 => (⟨mtext yy0.2.1, s4_6.arity, s4_6.rowCount, s4_6.groups⟩ : TableStatsD)) (fun s4_6 => .len ((yy0.2.2.set yy0.1 (⟨mtext yy0.2.1, s4_6.arity, s4_6.rowCount, s4_6.groups⟩ : TableStatsD)).length) <| .setm TableStatsD eTableStats (yy0.2.2.set yy0.1 (⟨mtext yy0.2.1, s4_6.arity, s4_6.rowCount, s4_6.groups⟩ : TableStatsD)) (fun s6_5 => (⟨s6_5.name, yy0.2.1 + (1 : Int), s6_5.rowCount, s6_5.groups⟩ : TableStatsD)) (fun s6_5 => .len (((yy0.2.2.set yy0.1 (⟨mtext yy0.2.1, s4_6.arity, s4_6.rowCount, s4_6.groups⟩ : TableStatsD)).set yy0.1 (⟨s6_5.name, yy0.2.1 + (1 : Int), s6_5.rowCount, s6_5.groups⟩ : TableStatsD)).length) <| .setm TableStatsD eTableStats ((yy0.2.2.set yy0.1 (⟨mtext yy0.2.1, s4_6.arity, s4_6.rowCount, s4_6.groups⟩ : TableStatsD)).set yy0.1 (⟨s6_5.name, yy0.2.1 + (1 : Int), s6_5.rowCount, s6_5.groups⟩ : TableStatsD)) (fun s8_5 => (⟨s8_5.name, s8_5.arity, (yy0.2.1 + (1 : Int)) + (1 : Int), s8_5.groups⟩ : TableStatsD)) (fun s8_5 => .split 10 0 yy0.1 3 3807 TableStatsD eTableStats (((yy0.2.2.set yy0.1 (⟨mtext yy0.2.1, s4_6.arity, s4_6.rowCount, s4_6.groups⟩ : TableStatsD)).set yy0.1 (⟨s6_5.name, yy0.2.1 + (1 : Int), s6_5.rowCount, s6_5.groups⟩ : TableStatsD)).set yy0.1 (⟨s8_5.name, s8_5.arity, (yy0.2.1 + (1 : Int)) + (1 : Int), s8_5.groups⟩ : TableStatsD)) (fun b3807 => .len ((((yy0.2.2.set yy0.1 (⟨mtext yy0.2.1, s4_6.arity, s4_6.rowCount, s4_6.groups⟩ : TableStatsD)).set yy0.1 (⟨s6_5.name, yy0.2.1 + (1 : Int), s6_5.rowCount, s6_5.groups⟩ : TableStatsD)).set yy0.1 (⟨s8_5.name, s8_5.arity, (yy0.2.1 + (1 : Int)) + (1 : Int), s8_5.groups⟩ : TableStatsD)).length) <| .callx [.own 0, vI (((yy0.2.1 + (1 : Int)) + (1 : Int)) + (1 : Int))] [(0, .arr 104 3 true (b3807.groups.map eGroupStats))] [(0, 3807)] (vI ((((yy0.2.1 + (1 : Int)) + (1 : Int)) + (1 : Int)) + ((sGroupStatsS b3807.groups : Nat) : Int))) [(0, .arr 104 3 true ((mGroupStatsS (((yy0.2.1 + (1 : Int)) + (1 : Int)) + (1 : Int)) b3807.groups).map eGroupStats))] <| .join 3 0 3807 TableStatsD eTableStats (((yy0.2.2.set yy0.1 (⟨mtext yy0.2.1, s4_6.arity, s4_6.rowCount, s4_6.groups⟩ : TableStatsD)).set yy0.1 (⟨s6_5.name, yy0.2.1 + (1 : Int), s6_5.rowCount, s6_5.groups⟩ : TableStatsD)).set yy0.1 (⟨s8_5.name, s8_5.arity, (yy0.2.1 + (1 : Int)) + (1 : Int), s8_5.groups⟩ : TableStatsD)) (fun a3807 => (⟨a3807.name, a3807.arity, a3807.rowCount, mGroupStatsS (((yy0.2.1 + (1 : Int)) + (1 : Int)) + (1 : Int)) b3807.groups⟩ : TableStatsD)) (fun a3807 => .back [(0, 0)])))))) (.fin [(0, 0)]))) ?_
  refine Eq.mpr (by kernel_rfl : _ = ((∃ (k : Nat) (z : Int) (r : List TableStatsD), (0 : Int) = (k : Int) ∧ m = z ∧ x.map eTableStats = r.map eTableStats ∧ k ≤ x.length ∧ z = m + ((sumL seTableStats (x.take k) : Nat) : Int) ∧ r = markPre meTableStats seTableStats m x k) ∧ ∀ (k : Nat) (z : Int) (r : List TableStatsD), (k ≤ x.length ∧ z = m + ((sumL seTableStats (x.take k) : Nat) : Int) ∧ r = markPre meTableStats seTableStats m x k) → (r.map eTableStats).length = r.length ∧ (((decide ((k : Int) < ((r.length : Nat) : Int))) = true → Con Try.prog 90 [.one (.int .i64 z)] (.p none (.str (mtext z))) [] ∧ (0 ≤ (k : Int) ∧ (r.map eTableStats).length = r.length ∧ (k : Int) < ((r.length : Nat) : Int) ∧ (r.map eTableStats = r.map eTableStats ∧ k < r.length ∧ ∀ s4_6, r[k]? = some s4_6 → 0 + 1 ≤ (eTableStats s4_6).length ∧ (eTableStats s4_6).take 0 ++ ((eTableStats (⟨mtext z, s4_6.arity, s4_6.rowCount, s4_6.groups⟩ : TableStatsD)).drop 0).take 1 ++ (eTableStats s4_6).drop (0 + 1) = eTableStats (⟨mtext z, s4_6.arity, s4_6.rowCount, s4_6.groups⟩ : TableStatsD) ∧ (mtext z) = ((⟨mtext z, s4_6.arity, s4_6.rowCount, s4_6.groups⟩ : TableStatsD).name) ∧ (inR (z + (1 : Int)) ∧ (0 ≤ (k : Int) ∧ ((r.set k (⟨mtext z, s4_6.arity, s4_6.rowCount, s4_6.groups⟩ : TableStatsD)).map eTableStats).length = (r.set k (⟨mtext z, s4_6.arity, s4_6.rowCount, s4_6.groups⟩ : TableStatsD)).length ∧ (k : Int) < (((r.set k (⟨mtext z, s4_6.arity, s4_6.rowCount, s4_6.groups⟩ : TableStatsD)).length : Nat) : Int) ∧ ((r.set k (⟨mtext z, s4_6.arity, s4_6.rowCount, s4_6.groups⟩ : TableStatsD)).map eTableStats = (r.set k (⟨mtext z, s4_6.arity, s4_6.rowCount, s4_6.groups⟩ : TableStatsD)).map eTableStats ∧ k < (r.set k (⟨mtext z, s4_6.arity, s4_6.rowCount, s4_6.groups⟩ : TableStatsD)).length ∧ ∀ s6_5, (r.set k (⟨mtext z, s4_6.arity, s4_6.rowCount, s4_6.groups⟩ : TableStatsD))[k]? = some s6_5 → 1 + 1 ≤ (eTableStats s6_5).length ∧ (eTableStats s6_5).take 1 ++ ((eTableStats (⟨s6_5.name, z + (1 : Int), s6_5.rowCount, s6_5.groups⟩ : TableStatsD)).drop 1).take 1 ++ (eTableStats s6_5).drop (1 + 1) = eTableStats (⟨s6_5.name, z + (1 : Int), s6_5.rowCount, s6_5.groups⟩ : TableStatsD) ∧ (z + (1 : Int)) = ((⟨s6_5.name, z + (1 : Int), s6_5.rowCount, s6_5.groups⟩ : TableStatsD).arity) ∧ (inR ((z + (1 : Int)) + (1 : Int)) ∧ (0 ≤ (k : Int) ∧ (((r.set k (⟨mtext z, s4_6.arity, s4_6.rowCount, s4_6.groups⟩ : TableStatsD)).set k (⟨s6_5.name, z + (1 : Int), s6_5.rowCount, s6_5.groups⟩ : TableStatsD)).map eTableStats).length = ((r.set k (⟨mtext z, s4_6.arity, s4_6.rowCount, s4_6.groups⟩ : TableStatsD)).set k (⟨s6_5.name, z + (1 : Int), s6_5.rowCount, s6_5.groups⟩ : TableStatsD)).length ∧ (k : Int) < ((((r.set k (⟨mtext z, s4_6.arity, s4_6.rowCount, s4_6.groups⟩ : TableStatsD)).set k (⟨s6_5.name, z + (1 : Int), s6_5.rowCount, s6_5.groups⟩ : TableStatsD)).length : Nat) : Int) ∧ (((r.set k (⟨mtext z, s4_6.arity, s4_6.rowCount, s4_6.groups⟩ : TableStatsD)).set k (⟨s6_5.name, z + (1 : Int), s6_5.rowCount, s6_5.groups⟩ : TableStatsD)).map eTableStats = ((r.set k (⟨mtext z, s4_6.arity, s4_6.rowCount, s4_6.groups⟩ : TableStatsD)).set k (⟨s6_5.name, z + (1 : Int), s6_5.rowCount, s6_5.groups⟩ : TableStatsD)).map eTableStats ∧ k < ((r.set k (⟨mtext z, s4_6.arity, s4_6.rowCount, s4_6.groups⟩ : TableStatsD)).set k (⟨s6_5.name, z + (1 : Int), s6_5.rowCount, s6_5.groups⟩ : TableStatsD)).length ∧ ∀ s8_5, ((r.set k (⟨mtext z, s4_6.arity, s4_6.rowCount, s4_6.groups⟩ : TableStatsD)).set k (⟨s6_5.name, z + (1 : Int), s6_5.rowCount, s6_5.groups⟩ : TableStatsD))[k]? = some s8_5 → 2 + 1 ≤ (eTableStats s8_5).length ∧ (eTableStats s8_5).take 2 ++ ((eTableStats (⟨s8_5.name, s8_5.arity, (z + (1 : Int)) + (1 : Int), s8_5.groups⟩ : TableStatsD)).drop 2).take 1 ++ (eTableStats s8_5).drop (2 + 1) = eTableStats (⟨s8_5.name, s8_5.arity, (z + (1 : Int)) + (1 : Int), s8_5.groups⟩ : TableStatsD) ∧ ((z + (1 : Int)) + (1 : Int)) = ((⟨s8_5.name, s8_5.arity, (z + (1 : Int)) + (1 : Int), s8_5.groups⟩ : TableStatsD).rowCount) ∧ (inR (((z + (1 : Int)) + (1 : Int)) + (1 : Int)) ∧ ((((r.set k (⟨mtext z, s4_6.arity, s4_6.rowCount, s4_6.groups⟩ : TableStatsD)).set k (⟨s6_5.name, z + (1 : Int), s6_5.rowCount, s6_5.groups⟩ : TableStatsD)).set k (⟨s8_5.name, s8_5.arity, (z + (1 : Int)) + (1 : Int), s8_5.groups⟩ : TableStatsD)).map eTableStats = (((r.set k (⟨mtext z, s4_6.arity, s4_6.rowCount, s4_6.groups⟩ : TableStatsD)).set k (⟨s6_5.name, z + (1 : Int), s6_5.rowCount, s6_5.groups⟩ : TableStatsD)).set k (⟨s8_5.name, s8_5.arity, (z + (1 : Int)) + (1 : Int), s8_5.groups⟩ : TableStatsD)).map eTableStats ∧ k < (((r.set k (⟨mtext z, s4_6.arity, s4_6.rowCount, s4_6.groups⟩ : TableStatsD)).set k (⟨s6_5.name, z + (1 : Int), s6_5.rowCount, s6_5.groups⟩ : TableStatsD)).set k (⟨s8_5.name, s8_5.arity, (z + (1 : Int)) + (1 : Int), s8_5.groups⟩ : TableStatsD)).length ∧ ∀ b3807, (((r.set k (⟨mtext z, s4_6.arity, s4_6.rowCount, s4_6.groups⟩ : TableStatsD)).set k (⟨s6_5.name, z + (1 : Int), s6_5.rowCount, s6_5.groups⟩ : TableStatsD)).set k (⟨s8_5.name, s8_5.arity, (z + (1 : Int)) + (1 : Int), s8_5.groups⟩ : TableStatsD))[k]? = some b3807 → 0 ≤ (k : Int) ∧ ((((r.set k (⟨mtext z, s4_6.arity, s4_6.rowCount, s4_6.groups⟩ : TableStatsD)).set k (⟨s6_5.name, z + (1 : Int), s6_5.rowCount, s6_5.groups⟩ : TableStatsD)).set k (⟨s8_5.name, s8_5.arity, (z + (1 : Int)) + (1 : Int), s8_5.groups⟩ : TableStatsD)).map eTableStats).length = (((r.set k (⟨mtext z, s4_6.arity, s4_6.rowCount, s4_6.groups⟩ : TableStatsD)).set k (⟨s6_5.name, z + (1 : Int), s6_5.rowCount, s6_5.groups⟩ : TableStatsD)).set k (⟨s8_5.name, s8_5.arity, (z + (1 : Int)) + (1 : Int), s8_5.groups⟩ : TableStatsD)).length ∧ (k : Int) < (((((r.set k (⟨mtext z, s4_6.arity, s4_6.rowCount, s4_6.groups⟩ : TableStatsD)).set k (⟨s6_5.name, z + (1 : Int), s6_5.rowCount, s6_5.groups⟩ : TableStatsD)).set k (⟨s8_5.name, s8_5.arity, (z + (1 : Int)) + (1 : Int), s8_5.groups⟩ : TableStatsD)).length : Nat) : Int) ∧ (k = k ∧ (Con2 Try.prog 65 [.own 0, vI (((z + (1 : Int)) + (1 : Int)) + (1 : Int))] [(0, .arr 104 3 true (b3807.groups.map eGroupStats))] (vI ((((z + (1 : Int)) + (1 : Int)) + (1 : Int)) + ((sGroupStatsS b3807.groups : Nat) : Int))) [(0, .arr 104 3 true ((mGroupStatsS (((z + (1 : Int)) + (1 : Int)) + (1 : Int)) b3807.groups).map eGroupStats))] ∧ (((z + (1 : Int)) + (1 : Int)) + (1 : Int)) = (((z + (1 : Int)) + (1 : Int)) + (1 : Int)) ∧ b3807.groups.map eGroupStats = b3807.groups.map eGroupStats ∧ ((((r.set k (⟨mtext z, s4_6.arity, s4_6.rowCount, s4_6.groups⟩ : TableStatsD)).set k (⟨s6_5.name, z + (1 : Int), s6_5.rowCount, s6_5.groups⟩ : TableStatsD)).set k (⟨s8_5.name, s8_5.arity, (z + (1 : Int)) + (1 : Int), s8_5.groups⟩ : TableStatsD)).map eTableStats = (((r.set k (⟨mtext z, s4_6.arity, s4_6.rowCount, s4_6.groups⟩ : TableStatsD)).set k (⟨s6_5.name, z + (1 : Int), s6_5.rowCount, s6_5.groups⟩ : TableStatsD)).set k (⟨s8_5.name, s8_5.arity, (z + (1 : Int)) + (1 : Int), s8_5.groups⟩ : TableStatsD)).map eTableStats ∧ k < (((r.set k (⟨mtext z, s4_6.arity, s4_6.rowCount, s4_6.groups⟩ : TableStatsD)).set k (⟨s6_5.name, z + (1 : Int), s6_5.rowCount, s6_5.groups⟩ : TableStatsD)).set k (⟨s8_5.name, s8_5.arity, (z + (1 : Int)) + (1 : Int), s8_5.groups⟩ : TableStatsD)).length ∧ ∀ a3807, (((r.set k (⟨mtext z, s4_6.arity, s4_6.rowCount, s4_6.groups⟩ : TableStatsD)).set k (⟨s6_5.name, z + (1 : Int), s6_5.rowCount, s6_5.groups⟩ : TableStatsD)).set k (⟨s8_5.name, s8_5.arity, (z + (1 : Int)) + (1 : Int), s8_5.groups⟩ : TableStatsD))[k]? = some a3807 → ((eTableStats a3807).take 3 ++ .sl 104 3 ((mGroupStatsS (((z + (1 : Int)) + (1 : Int)) + (1 : Int)) b3807.groups).map eGroupStats) :: (eTableStats a3807).drop (3 + 1) = eTableStats (⟨a3807.name, a3807.arity, a3807.rowCount, mGroupStatsS (((z + (1 : Int)) + (1 : Int)) + (1 : Int)) b3807.groups⟩ : TableStatsD)) ∧ inR ((k : Int) + (1 : Int)) ∧ ∃ (k' : Nat) (z' : Int) (r' : List TableStatsD), ((k : Int) + (1 : Int)) = (k' : Int) ∧ ((((z + (1 : Int)) + (1 : Int)) + (1 : Int)) + ((sGroupStatsS b3807.groups : Nat) : Int)) = z' ∧ ((((r.set k (⟨mtext z, s4_6.arity, s4_6.rowCount, s4_6.groups⟩ : TableStatsD)).set k (⟨s6_5.name, z + (1 : Int), s6_5.rowCount, s6_5.groups⟩ : TableStatsD)).set k (⟨s8_5.name, s8_5.arity, (z + (1 : Int)) + (1 : Int), s8_5.groups⟩ : TableStatsD)).set k (⟨a3807.name, a3807.arity, a3807.rowCount, mGroupStatsS (((z + (1 : Int)) + (1 : Int)) + (1 : Int)) b3807.groups⟩ : TableStatsD)).map eTableStats = r'.map eTableStats ∧ (k' ≤ x.length ∧ z' = m + ((sumL seTableStats (x.take k') : Nat) : Int) ∧ r' = markPre meTableStats seTableStats m x k') ∧ x.length - k' < x.length - k)))))))))))))) ∧ ((decide ((k : Int) < ((r.length : Nat) : Int))) = false → z = (m + ((sTableStatsS x : Nat) : Int)) ∧ r.map eTableStats = (mTableStatsS m x).map eTableStats ∧ True)))) ?_
  have hS : sTableStatsS x = sumL seTableStats x := rfl
  have hC : cTableStatsS x = x.length + sumL cTableStats x := rfl
  refine ⟨⟨0, m, x, rfl, rfl, rfl, Nat.zero_le _, by simp [sumL], (markPre_zero _ _ _ _).symm⟩, fun k z r ⟨hk, hz, hr⟩ => ?_⟩
  have hrl : r.length = x.length := by rw [hr]; exact markPre_len _ _ _ _ _ hk
  refine ⟨List.length_map _, ?_⟩
  refine ⟨fun c0 => ?_, fun c0 => ?_⟩
  · replace c0 := of_decide_eq_true c0
    obtain ⟨y, hy⟩ := at_some (l := x) (k := k) (by omega)
    have hry : r[k]? = some y := by rw [hr, markPre_get _ _ _ _ _ (by omega)]; exact hy
    have hs := sumL_snoc seTableStats hy
    have hle := sumL_le seTableStats x (k + 1)
    have hA : sumL seTableStats (x.take k) ≤ 5 * (k + sumL cTableStats (x.take k)) := pre5 seTableStats_le x k hk
    have hB := sumL_snoc cTableStats hy
    have hD := sumL_le cTableStats x (k + 1)
    have hF : cTableStats y = ByteArray.size y.name + cGroupStatsS y.groups := rfl
    have hle5 := sTableStatsS_le x
    have hE : seTableStats y = 1 + 1 + 1 + sGroupStatsS y.groups := rfl
    have hy_groups := sGroupStatsS_le y.groups
    refine ⟨mk_text _ (by omega), ?_⟩
    refine ⟨by omega, List.length_map _, by first | omega | (simp only [List.length_set]; omega), ?_⟩
    refine ⟨rfl, by first | omega | (simp only [List.length_set]; omega), fun s4_6 hs4_6 => ?_⟩
    obtain rfl := (same_at hry hs4_6).symm
    refine ⟨Nat.le_of_ble_eq_true rfl, rfl, rfl, ?_⟩
    refine ⟨⟨by omega, by omega⟩, ?_⟩
    refine ⟨by omega, List.length_map _, by first | omega | (simp only [List.length_set]; omega), ?_⟩
    refine ⟨rfl, by first | omega | (simp only [List.length_set]; omega), fun s6_5 hs6_5 => ?_⟩
    obtain rfl := at_set hs6_5
    refine ⟨Nat.le_of_ble_eq_true rfl, rfl, rfl, ?_⟩
    refine ⟨⟨by omega, by omega⟩, ?_⟩
    refine ⟨by omega, List.length_map _, by first | omega | (simp only [List.length_set]; omega), ?_⟩
    refine ⟨rfl, by first | omega | (simp only [List.length_set]; omega), fun s8_5 hs8_5 => ?_⟩
    obtain rfl := at_set hs8_5
    refine ⟨Nat.le_of_ble_eq_true rfl, rfl, rfl, ?_⟩
    refine ⟨⟨by omega, by omega⟩, ?_⟩
    refine ⟨rfl, by first | omega | (simp only [List.length_set]; omega), fun b3807 hb3807 => ?_⟩
    obtain rfl := at_set hb3807
    refine ⟨by omega, List.length_map _, by first | omega | (simp only [List.length_set]; omega), ?_⟩
    refine ⟨rfl, ?_⟩
    refine ⟨mk_GroupStatsS _ _ (by omega) (by first | omega | (dsimp only; omega)), rfl, rfl, ?_⟩
    refine ⟨rfl, by first | omega | (simp only [List.length_set]; omega), fun a3807 ha3807 => ⟨rfl, ?_⟩⟩
    obtain rfl := at_set ha3807
    refine ⟨⟨by omega, by omega⟩, ?_⟩
    exact ⟨k + 1, _, _, rfl, rfl, rfl, ⟨by omega, by rw [hs]; (try dsimp only); omega, by subst hz hr; (try simp only [List.set_set]); exact markPre_set _ _ _ _ _ _ hy⟩, by omega⟩
  · replace c0 := of_decide_eq_false c0
    have hkx : k = x.length := by omega
    rw [hkx, List.take_length] at hz
    rw [hkx, markPre_done] at hr
    refine ⟨?_, ?_, trivial⟩
    · first | (rw [hz]; rfl) | (rw [hr]; rfl) | (rw [hz, hS])
    · first | (rw [hz]; rfl) | (rw [hr]; rfl) | (rw [hz, hS])

set_option maxRecDepth 100000 in
set_option maxHeartbeats 4000000 in
theorem mk_Catalogue (x : CatalogueD) (m : Int) (h0 : 0 ≤ m) (hm : m + 5 * ((cCatalogue x : Nat) : Int) ≤ 4611686018427387904) : Con2 Try.prog 23 [.agg [vI x.version, .own 0], vI m] [(0, .arr 60 4 true (x.tables.map eTableStats))] (vI (m + ((stCatalogue x : Nat) : Int))) [(0, .arr 60 4 true (((mtCatalogue m x).tables).map eTableStats))] := by
  refine con2_x tbOk mixedW Try.func23 (by kernel_rfl) (by kernel_rfl) (.callx [.own 0, vI m] [(0, .arr 60 4 true (x.tables.map eTableStats))] [(0, 0)] (vI (m + ((sTableStatsS x.tables : Nat) : Int))) [(0, .arr 60 4 true ((mTableStatsS m x.tables).map eTableStats))] <| .fin [(0, 0)]) ?_
  refine Eq.mpr (by kernel_rfl : _ = (Con2 Try.prog 58 [.own 0, vI m] [(0, .arr 60 4 true (x.tables.map eTableStats))] (vI (m + ((sTableStatsS x.tables : Nat) : Int))) [(0, .arr 60 4 true ((mTableStatsS m x.tables).map eTableStats))] ∧ m = m ∧ x.tables.map eTableStats = x.tables.map eTableStats ∧ (m + ((sTableStatsS x.tables : Nat) : Int)) = (m + ((stCatalogue x : Nat) : Int)) ∧ (mTableStatsS m x.tables).map eTableStats = ((mtCatalogue m x).tables).map eTableStats ∧ True)) ?_
  have hS : stCatalogue x = sTableStatsS x.tables := rfl
  have hC : cCatalogue x = cTableStatsS x.tables := rfl
  have := sTableStatsS_le x.tables
  refine ⟨mk_TableStatsS _ _ (by omega) (by first | omega | (dsimp only; omega)), rfl, rfl, ?_⟩
  refine ⟨?_, ?_, trivial⟩
  · first | rfl | (rw [hS]; omega)
  · first | rfl | (rw [hS]; omega)
end Go.Proofs.Ytjlagjhmlmfjeaa
