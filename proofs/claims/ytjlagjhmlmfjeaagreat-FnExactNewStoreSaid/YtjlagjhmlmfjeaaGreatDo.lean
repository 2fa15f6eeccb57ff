/-
  Marks are held: the laws' helpers.
-/
import Derived.Test.YtjlagjhmlmfjeaaGreatDm
namespace Go.Proofs.YtjlagjhmlmfjeaaGreat
open Go.ChangeShapes Go.WideShapes Go.ChangeAt Go.RowKit
set_option linter.unusedVariables false
set_option linter.unusedSimpArgs false
set_option maxRecDepth 100000 in
set_option maxHeartbeats 4000000 in
theorem hd_IntS (x : List Int) (m : Int) (h0 : 0 ≤ m) (hm : m + 5 * ((cIntS x : Nat) : Int) ≤ 4611686018427387904) : Con Tryz.prog 28 [.one (.sl 3 1 ((mIntS m x).map intD)), .one (.int .i64 m)] (vI (m + ((sIntS x : Nat) : Int))) [] := by
  refine con_x tbOk mixedW Tryz.func28 (by kernel_rfl) (.loop (Nat × Int) (Q2 Nat Int) [1, 5, 6, 7, 8, 9, 10, 11, 12, 13, 14, 15, 16, 17, 18, 19] [] (fun yy0 => [(5, vI (yy0.1 : Int)), (1, vI yy0.2)]) (fun yy0 => []) (fun yy0 => yy0.1 ≤ x.length ∧ yy0.2 = m + ((sumL sInt (x.take yy0.1) : Nat) : Int)) (fun yy0 => x.length - yy0.1) (fun yy0 => .len ((mIntS m x).length) <| .br (.elem Int intD (mIntS m x) (fun e14 => .no <| .back [])) (.fin []))) ?_
  refine Eq.mpr (by kernel_rfl : _ = (((mIntS m x).map intD).length ≤ 9223372036854775807 → (∃ (k : Nat) (z : Int), (0 : Int) = (k : Int) ∧ m = z ∧ k ≤ x.length ∧ z = m + ((sumL sInt (x.take k) : Nat) : Int)) ∧ ∀ (k : Nat) (z : Int), (k ≤ x.length ∧ z = m + ((sumL sInt (x.take k) : Nat) : Int)) → ((mIntS m x).map intD).length = (mIntS m x).length ∧ (((decide ((k : Int) < (((mIntS m x).length : Nat) : Int))) = true → 0 ≤ (k : Int) ∧ ((mIntS m x).map intD = (mIntS m x).map intD ∧ k < (mIntS m x).length ∧ ∀ e14, (mIntS m x)[k]? = some e14 → (!(decide (e14 = z))) = false ∧ inR (z + (1 : Int)) ∧ inR ((k : Int) + (1 : Int)) ∧ ∃ (k' : Nat) (z' : Int), ((k : Int) + (1 : Int)) = (k' : Int) ∧ (z + (1 : Int)) = z' ∧ (k' ≤ x.length ∧ z' = m + ((sumL sInt (x.take k') : Nat) : Int)) ∧ x.length - k' < x.length - k)) ∧ ((decide ((k : Int) < (((mIntS m x).length : Nat) : Int))) = false → z = (m + ((sIntS x : Nat) : Int)) ∧ True)))) ?_
  intro n0
  simp only [List.length_map] at n0
  have hS : sIntS x = sumL sInt x := rfl
  have hC : cIntS x = x.length := rfl
  have hlen : (mIntS m x).length = x.length := markL_len _ _ _ _
  refine ⟨⟨0, m, rfl, rfl, Nat.zero_le _, by simp [sumL]⟩, fun k z ⟨hk, hz⟩ => ?_⟩
  refine ⟨List.length_map _, ?_⟩
  refine ⟨fun c0 => ?_, fun c0 => ?_⟩
  · replace c0 := of_decide_eq_true c0
    obtain ⟨y, hy⟩ := at_some (l := x) (k := k) (by omega)
    have hY : (mIntS m x)[k]? = some (mInt z y) := by rw [hz]; exact markL_at _ _ x m k y hy
    have hs := sumL_snoc sInt hy
    have hle := sumL_le sInt x (k + 1)
    have hA : sumL sInt (x.take k) ≤ 5 * k := pre4 (fun _ => by simp [sInt]) x k hk
    have hle5 := sIntS_le x
    have hE : sInt y = 1 := rfl
    refine ⟨by omega, ?_⟩
    refine ⟨rfl, by omega, fun e14 h14 => ?_⟩
    obtain rfl := (same_at hY h14).symm
    refine ⟨by simp [mInt], ?_⟩
    refine ⟨⟨by omega, by omega⟩, ?_⟩
    refine ⟨⟨by omega, by omega⟩, ?_⟩
    exact ⟨k + 1, _, rfl, rfl, ⟨by omega, by rw [hs]; (try dsimp only); omega⟩, by omega⟩
  · replace c0 := of_decide_eq_false c0
    have hkx : k = x.length := by omega
    rw [hkx, List.take_length] at hz
    refine ⟨?_, trivial⟩
    · rw [hz]; rfl

set_option maxRecDepth 100000 in
set_option maxHeartbeats 4000000 in
theorem hd_IntSS (x : List (List Int)) (m : Int) (h0 : 0 ≤ m) (hm : m + 5 * ((cIntSS x : Nat) : Int) ≤ 4611686018427387904) : Con Tryz.prog 144 [.one (.sl 25 1 ((mIntSS m x).map eIntS)), .one (.int .i64 m)] (vI (m + ((sIntSS x : Nat) : Int))) [] := by
  refine con_x tbOk mixedW Tryz.func144 (by kernel_rfl) (.loop (Nat × Int) (Q2 Nat Int) [1, 5, 6, 7, 8, 9, 10, 11, 12, 13, 14, 15, 16, 17, 18, 19] [] (fun yy0 => [(5, vI (yy0.1 : Int)), (1, vI yy0.2)]) (fun yy0 => []) (fun yy0 => yy0.1 ≤ x.length ∧ yy0.2 = m + ((sumL sIntS (x.take yy0.1) : Nat) : Int)) (fun yy0 => x.length - yy0.1) (fun yy0 => .len ((mIntSS m x).length) <| .br (.elem (List Int) eIntS (mIntSS m x) (fun e14 => .call (vI (yy0.2 + ((sIntS (x.getD yy0.1 ([] : List Int)) : Nat) : Int))) [] <| .no <| .back [])) (.fin []))) ?_
  refine Eq.mpr (by kernel_rfl : _ = (((mIntSS m x).map eIntS).length ≤ 9223372036854775807 → (∃ (k : Nat) (z : Int), (0 : Int) = (k : Int) ∧ m = z ∧ k ≤ x.length ∧ z = m + ((sumL sIntS (x.take k) : Nat) : Int)) ∧ ∀ (k : Nat) (z : Int), (k ≤ x.length ∧ z = m + ((sumL sIntS (x.take k) : Nat) : Int)) → ((mIntSS m x).map eIntS).length = (mIntSS m x).length ∧ (((decide ((k : Int) < (((mIntSS m x).length : Nat) : Int))) = true → 0 ≤ (k : Int) ∧ ((mIntSS m x).map eIntS = (mIntSS m x).map eIntS ∧ k < (mIntSS m x).length ∧ ∀ e14, (mIntSS m x)[k]? = some e14 → Con Tryz.prog 28 [.one (.sl 3 1 (e14.map intD)), .one (.int .i64 z)] (vI (z + ((sIntS (x.getD k ([] : List Int)) : Nat) : Int))) [] ∧ (decide ((z + ((sIntS (x.getD k ([] : List Int)) : Nat) : Int)) < (0 : Int))) = false ∧ inR ((k : Int) + (1 : Int)) ∧ ∃ (k' : Nat) (z' : Int), ((k : Int) + (1 : Int)) = (k' : Int) ∧ (z + ((sIntS (x.getD k ([] : List Int)) : Nat) : Int)) = z' ∧ (k' ≤ x.length ∧ z' = m + ((sumL sIntS (x.take k') : Nat) : Int)) ∧ x.length - k' < x.length - k)) ∧ ((decide ((k : Int) < (((mIntSS m x).length : Nat) : Int))) = false → z = (m + ((sIntSS x : Nat) : Int)) ∧ True)))) ?_
  intro n0
  simp only [List.length_map] at n0
  have hS : sIntSS x = sumL sIntS x := rfl
  have hC : cIntSS x = x.length + sumL cIntS x := rfl
  have hlen : (mIntSS m x).length = x.length := markL_len _ _ _ _
  refine ⟨⟨0, m, rfl, rfl, Nat.zero_le _, by simp [sumL]⟩, fun k z ⟨hk, hz⟩ => ?_⟩
  refine ⟨List.length_map _, ?_⟩
  refine ⟨fun c0 => ?_, fun c0 => ?_⟩
  · replace c0 := of_decide_eq_true c0
    obtain ⟨y, hy⟩ := at_some (l := x) (k := k) (by omega)
    have hY : (mIntSS m x)[k]? = some (mIntS z y) := by rw [hz]; exact markL_at _ _ x m k y hy
    have hs := sumL_snoc sIntS hy
    have hle := sumL_le sIntS x (k + 1)
    have hA : sumL sIntS (x.take k) ≤ 5 * (k + sumL cIntS (x.take k)) := pre5 (s := sIntS) (c := cIntS) (fun y => by have := sIntS_le y; omega) x k hk
    have hB := sumL_snoc cIntS hy
    have hD := sumL_le cIntS x (k + 1)
    have hle5 := sIntSS_le x
    have hy5 := sIntS_le y
    have hg : x.getD k ([] : List Int) = y := by simp [List.getD_eq_getElem?_getD, hy]
    try rw [hg]
    refine ⟨by omega, ?_⟩
    refine ⟨rfl, by omega, fun e14 h14 => ?_⟩
    obtain rfl := (same_at hY h14).symm
    refine ⟨hd_IntS _ _ (by omega) (by first | omega | (dsimp only; omega)), ?_⟩
    refine ⟨by simp; omega, ?_⟩
    refine ⟨⟨by omega, by omega⟩, ?_⟩
    exact ⟨k + 1, _, rfl, rfl, ⟨by omega, by rw [hs, hz]; omega⟩, by omega⟩
  · replace c0 := of_decide_eq_false c0
    have hkx : k = x.length := by omega
    rw [hkx, List.take_length] at hz
    refine ⟨?_, trivial⟩
    · rw [hz]; rfl

set_option maxRecDepth 100000 in
set_option maxHeartbeats 4000000 in
theorem hd_TableS (x : List TableD) (m : Int) (h0 : 0 ≤ m) (hm : m + 5 * ((cTableS x : Nat) : Int) ≤ 4611686018427387904) : Con Tryz.prog 167 [.one (.sl 107 3 ((mTableS m x).map eTable)), .one (.int .i64 m)] (vI (m + ((sTableS x : Nat) : Int))) [] := by
  refine con_x tbOk mixedW Tryz.func167 (by kernel_rfl) (.loop (Nat × Int) (Q2 Nat Int) [1, 5, 6, 7, 8, 9, 10, 11, 12, 13, 14, 15, 16, 17, 18, 19, 20, 21, 22, 23, 24, 25, 26, 27, 28, 29, 30, 31, 32, 33, 34, 35, 36, 37, 38, 39] [] (fun yy0 => [(5, vI (yy0.1 : Int)), (1, vI yy0.2)]) (fun yy0 => []) (fun yy0 => yy0.1 ≤ x.length ∧ yy0.2 = m + ((sumL seTable (x.take yy0.1) : Nat) : Int)) (fun yy0 => x.length - yy0.1) (fun yy0 => .len ((mTableS m x).length) <| .br (.elem TableD eTable (mTableS m x) (fun e14 => .call (.p none (.str (mtext yy0.2))) [] <| .no <| .elem TableD eTable (mTableS m x) (fun e24 => .no <| .elem TableD eTable (mTableS m x) (fun e33 => .call (vI (((yy0.2 + (1 : Int)) + (1 : Int)) + ((sIntSS ((x.getD yy0.1 zTable).rows) : Nat) : Int))) [] <| .no <| .back [])))) (.fin []))) ?_
  refine Eq.mpr (by kernel_rfl : _ = (((mTableS m x).map eTable).length ≤ 9223372036854775807 → (∃ (k : Nat) (z : Int), (0 : Int) = (k : Int) ∧ m = z ∧ k ≤ x.length ∧ z = m + ((sumL seTable (x.take k) : Nat) : Int)) ∧ ∀ (k : Nat) (z : Int), (k ≤ x.length ∧ z = m + ((sumL seTable (x.take k) : Nat) : Int)) → ((mTableS m x).map eTable).length = (mTableS m x).length ∧ (((decide ((k : Int) < (((mTableS m x).length : Nat) : Int))) = true → 0 ≤ (k : Int) ∧ ((mTableS m x).map eTable = (mTableS m x).map eTable ∧ k < (mTableS m x).length ∧ ∀ e14, (mTableS m x)[k]? = some e14 → Con Tryz.prog 112 [.one (.int .i64 z)] (.p none (.str (mtext z))) [] ∧ ((!(e14.name.toList == (mtext z).toList)) = false ∧ (inR (z + (1 : Int)) ∧ (0 ≤ (k : Int) ∧ ((mTableS m x).map eTable = (mTableS m x).map eTable ∧ k < (mTableS m x).length ∧ ∀ e24, (mTableS m x)[k]? = some e24 → (!(decide (e24.arity = (z + (1 : Int))))) = false ∧ (inR ((z + (1 : Int)) + (1 : Int)) ∧ (0 ≤ (k : Int) ∧ ((mTableS m x).map eTable = (mTableS m x).map eTable ∧ k < (mTableS m x).length ∧ ∀ e33, (mTableS m x)[k]? = some e33 → Con Tryz.prog 144 [.one (.sl 25 1 (e33.rows.map eIntS)), .one (.int .i64 ((z + (1 : Int)) + (1 : Int)))] (vI (((z + (1 : Int)) + (1 : Int)) + ((sIntSS ((x.getD k zTable).rows) : Nat) : Int))) [] ∧ (decide ((((z + (1 : Int)) + (1 : Int)) + ((sIntSS ((x.getD k zTable).rows) : Nat) : Int)) < (0 : Int))) = false ∧ inR ((k : Int) + (1 : Int)) ∧ ∃ (k' : Nat) (z' : Int), ((k : Int) + (1 : Int)) = (k' : Int) ∧ (((z + (1 : Int)) + (1 : Int)) + ((sIntSS ((x.getD k zTable).rows) : Nat) : Int)) = z' ∧ (k' ≤ x.length ∧ z' = m + ((sumL seTable (x.take k') : Nat) : Int)) ∧ x.length - k' < x.length - k))))))))) ∧ ((decide ((k : Int) < (((mTableS m x).length : Nat) : Int))) = false → z = (m + ((sTableS x : Nat) : Int)) ∧ True)))) ?_
  intro n0
  simp only [List.length_map] at n0
  have hS : sTableS x = sumL seTable x := rfl
  have hC : cTableS x = x.length + sumL cTable x := rfl
  have hlen : (mTableS m x).length = x.length := markL_len _ _ _ _
  refine ⟨⟨0, m, rfl, rfl, Nat.zero_le _, by simp [sumL]⟩, fun k z ⟨hk, hz⟩ => ?_⟩
  refine ⟨List.length_map _, ?_⟩
  refine ⟨fun c0 => ?_, fun c0 => ?_⟩
  · replace c0 := of_decide_eq_true c0
    obtain ⟨y, hy⟩ := at_some (l := x) (k := k) (by omega)
    have hY : (mTableS m x)[k]? = some (meTable z y) := by rw [hz]; exact markL_at _ _ x m k y hy
    have hs := sumL_snoc seTable hy
    have hle := sumL_le seTable x (k + 1)
    have hA : sumL seTable (x.take k) ≤ 5 * (k + sumL cTable (x.take k)) := pre5 seTable_le x k hk
    have hB := sumL_snoc cTable hy
    have hD := sumL_le cTable x (k + 1)
    have hF : cTable y = ByteArray.size y.name + cIntSS y.rows := rfl
    have hle5 := sTableS_le x
    have hE : seTable y = 1 + 1 + sIntSS y.rows := rfl
    have hy_rows := sIntSS_le y.rows
    have hg : x.getD k zTable = y := by simp [List.getD_eq_getElem?_getD, hy]
    try rw [hg]
    refine ⟨by omega, ?_⟩
    refine ⟨rfl, by omega, fun e14 h14 => ?_⟩
    obtain rfl := (same_at hY h14).symm
    refine ⟨mk_text _ (by omega), ?_⟩
    refine ⟨by simp [meTable], ?_⟩
    refine ⟨⟨by omega, by omega⟩, ?_⟩
    refine ⟨by omega, ?_⟩
    refine ⟨rfl, by omega, fun e24 h24 => ?_⟩
    obtain rfl := (same_at hY h24).symm
    refine ⟨by simp [meTable], ?_⟩
    refine ⟨⟨by omega, by omega⟩, ?_⟩
    refine ⟨by omega, ?_⟩
    refine ⟨rfl, by omega, fun e33 h33 => ?_⟩
    obtain rfl := (same_at hY h33).symm
    refine ⟨hd_IntSS _ _ (by omega) (by first | omega | (dsimp only; omega)), ?_⟩
    refine ⟨by simp; omega, ?_⟩
    refine ⟨⟨by omega, by omega⟩, ?_⟩
    exact ⟨k + 1, _, rfl, rfl, ⟨by omega, by rw [hs]; (try dsimp only); omega⟩, by omega⟩
  · replace c0 := of_decide_eq_false c0
    have hkx : k = x.length := by omega
    rw [hkx, List.take_length] at hz
    refine ⟨?_, trivial⟩
    · rw [hz]; rfl

set_option maxRecDepth 100000 in
set_option maxHeartbeats 4000000 in
theorem hd_Database (x : DatabaseD) (m : Int) (h0 : 0 ≤ m) (hm : m + 5 * ((cDatabase x : Nat) : Int) ≤ 4611686018427387904) : Con Tryz.prog 114 [.agg [.sl 107 3 (((mtDatabase m x).tables).map eTable)], .one (.int .i64 m)] (vI (m + ((stDatabase x : Nat) : Int))) [] := by
  refine con_x tbOk mixedW Tryz.func114 (by kernel_rfl) (.call (vI (m + ((sTableS x.tables : Nat) : Int))) [] <| .no <| .fin []) ?_
  refine Eq.mpr (by kernel_rfl : _ = ((((mtDatabase m x).tables).map eTable).length ≤ 9223372036854775807 → Con Tryz.prog 167 [.one (.sl 107 3 (((mtDatabase m x).tables).map eTable)), .one (.int .i64 m)] (vI (m + ((sTableS x.tables : Nat) : Int))) [] ∧ (decide ((m + ((sTableS x.tables : Nat) : Int)) < (0 : Int))) = false ∧ (m + ((sTableS x.tables : Nat) : Int)) = (m + ((stDatabase x : Nat) : Int)) ∧ True)) ?_
  intro n0
  simp only [List.length_map] at n0
  have hS : stDatabase x = sTableS x.tables := rfl
  have hC : cDatabase x = cTableS x.tables := rfl
  have := sTableS_le x.tables
  refine ⟨hd_TableS _ _ (by omega) (by first | omega | (dsimp only; omega)), ?_⟩
  refine ⟨by simp; omega, ?_⟩
  refine ⟨?_, trivial⟩
  · first | rfl | (rw [hS]; omega)

set_option maxRecDepth 100000 in
set_option maxHeartbeats 4000000 in
theorem hd_GroupStatsS (x : List GroupStatsD) (m : Int) (h0 : 0 ≤ m) (hm : m + 5 * ((cGroupStatsS x : Nat) : Int) ≤ 4611686018427387904) : Con Tryz.prog 77 [.one (.sl 157 3 ((mGroupStatsS m x).map eGroupStats)), .one (.int .i64 m)] (vI (m + ((sGroupStatsS x : Nat) : Int))) [] := by
  refine con_x tbOk mixedW Tryz.func77 (by kernel_rfl) (.loop (Nat × Int) (Q2 Nat Int) [1, 5, 6, 7, 8, 9, 10, 11, 12, 13, 14, 15, 16, 17, 18, 19, 20, 21, 22, 23, 24, 25, 26, 27, 28, 29, 30, 31, 32, 33, 34, 35, 36, 37, 38] [] (fun yy0 => [(5, vI (yy0.1 : Int)), (1, vI yy0.2)]) (fun yy0 => []) (fun yy0 => yy0.1 ≤ x.length ∧ yy0.2 = m + ((sumL seGroupStats (x.take yy0.1) : Nat) : Int)) (fun yy0 => x.length - yy0.1) (fun yy0 => .len ((mGroupStatsS m x).length) <| .br (.elem GroupStatsD eGroupStats (mGroupStatsS m x) (fun e14 => .call (vI (yy0.2 + ((sIntS ((x.getD yy0.1 zGroupStats).columns) : Nat) : Int))) [] <| .no <| .elem GroupStatsD eGroupStats (mGroupStatsS m x) (fun e23 => .call (vI ((yy0.2 + ((sIntS ((x.getD yy0.1 zGroupStats).columns) : Nat) : Int)) + ((sIntSS ((x.getD yy0.1 zGroupStats).values) : Nat) : Int))) [] <| .no <| .elem GroupStatsD eGroupStats (mGroupStatsS m x) (fun e32 => .call (vI (((yy0.2 + ((sIntS ((x.getD yy0.1 zGroupStats).columns) : Nat) : Int)) + ((sIntSS ((x.getD yy0.1 zGroupStats).values) : Nat) : Int)) + ((sIntS ((x.getD yy0.1 zGroupStats).counts) : Nat) : Int))) [] <| .no <| .back [])))) (.fin []))) ?_
  refine Eq.mpr (by kernel_rfl : _ = (((mGroupStatsS m x).map eGroupStats).length ≤ 9223372036854775807 → (∃ (k : Nat) (z : Int), (0 : Int) = (k : Int) ∧ m = z ∧ k ≤ x.length ∧ z = m + ((sumL seGroupStats (x.take k) : Nat) : Int)) ∧ ∀ (k : Nat) (z : Int), (k ≤ x.length ∧ z = m + ((sumL seGroupStats (x.take k) : Nat) : Int)) → ((mGroupStatsS m x).map eGroupStats).length = (mGroupStatsS m x).length ∧ (((decide ((k : Int) < (((mGroupStatsS m x).length : Nat) : Int))) = true → 0 ≤ (k : Int) ∧ ((mGroupStatsS m x).map eGroupStats = (mGroupStatsS m x).map eGroupStats ∧ k < (mGroupStatsS m x).length ∧ ∀ e14, (mGroupStatsS m x)[k]? = some e14 → Con Tryz.prog 28 [.one (.sl 3 1 (e14.columns.map intD)), .one (.int .i64 z)] (vI (z + ((sIntS ((x.getD k zGroupStats).columns) : Nat) : Int))) [] ∧ ((decide ((z + ((sIntS ((x.getD k zGroupStats).columns) : Nat) : Int)) < (0 : Int))) = false ∧ (0 ≤ (k : Int) ∧ ((mGroupStatsS m x).map eGroupStats = (mGroupStatsS m x).map eGroupStats ∧ k < (mGroupStatsS m x).length ∧ ∀ e23, (mGroupStatsS m x)[k]? = some e23 → Con Tryz.prog 144 [.one (.sl 25 1 (e23.values.map eIntS)), .one (.int .i64 (z + ((sIntS ((x.getD k zGroupStats).columns) : Nat) : Int)))] (vI ((z + ((sIntS ((x.getD k zGroupStats).columns) : Nat) : Int)) + ((sIntSS ((x.getD k zGroupStats).values) : Nat) : Int))) [] ∧ ((decide (((z + ((sIntS ((x.getD k zGroupStats).columns) : Nat) : Int)) + ((sIntSS ((x.getD k zGroupStats).values) : Nat) : Int)) < (0 : Int))) = false ∧ (0 ≤ (k : Int) ∧ ((mGroupStatsS m x).map eGroupStats = (mGroupStatsS m x).map eGroupStats ∧ k < (mGroupStatsS m x).length ∧ ∀ e32, (mGroupStatsS m x)[k]? = some e32 → Con Tryz.prog 28 [.one (.sl 3 1 (e32.counts.map intD)), .one (.int .i64 ((z + ((sIntS ((x.getD k zGroupStats).columns) : Nat) : Int)) + ((sIntSS ((x.getD k zGroupStats).values) : Nat) : Int)))] (vI (((z + ((sIntS ((x.getD k zGroupStats).columns) : Nat) : Int)) + ((sIntSS ((x.getD k zGroupStats).values) : Nat) : Int)) + ((sIntS ((x.getD k zGroupStats).counts) : Nat) : Int))) [] ∧ (decide ((((z + ((sIntS ((x.getD k zGroupStats).columns) : Nat) : Int)) + ((sIntSS ((x.getD k zGroupStats).values) : Nat) : Int)) + ((sIntS ((x.getD k zGroupStats).counts) : Nat) : Int)) < (0 : Int))) = false ∧ inR ((k : Int) + (1 : Int)) ∧ ∃ (k' : Nat) (z' : Int), ((k : Int) + (1 : Int)) = (k' : Int) ∧ (((z + ((sIntS ((x.getD k zGroupStats).columns) : Nat) : Int)) + ((sIntSS ((x.getD k zGroupStats).values) : Nat) : Int)) + ((sIntS ((x.getD k zGroupStats).counts) : Nat) : Int)) = z' ∧ (k' ≤ x.length ∧ z' = m + ((sumL seGroupStats (x.take k') : Nat) : Int)) ∧ x.length - k' < x.length - k)))))))) ∧ ((decide ((k : Int) < (((mGroupStatsS m x).length : Nat) : Int))) = false → z = (m + ((sGroupStatsS x : Nat) : Int)) ∧ True)))) ?_
  intro n0
  simp only [List.length_map] at n0
  have hS : sGroupStatsS x = sumL seGroupStats x := rfl
  have hC : cGroupStatsS x = x.length + sumL cGroupStats x := rfl
  have hlen : (mGroupStatsS m x).length = x.length := markL_len _ _ _ _
  refine ⟨⟨0, m, rfl, rfl, Nat.zero_le _, by simp [sumL]⟩, fun k z ⟨hk, hz⟩ => ?_⟩
  refine ⟨List.length_map _, ?_⟩
  refine ⟨fun c0 => ?_, fun c0 => ?_⟩
  · replace c0 := of_decide_eq_true c0
    obtain ⟨y, hy⟩ := at_some (l := x) (k := k) (by omega)
    have hY : (mGroupStatsS m x)[k]? = some (meGroupStats z y) := by rw [hz]; exact markL_at _ _ x m k y hy
    have hs := sumL_snoc seGroupStats hy
    have hle := sumL_le seGroupStats x (k + 1)
    have hA : sumL seGroupStats (x.take k) ≤ 5 * (k + sumL cGroupStats (x.take k)) := pre5 seGroupStats_le x k hk
    have hB := sumL_snoc cGroupStats hy
    have hD := sumL_le cGroupStats x (k + 1)
    have hF : cGroupStats y = cIntS y.columns + cIntSS y.values + cIntS y.counts := rfl
    have hle5 := sGroupStatsS_le x
    have hE : seGroupStats y = sIntS y.columns + sIntSS y.values + sIntS y.counts := rfl
    have hy_columns := sIntS_le y.columns
    have hy_values := sIntSS_le y.values
    have hy_counts := sIntS_le y.counts
    have hg : x.getD k zGroupStats = y := by simp [List.getD_eq_getElem?_getD, hy]
    try rw [hg]
    refine ⟨by omega, ?_⟩
    refine ⟨rfl, by omega, fun e14 h14 => ?_⟩
    obtain rfl := (same_at hY h14).symm
    refine ⟨hd_IntS _ _ (by omega) (by first | omega | (dsimp only; omega)), ?_⟩
    refine ⟨by simp; omega, ?_⟩
    refine ⟨by omega, ?_⟩
    refine ⟨rfl, by omega, fun e23 h23 => ?_⟩
    obtain rfl := (same_at hY h23).symm
    refine ⟨hd_IntSS _ _ (by omega) (by first | omega | (dsimp only; omega)), ?_⟩
    refine ⟨by simp; omega, ?_⟩
    refine ⟨by omega, ?_⟩
    refine ⟨rfl, by omega, fun e32 h32 => ?_⟩
    obtain rfl := (same_at hY h32).symm
    refine ⟨hd_IntS _ _ (by omega) (by first | omega | (dsimp only; omega)), ?_⟩
    refine ⟨by simp; omega, ?_⟩
    refine ⟨⟨by omega, by omega⟩, ?_⟩
    exact ⟨k + 1, _, rfl, rfl, ⟨by omega, by rw [hs]; (try dsimp only); omega⟩, by omega⟩
  · replace c0 := of_decide_eq_false c0
    have hkx : k = x.length := by omega
    rw [hkx, List.take_length] at hz
    refine ⟨?_, trivial⟩
    · rw [hz]; rfl

set_option maxRecDepth 100000 in
set_option maxHeartbeats 4000000 in
theorem hd_TableStats (x : TableStatsD) (m : Int) (h0 : 0 ≤ m) (hm : m + 5 * ((cTableStats x : Nat) : Int) ≤ 4611686018427387904) : Con Tryz.prog 20 [.agg [.str ((mtTableStats m x).name), .int .i64 ((mtTableStats m x).arity), .int .i64 ((mtTableStats m x).rowCount), .sl 157 3 (((mtTableStats m x).groups).map eGroupStats)], .one (.int .i64 m)] (vI (m + ((stTableStats x : Nat) : Int))) [] := by
  refine con_x tbOk mixedW Tryz.func20 (by kernel_rfl) (.call (vI (m + ((sGroupStatsS x.groups : Nat) : Int))) [] <| .no <| .fin []) ?_
  refine Eq.mpr (by kernel_rfl : _ = ((((mtTableStats m x).groups).map eGroupStats).length ≤ 9223372036854775807 → Con Tryz.prog 77 [.one (.sl 157 3 (((mtTableStats m x).groups).map eGroupStats)), .one (.int .i64 m)] (vI (m + ((sGroupStatsS x.groups : Nat) : Int))) [] ∧ (decide ((m + ((sGroupStatsS x.groups : Nat) : Int)) < (0 : Int))) = false ∧ (m + ((sGroupStatsS x.groups : Nat) : Int)) = (m + ((stTableStats x : Nat) : Int)) ∧ True)) ?_
  intro n0
  simp only [List.length_map] at n0
  have hS : stTableStats x = sGroupStatsS x.groups := rfl
  have hC : cTableStats x = ByteArray.size x.name + cGroupStatsS x.groups := rfl
  have := sGroupStatsS_le x.groups
  refine ⟨hd_GroupStatsS _ _ (by omega) (by first | omega | (dsimp only; omega)), ?_⟩
  refine ⟨by simp; omega, ?_⟩
  refine ⟨?_, trivial⟩
  · first | rfl | (rw [hS]; omega)

set_option maxRecDepth 100000 in
set_option maxHeartbeats 4000000 in
theorem hd_TableStatsS (x : List TableStatsD) (m : Int) (h0 : 0 ≤ m) (hm : m + 5 * ((cTableStatsS x : Nat) : Int) ≤ 4611686018427387904) : Con Tryz.prog 168 [.one (.sl 32 4 ((mTableStatsS m x).map eTableStats)), .one (.int .i64 m)] (vI (m + ((sTableStatsS x : Nat) : Int))) [] := by
  refine con_x tbOk mixedW Tryz.func168 (by kernel_rfl) (.loop (Nat × Int) (Q2 Nat Int) [1, 5, 6, 7, 8, 9, 10, 11, 12, 13, 14, 15, 16, 17, 18, 19, 20, 21, 22, 23, 24, 25, 26, 27, 28, 29, 30, 31, 32, 33, 34, 35, 36, 37, 38, 39, 40, 41, 42, 43, 44, 45, 46, 47, 48] [] (fun yy0 => [(5, vI (yy0.1 : Int)), (1, vI yy0.2)]) (fun yy0 => []) (fun yy0 => yy0.1 ≤ x.length ∧ yy0.2 = m + ((sumL seTableStats (x.take yy0.1) : Nat) : Int)) (fun yy0 => x.length - yy0.1) (fun yy0 => .len ((mTableStatsS m x).length) <| .br (.elem TableStatsD eTableStats (mTableStatsS m x) (fun e14 => .call (.p none (.str (mtext yy0.2))) [] <| .no <| .elem TableStatsD eTableStats (mTableStatsS m x) (fun e24 => .no <| .elem TableStatsD eTableStats (mTableStatsS m x) (fun e33 => .no <| .elem TableStatsD eTableStats (mTableStatsS m x) (fun e42 => .call (vI ((((yy0.2 + (1 : Int)) + (1 : Int)) + (1 : Int)) + ((sGroupStatsS ((x.getD yy0.1 zTableStats).groups) : Nat) : Int))) [] <| .no <| .back []))))) (.fin []))) ?_
  refine Eq.mpr (by kernel_rfl : _ = (((mTableStatsS m x).map eTableStats).length ≤ 9223372036854775807 → (∃ (k : Nat) (z : Int), (0 : Int) = (k : Int) ∧ m = z ∧ k ≤ x.length ∧ z = m + ((sumL seTableStats (x.take k) : Nat) : Int)) ∧ ∀ (k : Nat) (z : Int), (k ≤ x.length ∧ z = m + ((sumL seTableStats (x.take k) : Nat) : Int)) → ((mTableStatsS m x).map eTableStats).length = (mTableStatsS m x).length ∧ (((decide ((k : Int) < (((mTableStatsS m x).length : Nat) : Int))) = true → 0 ≤ (k : Int) ∧ ((mTableStatsS m x).map eTableStats = (mTableStatsS m x).map eTableStats ∧ k < (mTableStatsS m x).length ∧ ∀ e14, (mTableStatsS m x)[k]? = some e14 → Con Tryz.prog 112 [.one (.int .i64 z)] (.p none (.str (mtext z))) [] ∧ ((!(e14.name.toList == (mtext z).toList)) = false ∧ (inR (z + (1 : Int)) ∧ (0 ≤ (k : Int) ∧ ((mTableStatsS m x).map eTableStats = (mTableStatsS m x).map eTableStats ∧ k < (mTableStatsS m x).length ∧ ∀ e24, (mTableStatsS m x)[k]? = some e24 → (!(decide (e24.arity = (z + (1 : Int))))) = false ∧ (inR ((z + (1 : Int)) + (1 : Int)) ∧ (0 ≤ (k : Int) ∧ ((mTableStatsS m x).map eTableStats = (mTableStatsS m x).map eTableStats ∧ k < (mTableStatsS m x).length ∧ ∀ e33, (mTableStatsS m x)[k]? = some e33 → (!(decide (e33.rowCount = ((z + (1 : Int)) + (1 : Int))))) = false ∧ (inR (((z + (1 : Int)) + (1 : Int)) + (1 : Int)) ∧ (0 ≤ (k : Int) ∧ ((mTableStatsS m x).map eTableStats = (mTableStatsS m x).map eTableStats ∧ k < (mTableStatsS m x).length ∧ ∀ e42, (mTableStatsS m x)[k]? = some e42 → Con Tryz.prog 77 [.one (.sl 157 3 (e42.groups.map eGroupStats)), .one (.int .i64 (((z + (1 : Int)) + (1 : Int)) + (1 : Int)))] (vI ((((z + (1 : Int)) + (1 : Int)) + (1 : Int)) + ((sGroupStatsS ((x.getD k zTableStats).groups) : Nat) : Int))) [] ∧ (decide (((((z + (1 : Int)) + (1 : Int)) + (1 : Int)) + ((sGroupStatsS ((x.getD k zTableStats).groups) : Nat) : Int)) < (0 : Int))) = false ∧ inR ((k : Int) + (1 : Int)) ∧ ∃ (k' : Nat) (z' : Int), ((k : Int) + (1 : Int)) = (k' : Int) ∧ ((((z + (1 : Int)) + (1 : Int)) + (1 : Int)) + ((sGroupStatsS ((x.getD k zTableStats).groups) : Nat) : Int)) = z' ∧ (k' ≤ x.length ∧ z' = m + ((sumL seTableStats (x.take k') : Nat) : Int)) ∧ x.length - k' < x.length - k)))))))))))) ∧ ((decide ((k : Int) < (((mTableStatsS m x).length : Nat) : Int))) = false → z = (m + ((sTableStatsS x : Nat) : Int)) ∧ True)))) ?_
  intro n0
  simp only [List.length_map] at n0
  have hS : sTableStatsS x = sumL seTableStats x := rfl
  have hC : cTableStatsS x = x.length + sumL cTableStats x := rfl
  have hlen : (mTableStatsS m x).length = x.length := markL_len _ _ _ _
  refine ⟨⟨0, m, rfl, rfl, Nat.zero_le _, by simp [sumL]⟩, fun k z ⟨hk, hz⟩ => ?_⟩
  refine ⟨List.length_map _, ?_⟩
  refine ⟨fun c0 => ?_, fun c0 => ?_⟩
  · replace c0 := of_decide_eq_true c0
    obtain ⟨y, hy⟩ := at_some (l := x) (k := k) (by omega)
    have hY : (mTableStatsS m x)[k]? = some (meTableStats z y) := by rw [hz]; exact markL_at _ _ x m k y hy
    have hs := sumL_snoc seTableStats hy
    have hle := sumL_le seTableStats x (k + 1)
    have hA : sumL seTableStats (x.take k) ≤ 5 * (k + sumL cTableStats (x.take k)) := pre5 seTableStats_le x k hk
    have hB := sumL_snoc cTableStats hy
    have hD := sumL_le cTableStats x (k + 1)
    have hF : cTableStats y = ByteArray.size y.name + cGroupStatsS y.groups := rfl
    have hle5 := sTableStatsS_le x
    have hE : seTableStats y = 1 + 1 + 1 + sGroupStatsS y.groups := rfl
    have hy_groups := sGroupStatsS_le y.groups
    have hg : x.getD k zTableStats = y := by simp [List.getD_eq_getElem?_getD, hy]
    try rw [hg]
    refine ⟨by omega, ?_⟩
    refine ⟨rfl, by omega, fun e14 h14 => ?_⟩
    obtain rfl := (same_at hY h14).symm
    refine ⟨mk_text _ (by omega), ?_⟩
    refine ⟨by simp [meTableStats], ?_⟩
    refine ⟨⟨by omega, by omega⟩, ?_⟩
    refine ⟨by omega, ?_⟩
    refine ⟨rfl, by omega, fun e24 h24 => ?_⟩
    obtain rfl := (same_at hY h24).symm
    refine ⟨by simp [meTableStats], ?_⟩
    refine ⟨⟨by omega, by omega⟩, ?_⟩
    refine ⟨by omega, ?_⟩
    refine ⟨rfl, by omega, fun e33 h33 => ?_⟩
    obtain rfl := (same_at hY h33).symm
    refine ⟨by simp [meTableStats], ?_⟩
    refine ⟨⟨by omega, by omega⟩, ?_⟩
    refine ⟨by omega, ?_⟩
    refine ⟨rfl, by omega, fun e42 h42 => ?_⟩
    obtain rfl := (same_at hY h42).symm
    refine ⟨hd_GroupStatsS _ _ (by omega) (by first | omega | (dsimp only; omega)), ?_⟩
    refine ⟨by simp; omega, ?_⟩
    refine ⟨⟨by omega, by omega⟩, ?_⟩
    exact ⟨k + 1, _, rfl, rfl, ⟨by omega, by rw [hs]; (try dsimp only); omega⟩, by omega⟩
  · replace c0 := of_decide_eq_false c0
    have hkx : k = x.length := by omega
    rw [hkx, List.take_length] at hz
    refine ⟨?_, trivial⟩
    · rw [hz]; rfl

set_option maxRecDepth 100000 in
set_option maxHeartbeats 4000000 in
theorem hd_Catalogue (x : CatalogueD) (m : Int) (h0 : 0 ≤ m) (hm : m + 5 * ((cCatalogue x : Nat) : Int) ≤ 4611686018427387904) : Con Tryz.prog 115 [.agg [.int .i64 ((mtCatalogue m x).version), .sl 32 4 (((mtCatalogue m x).tables).map eTableStats)], .one (.int .i64 m)] (vI (m + ((stCatalogue x : Nat) : Int))) [] := by
  refine con_x tbOk mixedW Tryz.func115 (by kernel_rfl) (.call (vI (m + ((sTableStatsS x.tables : Nat) : Int))) [] <| .no <| .fin []) ?_
  refine Eq.mpr (by kernel_rfl : _ = ((((mtCatalogue m x).tables).map eTableStats).length ≤ 9223372036854775807 → Con Tryz.prog 168 [.one (.sl 32 4 (((mtCatalogue m x).tables).map eTableStats)), .one (.int .i64 m)] (vI (m + ((sTableStatsS x.tables : Nat) : Int))) [] ∧ (decide ((m + ((sTableStatsS x.tables : Nat) : Int)) < (0 : Int))) = false ∧ (m + ((sTableStatsS x.tables : Nat) : Int)) = (m + ((stCatalogue x : Nat) : Int)) ∧ True)) ?_
  intro n0
  simp only [List.length_map] at n0
  have hS : stCatalogue x = sTableStatsS x.tables := rfl
  have hC : cCatalogue x = cTableStatsS x.tables := rfl
  have := sTableStatsS_le x.tables
  refine ⟨hd_TableStatsS _ _ (by omega) (by first | omega | (dsimp only; omega)), ?_⟩
  refine ⟨by simp; omega, ?_⟩
  refine ⟨?_, trivial⟩
  · first | rfl | (rw [hS]; omega)

set_option maxRecDepth 100000 in
set_option maxHeartbeats 4000000 in
theorem hd_DependencyS (x : List DependencyD) (m : Int) (h0 : 0 ≤ m) (hm : m + 5 * ((cDependencyS x : Nat) : Int) ≤ 4611686018427387904) : Con Tryz.prog 116 [.one (.sl 142 3 ((mDependencyS m x).map eDependency)), .one (.int .i64 m)] (vI (m + ((sDependencyS x : Nat) : Int))) [] := by
  refine con_x tbOk mixedW Tryz.func116 (by kernel_rfl) (.loop (Nat × Int) (Q2 Nat Int) [1, 5, 6, 7, 8, 9, 10, 11, 12, 13, 14, 15, 16, 17, 18, 19, 20, 21, 22, 23, 24, 25, 26, 27, 28, 29, 30, 31, 32, 33, 34, 35, 36, 37, 38, 39] [] (fun yy0 => [(5, vI (yy0.1 : Int)), (1, vI yy0.2)]) (fun yy0 => []) (fun yy0 => yy0.1 ≤ x.length ∧ yy0.2 = m + ((sumL seDependency (x.take yy0.1) : Nat) : Int)) (fun yy0 => x.length - yy0.1) (fun yy0 => .len ((mDependencyS m x).length) <| .br (.elem DependencyD eDependency (mDependencyS m x) (fun e14 => .call (.p none (.str (mtext yy0.2))) [] <| .no <| .elem DependencyD eDependency (mDependencyS m x) (fun e24 => .call (vI ((yy0.2 + (1 : Int)) + ((sIntS ((x.getD yy0.1 zDependency).src) : Nat) : Int))) [] <| .no <| .elem DependencyD eDependency (mDependencyS m x) (fun e33 => .no <| .back [])))) (.fin []))) ?_
  refine Eq.mpr (by kernel_rfl : _ = (((mDependencyS m x).map eDependency).length ≤ 9223372036854775807 → (∃ (k : Nat) (z : Int), (0 : Int) = (k : Int) ∧ m = z ∧ k ≤ x.length ∧ z = m + ((sumL seDependency (x.take k) : Nat) : Int)) ∧ ∀ (k : Nat) (z : Int), (k ≤ x.length ∧ z = m + ((sumL seDependency (x.take k) : Nat) : Int)) → ((mDependencyS m x).map eDependency).length = (mDependencyS m x).length ∧ (((decide ((k : Int) < (((mDependencyS m x).length : Nat) : Int))) = true → 0 ≤ (k : Int) ∧ ((mDependencyS m x).map eDependency = (mDependencyS m x).map eDependency ∧ k < (mDependencyS m x).length ∧ ∀ e14, (mDependencyS m x)[k]? = some e14 → Con Tryz.prog 112 [.one (.int .i64 z)] (.p none (.str (mtext z))) [] ∧ ((!(e14.name.toList == (mtext z).toList)) = false ∧ (inR (z + (1 : Int)) ∧ (0 ≤ (k : Int) ∧ ((mDependencyS m x).map eDependency = (mDependencyS m x).map eDependency ∧ k < (mDependencyS m x).length ∧ ∀ e24, (mDependencyS m x)[k]? = some e24 → Con Tryz.prog 28 [.one (.sl 3 1 (e24.src.map intD)), .one (.int .i64 (z + (1 : Int)))] (vI ((z + (1 : Int)) + ((sIntS ((x.getD k zDependency).src) : Nat) : Int))) [] ∧ ((decide (((z + (1 : Int)) + ((sIntS ((x.getD k zDependency).src) : Nat) : Int)) < (0 : Int))) = false ∧ (0 ≤ (k : Int) ∧ ((mDependencyS m x).map eDependency = (mDependencyS m x).map eDependency ∧ k < (mDependencyS m x).length ∧ ∀ e33, (mDependencyS m x)[k]? = some e33 → (!(decide (e33.dst = ((z + (1 : Int)) + ((sIntS ((x.getD k zDependency).src) : Nat) : Int))))) = false ∧ inR (((z + (1 : Int)) + ((sIntS ((x.getD k zDependency).src) : Nat) : Int)) + (1 : Int)) ∧ inR ((k : Int) + (1 : Int)) ∧ ∃ (k' : Nat) (z' : Int), ((k : Int) + (1 : Int)) = (k' : Int) ∧ (((z + (1 : Int)) + ((sIntS ((x.getD k zDependency).src) : Nat) : Int)) + (1 : Int)) = z' ∧ (k' ≤ x.length ∧ z' = m + ((sumL seDependency (x.take k') : Nat) : Int)) ∧ x.length - k' < x.length - k))))))))) ∧ ((decide ((k : Int) < (((mDependencyS m x).length : Nat) : Int))) = false → z = (m + ((sDependencyS x : Nat) : Int)) ∧ True)))) ?_
  intro n0
  simp only [List.length_map] at n0
  have hS : sDependencyS x = sumL seDependency x := rfl
  have hC : cDependencyS x = x.length + sumL cDependency x := rfl
  have hlen : (mDependencyS m x).length = x.length := markL_len _ _ _ _
  refine ⟨⟨0, m, rfl, rfl, Nat.zero_le _, by simp [sumL]⟩, fun k z ⟨hk, hz⟩ => ?_⟩
  refine ⟨List.length_map _, ?_⟩
  refine ⟨fun c0 => ?_, fun c0 => ?_⟩
  · replace c0 := of_decide_eq_true c0
    obtain ⟨y, hy⟩ := at_some (l := x) (k := k) (by omega)
    have hY : (mDependencyS m x)[k]? = some (meDependency z y) := by rw [hz]; exact markL_at _ _ x m k y hy
    have hs := sumL_snoc seDependency hy
    have hle := sumL_le seDependency x (k + 1)
    have hA : sumL seDependency (x.take k) ≤ 5 * (k + sumL cDependency (x.take k)) := pre5 seDependency_le x k hk
    have hB := sumL_snoc cDependency hy
    have hD := sumL_le cDependency x (k + 1)
    have hF : cDependency y = ByteArray.size y.name + cIntS y.src := rfl
    have hle5 := sDependencyS_le x
    have hE : seDependency y = 1 + sIntS y.src + 1 := rfl
    have hy_src := sIntS_le y.src
    have hg : x.getD k zDependency = y := by simp [List.getD_eq_getElem?_getD, hy]
    try rw [hg]
    refine ⟨by omega, ?_⟩
    refine ⟨rfl, by omega, fun e14 h14 => ?_⟩
    obtain rfl := (same_at hY h14).symm
    refine ⟨mk_text _ (by omega), ?_⟩
    refine ⟨by simp [meDependency], ?_⟩
    refine ⟨⟨by omega, by omega⟩, ?_⟩
    refine ⟨by omega, ?_⟩
    refine ⟨rfl, by omega, fun e24 h24 => ?_⟩
    obtain rfl := (same_at hY h24).symm
    refine ⟨hd_IntS _ _ (by omega) (by first | omega | (dsimp only; omega)), ?_⟩
    refine ⟨by simp; omega, ?_⟩
    refine ⟨by omega, ?_⟩
    refine ⟨rfl, by omega, fun e33 h33 => ?_⟩
    obtain rfl := (same_at hY h33).symm
    refine ⟨by simp [meDependency], ?_⟩
    refine ⟨⟨by omega, by omega⟩, ?_⟩
    refine ⟨⟨by omega, by omega⟩, ?_⟩
    exact ⟨k + 1, _, rfl, rfl, ⟨by omega, by rw [hs]; (try dsimp only); omega⟩, by omega⟩
  · replace c0 := of_decide_eq_false c0
    have hkx : k = x.length := by omega
    rw [hkx, List.take_length] at hz
    refine ⟨?_, trivial⟩
    · rw [hz]; rfl

set_option maxRecDepth 100000 in
set_option maxHeartbeats 4000000 in
theorem hd_InclusionS (x : List InclusionD) (m : Int) (h0 : 0 ≤ m) (hm : m + 5 * ((cInclusionS x : Nat) : Int) ≤ 4611686018427387904) : Con Tryz.prog 117 [.one (.sl 144 4 ((mInclusionS m x).map eInclusion)), .one (.int .i64 m)] (vI (m + ((sInclusionS x : Nat) : Int))) [] := by
  refine con_x tbOk mixedW Tryz.func117 (by kernel_rfl) (.loop (Nat × Int) (Q2 Nat Int) [1, 5, 6, 7, 8, 9, 10, 11, 12, 13, 14, 15, 16, 17, 18, 19, 20, 21, 22, 23, 24, 25, 26, 27, 28, 29, 30, 31, 32, 33, 34, 35, 36, 37, 38, 39, 40, 41, 42, 43, 44, 45, 46, 47, 48, 49] [] (fun yy0 => [(5, vI (yy0.1 : Int)), (1, vI yy0.2)]) (fun yy0 => []) (fun yy0 => yy0.1 ≤ x.length ∧ yy0.2 = m + ((sumL seInclusion (x.take yy0.1) : Nat) : Int)) (fun yy0 => x.length - yy0.1) (fun yy0 => .len ((mInclusionS m x).length) <| .br (.elem InclusionD eInclusion (mInclusionS m x) (fun e14 => .call (.p none (.str (mtext yy0.2))) [] <| .no <| .elem InclusionD eInclusion (mInclusionS m x) (fun e24 => .no <| .elem InclusionD eInclusion (mInclusionS m x) (fun e33 => .call (.p none (.str (mtext ((yy0.2 + (1 : Int)) + (1 : Int))))) [] <| .no <| .elem InclusionD eInclusion (mInclusionS m x) (fun e43 => .no <| .back []))))) (.fin []))) ?_
  refine Eq.mpr (by kernel_rfl : _ = (((mInclusionS m x).map eInclusion).length ≤ 9223372036854775807 → (∃ (k : Nat) (z : Int), (0 : Int) = (k : Int) ∧ m = z ∧ k ≤ x.length ∧ z = m + ((sumL seInclusion (x.take k) : Nat) : Int)) ∧ ∀ (k : Nat) (z : Int), (k ≤ x.length ∧ z = m + ((sumL seInclusion (x.take k) : Nat) : Int)) → ((mInclusionS m x).map eInclusion).length = (mInclusionS m x).length ∧ (((decide ((k : Int) < (((mInclusionS m x).length : Nat) : Int))) = true → 0 ≤ (k : Int) ∧ ((mInclusionS m x).map eInclusion = (mInclusionS m x).map eInclusion ∧ k < (mInclusionS m x).length ∧ ∀ e14, (mInclusionS m x)[k]? = some e14 → Con Tryz.prog 112 [.one (.int .i64 z)] (.p none (.str (mtext z))) [] ∧ ((!(e14.name.toList == (mtext z).toList)) = false ∧ (inR (z + (1 : Int)) ∧ (0 ≤ (k : Int) ∧ ((mInclusionS m x).map eInclusion = (mInclusionS m x).map eInclusion ∧ k < (mInclusionS m x).length ∧ ∀ e24, (mInclusionS m x)[k]? = some e24 → (!(decide (e24.column = (z + (1 : Int))))) = false ∧ (inR ((z + (1 : Int)) + (1 : Int)) ∧ (0 ≤ (k : Int) ∧ ((mInclusionS m x).map eInclusion = (mInclusionS m x).map eInclusion ∧ k < (mInclusionS m x).length ∧ ∀ e33, (mInclusionS m x)[k]? = some e33 → Con Tryz.prog 112 [.one (.int .i64 ((z + (1 : Int)) + (1 : Int)))] (.p none (.str (mtext ((z + (1 : Int)) + (1 : Int))))) [] ∧ ((!(e33.into.toList == (mtext ((z + (1 : Int)) + (1 : Int))).toList)) = false ∧ (inR (((z + (1 : Int)) + (1 : Int)) + (1 : Int)) ∧ (0 ≤ (k : Int) ∧ ((mInclusionS m x).map eInclusion = (mInclusionS m x).map eInclusion ∧ k < (mInclusionS m x).length ∧ ∀ e43, (mInclusionS m x)[k]? = some e43 → (!(decide (e43.intoColumn = (((z + (1 : Int)) + (1 : Int)) + (1 : Int))))) = false ∧ inR ((((z + (1 : Int)) + (1 : Int)) + (1 : Int)) + (1 : Int)) ∧ inR ((k : Int) + (1 : Int)) ∧ ∃ (k' : Nat) (z' : Int), ((k : Int) + (1 : Int)) = (k' : Int) ∧ ((((z + (1 : Int)) + (1 : Int)) + (1 : Int)) + (1 : Int)) = z' ∧ (k' ≤ x.length ∧ z' = m + ((sumL seInclusion (x.take k') : Nat) : Int)) ∧ x.length - k' < x.length - k))))))))))))) ∧ ((decide ((k : Int) < (((mInclusionS m x).length : Nat) : Int))) = false → z = (m + ((sInclusionS x : Nat) : Int)) ∧ True)))) ?_
  intro n0
  simp only [List.length_map] at n0
  have hS : sInclusionS x = sumL seInclusion x := rfl
  have hC : cInclusionS x = x.length + sumL cInclusion x := rfl
  have hlen : (mInclusionS m x).length = x.length := markL_len _ _ _ _
  refine ⟨⟨0, m, rfl, rfl, Nat.zero_le _, by simp [sumL]⟩, fun k z ⟨hk, hz⟩ => ?_⟩
  refine ⟨List.length_map _, ?_⟩
  refine ⟨fun c0 => ?_, fun c0 => ?_⟩
  · replace c0 := of_decide_eq_true c0
    obtain ⟨y, hy⟩ := at_some (l := x) (k := k) (by omega)
    have hY : (mInclusionS m x)[k]? = some (meInclusion z y) := by rw [hz]; exact markL_at _ _ x m k y hy
    have hs := sumL_snoc seInclusion hy
    have hle := sumL_le seInclusion x (k + 1)
    have hA : sumL seInclusion (x.take k) ≤ 5 * (k + sumL cInclusion (x.take k)) := pre5 seInclusion_le x k hk
    have hB := sumL_snoc cInclusion hy
    have hD := sumL_le cInclusion x (k + 1)
    have hF : cInclusion y = ByteArray.size y.name + ByteArray.size y.into := rfl
    have hle5 := sInclusionS_le x
    have hE : seInclusion y = 1 + 1 + 1 + 1 := rfl
    have hg : x.getD k zInclusion = y := by simp [List.getD_eq_getElem?_getD, hy]
    try rw [hg]
    refine ⟨by omega, ?_⟩
    refine ⟨rfl, by omega, fun e14 h14 => ?_⟩
    obtain rfl := (same_at hY h14).symm
    refine ⟨mk_text _ (by omega), ?_⟩
    refine ⟨by simp [meInclusion], ?_⟩
    refine ⟨⟨by omega, by omega⟩, ?_⟩
    refine ⟨by omega, ?_⟩
    refine ⟨rfl, by omega, fun e24 h24 => ?_⟩
    obtain rfl := (same_at hY h24).symm
    refine ⟨by simp [meInclusion], ?_⟩
    refine ⟨⟨by omega, by omega⟩, ?_⟩
    refine ⟨by omega, ?_⟩
    refine ⟨rfl, by omega, fun e33 h33 => ?_⟩
    obtain rfl := (same_at hY h33).symm
    refine ⟨mk_text _ (by omega), ?_⟩
    refine ⟨by simp [meInclusion], ?_⟩
    refine ⟨⟨by omega, by omega⟩, ?_⟩
    refine ⟨by omega, ?_⟩
    refine ⟨rfl, by omega, fun e43 h43 => ?_⟩
    obtain rfl := (same_at hY h43).symm
    refine ⟨by simp [meInclusion], ?_⟩
    refine ⟨⟨by omega, by omega⟩, ?_⟩
    refine ⟨⟨by omega, by omega⟩, ?_⟩
    exact ⟨k + 1, _, rfl, rfl, ⟨by omega, by rw [hs]; (try dsimp only); omega⟩, by omega⟩
  · replace c0 := of_decide_eq_false c0
    have hkx : k = x.length := by omega
    rw [hkx, List.take_length] at hz
    refine ⟨?_, trivial⟩
    · rw [hz]; rfl

set_option maxRecDepth 100000 in
set_option maxHeartbeats 4000000 in
theorem hd_Store (x : StoreD) (m : Int) (h0 : 0 ≤ m) (hm : m + 5 * ((cStore x : Nat) : Int) ≤ 4611686018427387904) : Con Tryz.prog 60 [.agg [.sl 107 3 ((((mtStore m x).database).tables).map eTable), .int .i64 (((mtStore m x).catalogue).version), .sl 32 4 ((((mtStore m x).catalogue).tables).map eTableStats), .sl 142 3 (((mtStore m x).dependencies).map eDependency), .sl 144 4 (((mtStore m x).inclusions).map eInclusion)], .one (.int .i64 m)] (vI (m + ((stStore x : Nat) : Int))) [] := by
  refine con_x tbOk mixedW Tryz.func60 (by kernel_rfl) (.call (vI (m + ((stDatabase x.database : Nat) : Int))) [] <| .no <| .call (vI ((m + ((stDatabase x.database : Nat) : Int)) + ((stCatalogue x.catalogue : Nat) : Int))) [] <| .no <| .call (vI (((m + ((stDatabase x.database : Nat) : Int)) + ((stCatalogue x.catalogue : Nat) : Int)) + ((sDependencyS x.dependencies : Nat) : Int))) [] <| .no <| .call (vI ((((m + ((stDatabase x.database : Nat) : Int)) + ((stCatalogue x.catalogue : Nat) : Int)) + ((sDependencyS x.dependencies : Nat) : Int)) + ((sInclusionS x.inclusions : Nat) : Int))) [] <| .no <| .fin []) ?_
  refine Eq.mpr (by kernel_rfl : _ = (((((mtStore m x).database).tables).map eTable).length ≤ 9223372036854775807 → ((((mtStore m x).catalogue).tables).map eTableStats).length ≤ 9223372036854775807 → (((mtStore m x).dependencies).map eDependency).length ≤ 9223372036854775807 → (((mtStore m x).inclusions).map eInclusion).length ≤ 9223372036854775807 → Con Tryz.prog 114 [.agg [.sl 107 3 ((((mtStore m x).database).tables).map eTable)], .one (.int .i64 m)] (vI (m + ((stDatabase x.database : Nat) : Int))) [] ∧ (decide ((m + ((stDatabase x.database : Nat) : Int)) < (0 : Int))) = false ∧ Con Tryz.prog 115 [.agg [.int .i64 (((mtStore m x).catalogue).version), .sl 32 4 ((((mtStore m x).catalogue).tables).map eTableStats)], .one (.int .i64 (m + ((stDatabase x.database : Nat) : Int)))] (vI ((m + ((stDatabase x.database : Nat) : Int)) + ((stCatalogue x.catalogue : Nat) : Int))) [] ∧ (decide (((m + ((stDatabase x.database : Nat) : Int)) + ((stCatalogue x.catalogue : Nat) : Int)) < (0 : Int))) = false ∧ Con Tryz.prog 116 [.one (.sl 142 3 (((mtStore m x).dependencies).map eDependency)), .one (.int .i64 ((m + ((stDatabase x.database : Nat) : Int)) + ((stCatalogue x.catalogue : Nat) : Int)))] (vI (((m + ((stDatabase x.database : Nat) : Int)) + ((stCatalogue x.catalogue : Nat) : Int)) + ((sDependencyS x.dependencies : Nat) : Int))) [] ∧ (decide ((((m + ((stDatabase x.database : Nat) : Int)) + ((stCatalogue x.catalogue : Nat) : Int)) + ((sDependencyS x.dependencies : Nat) : Int)) < (0 : Int))) = false ∧ Con Tryz.prog 117 [.one (.sl 144 4 (((mtStore m x).inclusions).map eInclusion)), .one (.int .i64 (((m + ((stDatabase x.database : Nat) : Int)) + ((stCatalogue x.catalogue : Nat) : Int)) + ((sDependencyS x.dependencies : Nat) : Int)))] (vI ((((m + ((stDatabase x.database : Nat) : Int)) + ((stCatalogue x.catalogue : Nat) : Int)) + ((sDependencyS x.dependencies : Nat) : Int)) + ((sInclusionS x.inclusions : Nat) : Int))) [] ∧ (decide (((((m + ((stDatabase x.database : Nat) : Int)) + ((stCatalogue x.catalogue : Nat) : Int)) + ((sDependencyS x.dependencies : Nat) : Int)) + ((sInclusionS x.inclusions : Nat) : Int)) < (0 : Int))) = false ∧ ((((m + ((stDatabase x.database : Nat) : Int)) + ((stCatalogue x.catalogue : Nat) : Int)) + ((sDependencyS x.dependencies : Nat) : Int)) + ((sInclusionS x.inclusions : Nat) : Int)) = (m + ((stStore x : Nat) : Int)) ∧ True)) ?_
  intro n0 n1 n2 n3
  simp only [List.length_map] at n0 n1 n2 n3
  have hS : stStore x = stDatabase x.database + stCatalogue x.catalogue + sDependencyS x.dependencies + sInclusionS x.inclusions := rfl
  have hC : cStore x = cDatabase x.database + cCatalogue x.catalogue + cDependencyS x.dependencies + cInclusionS x.inclusions := rfl
  have := stDatabase_le x.database
  have := stCatalogue_le x.catalogue
  have := sDependencyS_le x.dependencies
  have := sInclusionS_le x.inclusions
  refine ⟨hd_Database _ _ (by omega) (by first | omega | (dsimp only; omega)), ?_⟩
  refine ⟨by simp; omega, ?_⟩
  refine ⟨hd_Catalogue _ _ (by omega) (by first | omega | (dsimp only; omega)), ?_⟩
  refine ⟨by simp; omega, ?_⟩
  refine ⟨hd_DependencyS _ _ (by omega) (by first | omega | (dsimp only; omega)), ?_⟩
  refine ⟨by simp; omega, ?_⟩
  refine ⟨hd_InclusionS _ _ (by omega) (by first | omega | (dsimp only; omega)), ?_⟩
  refine ⟨by simp; omega, ?_⟩
  refine ⟨?_, trivial⟩
  · first | rfl | (rw [hS]; omega)
end Go.Proofs.YtjlagjhmlmfjeaaGreat
