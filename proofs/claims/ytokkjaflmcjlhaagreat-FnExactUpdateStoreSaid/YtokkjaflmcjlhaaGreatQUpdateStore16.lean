/-
  Contracts and plain laws, joined: part 17.
-/
import Derived.Test.YtokkjaflmcjlhaaGreatQUpdateStore14
namespace Go.Proofs.YtokkjaflmcjlhaaGreat
open Go.ChangeShapes Go.WideShapes Go.ChangeAt Go.RowKit
set_option linter.unusedVariables false
set_option linter.unusedSimpArgs false
set_option maxRecDepth 100000
set_option maxHeartbeats 4000000
abbrev K_hd_IntS (x : List Int) (m : Int) : Prop := Con Tryz.prog 49 [.one (.sl 3 1 ((mIntS m x).map intD)), .one (.int .i64 m)] (vI (m + ((sIntS x : Nat) : Int))) []
theorem hd_IntS (x : List Int) (m : Int) (h0 : 0 ≤ m) (hm : m + 5 * ((cIntS x : Nat) : Int) ≤ 4611686018427387904) : K_hd_IntS x m := by
 refine con_x tbOk mixedW Tryz.func49 (by kernel_rfl) (.loop (Nat × Int) (Q2 Nat Int) [1, 5, 6, 7, 8, 9, 10, 11, 12, 13, 14, 15, 16, 17, 18, 19] [] (fun yy0 => [(5, vI (yy0.1 : Int)), (1, vI yy0.2)]) (fun yy0 => []) (fun yy0 => yy0.1 ≤ x.length ∧ yy0.2 = m + ((sumL sInt (x.take yy0.1) : Nat) : Int)) (fun yy0 => x.length - yy0.1) (fun yy0 => .len ((mIntS m x).length) <| .br (.elem _ intD (mIntS m x) (fun e14 => .no <| .back [])) (.fin []))) ?_
 refine Eq.mpr (by kernel_rfl : _ = (((mIntS m x).map intD).length ≤ 9223372036854775807 → (∃ (k : Nat) (z : Int), (0 : Int) = (k : Int) ∧ m = z ∧ k ≤ x.length ∧ z = m + ((sumL sInt (x.take k) : Nat) : Int)) ∧ ∀ (k : Nat) (z : Int), (k ≤ x.length ∧ z = m + ((sumL sInt (x.take k) : Nat) : Int)) → Lm intD (mIntS m x) ∧ (((decide ((k : Int) < (((mIntS m x).length : Nat) : Int))) = true → 0 ≤ (k : Int) ∧ Em intD (mIntS m x) k fun e14 => (!(decide (e14 = z))) = false ∧ inR (z + (1 : Int)) ∧ inR ((k : Int) + (1 : Int)) ∧ ∃ (k' : Nat) (z' : Int), ((k : Int) + (1 : Int)) = (k' : Int) ∧ (z + (1 : Int)) = z' ∧ (k' ≤ x.length ∧ z' = m + ((sumL sInt (x.take k') : Nat) : Int)) ∧ x.length - k' < x.length - k) ∧ ((decide ((k : Int) < (((mIntS m x).length : Nat) : Int))) = false → z = (m + ((sIntS x : Nat) : Int)) ∧ True)))) ?_
 intro n0
 simp only [List.length_map] at n0
 have hS : sIntS x = sumL sInt x := rfl
 have hC : cIntS x = x.length := rfl
 have hlen : (mIntS m x).length = x.length := markL_len _ _ _ _
 refine ⟨⟨0, m, rfl, rfl, Nat.zero_le _, by simp [sumL]⟩, fun k z ⟨hk, hz⟩ => ?_⟩
 refine ⟨List.length_map _, fun c0 => ?_, fun c0 => ?_⟩
 ·replace c0 := yq c0
  obtain ⟨y, hy⟩ := at_some (l := x) (k := k) (by omega)
  have hY : (mIntS m x)[k]? = some (mInt z y) := by rw [hz]; exact markL_at _ _ x m k y hy
  have hs := sumL_snoc sInt hy
  have hle := sumL_le sInt x (k + 1)
  have hA : sumL sInt (x.take k) ≤ 5 * k := pre4 (fun _ => by simp [sInt]) x k hk
  have hle5 := sIntS_le x
  have hE : sInt y = 1 := rfl
  refine ⟨by omega, rfl, by omega, fun e14 h14 => ?_⟩
  obtain rfl := (same_at hY h14).symm
  refine ⟨by simp [mInt], ⟨by omega, by omega⟩, ⟨by omega, by omega⟩, ?_⟩
  exact ⟨k + 1, _, rfl, rfl, ⟨by omega, by rw [hs]; (try dsimp only); omega⟩, by omega⟩
 ·replace c0 := nq c0
  have hkx : k = x.length := by omega
  rw [hkx, List.take_length] at hz
  refine ⟨?_, trivial⟩
  ·rw [hz]; rfl
abbrev K_hd_IntSS (x : List (List Int)) (m : Int) : Prop := Con Tryz.prog 241 [.one (.sl 32 1 ((mIntSS m x).map eIntS)), .one (.int .i64 m)] (vI (m + ((sIntSS x : Nat) : Int))) []
theorem hd_IntSS (x : List (List Int)) (m : Int) (h0 : 0 ≤ m) (hm : m + 5 * ((cIntSS x : Nat) : Int) ≤ 4611686018427387904) : K_hd_IntSS x m := by
 refine con_x tbOk mixedW Tryz.func241 (by kernel_rfl) (.loop (Nat × Int) (Q2 Nat Int) [1, 5, 6, 7, 8, 9, 10, 11, 12, 13, 14, 15, 16, 17, 18, 19] [] (fun yy0 => [(5, vI (yy0.1 : Int)), (1, vI yy0.2)]) (fun yy0 => []) (fun yy0 => yy0.1 ≤ x.length ∧ yy0.2 = m + ((sumL sIntS (x.take yy0.1) : Nat) : Int)) (fun yy0 => x.length - yy0.1) (fun yy0 => .len ((mIntSS m x).length) <| .br (.elem _ eIntS (mIntSS m x) (fun e14 => .call (vI (yy0.2 + ((sIntS (x.getD yy0.1 ([] : List Int)) : Nat) : Int))) [] <| .no <| .back [])) (.fin []))) ?_
 refine Eq.mpr (by kernel_rfl : _ = (((mIntSS m x).map eIntS).length ≤ 9223372036854775807 → (∃ (k : Nat) (z : Int), (0 : Int) = (k : Int) ∧ m = z ∧ k ≤ x.length ∧ z = m + ((sumL sIntS (x.take k) : Nat) : Int)) ∧ ∀ (k : Nat) (z : Int), (k ≤ x.length ∧ z = m + ((sumL sIntS (x.take k) : Nat) : Int)) → Lm eIntS (mIntSS m x) ∧ (((decide ((k : Int) < (((mIntSS m x).length : Nat) : Int))) = true → 0 ≤ (k : Int) ∧ Em eIntS (mIntSS m x) k fun e14 => Con Tryz.prog 49 [.one (.sl 3 1 (e14.map intD)), .one (.int .i64 z)] (vI (z + ((sIntS (x.getD k ([] : List Int)) : Nat) : Int))) [] ∧ (decide ((z + ((sIntS (x.getD k ([] : List Int)) : Nat) : Int)) < (0 : Int))) = false ∧ inR ((k : Int) + (1 : Int)) ∧ ∃ (k' : Nat) (z' : Int), ((k : Int) + (1 : Int)) = (k' : Int) ∧ (z + ((sIntS (x.getD k ([] : List Int)) : Nat) : Int)) = z' ∧ (k' ≤ x.length ∧ z' = m + ((sumL sIntS (x.take k') : Nat) : Int)) ∧ x.length - k' < x.length - k) ∧ ((decide ((k : Int) < (((mIntSS m x).length : Nat) : Int))) = false → z = (m + ((sIntSS x : Nat) : Int)) ∧ True)))) ?_
 intro n0
 simp only [List.length_map] at n0
 have hS : sIntSS x = sumL sIntS x := rfl
 have hC : cIntSS x = x.length + sumL cIntS x := rfl
 have hlen : (mIntSS m x).length = x.length := markL_len _ _ _ _
 refine ⟨⟨0, m, rfl, rfl, Nat.zero_le _, by simp [sumL]⟩, fun k z ⟨hk, hz⟩ => ?_⟩
 refine ⟨List.length_map _, fun c0 => ?_, fun c0 => ?_⟩
 ·replace c0 := yq c0
  obtain ⟨y, hy⟩ := at_some (l := x) (k := k) (by omega)
  have hY : (mIntSS m x)[k]? = some (mIntS z y) := by rw [hz]; exact markL_at _ _ x m k y hy
  have hs := sumL_snoc sIntS hy
  have hle := sumL_le sIntS x (k + 1)
  have hA : sumL sIntS (x.take k) ≤ 5 * (k + sumL cIntS (x.take k)) := pre5 (s := sIntS) (c := cIntS) (fun y => by have := sIntS_le y; omega) x k hk
  have hB := sumL_snoc cIntS hy
  have hD := sumL_le cIntS x (k + 1)
  have hle5 := sIntSS_le x
  have hy5 := sIntS_le y
  have hg : x.getD k ([] : List Int) = y := by simp [List.getD_eq_getElem?_getD, hy]
  try rw [hg]
  refine ⟨by omega, rfl, by omega, fun e14 h14 => ?_⟩
  obtain rfl := (same_at hY h14).symm
  refine ⟨hd_IntS _ _ (by omega) (by first | omega | (dsimp only; omega)), by simp; omega, ⟨by omega, by omega⟩, ?_⟩
  exact ⟨k + 1, _, rfl, rfl, ⟨by omega, by rw [hs, hz]; omega⟩, by omega⟩
 ·replace c0 := nq c0
  have hkx : k = x.length := by omega
  rw [hkx, List.take_length] at hz
  refine ⟨?_, trivial⟩
  ·rw [hz]; rfl
abbrev K_hd_TableS (x : List TableD) (m : Int) : Prop := Con Tryz.prog 162 [.one (.sl 162 3 ((mTableS m x).map eTable)), .one (.int .i64 m)] (vI (m + ((sTableS x : Nat) : Int))) []
theorem hd_TableS (x : List TableD) (m : Int) (h0 : 0 ≤ m) (hm : m + 5 * ((cTableS x : Nat) : Int) ≤ 4611686018427387904) : K_hd_TableS x m := by
 refine con_x tbOk mixedW Tryz.func162 (by kernel_rfl) (.loop (Nat × Int) (Q2 Nat Int) [1, 5, 6, 7, 8, 9, 10, 11, 12, 13, 14, 15, 16, 17, 18, 19, 20, 21, 22, 23, 24, 25, 26, 27, 28, 29, 30, 31, 32, 33, 34, 35, 36, 37, 38, 39] [] (fun yy0 => [(5, vI (yy0.1 : Int)), (1, vI yy0.2)]) (fun yy0 => []) (fun yy0 => yy0.1 ≤ x.length ∧ yy0.2 = m + ((sumL seTable (x.take yy0.1) : Nat) : Int)) (fun yy0 => x.length - yy0.1) (fun yy0 => .len ((mTableS m x).length) <| .br (.elem _ eTable (mTableS m x) (fun e14 => .call (.p none (.str (mtext yy0.2))) [] <| .no <| .elem _ eTable (mTableS m x) (fun e24 => .no <| .elem _ eTable (mTableS m x) (fun e33 => .call (vI (((yy0.2 + (1 : Int)) + (1 : Int)) + ((sIntSS ((x.getD yy0.1 zTable).rows) : Nat) : Int))) [] <| .no <| .back [])))) (.fin []))) ?_
 refine Eq.mpr (by kernel_rfl : _ = (((mTableS m x).map eTable).length ≤ 9223372036854775807 → (∃ (k : Nat) (z : Int), (0 : Int) = (k : Int) ∧ m = z ∧ k ≤ x.length ∧ z = m + ((sumL seTable (x.take k) : Nat) : Int)) ∧ ∀ (k : Nat) (z : Int), (k ≤ x.length ∧ z = m + ((sumL seTable (x.take k) : Nat) : Int)) → Lm eTable (mTableS m x) ∧ (((decide ((k : Int) < (((mTableS m x).length : Nat) : Int))) = true → 0 ≤ (k : Int) ∧ Em eTable (mTableS m x) k fun e14 => K_mk_text z ∧ (!(e14.name.toList == (mtext z).toList)) = false ∧ inR (z + (1 : Int)) ∧ 0 ≤ (k : Int) ∧ Em eTable (mTableS m x) k fun e24 => (!(decide (e24.arity = (z + (1 : Int))))) = false ∧ inR ((z + (1 : Int)) + (1 : Int)) ∧ 0 ≤ (k : Int) ∧ Em eTable (mTableS m x) k fun e33 => Con Tryz.prog 241 [.one (.sl 32 1 (e33.rows.map eIntS)), .one (.int .i64 ((z + (1 : Int)) + (1 : Int)))] (vI (((z + (1 : Int)) + (1 : Int)) + ((sIntSS ((x.getD k zTable).rows) : Nat) : Int))) [] ∧ (decide ((((z + (1 : Int)) + (1 : Int)) + ((sIntSS ((x.getD k zTable).rows) : Nat) : Int)) < (0 : Int))) = false ∧ inR ((k : Int) + (1 : Int)) ∧ ∃ (k' : Nat) (z' : Int), ((k : Int) + (1 : Int)) = (k' : Int) ∧ (((z + (1 : Int)) + (1 : Int)) + ((sIntSS ((x.getD k zTable).rows) : Nat) : Int)) = z' ∧ (k' ≤ x.length ∧ z' = m + ((sumL seTable (x.take k') : Nat) : Int)) ∧ x.length - k' < x.length - k) ∧ ((decide ((k : Int) < (((mTableS m x).length : Nat) : Int))) = false → z = (m + ((sTableS x : Nat) : Int)) ∧ True)))) ?_
 intro n0
 simp only [List.length_map] at n0
 have hS : sTableS x = sumL seTable x := rfl
 have hC : cTableS x = x.length + sumL cTable x := rfl
 have hlen : (mTableS m x).length = x.length := markL_len _ _ _ _
 refine ⟨⟨0, m, rfl, rfl, Nat.zero_le _, by simp [sumL]⟩, fun k z ⟨hk, hz⟩ => ?_⟩
 refine ⟨List.length_map _, fun c0 => ?_, fun c0 => ?_⟩
 ·replace c0 := yq c0
  obtain ⟨y, hy⟩ := at_some (l := x) (k := k) (by omega)
  have hY : (mTableS m x)[k]? = some (meTable z y) := by rw [hz]; exact markL_at _ _ x m k y hy
  have hs := sumL_snoc seTable hy
  have hle := sumL_le seTable x (k + 1)
  have hA : sumL seTable (x.take k) ≤ 5 * (k + sumL cTable (x.take k)) := pre5 seTable_le x k hk
  have hB := sumL_snoc cTable hy
  have hD := sumL_le cTable x (k + 1)
  have hF : cTable y = ByteArray.size y.name + cIntSS y.rows := rfl
  have hle5 := sTableS_le x
  have hE : seTable y = 1 + 1 + sIntSS y.rows := rfl
  have hy_rows := sIntSS_le y.rows
  have hg : x.getD k zTable = y := by simp [List.getD_eq_getElem?_getD, hy]
  try rw [hg]
  refine ⟨by omega, rfl, by omega, fun e14 h14 => ?_⟩
  obtain rfl := (same_at hY h14).symm
  refine ⟨mk_text _ (by omega), by simp [meTable], ⟨by omega, by omega⟩, by omega, rfl, by omega, fun e24 h24 => ?_⟩
  obtain rfl := (same_at hY h24).symm
  refine ⟨by simp [meTable], ⟨by omega, by omega⟩, by omega, rfl, by omega, fun e33 h33 => ?_⟩
  obtain rfl := (same_at hY h33).symm
  refine ⟨hd_IntSS _ _ (by omega) (by first | omega | (dsimp only; omega)), by simp; omega, ⟨by omega, by omega⟩, ?_⟩
  exact ⟨k + 1, _, rfl, rfl, ⟨by omega, by rw [hs]; (try dsimp only); omega⟩, by omega⟩
 ·replace c0 := nq c0
  have hkx : k = x.length := by omega
  rw [hkx, List.take_length] at hz
  refine ⟨?_, trivial⟩
  ·rw [hz]; rfl
abbrev K_hd_Database (x : DatabaseD) (m : Int) : Prop := Con Tryz.prog 85 [.agg [.sl 162 3 (((mtDatabase m x).tables).map eTable)], .one (.int .i64 m)] (vI (m + ((stDatabase x : Nat) : Int))) []
theorem hd_Database (x : DatabaseD) (m : Int) (h0 : 0 ≤ m) (hm : m + 5 * ((cDatabase x : Nat) : Int) ≤ 4611686018427387904) : K_hd_Database x m := by
 refine con_x tbOk mixedW Tryz.func85 (by kernel_rfl) (.call (vI (m + ((sTableS x.tables : Nat) : Int))) [] <| .no <| .fin []) ?_
 refine Eq.mpr (by kernel_rfl : _ = ((((mtDatabase m x).tables).map eTable).length ≤ 9223372036854775807 → Con Tryz.prog 162 [.one (.sl 162 3 (((mtDatabase m x).tables).map eTable)), .one (.int .i64 m)] (vI (m + ((sTableS x.tables : Nat) : Int))) [] ∧ (decide ((m + ((sTableS x.tables : Nat) : Int)) < (0 : Int))) = false ∧ (m + ((sTableS x.tables : Nat) : Int)) = (m + ((stDatabase x : Nat) : Int)) ∧ True)) ?_
 intro n0
 simp only [List.length_map] at n0
 have hS : stDatabase x = sTableS x.tables := rfl
 have hC : cDatabase x = cTableS x.tables := rfl
 have := sTableS_le x.tables
 refine ⟨hd_TableS _ _ (by omega) (by first | omega | (dsimp only; omega)), by simp; omega, ?_, trivial⟩
 ·first | rfl | (rw [hS]; omega)
abbrev K_hd_GroupStatsS (x : List GroupStatsD) (m : Int) : Prop := Con Tryz.prog 242 [.one (.sl 218 3 ((mGroupStatsS m x).map eGroupStats)), .one (.int .i64 m)] (vI (m + ((sGroupStatsS x : Nat) : Int))) []
theorem hd_GroupStatsS (x : List GroupStatsD) (m : Int) (h0 : 0 ≤ m) (hm : m + 5 * ((cGroupStatsS x : Nat) : Int) ≤ 4611686018427387904) : K_hd_GroupStatsS x m := by
 refine con_x tbOk mixedW Tryz.func242 (by kernel_rfl) (.loop (Nat × Int) (Q2 Nat Int) [1, 5, 6, 7, 8, 9, 10, 11, 12, 13, 14, 15, 16, 17, 18, 19, 20, 21, 22, 23, 24, 25, 26, 27, 28, 29, 30, 31, 32, 33, 34, 35, 36, 37, 38] [] (fun yy0 => [(5, vI (yy0.1 : Int)), (1, vI yy0.2)]) (fun yy0 => []) (fun yy0 => yy0.1 ≤ x.length ∧ yy0.2 = m + ((sumL seGroupStats (x.take yy0.1) : Nat) : Int)) (fun yy0 => x.length - yy0.1) (fun yy0 => .len ((mGroupStatsS m x).length) <| .br (.elem _ eGroupStats (mGroupStatsS m x) (fun e14 => .call (vI (yy0.2 + ((sIntS ((x.getD yy0.1 zGroupStats).columns) : Nat) : Int))) [] <| .no <| .elem _ eGroupStats (mGroupStatsS m x) (fun e23 => .call (vI ((yy0.2 + ((sIntS ((x.getD yy0.1 zGroupStats).columns) : Nat) : Int)) + ((sIntSS ((x.getD yy0.1 zGroupStats).values) : Nat) : Int))) [] <| .no <| .elem _ eGroupStats (mGroupStatsS m x) (fun e32 => .call (vI (((yy0.2 + ((sIntS ((x.getD yy0.1 zGroupStats).columns) : Nat) : Int)) + ((sIntSS ((x.getD yy0.1 zGroupStats).values) : Nat) : Int)) + ((sIntS ((x.getD yy0.1 zGroupStats).counts) : Nat) : Int))) [] <| .no <| .back [])))) (.fin []))) ?_
 refine Eq.mpr (by kernel_rfl : _ = (((mGroupStatsS m x).map eGroupStats).length ≤ 9223372036854775807 → (∃ (k : Nat) (z : Int), (0 : Int) = (k : Int) ∧ m = z ∧ k ≤ x.length ∧ z = m + ((sumL seGroupStats (x.take k) : Nat) : Int)) ∧ ∀ (k : Nat) (z : Int), (k ≤ x.length ∧ z = m + ((sumL seGroupStats (x.take k) : Nat) : Int)) → Lm eGroupStats (mGroupStatsS m x) ∧ (((decide ((k : Int) < (((mGroupStatsS m x).length : Nat) : Int))) = true → 0 ≤ (k : Int) ∧ Em eGroupStats (mGroupStatsS m x) k fun e14 => Con Tryz.prog 49 [.one (.sl 3 1 (e14.columns.map intD)), .one (.int .i64 z)] (vI (z + ((sIntS ((x.getD k zGroupStats).columns) : Nat) : Int))) [] ∧ (decide ((z + ((sIntS ((x.getD k zGroupStats).columns) : Nat) : Int)) < (0 : Int))) = false ∧ 0 ≤ (k : Int) ∧ Em eGroupStats (mGroupStatsS m x) k fun e23 => Con Tryz.prog 241 [.one (.sl 32 1 (e23.values.map eIntS)), .one (.int .i64 (z + ((sIntS ((x.getD k zGroupStats).columns) : Nat) : Int)))] (vI ((z + ((sIntS ((x.getD k zGroupStats).columns) : Nat) : Int)) + ((sIntSS ((x.getD k zGroupStats).values) : Nat) : Int))) [] ∧ (decide (((z + ((sIntS ((x.getD k zGroupStats).columns) : Nat) : Int)) + ((sIntSS ((x.getD k zGroupStats).values) : Nat) : Int)) < (0 : Int))) = false ∧ 0 ≤ (k : Int) ∧ Em eGroupStats (mGroupStatsS m x) k fun e32 => Con Tryz.prog 49 [.one (.sl 3 1 (e32.counts.map intD)), .one (.int .i64 ((z + ((sIntS ((x.getD k zGroupStats).columns) : Nat) : Int)) + ((sIntSS ((x.getD k zGroupStats).values) : Nat) : Int)))] (vI (((z + ((sIntS ((x.getD k zGroupStats).columns) : Nat) : Int)) + ((sIntSS ((x.getD k zGroupStats).values) : Nat) : Int)) + ((sIntS ((x.getD k zGroupStats).counts) : Nat) : Int))) [] ∧ (decide ((((z + ((sIntS ((x.getD k zGroupStats).columns) : Nat) : Int)) + ((sIntSS ((x.getD k zGroupStats).values) : Nat) : Int)) + ((sIntS ((x.getD k zGroupStats).counts) : Nat) : Int)) < (0 : Int))) = false ∧ inR ((k : Int) + (1 : Int)) ∧ ∃ (k' : Nat) (z' : Int), ((k : Int) + (1 : Int)) = (k' : Int) ∧ (((z + ((sIntS ((x.getD k zGroupStats).columns) : Nat) : Int)) + ((sIntSS ((x.getD k zGroupStats).values) : Nat) : Int)) + ((sIntS ((x.getD k zGroupStats).counts) : Nat) : Int)) = z' ∧ (k' ≤ x.length ∧ z' = m + ((sumL seGroupStats (x.take k') : Nat) : Int)) ∧ x.length - k' < x.length - k) ∧ ((decide ((k : Int) < (((mGroupStatsS m x).length : Nat) : Int))) = false → z = (m + ((sGroupStatsS x : Nat) : Int)) ∧ True)))) ?_
 intro n0
 simp only [List.length_map] at n0
 have hS : sGroupStatsS x = sumL seGroupStats x := rfl
 have hC : cGroupStatsS x = x.length + sumL cGroupStats x := rfl
 have hlen : (mGroupStatsS m x).length = x.length := markL_len _ _ _ _
 refine ⟨⟨0, m, rfl, rfl, Nat.zero_le _, by simp [sumL]⟩, fun k z ⟨hk, hz⟩ => ?_⟩
 refine ⟨List.length_map _, fun c0 => ?_, fun c0 => ?_⟩
 ·replace c0 := yq c0
  obtain ⟨y, hy⟩ := at_some (l := x) (k := k) (by omega)
  have hY : (mGroupStatsS m x)[k]? = some (meGroupStats z y) := by rw [hz]; exact markL_at _ _ x m k y hy
  have hs := sumL_snoc seGroupStats hy
  have hle := sumL_le seGroupStats x (k + 1)
  have hA : sumL seGroupStats (x.take k) ≤ 5 * (k + sumL cGroupStats (x.take k)) := pre5 seGroupStats_le x k hk
  have hB := sumL_snoc cGroupStats hy
  have hD := sumL_le cGroupStats x (k + 1)
  have hF : cGroupStats y = cIntS y.columns + cIntSS y.values + cIntS y.counts := rfl
  have hle5 := sGroupStatsS_le x
  have hE : seGroupStats y = sIntS y.columns + sIntSS y.values + sIntS y.counts := rfl
  have hy_columns := sIntS_le y.columns
  have hy_values := sIntSS_le y.values
  have hy_counts := sIntS_le y.counts
  have hg : x.getD k zGroupStats = y := by simp [List.getD_eq_getElem?_getD, hy]
  try rw [hg]
  refine ⟨by omega, rfl, by omega, fun e14 h14 => ?_⟩
  obtain rfl := (same_at hY h14).symm
  refine ⟨hd_IntS _ _ (by omega) (by first | omega | (dsimp only; omega)), by simp; omega, by omega, rfl, by omega, fun e23 h23 => ?_⟩
  obtain rfl := (same_at hY h23).symm
  refine ⟨hd_IntSS _ _ (by omega) (by first | omega | (dsimp only; omega)), by simp; omega, by omega, rfl, by omega, fun e32 h32 => ?_⟩
  obtain rfl := (same_at hY h32).symm
  refine ⟨hd_IntS _ _ (by omega) (by first | omega | (dsimp only; omega)), by simp; omega, ⟨by omega, by omega⟩, ?_⟩
  exact ⟨k + 1, _, rfl, rfl, ⟨by omega, by rw [hs]; (try dsimp only); omega⟩, by omega⟩
 ·replace c0 := nq c0
  have hkx : k = x.length := by omega
  rw [hkx, List.take_length] at hz
  refine ⟨?_, trivial⟩
  ·rw [hz]; rfl
abbrev K_hd_TableStatsS (x : List TableStatsD) (m : Int) : Prop := Con Tryz.prog 163 [.one (.sl 121 4 ((mTableStatsS m x).map eTableStats)), .one (.int .i64 m)] (vI (m + ((sTableStatsS x : Nat) : Int))) []
theorem hd_TableStatsS (x : List TableStatsD) (m : Int) (h0 : 0 ≤ m) (hm : m + 5 * ((cTableStatsS x : Nat) : Int) ≤ 4611686018427387904) : K_hd_TableStatsS x m := by
 refine con_x tbOk mixedW Tryz.func163 (by kernel_rfl) (.loop (Nat × Int) (Q2 Nat Int) [1, 5, 6, 7, 8, 9, 10, 11, 12, 13, 14, 15, 16, 17, 18, 19, 20, 21, 22, 23, 24, 25, 26, 27, 28, 29, 30, 31, 32, 33, 34, 35, 36, 37, 38, 39, 40, 41, 42, 43, 44, 45, 46, 47, 48] [] (fun yy0 => [(5, vI (yy0.1 : Int)), (1, vI yy0.2)]) (fun yy0 => []) (fun yy0 => yy0.1 ≤ x.length ∧ yy0.2 = m + ((sumL seTableStats (x.take yy0.1) : Nat) : Int)) (fun yy0 => x.length - yy0.1) (fun yy0 => .len ((mTableStatsS m x).length) <| .br (.elem _ eTableStats (mTableStatsS m x) (fun e14 => .call (.p none (.str (mtext yy0.2))) [] <| .no <| .elem _ eTableStats (mTableStatsS m x) (fun e24 => .no <| .elem _ eTableStats (mTableStatsS m x) (fun e33 => .no <| .elem _ eTableStats (mTableStatsS m x) (fun e42 => .call (vI ((((yy0.2 + (1 : Int)) + (1 : Int)) + (1 : Int)) + ((sGroupStatsS ((x.getD yy0.1 zTableStats).groups) : Nat) : Int))) [] <| .no <| .back []))))) (.fin []))) ?_
 refine Eq.mpr (by kernel_rfl : _ = (((mTableStatsS m x).map eTableStats).length ≤ 9223372036854775807 → (∃ (k : Nat) (z : Int), (0 : Int) = (k : Int) ∧ m = z ∧ k ≤ x.length ∧ z = m + ((sumL seTableStats (x.take k) : Nat) : Int)) ∧ ∀ (k : Nat) (z : Int), (k ≤ x.length ∧ z = m + ((sumL seTableStats (x.take k) : Nat) : Int)) → Lm eTableStats (mTableStatsS m x) ∧ (((decide ((k : Int) < (((mTableStatsS m x).length : Nat) : Int))) = true → 0 ≤ (k : Int) ∧ Em eTableStats (mTableStatsS m x) k fun e14 => K_mk_text z ∧ (!(e14.name.toList == (mtext z).toList)) = false ∧ inR (z + (1 : Int)) ∧ 0 ≤ (k : Int) ∧ Em eTableStats (mTableStatsS m x) k fun e24 => (!(decide (e24.arity = (z + (1 : Int))))) = false ∧ inR ((z + (1 : Int)) + (1 : Int)) ∧ 0 ≤ (k : Int) ∧ Em eTableStats (mTableStatsS m x) k fun e33 => (!(decide (e33.rowCount = ((z + (1 : Int)) + (1 : Int))))) = false ∧ inR (((z + (1 : Int)) + (1 : Int)) + (1 : Int)) ∧ 0 ≤ (k : Int) ∧ Em eTableStats (mTableStatsS m x) k fun e42 => Con Tryz.prog 242 [.one (.sl 218 3 (e42.groups.map eGroupStats)), .one (.int .i64 (((z + (1 : Int)) + (1 : Int)) + (1 : Int)))] (vI ((((z + (1 : Int)) + (1 : Int)) + (1 : Int)) + ((sGroupStatsS ((x.getD k zTableStats).groups) : Nat) : Int))) [] ∧ (decide (((((z + (1 : Int)) + (1 : Int)) + (1 : Int)) + ((sGroupStatsS ((x.getD k zTableStats).groups) : Nat) : Int)) < (0 : Int))) = false ∧ inR ((k : Int) + (1 : Int)) ∧ ∃ (k' : Nat) (z' : Int), ((k : Int) + (1 : Int)) = (k' : Int) ∧ ((((z + (1 : Int)) + (1 : Int)) + (1 : Int)) + ((sGroupStatsS ((x.getD k zTableStats).groups) : Nat) : Int)) = z' ∧ (k' ≤ x.length ∧ z' = m + ((sumL seTableStats (x.take k') : Nat) : Int)) ∧ x.length - k' < x.length - k) ∧ ((decide ((k : Int) < (((mTableStatsS m x).length : Nat) : Int))) = false → z = (m + ((sTableStatsS x : Nat) : Int)) ∧ True)))) ?_
 intro n0
 simp only [List.length_map] at n0
 have hS : sTableStatsS x = sumL seTableStats x := rfl
 have hC : cTableStatsS x = x.length + sumL cTableStats x := rfl
 have hlen : (mTableStatsS m x).length = x.length := markL_len _ _ _ _
 refine ⟨⟨0, m, rfl, rfl, Nat.zero_le _, by simp [sumL]⟩, fun k z ⟨hk, hz⟩ => ?_⟩
 refine ⟨List.length_map _, fun c0 => ?_, fun c0 => ?_⟩
 ·replace c0 := yq c0
  obtain ⟨y, hy⟩ := at_some (l := x) (k := k) (by omega)
  have hY : (mTableStatsS m x)[k]? = some (meTableStats z y) := by rw [hz]; exact markL_at _ _ x m k y hy
  have hs := sumL_snoc seTableStats hy
  have hle := sumL_le seTableStats x (k + 1)
  have hA : sumL seTableStats (x.take k) ≤ 5 * (k + sumL cTableStats (x.take k)) := pre5 seTableStats_le x k hk
  have hB := sumL_snoc cTableStats hy
  have hD := sumL_le cTableStats x (k + 1)
  have hF : cTableStats y = ByteArray.size y.name + cGroupStatsS y.groups := rfl
  have hle5 := sTableStatsS_le x
  have hE : seTableStats y = 1 + 1 + 1 + sGroupStatsS y.groups := rfl
  have hy_groups := sGroupStatsS_le y.groups
  have hg : x.getD k zTableStats = y := by simp [List.getD_eq_getElem?_getD, hy]
  try rw [hg]
  refine ⟨by omega, rfl, by omega, fun e14 h14 => ?_⟩
  obtain rfl := (same_at hY h14).symm
  refine ⟨mk_text _ (by omega), by simp [meTableStats], ⟨by omega, by omega⟩, by omega, rfl, by omega, fun e24 h24 => ?_⟩
  obtain rfl := (same_at hY h24).symm
  refine ⟨by simp [meTableStats], ⟨by omega, by omega⟩, by omega, rfl, by omega, fun e33 h33 => ?_⟩
  obtain rfl := (same_at hY h33).symm
  refine ⟨by simp [meTableStats], ⟨by omega, by omega⟩, by omega, rfl, by omega, fun e42 h42 => ?_⟩
  obtain rfl := (same_at hY h42).symm
  refine ⟨hd_GroupStatsS _ _ (by omega) (by first | omega | (dsimp only; omega)), by simp; omega, ⟨by omega, by omega⟩, ?_⟩
  exact ⟨k + 1, _, rfl, rfl, ⟨by omega, by rw [hs]; (try dsimp only); omega⟩, by omega⟩
 ·replace c0 := nq c0
  have hkx : k = x.length := by omega
  rw [hkx, List.take_length] at hz
  refine ⟨?_, trivial⟩
  ·rw [hz]; rfl
abbrev K_hd_Catalogue (x : CatalogueD) (m : Int) : Prop := Con Tryz.prog 86 [.agg [.int .i64 ((mtCatalogue m x).version), .sl 121 4 (((mtCatalogue m x).tables).map eTableStats)], .one (.int .i64 m)] (vI (m + ((stCatalogue x : Nat) : Int))) []
theorem hd_Catalogue (x : CatalogueD) (m : Int) (h0 : 0 ≤ m) (hm : m + 5 * ((cCatalogue x : Nat) : Int) ≤ 4611686018427387904) : K_hd_Catalogue x m := by
 refine con_x tbOk mixedW Tryz.func86 (by kernel_rfl) (.call (vI (m + ((sTableStatsS x.tables : Nat) : Int))) [] <| .no <| .fin []) ?_
 refine Eq.mpr (by kernel_rfl : _ = ((((mtCatalogue m x).tables).map eTableStats).length ≤ 9223372036854775807 → Con Tryz.prog 163 [.one (.sl 121 4 (((mtCatalogue m x).tables).map eTableStats)), .one (.int .i64 m)] (vI (m + ((sTableStatsS x.tables : Nat) : Int))) [] ∧ (decide ((m + ((sTableStatsS x.tables : Nat) : Int)) < (0 : Int))) = false ∧ (m + ((sTableStatsS x.tables : Nat) : Int)) = (m + ((stCatalogue x : Nat) : Int)) ∧ True)) ?_
 intro n0
 simp only [List.length_map] at n0
 have hS : stCatalogue x = sTableStatsS x.tables := rfl
 have hC : cCatalogue x = cTableStatsS x.tables := rfl
 have := sTableStatsS_le x.tables
 refine ⟨hd_TableStatsS _ _ (by omega) (by first | omega | (dsimp only; omega)), by simp; omega, ?_, trivial⟩
 ·first | rfl | (rw [hS]; omega)
abbrev K_hd_DependencyS (x : List DependencyD) (m : Int) : Prop := Con Tryz.prog 87 [.one (.sl 168 3 ((mDependencyS m x).map eDependency)), .one (.int .i64 m)] (vI (m + ((sDependencyS x : Nat) : Int))) []
theorem hd_DependencyS (x : List DependencyD) (m : Int) (h0 : 0 ≤ m) (hm : m + 5 * ((cDependencyS x : Nat) : Int) ≤ 4611686018427387904) : K_hd_DependencyS x m := by
 refine con_x tbOk mixedW Tryz.func87 (by kernel_rfl) (.loop (Nat × Int) (Q2 Nat Int) [1, 5, 6, 7, 8, 9, 10, 11, 12, 13, 14, 15, 16, 17, 18, 19, 20, 21, 22, 23, 24, 25, 26, 27, 28, 29, 30, 31, 32, 33, 34, 35, 36, 37, 38, 39] [] (fun yy0 => [(5, vI (yy0.1 : Int)), (1, vI yy0.2)]) (fun yy0 => []) (fun yy0 => yy0.1 ≤ x.length ∧ yy0.2 = m + ((sumL seDependency (x.take yy0.1) : Nat) : Int)) (fun yy0 => x.length - yy0.1) (fun yy0 => .len ((mDependencyS m x).length) <| .br (.elem _ eDependency (mDependencyS m x) (fun e14 => .call (.p none (.str (mtext yy0.2))) [] <| .no <| .elem _ eDependency (mDependencyS m x) (fun e24 => .call (vI ((yy0.2 + (1 : Int)) + ((sIntS ((x.getD yy0.1 zDependency).src) : Nat) : Int))) [] <| .no <| .elem _ eDependency (mDependencyS m x) (fun e33 => .no <| .back [])))) (.fin []))) ?_
 refine Eq.mpr (by kernel_rfl : _ = (((mDependencyS m x).map eDependency).length ≤ 9223372036854775807 → (∃ (k : Nat) (z : Int), (0 : Int) = (k : Int) ∧ m = z ∧ k ≤ x.length ∧ z = m + ((sumL seDependency (x.take k) : Nat) : Int)) ∧ ∀ (k : Nat) (z : Int), (k ≤ x.length ∧ z = m + ((sumL seDependency (x.take k) : Nat) : Int)) → Lm eDependency (mDependencyS m x) ∧ (((decide ((k : Int) < (((mDependencyS m x).length : Nat) : Int))) = true → 0 ≤ (k : Int) ∧ Em eDependency (mDependencyS m x) k fun e14 => K_mk_text z ∧ (!(e14.name.toList == (mtext z).toList)) = false ∧ inR (z + (1 : Int)) ∧ 0 ≤ (k : Int) ∧ Em eDependency (mDependencyS m x) k fun e24 => Con Tryz.prog 49 [.one (.sl 3 1 (e24.src.map intD)), .one (.int .i64 (z + (1 : Int)))] (vI ((z + (1 : Int)) + ((sIntS ((x.getD k zDependency).src) : Nat) : Int))) [] ∧ (decide (((z + (1 : Int)) + ((sIntS ((x.getD k zDependency).src) : Nat) : Int)) < (0 : Int))) = false ∧ 0 ≤ (k : Int) ∧ Em eDependency (mDependencyS m x) k fun e33 => (!(decide (e33.dst = ((z + (1 : Int)) + ((sIntS ((x.getD k zDependency).src) : Nat) : Int))))) = false ∧ inR (((z + (1 : Int)) + ((sIntS ((x.getD k zDependency).src) : Nat) : Int)) + (1 : Int)) ∧ inR ((k : Int) + (1 : Int)) ∧ ∃ (k' : Nat) (z' : Int), ((k : Int) + (1 : Int)) = (k' : Int) ∧ (((z + (1 : Int)) + ((sIntS ((x.getD k zDependency).src) : Nat) : Int)) + (1 : Int)) = z' ∧ (k' ≤ x.length ∧ z' = m + ((sumL seDependency (x.take k') : Nat) : Int)) ∧ x.length - k' < x.length - k) ∧ ((decide ((k : Int) < (((mDependencyS m x).length : Nat) : Int))) = false → z = (m + ((sDependencyS x : Nat) : Int)) ∧ True)))) ?_
 intro n0
 simp only [List.length_map] at n0
 have hS : sDependencyS x = sumL seDependency x := rfl
 have hC : cDependencyS x = x.length + sumL cDependency x := rfl
 have hlen : (mDependencyS m x).length = x.length := markL_len _ _ _ _
 refine ⟨⟨0, m, rfl, rfl, Nat.zero_le _, by simp [sumL]⟩, fun k z ⟨hk, hz⟩ => ?_⟩
 refine ⟨List.length_map _, fun c0 => ?_, fun c0 => ?_⟩
 ·replace c0 := yq c0
  obtain ⟨y, hy⟩ := at_some (l := x) (k := k) (by omega)
  have hY : (mDependencyS m x)[k]? = some (meDependency z y) := by rw [hz]; exact markL_at _ _ x m k y hy
  have hs := sumL_snoc seDependency hy
  have hle := sumL_le seDependency x (k + 1)
  have hA : sumL seDependency (x.take k) ≤ 5 * (k + sumL cDependency (x.take k)) := pre5 seDependency_le x k hk
  have hB := sumL_snoc cDependency hy
  have hD := sumL_le cDependency x (k + 1)
  have hF : cDependency y = ByteArray.size y.name + cIntS y.src := rfl
  have hle5 := sDependencyS_le x
  have hE : seDependency y = 1 + sIntS y.src + 1 := rfl
  have hy_src := sIntS_le y.src
  have hg : x.getD k zDependency = y := by simp [List.getD_eq_getElem?_getD, hy]
  try rw [hg]
  refine ⟨by omega, rfl, by omega, fun e14 h14 => ?_⟩
  obtain rfl := (same_at hY h14).symm
  refine ⟨mk_text _ (by omega), by simp [meDependency], ⟨by omega, by omega⟩, by omega, rfl, by omega, fun e24 h24 => ?_⟩
  obtain rfl := (same_at hY h24).symm
  refine ⟨hd_IntS _ _ (by omega) (by first | omega | (dsimp only; omega)), by simp; omega, by omega, rfl, by omega, fun e33 h33 => ?_⟩
  obtain rfl := (same_at hY h33).symm
  refine ⟨by simp [meDependency], ⟨by omega, by omega⟩, ⟨by omega, by omega⟩, ?_⟩
  exact ⟨k + 1, _, rfl, rfl, ⟨by omega, by rw [hs]; (try dsimp only); omega⟩, by omega⟩
 ·replace c0 := nq c0
  have hkx : k = x.length := by omega
  rw [hkx, List.take_length] at hz
  refine ⟨?_, trivial⟩
  ·rw [hz]; rfl
abbrev K_hd_InclusionS (x : List InclusionD) (m : Int) : Prop := Con Tryz.prog 88 [.one (.sl 170 4 ((mInclusionS m x).map eInclusion)), .one (.int .i64 m)] (vI (m + ((sInclusionS x : Nat) : Int))) []
theorem hd_InclusionS (x : List InclusionD) (m : Int) (h0 : 0 ≤ m) (hm : m + 5 * ((cInclusionS x : Nat) : Int) ≤ 4611686018427387904) : K_hd_InclusionS x m := by
 refine con_x tbOk mixedW Tryz.func88 (by kernel_rfl) (.loop (Nat × Int) (Q2 Nat Int) [1, 5, 6, 7, 8, 9, 10, 11, 12, 13, 14, 15, 16, 17, 18, 19, 20, 21, 22, 23, 24, 25, 26, 27, 28, 29, 30, 31, 32, 33, 34, 35, 36, 37, 38, 39, 40, 41, 42, 43, 44, 45, 46, 47, 48, 49] [] (fun yy0 => [(5, vI (yy0.1 : Int)), (1, vI yy0.2)]) (fun yy0 => []) (fun yy0 => yy0.1 ≤ x.length ∧ yy0.2 = m + ((sumL seInclusion (x.take yy0.1) : Nat) : Int)) (fun yy0 => x.length - yy0.1) (fun yy0 => .len ((mInclusionS m x).length) <| .br (.elem _ eInclusion (mInclusionS m x) (fun e14 => .call (.p none (.str (mtext yy0.2))) [] <| .no <| .elem _ eInclusion (mInclusionS m x) (fun e24 => .no <| .elem _ eInclusion (mInclusionS m x) (fun e33 => .call (.p none (.str (mtext ((yy0.2 + (1 : Int)) + (1 : Int))))) [] <| .no <| .elem _ eInclusion (mInclusionS m x) (fun e43 => .no <| .back []))))) (.fin []))) ?_
 refine Eq.mpr (by kernel_rfl : _ = (((mInclusionS m x).map eInclusion).length ≤ 9223372036854775807 → (∃ (k : Nat) (z : Int), (0 : Int) = (k : Int) ∧ m = z ∧ k ≤ x.length ∧ z = m + ((sumL seInclusion (x.take k) : Nat) : Int)) ∧ ∀ (k : Nat) (z : Int), (k ≤ x.length ∧ z = m + ((sumL seInclusion (x.take k) : Nat) : Int)) → Lm eInclusion (mInclusionS m x) ∧ (((decide ((k : Int) < (((mInclusionS m x).length : Nat) : Int))) = true → 0 ≤ (k : Int) ∧ Em eInclusion (mInclusionS m x) k fun e14 => K_mk_text z ∧ (!(e14.name.toList == (mtext z).toList)) = false ∧ inR (z + (1 : Int)) ∧ 0 ≤ (k : Int) ∧ Em eInclusion (mInclusionS m x) k fun e24 => (!(decide (e24.column = (z + (1 : Int))))) = false ∧ inR ((z + (1 : Int)) + (1 : Int)) ∧ 0 ≤ (k : Int) ∧ Em eInclusion (mInclusionS m x) k fun e33 => K_mk_text ((z + (1 : Int)) + (1 : Int)) ∧ (!(e33.into.toList == (mtext ((z + (1 : Int)) + (1 : Int))).toList)) = false ∧ inR (((z + (1 : Int)) + (1 : Int)) + (1 : Int)) ∧ 0 ≤ (k : Int) ∧ Em eInclusion (mInclusionS m x) k fun e43 => (!(decide (e43.intoColumn = (((z + (1 : Int)) + (1 : Int)) + (1 : Int))))) = false ∧ inR ((((z + (1 : Int)) + (1 : Int)) + (1 : Int)) + (1 : Int)) ∧ inR ((k : Int) + (1 : Int)) ∧ ∃ (k' : Nat) (z' : Int), ((k : Int) + (1 : Int)) = (k' : Int) ∧ ((((z + (1 : Int)) + (1 : Int)) + (1 : Int)) + (1 : Int)) = z' ∧ (k' ≤ x.length ∧ z' = m + ((sumL seInclusion (x.take k') : Nat) : Int)) ∧ x.length - k' < x.length - k) ∧ ((decide ((k : Int) < (((mInclusionS m x).length : Nat) : Int))) = false → z = (m + ((sInclusionS x : Nat) : Int)) ∧ True)))) ?_
 intro n0
 simp only [List.length_map] at n0
 have hS : sInclusionS x = sumL seInclusion x := rfl
 have hC : cInclusionS x = x.length + sumL cInclusion x := rfl
 have hlen : (mInclusionS m x).length = x.length := markL_len _ _ _ _
 refine ⟨⟨0, m, rfl, rfl, Nat.zero_le _, by simp [sumL]⟩, fun k z ⟨hk, hz⟩ => ?_⟩
 refine ⟨List.length_map _, fun c0 => ?_, fun c0 => ?_⟩
 ·replace c0 := yq c0
  obtain ⟨y, hy⟩ := at_some (l := x) (k := k) (by omega)
  have hY : (mInclusionS m x)[k]? = some (meInclusion z y) := by rw [hz]; exact markL_at _ _ x m k y hy
  have hs := sumL_snoc seInclusion hy
  have hle := sumL_le seInclusion x (k + 1)
  have hA : sumL seInclusion (x.take k) ≤ 5 * (k + sumL cInclusion (x.take k)) := pre5 seInclusion_le x k hk
  have hB := sumL_snoc cInclusion hy
  have hD := sumL_le cInclusion x (k + 1)
  have hF : cInclusion y = ByteArray.size y.name + ByteArray.size y.into := rfl
  have hle5 := sInclusionS_le x
  have hE : seInclusion y = 1 + 1 + 1 + 1 := rfl
  have hg : x.getD k zInclusion = y := by simp [List.getD_eq_getElem?_getD, hy]
  try rw [hg]
  refine ⟨by omega, rfl, by omega, fun e14 h14 => ?_⟩
  obtain rfl := (same_at hY h14).symm
  refine ⟨mk_text _ (by omega), by simp [meInclusion], ⟨by omega, by omega⟩, by omega, rfl, by omega, fun e24 h24 => ?_⟩
  obtain rfl := (same_at hY h24).symm
  refine ⟨by simp [meInclusion], ⟨by omega, by omega⟩, by omega, rfl, by omega, fun e33 h33 => ?_⟩
  obtain rfl := (same_at hY h33).symm
  refine ⟨mk_text _ (by omega), by simp [meInclusion], ⟨by omega, by omega⟩, by omega, rfl, by omega, fun e43 h43 => ?_⟩
  obtain rfl := (same_at hY h43).symm
  refine ⟨by simp [meInclusion], ⟨by omega, by omega⟩, ⟨by omega, by omega⟩, ?_⟩
  exact ⟨k + 1, _, rfl, rfl, ⟨by omega, by rw [hs]; (try dsimp only); omega⟩, by omega⟩
 ·replace c0 := nq c0
  have hkx : k = x.length := by omega
  rw [hkx, List.take_length] at hz
  refine ⟨?_, trivial⟩
  ·rw [hz]; rfl
abbrev K_hd_Store (x : StoreD) (m : Int) : Prop := Con Tryz.prog 23 [.agg [.sl 162 3 ((((mtStore m x).database).tables).map eTable), .int .i64 (((mtStore m x).catalogue).version), .sl 121 4 ((((mtStore m x).catalogue).tables).map eTableStats), .sl 168 3 (((mtStore m x).dependencies).map eDependency), .sl 170 4 (((mtStore m x).inclusions).map eInclusion)], .one (.int .i64 m)] (vI (m + ((stStore x : Nat) : Int))) []
theorem hd_Store (x : StoreD) (m : Int) (h0 : 0 ≤ m) (hm : m + 5 * ((cStore x : Nat) : Int) ≤ 4611686018427387904) : K_hd_Store x m := by
 refine con_x tbOk mixedW Tryz.func23 (by kernel_rfl) (.call (vI (m + ((stDatabase x.database : Nat) : Int))) [] <| .no <| .call (vI ((m + ((stDatabase x.database : Nat) : Int)) + ((stCatalogue x.catalogue : Nat) : Int))) [] <| .no <| .call (vI (((m + ((stDatabase x.database : Nat) : Int)) + ((stCatalogue x.catalogue : Nat) : Int)) + ((sDependencyS x.dependencies : Nat) : Int))) [] <| .no <| .call (vI ((((m + ((stDatabase x.database : Nat) : Int)) + ((stCatalogue x.catalogue : Nat) : Int)) + ((sDependencyS x.dependencies : Nat) : Int)) + ((sInclusionS x.inclusions : Nat) : Int))) [] <| .no <| .fin []) ?_
 refine Eq.mpr (by kernel_rfl : _ = (((((mtStore m x).database).tables).map eTable).length ≤ 9223372036854775807 → ((((mtStore m x).catalogue).tables).map eTableStats).length ≤ 9223372036854775807 → (((mtStore m x).dependencies).map eDependency).length ≤ 9223372036854775807 → (((mtStore m x).inclusions).map eInclusion).length ≤ 9223372036854775807 → Con Tryz.prog 85 [.agg [.sl 162 3 ((((mtStore m x).database).tables).map eTable)], .one (.int .i64 m)] (vI (m + ((stDatabase x.database : Nat) : Int))) [] ∧ (decide ((m + ((stDatabase x.database : Nat) : Int)) < (0 : Int))) = false ∧ Con Tryz.prog 86 [.agg [.int .i64 (((mtStore m x).catalogue).version), .sl 121 4 ((((mtStore m x).catalogue).tables).map eTableStats)], .one (.int .i64 (m + ((stDatabase x.database : Nat) : Int)))] (vI ((m + ((stDatabase x.database : Nat) : Int)) + ((stCatalogue x.catalogue : Nat) : Int))) [] ∧ (decide (((m + ((stDatabase x.database : Nat) : Int)) + ((stCatalogue x.catalogue : Nat) : Int)) < (0 : Int))) = false ∧ Con Tryz.prog 87 [.one (.sl 168 3 (((mtStore m x).dependencies).map eDependency)), .one (.int .i64 ((m + ((stDatabase x.database : Nat) : Int)) + ((stCatalogue x.catalogue : Nat) : Int)))] (vI (((m + ((stDatabase x.database : Nat) : Int)) + ((stCatalogue x.catalogue : Nat) : Int)) + ((sDependencyS x.dependencies : Nat) : Int))) [] ∧ (decide ((((m + ((stDatabase x.database : Nat) : Int)) + ((stCatalogue x.catalogue : Nat) : Int)) + ((sDependencyS x.dependencies : Nat) : Int)) < (0 : Int))) = false ∧ Con Tryz.prog 88 [.one (.sl 170 4 (((mtStore m x).inclusions).map eInclusion)), .one (.int .i64 (((m + ((stDatabase x.database : Nat) : Int)) + ((stCatalogue x.catalogue : Nat) : Int)) + ((sDependencyS x.dependencies : Nat) : Int)))] (vI ((((m + ((stDatabase x.database : Nat) : Int)) + ((stCatalogue x.catalogue : Nat) : Int)) + ((sDependencyS x.dependencies : Nat) : Int)) + ((sInclusionS x.inclusions : Nat) : Int))) [] ∧ (decide (((((m + ((stDatabase x.database : Nat) : Int)) + ((stCatalogue x.catalogue : Nat) : Int)) + ((sDependencyS x.dependencies : Nat) : Int)) + ((sInclusionS x.inclusions : Nat) : Int)) < (0 : Int))) = false ∧ ((((m + ((stDatabase x.database : Nat) : Int)) + ((stCatalogue x.catalogue : Nat) : Int)) + ((sDependencyS x.dependencies : Nat) : Int)) + ((sInclusionS x.inclusions : Nat) : Int)) = (m + ((stStore x : Nat) : Int)) ∧ True)) ?_
 intro n0 n1 n2 n3
 simp only [List.length_map] at n0 n1 n2 n3
 have hS : stStore x = stDatabase x.database + stCatalogue x.catalogue + sDependencyS x.dependencies + sInclusionS x.inclusions := rfl
 have hC : cStore x = cDatabase x.database + cCatalogue x.catalogue + cDependencyS x.dependencies + cInclusionS x.inclusions := rfl
 have := stDatabase_le x.database
 have := stCatalogue_le x.catalogue
 have := sDependencyS_le x.dependencies
 have := sInclusionS_le x.inclusions
 refine ⟨hd_Database _ _ (by omega) (by first | omega | (dsimp only; omega)), by simp; omega, hd_Catalogue _ _ (by omega) (by first | omega | (dsimp only; omega)), by simp; omega, hd_DependencyS _ _ (by omega) (by first | omega | (dsimp only; omega)), by simp; omega, hd_InclusionS _ _ (by omega) (by first | omega | (dsimp only; omega)), by simp; omega, ?_, trivial⟩
 ·first | rfl | (rw [hS]; omega)
end Go.Proofs.YtokkjaflmcjlhaaGreat
