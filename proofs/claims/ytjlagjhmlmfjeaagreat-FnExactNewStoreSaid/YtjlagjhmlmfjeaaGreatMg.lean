/-
  Valid stores, both sides.
-/
import Derived.Test.YtjlagjhmlmfjeaaGreatMe
import Derived.Test.YtjlagjhmlmfjeaaGreatMf
import Derived.Test.YtjlagjhmlmfjeaaGreatGh
import Derived.Test.YtjlagjhmlmfjeaaGreatGj
namespace Go.Proofs.YtjlagjhmlmfjeaaGreat
open Go.ChangeShapes Go.WideShapes Go.ChangeAt Go.RowKit
set_option linter.unusedVariables false
set_option linter.unusedSimpArgs false
def fineC (d : DatabaseD) (l : List DependencyD) (m : List InclusionD) : Bool := l.all (depOk d) && (m.all (incOk d) && (decide ((l.length : Int) ≤ 8) && decide ((m.length : Int) ≤ 8)))
theorem all_not {α : Type} {p : α → Bool} {l : List α} {k : Nat} {x : α} (h : l[k]? = some x) (hx : p x = false) : l.all p = false := all_stop h hx

set_option maxRecDepth 100000 in
set_option maxHeartbeats 4000000 in
theorem fine_impl (d : DatabaseD) (l : List DependencyD) (m : List InclusionD) (hc : cDatabase d ≤ 1048576) : Con Tryz.prog 97 [.agg [.sl 107 3 (d.tables.map eTable)], .one (.sl 142 3 (l.map eDependency)), .one (.sl 144 4 (m.map eInclusion))] (vB (fineC d l m)) [] := by
  refine con_x tbOk mixedW Tryz.func97 (by kernel_rfl) (.len l.length <| .loop Nat (Q1 Nat) [8, 13, 14, 15, 16, 17, 18, 19, 20, 21] [800] (fun k => [(13, vI (k : Int))]) (fun k => []) (fun k => k ≤ l.length ∧ (l.take k).all (depOk d) = true) (fun k => l.length - k) (fun k => .br (.elem DependencyD eDependency l (fun e15 => .call (vB (depOk d e15)) [] <| .br (.fin []) (.back []))) (.len m.length <| .loop Nat (Q1 Nat) [10, 24, 25, 26, 27, 28, 29, 30, 31, 32] [1000] (fun j => [(24, vI (j : Int))]) (fun j => []) (fun j => j ≤ m.length ∧ (m.take j).all (incOk d) = true) (fun j => m.length - j) (fun j => .br (.elem InclusionD eInclusion m (fun e26 => .call (vB (incOk d e26)) [] <| .br (.fin []) (.back []))) (.len l.length <| .br (.len m.length <| .fin []) (.fin [])))))) ?_
  refine Eq.mpr (by kernel_rfl : _ = ((d.tables.map eTable).length ≤ 9223372036854775807 → (l.map eDependency).length ≤ 9223372036854775807 → (m.map eInclusion).length ≤ 9223372036854775807 → (l.map eDependency).length = l.length ∧ ((∃ (k : Nat), (0 : Int) = (k : Int) ∧ k ≤ l.length ∧ (l.take k).all (depOk d) = true) ∧ ∀ (k : Nat), (k ≤ l.length ∧ (l.take k).all (depOk d) = true) → ((decide ((k : Int) < ((l.length : Nat) : Int))) = true → 0 ≤ (k : Int) ∧ (l.map eDependency = l.map eDependency ∧ k < l.length ∧ ∀ e15, l[k]? = some e15 → Con Tryz.prog 157 [.agg [.sl 107 3 (d.tables.map eTable)], .agg [.str e15.name, .sl 3 1 (e15.src.map intD), .int .i64 e15.dst]] (vB (depOk d e15)) [] ∧ (((!(depOk d e15)) = true → (false) = (fineC d l m) ∧ True) ∧ ((!(depOk d e15)) = false → inR ((k : Int) + (1 : Int)) ∧ ∃ (k' : Nat), ((k : Int) + (1 : Int)) = (k' : Int) ∧ (k' ≤ l.length ∧ (l.take k').all (depOk d) = true) ∧ l.length - k' < l.length - k)))) ∧ ((decide ((k : Int) < ((l.length : Nat) : Int))) = false → (m.map eInclusion).length = m.length ∧ ((∃ (j : Nat), (0 : Int) = (j : Int) ∧ j ≤ m.length ∧ (m.take j).all (incOk d) = true) ∧ ∀ (j : Nat), (j ≤ m.length ∧ (m.take j).all (incOk d) = true) → ((decide ((j : Int) < ((m.length : Nat) : Int))) = true → 0 ≤ (j : Int) ∧ (m.map eInclusion = m.map eInclusion ∧ j < m.length ∧ ∀ e26, m[j]? = some e26 → Con Tryz.prog 158 [.agg [.sl 107 3 (d.tables.map eTable)], .agg [.str e26.name, .int .i64 e26.column, .str e26.into, .int .i64 e26.intoColumn]] (vB (incOk d e26)) [] ∧ (((!(incOk d e26)) = true → (false) = (fineC d l m) ∧ True) ∧ ((!(incOk d e26)) = false → inR ((j : Int) + (1 : Int)) ∧ ∃ (j' : Nat), ((j : Int) + (1 : Int)) = (j' : Int) ∧ (j' ≤ m.length ∧ (m.take j').all (incOk d) = true) ∧ m.length - j' < m.length - j)))) ∧ ((decide ((j : Int) < ((m.length : Nat) : Int))) = false → (l.map eDependency).length = l.length ∧ (((decide (((l.length : Nat) : Int) ≤ (8 : Int))) = true → (m.map eInclusion).length = m.length ∧ (decide (((m.length : Nat) : Int) ≤ (8 : Int))) = (fineC d l m) ∧ True) ∧ ((decide (((l.length : Nat) : Int) ≤ (8 : Int))) = false → (false) = (fineC d l m) ∧ True)))))))) ?_
  intro n0 n1 n2
  simp only [List.length_map] at n0 n1 n2
  refine ⟨List.length_map _, ?_⟩
  refine ⟨⟨0, rfl, Nat.zero_le _, rfl⟩, fun k ⟨hk, ha⟩ => ?_⟩
  refine ⟨fun c0 => ?_, fun c0 => ?_⟩
  · replace c0 := of_decide_eq_true c0
    refine ⟨by omega, ?_⟩
    refine ⟨rfl, by omega, fun e15 h15 => ?_⟩
    refine ⟨depOk_impl _ _ (by omega), ?_⟩
    refine ⟨fun c1 => ?_, fun c1 => ?_⟩
    · replace c1 := nt c1
      have hL : l.all (depOk d) = false := all_stop h15 (by simpa using c1)
      refine ⟨?_, trivial⟩
      · first | (simp [fineC, hL]; done) | (simp [fineC, hL, hM]; done) | (simp [fineC, hL, hM, *]; done)
    · replace c1 := nf c1
      refine ⟨⟨by omega, by omega⟩, ?_⟩
      exact ⟨k + 1, rfl, ⟨by omega, all_snoc h15 ha (by simpa using c1)⟩, by omega⟩
  · replace c0 := of_decide_eq_false c0
    have hL := all_done (by omega) ha
    refine ⟨List.length_map _, ?_⟩
    refine ⟨⟨0, rfl, Nat.zero_le _, rfl⟩, fun j ⟨hj, hb⟩ => ?_⟩
    refine ⟨fun c2 => ?_, fun c2 => ?_⟩
    · replace c2 := of_decide_eq_true c2
      refine ⟨by omega, ?_⟩
      refine ⟨rfl, by omega, fun e26 h26 => ?_⟩
      refine ⟨incOk_impl _ _ (by omega), ?_⟩
      refine ⟨fun c3 => ?_, fun c3 => ?_⟩
      · replace c3 := nt c3
        have hM : m.all (incOk d) = false := all_stop h26 (by simpa using c3)
        refine ⟨?_, trivial⟩
        · first | (simp [fineC, hL]; done) | (simp [fineC, hL, hM]; done) | (simp [fineC, hL, hM, *]; done)
      · replace c3 := nf c3
        refine ⟨⟨by omega, by omega⟩, ?_⟩
        exact ⟨j + 1, rfl, ⟨by omega, all_snoc h26 hb (by simpa using c3)⟩, by omega⟩
    · replace c2 := of_decide_eq_false c2
      have hM := all_done (by omega) hb
      refine ⟨List.length_map _, ?_⟩
      refine ⟨fun g36 => ?_, fun g36 => ?_⟩
      · replace g36 := of_decide_eq_true g36
        refine ⟨List.length_map _, ?_⟩
        refine ⟨?_, trivial⟩
        · first | (simp [fineC, hL]; done) | (simp [fineC, hL, hM]; done) | (simp [fineC, hL, hM, *]; done)
      · replace g36 := of_decide_eq_false g36
        refine ⟨?_, trivial⟩
        · first | (simp [fineC, hL]; done) | (simp [fineC, hL, hM]; done) | (simp [fineC, hL, hM, *]; done)

set_option maxRecDepth 100000 in
set_option maxHeartbeats 4000000 in
theorem fine_spec (d : DatabaseD) (l : List DependencyD) (m : List InclusionD) (hc : cDatabase d ≤ 1048576) : Con Tryz.prog 93 [.agg [.sl 107 3 (d.tables.map eTable)], .one (.sl 142 3 (l.map eDependency)), .one (.sl 144 4 (m.map eInclusion))] (vB (fineC d l m)) [] := by
  refine con_x tbOk mixedW Tryz.func93 (by kernel_rfl) (.len l.length <| .br (.fin []) (.len m.length <| .lit <| .lit <| .br (.fin []) (.loop Nat (Q1 Nat) [7, 17, 18, 19, 20, 21, 22, 23, 24, 25, 26, 27, 28, 29] [] (fun k => [(7, vI (k : Int))]) (fun k => []) (fun k => k ≤ l.length ∧ (l.take k).all (depOk d) = true) (fun k => l.length - k) (fun k => .len l.length <| .br (.elem DependencyD eDependency l (fun e26 => .call (vB (depOk d e26)) [] <| .br (.fin []) (.back []))) (.loop Nat (Q1 Nat) [8, 30, 31, 32, 33, 34, 35, 36, 37, 38, 39, 40, 41, 42] [] (fun j => [(8, vI (j : Int))]) (fun j => []) (fun j => j ≤ m.length ∧ (m.take j).all (incOk d) = true) (fun j => m.length - j) (fun j => .len m.length <| .br (.elem InclusionD eInclusion m (fun e39 => .call (vB (incOk d e39)) [] <| .br (.fin []) (.back []))) (.fin []))))))) ?_
  refine Eq.mpr (by kernel_rfl : _ = ((d.tables.map eTable).length ≤ 9223372036854775807 → (l.map eDependency).length ≤ 9223372036854775807 → (m.map eInclusion).length ≤ 9223372036854775807 → (l.map eDependency).length = l.length ∧ (((decide ((8 : Int) < ((l.length : Nat) : Int))) = true → (false) = (fineC d l m) ∧ True) ∧ ((decide ((8 : Int) < ((l.length : Nat) : Int))) = false → (m.map eInclusion).length = m.length ∧ (((decide ((8 : Int) < ((m.length : Nat) : Int))) = true → (false) = (fineC d l m) ∧ True) ∧ ((decide ((8 : Int) < ((m.length : Nat) : Int))) = false → (∃ (k : Nat), (0 : Int) = (k : Int) ∧ k ≤ l.length ∧ (l.take k).all (depOk d) = true) ∧ ∀ (k : Nat), (k ≤ l.length ∧ (l.take k).all (depOk d) = true) → (l.map eDependency).length = l.length ∧ (((decide ((k : Int) < ((l.length : Nat) : Int))) = true → 0 ≤ (k : Int) ∧ (l.map eDependency = l.map eDependency ∧ k < l.length ∧ ∀ e26, l[k]? = some e26 → Con Tryz.prog 152 [.agg [.sl 107 3 (d.tables.map eTable)], .agg [.str e26.name, .sl 3 1 (e26.src.map intD), .int .i64 e26.dst]] (vB (depOk d e26)) [] ∧ (((!(depOk d e26)) = true → (false) = (fineC d l m) ∧ True) ∧ ((!(depOk d e26)) = false → inR ((k : Int) + (1 : Int)) ∧ ∃ (k' : Nat), ((k : Int) + (1 : Int)) = (k' : Int) ∧ (k' ≤ l.length ∧ (l.take k').all (depOk d) = true) ∧ l.length - k' < l.length - k)))) ∧ ((decide ((k : Int) < ((l.length : Nat) : Int))) = false → (∃ (j : Nat), (0 : Int) = (j : Int) ∧ j ≤ m.length ∧ (m.take j).all (incOk d) = true) ∧ ∀ (j : Nat), (j ≤ m.length ∧ (m.take j).all (incOk d) = true) → (m.map eInclusion).length = m.length ∧ (((decide ((j : Int) < ((m.length : Nat) : Int))) = true → 0 ≤ (j : Int) ∧ (m.map eInclusion = m.map eInclusion ∧ j < m.length ∧ ∀ e39, m[j]? = some e39 → Con Tryz.prog 153 [.agg [.sl 107 3 (d.tables.map eTable)], .agg [.str e39.name, .int .i64 e39.column, .str e39.into, .int .i64 e39.intoColumn]] (vB (incOk d e39)) [] ∧ (((!(incOk d e39)) = true → (false) = (fineC d l m) ∧ True) ∧ ((!(incOk d e39)) = false → inR ((j : Int) + (1 : Int)) ∧ ∃ (j' : Nat), ((j : Int) + (1 : Int)) = (j' : Int) ∧ (j' ≤ m.length ∧ (m.take j').all (incOk d) = true) ∧ m.length - j' < m.length - j)))) ∧ ((decide ((j : Int) < ((m.length : Nat) : Int))) = false → (true) = (fineC d l m) ∧ True)))))))))) ?_
  intro n0 n1 n2
  simp only [List.length_map] at n0 n1 n2
  refine ⟨List.length_map _, ?_⟩
  refine ⟨fun g12 => ?_, fun g12 => ?_⟩
  · replace g12 := of_decide_eq_true g12
    have hbad : (decide ((l.length : Int) ≤ 8) && decide ((m.length : Int) ≤ 8)) = false := by first | (simp; omega) | (simp [*]; omega)
    refine ⟨?_, trivial⟩
    · first | (rw [fineC, hbad]; simp; done) | (rw [fineC, hL, hM, hz]; rfl) | (rw [fineC, hL]; rfl) | (rw [fineC, hL, hM]; rfl)
  · replace g12 := of_decide_eq_false g12
    refine ⟨List.length_map _, ?_⟩
    refine ⟨fun c0 => ?_, fun c0 => ?_⟩
    · replace c0 := of_decide_eq_true c0
      have hbad : (decide ((l.length : Int) ≤ 8) && decide ((m.length : Int) ≤ 8)) = false := by first | (simp; omega) | (simp [*]; omega)
      refine ⟨?_, trivial⟩
      · first | (rw [fineC, hbad]; simp; done) | (rw [fineC, hL, hM, hz]; rfl) | (rw [fineC, hL]; rfl) | (rw [fineC, hL, hM]; rfl)
    · replace c0 := of_decide_eq_false c0
      have hz : (decide ((l.length : Int) ≤ 8) && decide ((m.length : Int) ≤ 8)) = true := by simp; omega
      refine ⟨⟨0, rfl, Nat.zero_le _, rfl⟩, fun k ⟨hk, ha⟩ => ?_⟩
      refine ⟨List.length_map _, ?_⟩
      refine ⟨fun c1 => ?_, fun c1 => ?_⟩
      · replace c1 := of_decide_eq_true c1
        refine ⟨by omega, ?_⟩
        refine ⟨rfl, by omega, fun e26 h26 => ?_⟩
        refine ⟨depOk_spec _ _ (by omega), ?_⟩
        refine ⟨fun c2 => ?_, fun c2 => ?_⟩
        · replace c2 := nt c2
          have hL : l.all (depOk d) = false := all_stop h26 (by simpa using c2)
          refine ⟨?_, trivial⟩
          · first | (rw [fineC, hbad]; simp; done) | (rw [fineC, hL, hM, hz]; rfl) | (rw [fineC, hL]; rfl) | (rw [fineC, hL, hM]; rfl)
        · replace c2 := nf c2
          refine ⟨⟨by omega, by omega⟩, ?_⟩
          exact ⟨k + 1, rfl, ⟨by omega, all_snoc h26 ha (by simpa using c2)⟩, by omega⟩
      · replace c1 := of_decide_eq_false c1
        have hL := all_done (by omega) ha
        refine ⟨⟨0, rfl, Nat.zero_le _, rfl⟩, fun j ⟨hj, hb⟩ => ?_⟩
        refine ⟨List.length_map _, ?_⟩
        refine ⟨fun c3 => ?_, fun c3 => ?_⟩
        · replace c3 := of_decide_eq_true c3
          refine ⟨by omega, ?_⟩
          refine ⟨rfl, by omega, fun e39 h39 => ?_⟩
          refine ⟨incOk_spec _ _ (by omega), ?_⟩
          refine ⟨fun c4 => ?_, fun c4 => ?_⟩
          · replace c4 := nt c4
            have hM : m.all (incOk d) = false := all_stop h39 (by simpa using c4)
            refine ⟨?_, trivial⟩
            · first | (rw [fineC, hbad]; simp; done) | (rw [fineC, hL, hM, hz]; rfl) | (rw [fineC, hL]; rfl) | (rw [fineC, hL, hM]; rfl)
          · replace c4 := nf c4
            refine ⟨⟨by omega, by omega⟩, ?_⟩
            exact ⟨j + 1, rfl, ⟨by omega, all_snoc h39 hb (by simpa using c4)⟩, by omega⟩
        · replace c3 := of_decide_eq_false c3
          have hM := all_done (by omega) hb
          refine ⟨?_, trivial⟩
          · first | (rw [fineC, hbad]; simp; done) | (rw [fineC, hL, hM, hz]; rfl) | (rw [fineC, hL]; rfl) | (rw [fineC, hL, hM]; rfl)

def okStore (s : StoreD) : Bool := (catOf s.database s.catalogue.version).2 && (decide ((catOf s.database s.catalogue.version).1 = s.catalogue) && fineC s.database s.dependencies s.inclusions)

set_option maxRecDepth 100000 in
set_option maxHeartbeats 4000000 in
theorem okSt_impl (s : StoreD) (hc : cStore s ≤ 1048576) : Con Tryz.prog 41 [.agg [.sl 107 3 (s.database.tables.map eTable), .int .i64 s.catalogue.version, .sl 32 4 (s.catalogue.tables.map eTableStats), .sl 142 3 (s.dependencies.map eDependency), .sl 144 4 (s.inclusions.map eInclusion)]] (vB (okStore s)) [] := by
  refine con_x tbOk mixedW Tryz.func41 (by kernel_rfl) (.call (.tup [.agg [vI (((catOf s.database s.catalogue.version).1).version), .own 0], vB ((catOf s.database s.catalogue.version).2)]) [(0, .arr 32 4 true ((((catOf s.database s.catalogue.version).1).tables).map eTableStats))] <| .br (.call (vB (decide (((catOf s.database s.catalogue.version).1) = s.catalogue))) [] <| .lit <| .br (.call (vB (fineC s.database s.dependencies s.inclusions)) [] <| .fin []) (.fin [])) (.fin [])) ?_
  refine Eq.mpr (by kernel_rfl : _ = ((s.database.tables.map eTable).length ≤ 9223372036854775807 → (s.catalogue.tables.map eTableStats).length ≤ 9223372036854775807 → (s.dependencies.map eDependency).length ≤ 9223372036854775807 → (s.inclusions.map eInclusion).length ≤ 9223372036854775807 → Con Tryz.prog 95 [.agg [.sl 107 3 (s.database.tables.map eTable)], .one (.int .i64 s.catalogue.version)] (.tup [.agg [vI (((catOf s.database s.catalogue.version).1).version), .own 0], vB ((catOf s.database s.catalogue.version).2)]) [(0, .arr 32 4 true ((((catOf s.database s.catalogue.version).1).tables).map eTableStats))] ∧ ((((catOf s.database s.catalogue.version).2) = true → Con Tryz.prog 96 [.agg [.int .i64 (((catOf s.database s.catalogue.version).1).version), .sl 32 4 ((((catOf s.database s.catalogue.version).1).tables).map eTableStats)], .agg [.int .i64 s.catalogue.version, .sl 32 4 (s.catalogue.tables.map eTableStats)]] (vB (decide (((catOf s.database s.catalogue.version).1) = s.catalogue))) [] ∧ (((decide (((catOf s.database s.catalogue.version).1) = s.catalogue)) = true → Con Tryz.prog 97 [.agg [.sl 107 3 (s.database.tables.map eTable)], .one (.sl 142 3 (s.dependencies.map eDependency)), .one (.sl 144 4 (s.inclusions.map eInclusion))] (vB (fineC s.database s.dependencies s.inclusions)) [] ∧ (fineC s.database s.dependencies s.inclusions) = (okStore s) ∧ True) ∧ ((decide (((catOf s.database s.catalogue.version).1) = s.catalogue)) = false → (false) = (okStore s) ∧ True))) ∧ (((catOf s.database s.catalogue.version).2) = false → (false) = (okStore s) ∧ True)))) ?_
  intro n0 n1 n2 n3
  simp only [List.length_map] at n0 n1 n2 n3
  have hS : cStore s = cDatabase s.database + cCatalogue s.catalogue + cDependencyS s.dependencies + cInclusionS s.inclusions := rfl
  have hsm := cat_small s.database s.catalogue.version
  refine ⟨cat_impl s.database s.catalogue.version, ?_⟩
  refine ⟨fun g15 => ?_, fun g15 => ?_⟩
  · refine ⟨eqCat_impl _ _, ?_⟩
    refine ⟨fun g21 => ?_, fun g21 => ?_⟩
    · replace g21 := of_decide_eq_true g21
      refine ⟨fine_impl s.database _ _ (by omega), ?_⟩
      refine ⟨?_, trivial⟩
      · first | (simp [okStore, *]; done) | (simp_all [okStore]; done)
    · replace g21 := of_decide_eq_false g21
      refine ⟨?_, trivial⟩
      · first | (simp [okStore, *]; done) | (simp_all [okStore]; done)
  · refine ⟨?_, trivial⟩
    · first | (simp [okStore, *]; done) | (simp_all [okStore]; done)

set_option maxRecDepth 100000 in
set_option maxHeartbeats 4000000 in
theorem okSt_spec (s : StoreD) (hc : cStore s ≤ 1048576) : Con Tryz.prog 39 [.agg [.sl 107 3 (s.database.tables.map eTable), .int .i64 s.catalogue.version, .sl 32 4 (s.catalogue.tables.map eTableStats), .sl 142 3 (s.dependencies.map eDependency), .sl 144 4 (s.inclusions.map eInclusion)]] (vB (okStore s)) [] := by
  refine con_x tbOk mixedW Tryz.func39 (by kernel_rfl) (.call (.tup [.agg [vI (((catOf s.database s.catalogue.version).1).version), .own 0], vB ((catOf s.database s.catalogue.version).2)]) [(0, .arr 32 4 true ((((catOf s.database s.catalogue.version).1).tables).map eTableStats))] <| .br (.call (vB (decide (((catOf s.database s.catalogue.version).1) = s.catalogue))) [] <| .lit <| .br (.call (vB (fineC s.database s.dependencies s.inclusions)) [] <| .fin []) (.fin [])) (.fin [])) ?_
  refine Eq.mpr (by kernel_rfl : _ = ((s.database.tables.map eTable).length ≤ 9223372036854775807 → (s.catalogue.tables.map eTableStats).length ≤ 9223372036854775807 → (s.dependencies.map eDependency).length ≤ 9223372036854775807 → (s.inclusions.map eInclusion).length ≤ 9223372036854775807 → Con Tryz.prog 91 [.agg [.sl 107 3 (s.database.tables.map eTable)], .one (.int .i64 s.catalogue.version)] (.tup [.agg [vI (((catOf s.database s.catalogue.version).1).version), .own 0], vB ((catOf s.database s.catalogue.version).2)]) [(0, .arr 32 4 true ((((catOf s.database s.catalogue.version).1).tables).map eTableStats))] ∧ ((((catOf s.database s.catalogue.version).2) = true → Con Tryz.prog 92 [.agg [.int .i64 (((catOf s.database s.catalogue.version).1).version), .sl 32 4 ((((catOf s.database s.catalogue.version).1).tables).map eTableStats)], .agg [.int .i64 s.catalogue.version, .sl 32 4 (s.catalogue.tables.map eTableStats)]] (vB (decide (((catOf s.database s.catalogue.version).1) = s.catalogue))) [] ∧ (((decide (((catOf s.database s.catalogue.version).1) = s.catalogue)) = true → Con Tryz.prog 93 [.agg [.sl 107 3 (s.database.tables.map eTable)], .one (.sl 142 3 (s.dependencies.map eDependency)), .one (.sl 144 4 (s.inclusions.map eInclusion))] (vB (fineC s.database s.dependencies s.inclusions)) [] ∧ (fineC s.database s.dependencies s.inclusions) = (okStore s) ∧ True) ∧ ((decide (((catOf s.database s.catalogue.version).1) = s.catalogue)) = false → (false) = (okStore s) ∧ True))) ∧ (((catOf s.database s.catalogue.version).2) = false → (false) = (okStore s) ∧ True)))) ?_
  intro n0 n1 n2 n3
  simp only [List.length_map] at n0 n1 n2 n3
  have hS : cStore s = cDatabase s.database + cCatalogue s.catalogue + cDependencyS s.dependencies + cInclusionS s.inclusions := rfl
  have hsm := cat_small s.database s.catalogue.version
  refine ⟨cat_spec s.database s.catalogue.version, ?_⟩
  refine ⟨fun g15 => ?_, fun g15 => ?_⟩
  · refine ⟨eqCat_spec _ _ (by omega), ?_⟩
    refine ⟨fun g21 => ?_, fun g21 => ?_⟩
    · replace g21 := of_decide_eq_true g21
      refine ⟨fine_spec s.database _ _ (by omega), ?_⟩
      refine ⟨?_, trivial⟩
      · first | (simp [okStore, *]; done) | (simp_all [okStore]; done)
    · replace g21 := of_decide_eq_false g21
      refine ⟨?_, trivial⟩
      · first | (simp [okStore, *]; done) | (simp_all [okStore]; done)
  · refine ⟨?_, trivial⟩
    · first | (simp [okStore, *]; done) | (simp_all [okStore]; done)
end Go.Proofs.YtjlagjhmlmfjeaaGreat
