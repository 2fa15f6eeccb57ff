/-
  Equality of stores, the reference's.
-/
import Derived.Test.YtjlagjhmlmfjeaaEd
namespace Go.Proofs.Ytjlagjhmlmfjeaa
open Go.ChangeShapes Go.WideShapes Go.ChangeAt Go.RowKit
set_option linter.unusedVariables false
set_option linter.unusedSimpArgs false
set_option maxRecDepth 100000 in
set_option maxHeartbeats 4000000 in
theorem eqTab_spec (a b : TableD) : Con Try.prog 73 [.agg [.str a.name, .int .i64 a.arity, .sl 72 1 (a.rows.map eIntS)], .agg [.str b.name, .int .i64 b.arity, .sl 72 1 (b.rows.map eIntS)]] (vB (decide (a = b))) [] := by
  refine con_x tbOk mixedW Try.func73 (by kernel_rfl) (.br (.fin []) (.lit <| .lit <| .lit <| .lit <| .lit <| .br (.fin []) (.len a.rows.length <| .len b.rows.length <| .lit <| .lit <| .br (.fin []) (.loop Nat (Q1 Nat) [5, 27, 28, 29, 30, 31, 32, 33, 34, 35, 36, 37, 38, 39, 40, 41, 42, 43, 44, 45] [] (fun k => [(5, vI (k : Int))]) (fun k => []) (fun k => k ≤ a.rows.length ∧ a.rows.take k = b.rows.take k) (fun k => a.rows.length - k) (fun k => .len a.rows.length <| .br (.elem (List Int) eIntS a.rows (fun e37 => .elem (List Int) eIntS b.rows (fun e42 => .call (vI (cmpR e37 e42)) [] <| .br (.fin []) (.back [])))) (.fin [])))))) ?_
  refine Eq.mpr (by kernel_rfl : _ = ((a.rows.map eIntS).length ≤ 9223372036854775807 → (b.rows.map eIntS).length ≤ 9223372036854775807 → ((!(a.name.toList == b.name.toList)) = true → (false) = (decide (a = b)) ∧ True) ∧ ((!(a.name.toList == b.name.toList)) = false → ((!(decide (a.arity = b.arity))) = true → (false) = (decide (a = b)) ∧ True) ∧ ((!(decide (a.arity = b.arity))) = false → (a.rows.map eIntS).length = a.rows.length ∧ ((b.rows.map eIntS).length = b.rows.length ∧ (((!(decide (((a.rows.length : Nat) : Int) = ((b.rows.length : Nat) : Int)))) = true → (false) = (decide (a = b)) ∧ True) ∧ ((!(decide (((a.rows.length : Nat) : Int) = ((b.rows.length : Nat) : Int)))) = false → (∃ (k : Nat), (0 : Int) = (k : Int) ∧ k ≤ a.rows.length ∧ a.rows.take k = b.rows.take k) ∧ ∀ (k : Nat), (k ≤ a.rows.length ∧ a.rows.take k = b.rows.take k) → (a.rows.map eIntS).length = a.rows.length ∧ (((decide ((k : Int) < ((a.rows.length : Nat) : Int))) = true → 0 ≤ (k : Int) ∧ (a.rows.map eIntS = a.rows.map eIntS ∧ k < a.rows.length ∧ ∀ e37, a.rows[k]? = some e37 → 0 ≤ (k : Int) ∧ (b.rows.map eIntS = b.rows.map eIntS ∧ k < b.rows.length ∧ ∀ e42, b.rows[k]? = some e42 → Con Try.prog 39 [.one (.sl 3 1 (e37.map intD)), .one (.sl 3 1 (e42.map intD))] (vI (cmpR e37 e42)) [] ∧ (((!(decide ((cmpR e37 e42) = (0 : Int)))) = true → (false) = (decide (a = b)) ∧ True) ∧ ((!(decide ((cmpR e37 e42) = (0 : Int)))) = false → inR ((k : Int) + (1 : Int)) ∧ ∃ (k' : Nat), ((k : Int) + (1 : Int)) = (k' : Int) ∧ (k' ≤ a.rows.length ∧ a.rows.take k' = b.rows.take k') ∧ a.rows.length - k' < a.rows.length - k))))) ∧ ((decide ((k : Int) < ((a.rows.length : Nat) : Int))) = false → (true) = (decide (a = b)) ∧ True))))))))) ?_
  intro n0 n1
  simp only [List.length_map] at n0 n1
  refine ⟨fun g11 => ?_, fun g11 => ?_⟩
  · replace g11 := nt g11
    refine ⟨?_, trivial⟩
    · first | (simp [hne]; done) | (rw [ext_Table]; simp_all [str_eq]; done)
  · replace g11 := nf g11
    refine ⟨fun g18 => ?_, fun g18 => ?_⟩
    · replace g18 := of_decide_eq_false (nt g18)
      refine ⟨?_, trivial⟩
      · first | (simp [hne]; done) | (rw [ext_Table]; simp_all [str_eq]; done)
    · replace g18 := of_decide_eq_true (nf g18)
      refine ⟨List.length_map _, ?_⟩
      refine ⟨List.length_map _, ?_⟩
      refine ⟨fun c0 => ?_, fun c0 => ?_⟩
      · replace c0 := of_decide_eq_false (nt c0)
        have hne : ¬ a = b := fun e => c0 (by rw [e])
        refine ⟨?_, trivial⟩
        · first | (simp [hne]; done) | (rw [ext_Table]; simp_all [str_eq]; done)
      · replace c0 := of_decide_eq_true (nf c0)
        have hl : a.rows.length = b.rows.length := by omega
        refine ⟨⟨0, rfl, Nat.zero_le _, rfl⟩, fun k ⟨hk, ht⟩ => ?_⟩
        refine ⟨List.length_map _, ?_⟩
        refine ⟨fun c1 => ?_, fun c1 => ?_⟩
        · replace c1 := of_decide_eq_true c1
          refine ⟨by omega, ?_⟩
          refine ⟨rfl, by omega, fun e37 h37 => ?_⟩
          refine ⟨by omega, ?_⟩
          refine ⟨rfl, by omega, fun e42 h42 => ?_⟩
          refine ⟨cmpRows_spec _ _, ?_⟩
          refine ⟨fun c2 => ?_, fun c2 => ?_⟩
          · replace c2 := of_decide_eq_false (nt c2)
            have hne : ¬ a = b := fun e => by subst e; have q := same_at h37 h42; subst q; exact c2 (cmpR_zero.2 rfl)
            refine ⟨?_, trivial⟩
            · first | (simp [hne]; done) | (rw [ext_Table]; simp_all [str_eq]; done)
          · replace c2 := of_decide_eq_true (nf c2)
            refine ⟨⟨by omega, by omega⟩, ?_⟩
            exact ⟨k + 1, rfl, ⟨by omega, take_same h37 (by rw [h42, cmpR_zero.1 c2]) ht⟩, by omega⟩
        · replace c1 := of_decide_eq_false c1
          have hg := same_take (by omega) hl ht
          refine ⟨?_, trivial⟩
          · first | (simp [hne]; done) | (rw [ext_Table]; simp_all [str_eq]; done)

set_option maxRecDepth 100000 in
set_option maxHeartbeats 4000000 in
theorem eqDb_spec (a b : DatabaseD) : Con Try.prog 38 [.agg [.sl 90 3 (a.tables.map eTable)], .agg [.sl 90 3 (b.tables.map eTable)]] (vB (decide (a = b))) [] := by
  refine con_x tbOk mixedW Try.func38 (by kernel_rfl) (.len a.tables.length <| .len b.tables.length <| .br (.fin []) (.loop Nat (Q1 Nat) [5, 13, 14, 15, 16, 17, 18, 19, 20, 21, 22, 23, 24, 25, 26, 27, 28, 29, 30, 31] [] (fun k => [(5, vI (k : Int))]) (fun k => []) (fun k => k ≤ a.tables.length ∧ a.tables.take k = b.tables.take k) (fun k => a.tables.length - k) (fun k => .len a.tables.length <| .br (.elem TableD eTable a.tables (fun e23 => .elem TableD eTable b.tables (fun e28 => .call (vB (decide (e23 = e28))) [] <| .br (.fin []) (.back [])))) (.fin [])))) ?_
  refine Eq.mpr (by kernel_rfl : _ = ((a.tables.map eTable).length ≤ 9223372036854775807 → (b.tables.map eTable).length ≤ 9223372036854775807 → (a.tables.map eTable).length = a.tables.length ∧ ((b.tables.map eTable).length = b.tables.length ∧ (((!(decide (((a.tables.length : Nat) : Int) = ((b.tables.length : Nat) : Int)))) = true → (false) = (decide (a = b)) ∧ True) ∧ ((!(decide (((a.tables.length : Nat) : Int) = ((b.tables.length : Nat) : Int)))) = false → (∃ (k : Nat), (0 : Int) = (k : Int) ∧ k ≤ a.tables.length ∧ a.tables.take k = b.tables.take k) ∧ ∀ (k : Nat), (k ≤ a.tables.length ∧ a.tables.take k = b.tables.take k) → (a.tables.map eTable).length = a.tables.length ∧ (((decide ((k : Int) < ((a.tables.length : Nat) : Int))) = true → 0 ≤ (k : Int) ∧ (a.tables.map eTable = a.tables.map eTable ∧ k < a.tables.length ∧ ∀ e23, a.tables[k]? = some e23 → 0 ≤ (k : Int) ∧ (b.tables.map eTable = b.tables.map eTable ∧ k < b.tables.length ∧ ∀ e28, b.tables[k]? = some e28 → Con Try.prog 73 [.agg [.str e23.name, .int .i64 e23.arity, .sl 72 1 (e23.rows.map eIntS)], .agg [.str e28.name, .int .i64 e28.arity, .sl 72 1 (e28.rows.map eIntS)]] (vB (decide (e23 = e28))) [] ∧ (((!(decide (e23 = e28))) = true → (false) = (decide (a = b)) ∧ True) ∧ ((!(decide (e23 = e28))) = false → inR ((k : Int) + (1 : Int)) ∧ ∃ (k' : Nat), ((k : Int) + (1 : Int)) = (k' : Int) ∧ (k' ≤ a.tables.length ∧ a.tables.take k' = b.tables.take k') ∧ a.tables.length - k' < a.tables.length - k))))) ∧ ((decide ((k : Int) < ((a.tables.length : Nat) : Int))) = false → (true) = (decide (a = b)) ∧ True))))))) ?_
  intro n0 n1
  simp only [List.length_map] at n0 n1
  refine ⟨List.length_map _, ?_⟩
  refine ⟨List.length_map _, ?_⟩
  refine ⟨fun c0 => ?_, fun c0 => ?_⟩
  · replace c0 := of_decide_eq_false (nt c0)
    have hne : ¬ a = b := fun e => c0 (by rw [e])
    refine ⟨?_, trivial⟩
    · first | (simp [hne]; done) | (rw [ext_Database]; simp_all; done)
  · replace c0 := of_decide_eq_true (nf c0)
    have hl : a.tables.length = b.tables.length := by omega
    refine ⟨⟨0, rfl, Nat.zero_le _, rfl⟩, fun k ⟨hk, ht⟩ => ?_⟩
    refine ⟨List.length_map _, ?_⟩
    refine ⟨fun c1 => ?_, fun c1 => ?_⟩
    · replace c1 := of_decide_eq_true c1
      refine ⟨by omega, ?_⟩
      refine ⟨rfl, by omega, fun e23 h23 => ?_⟩
      refine ⟨by omega, ?_⟩
      refine ⟨rfl, by omega, fun e28 h28 => ?_⟩
      refine ⟨eqTab_spec _ _, ?_⟩
      refine ⟨fun c2 => ?_, fun c2 => ?_⟩
      · replace c2 := of_decide_eq_false (nt c2)
        have hne : ¬ a = b := fun e => by subst e; exact c2 (same_at h28 h23)
        refine ⟨?_, trivial⟩
        · first | (simp [hne]; done) | (rw [ext_Database]; simp_all; done)
      · replace c2 := of_decide_eq_true (nf c2)
        refine ⟨⟨by omega, by omega⟩, ?_⟩
        exact ⟨k + 1, rfl, ⟨by omega, take_same h23 (by rw [h28, c2]) ht⟩, by omega⟩
    · replace c1 := of_decide_eq_false c1
      have hg := same_take (by omega) hl ht
      refine ⟨?_, trivial⟩
      · first | (simp [hne]; done) | (rw [ext_Database]; simp_all; done)

theorem dep_eq {x y : DependencyD} (h1 : x.name = y.name) (h2 : x.src = y.src) (h3 : x.dst = y.dst) : x = y := by
  obtain ⟨a, b, c⟩ := x
  obtain ⟨d, e, f⟩ := y
  simp at h1 h2 h3
  subst h1 h2 h3
  rfl

set_option maxRecDepth 100000 in
set_option maxHeartbeats 4000000 in
theorem eqStore_spec (a b : StoreD) (ha : cStore a ≤ 1048576) : Con Try.prog 13 [.agg [.sl 90 3 (a.database.tables.map eTable), .int .i64 a.catalogue.version, .sl 60 4 (a.catalogue.tables.map eTableStats), .sl 74 3 (a.dependencies.map eDependency), .sl 77 4 (a.inclusions.map eInclusion)], .agg [.sl 90 3 (b.database.tables.map eTable), .int .i64 b.catalogue.version, .sl 60 4 (b.catalogue.tables.map eTableStats), .sl 74 3 (b.dependencies.map eDependency), .sl 77 4 (b.inclusions.map eInclusion)]] (vB (decide (a = b))) [] := by
  refine con_x tbOk mixedW Try.func13 (by kernel_rfl) (.call (vB (decide (a.database = b.database))) [] <| .br (.fin []) (.call (vB (decide (a.catalogue = b.catalogue))) [] <| .lit <| .lit <| .br (.fin []) (.len a.dependencies.length <| .len b.dependencies.length <| .lit <| .lit <| .br (.fin []) (.len a.inclusions.length <| .len b.inclusions.length <| .lit <| .lit <| .br (.fin []) (.loop Nat (Q1 Nat) [5, 39, 40, 41, 42, 43, 44, 45, 46, 47, 48, 49, 50, 51, 52, 53, 54, 55, 56, 57, 58, 59, 60, 61, 62, 63, 64, 65, 66, 67, 68, 69, 70, 71, 72, 73, 74, 75, 76, 77, 78, 79, 80, 81, 82, 83, 84, 85, 86, 87, 88, 89] [] (fun i => [(5, vI (i : Int))]) (fun i => []) (fun i => i ≤ a.dependencies.length ∧ a.dependencies.take i = b.dependencies.take i) (fun i => a.dependencies.length - i) (fun i => .len a.dependencies.length <| .br (.elem DependencyD eDependency a.dependencies (fun e49 => .elem DependencyD eDependency b.dependencies (fun e55 => .br (.fin []) (.elem DependencyD eDependency a.dependencies (fun e63 => .elem DependencyD eDependency b.dependencies (fun e69 => .lit <| .lit <| .lit <| .lit <| .br (.fin []) (.elem DependencyD eDependency a.dependencies (fun e78 => .elem DependencyD eDependency b.dependencies (fun e84 => .call (vI (cmpR e78.src e84.src)) [] <| .lit <| .lit <| .br (.fin []) (.back [])))))))))) (.loop Nat (Q1 Nat) [6, 90, 91, 92, 93, 94, 95, 96, 97, 98, 99, 100, 101, 102, 103, 104, 105, 106, 107] [] (fun k => [(6, vI (k : Int))]) (fun k => []) (fun k => k ≤ a.inclusions.length ∧ a.inclusions.take k = b.inclusions.take k) (fun k => a.inclusions.length - k) (fun k => .len a.inclusions.length <| .br (.elem InclusionD eInclusion a.inclusions (fun e100 => .elem InclusionD eInclusion b.inclusions (fun e105 => .br (.fin []) (.back [])))) (.fin []))))))))) ?_
  refine Eq.mpr (by kernel_rfl : _ = ((a.database.tables.map eTable).length ≤ 9223372036854775807 → (a.catalogue.tables.map eTableStats).length ≤ 9223372036854775807 → (a.dependencies.map eDependency).length ≤ 9223372036854775807 → (a.inclusions.map eInclusion).length ≤ 9223372036854775807 → (b.database.tables.map eTable).length ≤ 9223372036854775807 → (b.catalogue.tables.map eTableStats).length ≤ 9223372036854775807 → (b.dependencies.map eDependency).length ≤ 9223372036854775807 → (b.inclusions.map eInclusion).length ≤ 9223372036854775807 → Con Try.prog 38 [.agg [.sl 90 3 (a.database.tables.map eTable)], .agg [.sl 90 3 (b.database.tables.map eTable)]] (vB (decide (a.database = b.database))) [] ∧ (((!(decide (a.database = b.database))) = true → (false) = (decide (a = b)) ∧ True) ∧ ((!(decide (a.database = b.database))) = false → Con Try.prog 8 [.agg [.int .i64 a.catalogue.version, .sl 60 4 (a.catalogue.tables.map eTableStats)], .agg [.int .i64 b.catalogue.version, .sl 60 4 (b.catalogue.tables.map eTableStats)]] (vB (decide (a.catalogue = b.catalogue))) [] ∧ (((!(decide (a.catalogue = b.catalogue))) = true → (false) = (decide (a = b)) ∧ True) ∧ ((!(decide (a.catalogue = b.catalogue))) = false → (a.dependencies.map eDependency).length = a.dependencies.length ∧ ((b.dependencies.map eDependency).length = b.dependencies.length ∧ (((!(decide (((a.dependencies.length : Nat) : Int) = ((b.dependencies.length : Nat) : Int)))) = true → (false) = (decide (a = b)) ∧ True) ∧ ((!(decide (((a.dependencies.length : Nat) : Int) = ((b.dependencies.length : Nat) : Int)))) = false → (a.inclusions.map eInclusion).length = a.inclusions.length ∧ ((b.inclusions.map eInclusion).length = b.inclusions.length ∧ (((!(decide (((a.inclusions.length : Nat) : Int) = ((b.inclusions.length : Nat) : Int)))) = true → (false) = (decide (a = b)) ∧ True) ∧ ((!(decide (((a.inclusions.length : Nat) : Int) = ((b.inclusions.length : Nat) : Int)))) = false → (∃ (i : Nat), (0 : Int) = (i : Int) ∧ i ≤ a.dependencies.length ∧ a.dependencies.take i = b.dependencies.take i) ∧ ∀ (i : Nat), (i ≤ a.dependencies.length ∧ a.dependencies.take i = b.dependencies.take i) → (a.dependencies.map eDependency).length = a.dependencies.length ∧ (((decide ((i : Int) < ((a.dependencies.length : Nat) : Int))) = true → 0 ≤ (i : Int) ∧ (a.dependencies.map eDependency = a.dependencies.map eDependency ∧ i < a.dependencies.length ∧ ∀ e49, a.dependencies[i]? = some e49 → 0 ≤ (i : Int) ∧ (b.dependencies.map eDependency = b.dependencies.map eDependency ∧ i < b.dependencies.length ∧ ∀ e55, b.dependencies[i]? = some e55 → ((!(e49.name.toList == e55.name.toList)) = true → (false) = (decide (a = b)) ∧ True) ∧ ((!(e49.name.toList == e55.name.toList)) = false → 0 ≤ (i : Int) ∧ (a.dependencies.map eDependency = a.dependencies.map eDependency ∧ i < a.dependencies.length ∧ ∀ e63, a.dependencies[i]? = some e63 → 0 ≤ (i : Int) ∧ (b.dependencies.map eDependency = b.dependencies.map eDependency ∧ i < b.dependencies.length ∧ ∀ e69, b.dependencies[i]? = some e69 → ((!(decide (e63.dst = e69.dst))) = true → (false) = (decide (a = b)) ∧ True) ∧ ((!(decide (e63.dst = e69.dst))) = false → 0 ≤ (i : Int) ∧ (a.dependencies.map eDependency = a.dependencies.map eDependency ∧ i < a.dependencies.length ∧ ∀ e78, a.dependencies[i]? = some e78 → 0 ≤ (i : Int) ∧ (b.dependencies.map eDependency = b.dependencies.map eDependency ∧ i < b.dependencies.length ∧ ∀ e84, b.dependencies[i]? = some e84 → Con Try.prog 39 [.one (.sl 3 1 (e78.src.map intD)), .one (.sl 3 1 (e84.src.map intD))] (vI (cmpR e78.src e84.src)) [] ∧ (((!(decide ((cmpR e78.src e84.src) = (0 : Int)))) = true → (false) = (decide (a = b)) ∧ True) ∧ ((!(decide ((cmpR e78.src e84.src) = (0 : Int)))) = false → inR ((i : Int) + (1 : Int)) ∧ ∃ (i' : Nat), ((i : Int) + (1 : Int)) = (i' : Int) ∧ (i' ≤ a.dependencies.length ∧ a.dependencies.take i' = b.dependencies.take i') ∧ a.dependencies.length - i' < a.dependencies.length - i))))))))))) ∧ ((decide ((i : Int) < ((a.dependencies.length : Nat) : Int))) = false → (∃ (k : Nat), (0 : Int) = (k : Int) ∧ k ≤ a.inclusions.length ∧ a.inclusions.take k = b.inclusions.take k) ∧ ∀ (k : Nat), (k ≤ a.inclusions.length ∧ a.inclusions.take k = b.inclusions.take k) → (a.inclusions.map eInclusion).length = a.inclusions.length ∧ (((decide ((k : Int) < ((a.inclusions.length : Nat) : Int))) = true → 0 ≤ (k : Int) ∧ (a.inclusions.map eInclusion = a.inclusions.map eInclusion ∧ k < a.inclusions.length ∧ ∀ e100, a.inclusions[k]? = some e100 → 0 ≤ (k : Int) ∧ (b.inclusions.map eInclusion = b.inclusions.map eInclusion ∧ k < b.inclusions.length ∧ ∀ e105, b.inclusions[k]? = some e105 → ((!((e100.name.toList == e105.name.toList) && ((e100.column == e105.column) && ((e100.into.toList == e105.into.toList) && ((e100.intoColumn == e105.intoColumn) && true))))) = true → (false) = (decide (a = b)) ∧ True) ∧ ((!((e100.name.toList == e105.name.toList) && ((e100.column == e105.column) && ((e100.into.toList == e105.into.toList) && ((e100.intoColumn == e105.intoColumn) && true))))) = false → inR ((k : Int) + (1 : Int)) ∧ ∃ (k' : Nat), ((k : Int) + (1 : Int)) = (k' : Int) ∧ (k' ≤ a.inclusions.length ∧ a.inclusions.take k' = b.inclusions.take k') ∧ a.inclusions.length - k' < a.inclusions.length - k)))) ∧ ((decide ((k : Int) < ((a.inclusions.length : Nat) : Int))) = false → (true) = (decide (a = b)) ∧ True)))))))))))))))) ?_
  intro n0 n1 n2 n3 n4 n5 n6 n7
  simp only [List.length_map] at n0 n1 n2 n3 n4 n5 n6 n7
  have hS : cStore a = cDatabase a.database + cCatalogue a.catalogue + cDependencyS a.dependencies + cInclusionS a.inclusions := rfl
  refine ⟨eqDb_spec _ _, ?_⟩
  refine ⟨fun g13 => ?_, fun g13 => ?_⟩
  · replace g13 := of_decide_eq_false (nt g13)
    refine ⟨?_, trivial⟩
    · first | (simp [hne]; done) | (rw [ext_Store]; simp_all; done)
  · replace g13 := of_decide_eq_true (nf g13)
    refine ⟨eqCat_spec _ _ (by omega), ?_⟩
    refine ⟨fun g21 => ?_, fun g21 => ?_⟩
    · replace g21 := of_decide_eq_false (nt g21)
      refine ⟨?_, trivial⟩
      · first | (simp [hne]; done) | (rw [ext_Store]; simp_all; done)
    · replace g21 := of_decide_eq_true (nf g21)
      refine ⟨List.length_map _, ?_⟩
      refine ⟨List.length_map _, ?_⟩
      refine ⟨fun g30 => ?_, fun g30 => ?_⟩
      · replace g30 := of_decide_eq_false (nt g30)
        have hne : ¬ a = b := fun e => g30 (by rw [e])
        refine ⟨?_, trivial⟩
        · first | (simp [hne]; done) | (rw [ext_Store]; simp_all; done)
      · replace g30 := of_decide_eq_true (nf g30)
        refine ⟨List.length_map _, ?_⟩
        refine ⟨List.length_map _, ?_⟩
        refine ⟨fun c0 => ?_, fun c0 => ?_⟩
        · replace c0 := of_decide_eq_false (nt c0)
          have hne : ¬ a = b := fun e => c0 (by rw [e])
          refine ⟨?_, trivial⟩
          · first | (simp [hne]; done) | (rw [ext_Store]; simp_all; done)
        · replace c0 := of_decide_eq_true (nf c0)
          have hl2 : a.inclusions.length = b.inclusions.length := by omega
          have hl : a.dependencies.length = b.dependencies.length := by omega
          refine ⟨⟨0, rfl, Nat.zero_le _, rfl⟩, fun i ⟨hi, ht⟩ => ?_⟩
          refine ⟨List.length_map _, ?_⟩
          refine ⟨fun c1 => ?_, fun c1 => ?_⟩
          · replace c1 := of_decide_eq_true c1
            obtain ⟨x, hx⟩ := at_some (l := a.dependencies) (k := i) (by omega)
            obtain ⟨y, hy⟩ := at_some (l := b.dependencies) (k := i) (by omega)
            refine ⟨by omega, ?_⟩
            refine ⟨rfl, by omega, fun e49 h49 => ?_⟩
            obtain rfl := (same_at hx h49).symm
            refine ⟨by omega, ?_⟩
            refine ⟨rfl, by omega, fun e55 h55 => ?_⟩
            obtain rfl := (same_at hy h55).symm
            refine ⟨fun g59 => ?_, fun g59 => ?_⟩
            · replace g59 := nt g59
              have hne : ¬ a = b := fun e => by subst e; have q := same_at hx hy; subst q; simp at g59
              refine ⟨?_, trivial⟩
              · first | (simp [hne]; done) | (rw [ext_Store]; simp_all; done)
            · replace g59 := nf g59
              refine ⟨by omega, ?_⟩
              refine ⟨rfl, by omega, fun e63 h63 => ?_⟩
              obtain rfl := (same_at hx h63).symm
              refine ⟨by omega, ?_⟩
              refine ⟨rfl, by omega, fun e69 h69 => ?_⟩
              obtain rfl := (same_at hy h69).symm
              refine ⟨fun g74 => ?_, fun g74 => ?_⟩
              · replace g74 := of_decide_eq_false (nt g74)
                have hne : ¬ a = b := fun e => by subst e; have q := same_at hx hy; subst q; exact g74 rfl
                refine ⟨?_, trivial⟩
                · first | (simp [hne]; done) | (rw [ext_Store]; simp_all; done)
              · replace g74 := of_decide_eq_true (nf g74)
                refine ⟨by omega, ?_⟩
                refine ⟨rfl, by omega, fun e78 h78 => ?_⟩
                obtain rfl := (same_at hx h78).symm
                refine ⟨by omega, ?_⟩
                refine ⟨rfl, by omega, fun e84 h84 => ?_⟩
                obtain rfl := (same_at hy h84).symm
                refine ⟨cmpRows_spec _ _, ?_⟩
                refine ⟨fun c2 => ?_, fun c2 => ?_⟩
                · replace c2 := of_decide_eq_false (nt c2)
                  have hne : ¬ a = b := fun e => by subst e; have q := same_at hx hy; subst q; exact c2 (cmpR_zero.2 rfl)
                  refine ⟨?_, trivial⟩
                  · first | (simp [hne]; done) | (rw [ext_Store]; simp_all; done)
                · replace c2 := of_decide_eq_true (nf c2)
                  have hxy : y = x := (dep_eq (by simpa [str_eq] using g59) (cmpR_zero.1 c2) g74).symm
                  refine ⟨⟨by omega, by omega⟩, ?_⟩
                  exact ⟨i + 1, rfl, ⟨by omega, take_same hx (by rw [hy, hxy]) ht⟩, by omega⟩
          · replace c1 := of_decide_eq_false c1
            have hg := same_take (by omega) hl ht
            refine ⟨⟨0, rfl, Nat.zero_le _, rfl⟩, fun k ⟨hk, hu⟩ => ?_⟩
            refine ⟨List.length_map _, ?_⟩
            refine ⟨fun c3 => ?_, fun c3 => ?_⟩
            · replace c3 := of_decide_eq_true c3
              refine ⟨by omega, ?_⟩
              refine ⟨rfl, by omega, fun e100 h100 => ?_⟩
              refine ⟨by omega, ?_⟩
              refine ⟨rfl, by omega, fun e105 h105 => ?_⟩
              refine ⟨fun c4 => ?_, fun c4 => ?_⟩
              · replace c4 := nt c4
                rw [inc_eq] at c4
                have hne : ¬ a = b := fun e => by subst e; have q := same_at h100 h105; subst q; simp at c4
                refine ⟨?_, trivial⟩
                · first | (simp [hne]; done) | (rw [ext_Store]; simp_all; done)
              · replace c4 := nf c4
                rw [inc_eq] at c4
                have hz : e105 = e100 := (by simpa using c4 : e100 = e105).symm
                refine ⟨⟨by omega, by omega⟩, ?_⟩
                exact ⟨k + 1, rfl, ⟨by omega, take_same h100 (by rw [h105, hz]) hu⟩, by omega⟩
            · replace c3 := of_decide_eq_false c3
              have hg2 := same_take (by omega) hl2 hu
              refine ⟨?_, trivial⟩
              · first | (simp [hne]; done) | (rw [ext_Store]; simp_all; done)
end Go.Proofs.Ytjlagjhmlmfjeaa
