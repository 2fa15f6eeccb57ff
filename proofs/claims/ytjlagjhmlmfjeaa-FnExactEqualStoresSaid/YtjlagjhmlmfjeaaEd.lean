/-
  Equality of stores, the program's.
-/
import Derived.Test.YtjlagjhmlmfjeaaEb
namespace Go.Proofs.Ytjlagjhmlmfjeaa
open Go.ChangeShapes Go.WideShapes Go.ChangeAt Go.RowKit
set_option linter.unusedVariables false
set_option linter.unusedSimpArgs false
theorem ext_Table (a b : TableD) : decide (a = b) = (decide (a.name = b.name) && (decide (a.arity = b.arity) && decide (a.rows = b.rows))) := by
  obtain ⟨a0, a1, a2⟩ := a
  obtain ⟨b0, b1, b2⟩ := b
  simp [Bool.and_assoc]

set_option maxRecDepth 100000 in
set_option maxHeartbeats 4000000 in
theorem eqTab_impl (a b : TableD) : Con Try.prog 77 [.agg [.str a.name, .int .i64 a.arity, .sl 72 1 (a.rows.map eIntS)], .agg [.str b.name, .int .i64 b.arity, .sl 72 1 (b.rows.map eIntS)]] (vB (decide (a = b))) [] := by
  refine con_x tbOk mixedW Try.func77 (by kernel_rfl) (.br (.lit <| .lit <| .lit <| .lit <| .lit <| .br (.call (vB (decide (a.rows = b.rows))) [] <| .fin []) (.fin [])) (.fin [])) ?_
  refine Eq.mpr (by kernel_rfl : _ = ((a.rows.map eIntS).length ≤ 9223372036854775807 → (b.rows.map eIntS).length ≤ 9223372036854775807 → ((a.name.toList == b.name.toList) = true → ((decide (a.arity = b.arity)) = true → Con Try.prog 102 [.one (.sl 72 1 (a.rows.map eIntS)), .one (.sl 72 1 (b.rows.map eIntS))] (vB (decide (a.rows = b.rows))) [] ∧ (decide (a.rows = b.rows)) = (decide (a = b)) ∧ True) ∧ ((decide (a.arity = b.arity)) = false → (false) = (decide (a = b)) ∧ True)) ∧ ((a.name.toList == b.name.toList) = false → (false) = (decide (a = b)) ∧ True))) ?_
  intro n0 n1
  simp only [List.length_map] at n0 n1
  refine ⟨fun g10 => ?_, fun g10 => ?_⟩
  · refine ⟨fun g17 => ?_, fun g17 => ?_⟩
    · replace g17 := of_decide_eq_true g17
      refine ⟨eqRows_impl _ _, ?_⟩
      refine ⟨?_, trivial⟩
      · first | (rw [ext_Table]; done) | (rw [ext_Table]; simp_all [str_eq]; done)
    · replace g17 := of_decide_eq_false g17
      refine ⟨?_, trivial⟩
      · first | (rw [ext_Table]; done) | (rw [ext_Table]; simp_all [str_eq]; done)
  · refine ⟨?_, trivial⟩
    · first | (rw [ext_Table]; done) | (rw [ext_Table]; simp_all [str_eq]; done)

set_option maxRecDepth 100000 in
set_option maxHeartbeats 4000000 in
theorem eqs_TableF (l m : List TableD) : Con Try.prog 76 [.one (.sl 90 3 (l.map eTable)), .one (.sl 90 3 (m.map eTable)), .fn 77 []] (vB (decide (l = m))) [] := by
  refine con_x tbOk mixedW Try.func76 (by kernel_rfl) (.len l.length <| .len m.length <| .br (.fin []) (.len l.length <| .loop Nat (Q1 Nat) [7, 8, 9, 17, 18, 19, 20, 21, 22, 23, 24, 25, 26, 27, 28, 29, 30, 31] [800, 900] (fun k => [(17, vI (k : Int))]) (fun k => []) (fun k => k ≤ l.length ∧ l.take k = m.take k) (fun k => l.length - k) (fun k => .br (.elem TableD eTable l (fun e20 => .elem TableD eTable m (fun e24 => .call (vB (decide (e20 = e24))) [] <| .br (.fin []) (.back [])))) (.fin [])))) ?_
  refine Eq.mpr (by kernel_rfl : _ = ((l.map eTable).length ≤ 9223372036854775807 → (m.map eTable).length ≤ 9223372036854775807 → (l.map eTable).length = l.length ∧ ((m.map eTable).length = m.length ∧ (((!(decide (((l.length : Nat) : Int) = ((m.length : Nat) : Int)))) = true → (false) = (decide (l = m)) ∧ True) ∧ ((!(decide (((l.length : Nat) : Int) = ((m.length : Nat) : Int)))) = false → (l.map eTable).length = l.length ∧ ((∃ (k : Nat), (0 : Int) = (k : Int) ∧ k ≤ l.length ∧ l.take k = m.take k) ∧ ∀ (k : Nat), (k ≤ l.length ∧ l.take k = m.take k) → ((decide ((k : Int) < ((l.length : Nat) : Int))) = true → 0 ≤ (k : Int) ∧ (l.map eTable = l.map eTable ∧ k < l.length ∧ ∀ e20, l[k]? = some e20 → 0 ≤ (k : Int) ∧ (m.map eTable = m.map eTable ∧ k < m.length ∧ ∀ e24, m[k]? = some e24 → Con Try.prog 77 [.agg [.str e20.name, .int .i64 e20.arity, .sl 72 1 (e20.rows.map eIntS)], .agg [.str e24.name, .int .i64 e24.arity, .sl 72 1 (e24.rows.map eIntS)]] (vB (decide (e20 = e24))) [] ∧ (((!(decide (e20 = e24))) = true → (false) = (decide (l = m)) ∧ True) ∧ ((!(decide (e20 = e24))) = false → inR ((k : Int) + (1 : Int)) ∧ ∃ (k' : Nat), ((k : Int) + (1 : Int)) = (k' : Int) ∧ (k' ≤ l.length ∧ l.take k' = m.take k') ∧ l.length - k' < l.length - k))))) ∧ ((decide ((k : Int) < ((l.length : Nat) : Int))) = false → (true) = (decide (l = m)) ∧ True))))))) ?_
  intro n0 n1
  simp only [List.length_map] at n0 n1
  refine ⟨List.length_map _, ?_⟩
  refine ⟨List.length_map _, ?_⟩
  refine ⟨fun c0 => ?_, fun c0 => ?_⟩
  · replace c0 := of_decide_eq_false (nt c0)
    refine ⟨?_, trivial⟩
    · first | (simp [ne_at hx hy hxy]; done) | (simp [ne_len c0]; done) | (simp [same_take (by omega) hl ht]; done)
  · replace c0 := of_decide_eq_true (nf c0)
    have hl : l.length = m.length := by omega
    refine ⟨List.length_map _, ?_⟩
    refine ⟨⟨0, rfl, Nat.zero_le _, rfl⟩, fun k ⟨hk, ht⟩ => ?_⟩
    refine ⟨fun c1 => ?_, fun c1 => ?_⟩
    · replace c1 := of_decide_eq_true c1
      obtain ⟨x, hx⟩ := at_some (l := l) (k := k) (by omega)
      obtain ⟨y, hy⟩ := at_some (l := m) (k := k) (by omega)
      refine ⟨by omega, ?_⟩
      refine ⟨rfl, by omega, fun e20 h20 => ?_⟩
      obtain rfl := (same_at hx h20).symm
      refine ⟨by omega, ?_⟩
      refine ⟨rfl, by omega, fun e24 h24 => ?_⟩
      obtain rfl := (same_at hy h24).symm
      refine ⟨eqTab_impl _ _, ?_⟩
      refine ⟨fun c2 => ?_, fun c2 => ?_⟩
      · replace c2 := of_decide_eq_false (nt c2)
        have hxy : ¬ x = y := by simpa using c2
        refine ⟨?_, trivial⟩
        · first | (simp [ne_at hx hy hxy]; done) | (simp [ne_len c0]; done) | (simp [same_take (by omega) hl ht]; done)
      · replace c2 := of_decide_eq_true (nf c2)
        have hxy : x = y := by simpa using c2
        refine ⟨⟨by omega, by omega⟩, ?_⟩
        exact ⟨k + 1, rfl, ⟨by omega, take_same hx (by rw [hy, hxy]) ht⟩, by omega⟩
    · replace c1 := of_decide_eq_false c1
      refine ⟨?_, trivial⟩
      · first | (simp [ne_at hx hy hxy]; done) | (simp [ne_len c0]; done) | (simp [same_take (by omega) hl ht]; done)

theorem ext_Database (a b : DatabaseD) : decide (a = b) = decide (a.tables = b.tables) := by
  obtain ⟨a0⟩ := a
  obtain ⟨b0⟩ := b
  simp [Bool.and_assoc]

set_option maxRecDepth 100000 in
set_option maxHeartbeats 4000000 in
theorem eqDb_impl (a b : DatabaseD) : Con Try.prog 42 [.agg [.sl 90 3 (a.tables.map eTable)], .agg [.sl 90 3 (b.tables.map eTable)]] (vB (decide (a = b))) [] := by
  refine con_x tbOk mixedW Try.func42 (by kernel_rfl) (.call (vB (decide (a.tables = b.tables))) [] <| .fin []) ?_
  refine Eq.mpr (by kernel_rfl : _ = ((a.tables.map eTable).length ≤ 9223372036854775807 → (b.tables.map eTable).length ≤ 9223372036854775807 → Con Try.prog 76 [.one (.sl 90 3 (a.tables.map eTable)), .one (.sl 90 3 (b.tables.map eTable)), .fn 77 []] (vB (decide (a.tables = b.tables))) [] ∧ (decide (a.tables = b.tables)) = (decide (a = b)) ∧ True)) ?_
  intro n0 n1
  simp only [List.length_map] at n0 n1
  refine ⟨eqs_TableF _ _, ?_⟩
  refine ⟨?_, trivial⟩
  · first | (rw [ext_Database]; done) | (rw [ext_Database]; simp_all [str_eq]; done)

theorem ext_Dependency (a b : DependencyD) : decide (a = b) = (decide (a.name = b.name) && (decide (a.src = b.src) && decide (a.dst = b.dst))) := by
  obtain ⟨a0, a1, a2⟩ := a
  obtain ⟨b0, b1, b2⟩ := b
  simp [Bool.and_assoc]

set_option maxRecDepth 100000 in
set_option maxHeartbeats 4000000 in
theorem eqDep_impl (a b : DependencyD) : Con Try.prog 44 [.agg [.str a.name, .sl 3 1 (a.src.map intD), .int .i64 a.dst], .agg [.str b.name, .sl 3 1 (b.src.map intD), .int .i64 b.dst]] (vB (decide (a = b))) [] := by
  refine con_x tbOk mixedW Try.func44 (by kernel_rfl) (.br (.call (vB (decide (a.src = b.src))) [] <| .lit <| .br (.fin []) (.fin [])) (.fin [])) ?_
  refine Eq.mpr (by kernel_rfl : _ = ((a.src.map intD).length ≤ 9223372036854775807 → (b.src.map intD).length ≤ 9223372036854775807 → ((a.name.toList == b.name.toList) = true → Con Try.prog 78 [.one (.sl 3 1 (a.src.map intD)), .one (.sl 3 1 (b.src.map intD))] (vB (decide (a.src = b.src))) [] ∧ (((decide (a.src = b.src)) = true → (decide (a.dst = b.dst)) = (decide (a = b)) ∧ True) ∧ ((decide (a.src = b.src)) = false → (false) = (decide (a = b)) ∧ True))) ∧ ((a.name.toList == b.name.toList) = false → (false) = (decide (a = b)) ∧ True))) ?_
  intro n0 n1
  simp only [List.length_map] at n0 n1
  refine ⟨fun g10 => ?_, fun g10 => ?_⟩
  · refine ⟨eqs_Int _ _, ?_⟩
    refine ⟨fun g17 => ?_, fun g17 => ?_⟩
    · replace g17 := of_decide_eq_true g17
      refine ⟨?_, trivial⟩
      · first | (rw [ext_Dependency]; done) | (rw [ext_Dependency]; simp_all [str_eq]; done)
    · replace g17 := of_decide_eq_false g17
      refine ⟨?_, trivial⟩
      · first | (rw [ext_Dependency]; done) | (rw [ext_Dependency]; simp_all [str_eq]; done)
  · refine ⟨?_, trivial⟩
    · first | (rw [ext_Dependency]; done) | (rw [ext_Dependency]; simp_all [str_eq]; done)

set_option maxRecDepth 100000 in
set_option maxHeartbeats 4000000 in
theorem eqs_DependencyF (l m : List DependencyD) : Con Try.prog 43 [.one (.sl 74 3 (l.map eDependency)), .one (.sl 74 3 (m.map eDependency)), .fn 44 []] (vB (decide (l = m))) [] := by
  refine con_x tbOk mixedW Try.func43 (by kernel_rfl) (.len l.length <| .len m.length <| .br (.fin []) (.len l.length <| .loop Nat (Q1 Nat) [7, 8, 9, 17, 18, 19, 20, 21, 22, 23, 24, 25, 26, 27, 28, 29, 30, 31] [800, 900] (fun k => [(17, vI (k : Int))]) (fun k => []) (fun k => k ≤ l.length ∧ l.take k = m.take k) (fun k => l.length - k) (fun k => .br (.elem DependencyD eDependency l (fun e20 => .elem DependencyD eDependency m (fun e24 => .call (vB (decide (e20 = e24))) [] <| .br (.fin []) (.back [])))) (.fin [])))) ?_
  refine Eq.mpr (by kernel_rfl : _ = ((l.map eDependency).length ≤ 9223372036854775807 → (m.map eDependency).length ≤ 9223372036854775807 → (l.map eDependency).length = l.length ∧ ((m.map eDependency).length = m.length ∧ (((!(decide (((l.length : Nat) : Int) = ((m.length : Nat) : Int)))) = true → (false) = (decide (l = m)) ∧ True) ∧ ((!(decide (((l.length : Nat) : Int) = ((m.length : Nat) : Int)))) = false → (l.map eDependency).length = l.length ∧ ((∃ (k : Nat), (0 : Int) = (k : Int) ∧ k ≤ l.length ∧ l.take k = m.take k) ∧ ∀ (k : Nat), (k ≤ l.length ∧ l.take k = m.take k) → ((decide ((k : Int) < ((l.length : Nat) : Int))) = true → 0 ≤ (k : Int) ∧ (l.map eDependency = l.map eDependency ∧ k < l.length ∧ ∀ e20, l[k]? = some e20 → 0 ≤ (k : Int) ∧ (m.map eDependency = m.map eDependency ∧ k < m.length ∧ ∀ e24, m[k]? = some e24 → Con Try.prog 44 [.agg [.str e20.name, .sl 3 1 (e20.src.map intD), .int .i64 e20.dst], .agg [.str e24.name, .sl 3 1 (e24.src.map intD), .int .i64 e24.dst]] (vB (decide (e20 = e24))) [] ∧ (((!(decide (e20 = e24))) = true → (false) = (decide (l = m)) ∧ True) ∧ ((!(decide (e20 = e24))) = false → inR ((k : Int) + (1 : Int)) ∧ ∃ (k' : Nat), ((k : Int) + (1 : Int)) = (k' : Int) ∧ (k' ≤ l.length ∧ l.take k' = m.take k') ∧ l.length - k' < l.length - k))))) ∧ ((decide ((k : Int) < ((l.length : Nat) : Int))) = false → (true) = (decide (l = m)) ∧ True))))))) ?_
  intro n0 n1
  simp only [List.length_map] at n0 n1
  refine ⟨List.length_map _, ?_⟩
  refine ⟨List.length_map _, ?_⟩
  refine ⟨fun c0 => ?_, fun c0 => ?_⟩
  · replace c0 := of_decide_eq_false (nt c0)
    refine ⟨?_, trivial⟩
    · first | (simp [ne_at hx hy hxy]; done) | (simp [ne_len c0]; done) | (simp [same_take (by omega) hl ht]; done)
  · replace c0 := of_decide_eq_true (nf c0)
    have hl : l.length = m.length := by omega
    refine ⟨List.length_map _, ?_⟩
    refine ⟨⟨0, rfl, Nat.zero_le _, rfl⟩, fun k ⟨hk, ht⟩ => ?_⟩
    refine ⟨fun c1 => ?_, fun c1 => ?_⟩
    · replace c1 := of_decide_eq_true c1
      obtain ⟨x, hx⟩ := at_some (l := l) (k := k) (by omega)
      obtain ⟨y, hy⟩ := at_some (l := m) (k := k) (by omega)
      refine ⟨by omega, ?_⟩
      refine ⟨rfl, by omega, fun e20 h20 => ?_⟩
      obtain rfl := (same_at hx h20).symm
      refine ⟨by omega, ?_⟩
      refine ⟨rfl, by omega, fun e24 h24 => ?_⟩
      obtain rfl := (same_at hy h24).symm
      refine ⟨eqDep_impl _ _, ?_⟩
      refine ⟨fun c2 => ?_, fun c2 => ?_⟩
      · replace c2 := of_decide_eq_false (nt c2)
        have hxy : ¬ x = y := by simpa using c2
        refine ⟨?_, trivial⟩
        · first | (simp [ne_at hx hy hxy]; done) | (simp [ne_len c0]; done) | (simp [same_take (by omega) hl ht]; done)
      · replace c2 := of_decide_eq_true (nf c2)
        have hxy : x = y := by simpa using c2
        refine ⟨⟨by omega, by omega⟩, ?_⟩
        exact ⟨k + 1, rfl, ⟨by omega, take_same hx (by rw [hy, hxy]) ht⟩, by omega⟩
    · replace c1 := of_decide_eq_false c1
      refine ⟨?_, trivial⟩
      · first | (simp [ne_at hx hy hxy]; done) | (simp [ne_len c0]; done) | (simp [same_take (by omega) hl ht]; done)

theorem ext_Inclusion (a b : InclusionD) : decide (a = b) = (decide (a.name = b.name) && (decide (a.column = b.column) && (decide (a.into = b.into) && decide (a.intoColumn = b.intoColumn)))) := by
  obtain ⟨a0, a1, a2, a3⟩ := a
  obtain ⟨b0, b1, b2, b3⟩ := b
  simp [Bool.and_assoc]

theorem inc_eq (x y : InclusionD) : ((x.name.toList == y.name.toList) && ((x.column == y.column) && ((x.into.toList == y.into.toList) && ((x.intoColumn == y.intoColumn) && true)))) = decide (x = y) := by
  rw [ext_Inclusion, str_eq, str_eq]
  simp [Bool.beq_eq_decide_eq]

set_option maxRecDepth 100000 in
set_option maxHeartbeats 4000000 in
theorem eqs_Inclusion (l m : List InclusionD) : Con Try.prog 45 [.one (.sl 77 4 (l.map eInclusion)), .one (.sl 77 4 (m.map eInclusion))] (vB (decide (l = m))) [] := by
  refine con_x tbOk mixedW Try.func45 (by kernel_rfl) (.len l.length <| .len m.length <| .br (.fin []) (.len l.length <| .loop Nat (Q1 Nat) [5, 13, 14, 15, 16, 17, 18, 19, 20, 21, 22, 23, 24, 25] [] (fun k => [(13, vI (k : Int))]) (fun k => []) (fun k => k ≤ l.length ∧ l.take k = m.take k) (fun k => l.length - k) (fun k => .br (.elem InclusionD eInclusion l (fun e18 => .elem InclusionD eInclusion m (fun e22 => .br (.fin []) (.back [])))) (.fin [])))) ?_
  refine Eq.mpr (by kernel_rfl : _ = ((l.map eInclusion).length ≤ 9223372036854775807 → (m.map eInclusion).length ≤ 9223372036854775807 → (l.map eInclusion).length = l.length ∧ ((m.map eInclusion).length = m.length ∧ (((!(decide (((l.length : Nat) : Int) = ((m.length : Nat) : Int)))) = true → (false) = (decide (l = m)) ∧ True) ∧ ((!(decide (((l.length : Nat) : Int) = ((m.length : Nat) : Int)))) = false → (l.map eInclusion).length = l.length ∧ ((∃ (k : Nat), (0 : Int) = (k : Int) ∧ k ≤ l.length ∧ l.take k = m.take k) ∧ ∀ (k : Nat), (k ≤ l.length ∧ l.take k = m.take k) → ((decide ((k : Int) < ((l.length : Nat) : Int))) = true → 0 ≤ (k : Int) ∧ (l.map eInclusion = l.map eInclusion ∧ k < l.length ∧ ∀ e18, l[k]? = some e18 → 0 ≤ (k : Int) ∧ (m.map eInclusion = m.map eInclusion ∧ k < m.length ∧ ∀ e22, m[k]? = some e22 → ((!((e18.name.toList == e22.name.toList) && ((e18.column == e22.column) && ((e18.into.toList == e22.into.toList) && ((e18.intoColumn == e22.intoColumn) && true))))) = true → (false) = (decide (l = m)) ∧ True) ∧ ((!((e18.name.toList == e22.name.toList) && ((e18.column == e22.column) && ((e18.into.toList == e22.into.toList) && ((e18.intoColumn == e22.intoColumn) && true))))) = false → inR ((k : Int) + (1 : Int)) ∧ ∃ (k' : Nat), ((k : Int) + (1 : Int)) = (k' : Int) ∧ (k' ≤ l.length ∧ l.take k' = m.take k') ∧ l.length - k' < l.length - k)))) ∧ ((decide ((k : Int) < ((l.length : Nat) : Int))) = false → (true) = (decide (l = m)) ∧ True))))))) ?_
  intro n0 n1
  simp only [List.length_map] at n0 n1
  refine ⟨List.length_map _, ?_⟩
  refine ⟨List.length_map _, ?_⟩
  refine ⟨fun c0 => ?_, fun c0 => ?_⟩
  · replace c0 := of_decide_eq_false (nt c0)
    refine ⟨?_, trivial⟩
    · first | (simp [ne_at hx hy hxy]; done) | (simp [ne_len c0]; done) | (simp [same_take (by omega) hl ht]; done)
  · replace c0 := of_decide_eq_true (nf c0)
    have hl : l.length = m.length := by omega
    refine ⟨List.length_map _, ?_⟩
    refine ⟨⟨0, rfl, Nat.zero_le _, rfl⟩, fun k ⟨hk, ht⟩ => ?_⟩
    refine ⟨fun c1 => ?_, fun c1 => ?_⟩
    · replace c1 := of_decide_eq_true c1
      obtain ⟨x, hx⟩ := at_some (l := l) (k := k) (by omega)
      obtain ⟨y, hy⟩ := at_some (l := m) (k := k) (by omega)
      refine ⟨by omega, ?_⟩
      refine ⟨rfl, by omega, fun e18 h18 => ?_⟩
      obtain rfl := (same_at hx h18).symm
      refine ⟨by omega, ?_⟩
      refine ⟨rfl, by omega, fun e22 h22 => ?_⟩
      obtain rfl := (same_at hy h22).symm
      refine ⟨fun c2 => ?_, fun c2 => ?_⟩
      · replace c2 := nt c2
        rw [inc_eq] at c2
        have hxy : ¬ x = y := by simpa using c2
        refine ⟨?_, trivial⟩
        · first | (simp [ne_at hx hy hxy]; done) | (simp [ne_len c0]; done) | (simp [same_take (by omega) hl ht]; done)
      · replace c2 := nf c2
        rw [inc_eq] at c2
        have hxy : x = y := by simpa using c2
        refine ⟨⟨by omega, by omega⟩, ?_⟩
        exact ⟨k + 1, rfl, ⟨by omega, take_same hx (by rw [hy, hxy]) ht⟩, by omega⟩
    · replace c1 := of_decide_eq_false c1
      refine ⟨?_, trivial⟩
      · first | (simp [ne_at hx hy hxy]; done) | (simp [ne_len c0]; done) | (simp [same_take (by omega) hl ht]; done)

theorem ext_Store (a b : StoreD) : decide (a = b) = (decide (a.database = b.database) && (decide (a.catalogue = b.catalogue) && (decide (a.dependencies = b.dependencies) && decide (a.inclusions = b.inclusions)))) := by
  obtain ⟨a0, a1, a2, a3⟩ := a
  obtain ⟨b0, b1, b2, b3⟩ := b
  simp [Bool.and_assoc]

set_option maxRecDepth 100000 in
set_option maxHeartbeats 4000000 in
theorem eqStore_impl (a b : StoreD) : Con Try.prog 15 [.agg [.sl 90 3 (a.database.tables.map eTable), .int .i64 a.catalogue.version, .sl 60 4 (a.catalogue.tables.map eTableStats), .sl 74 3 (a.dependencies.map eDependency), .sl 77 4 (a.inclusions.map eInclusion)], .agg [.sl 90 3 (b.database.tables.map eTable), .int .i64 b.catalogue.version, .sl 60 4 (b.catalogue.tables.map eTableStats), .sl 74 3 (b.dependencies.map eDependency), .sl 77 4 (b.inclusions.map eInclusion)]] (vB (decide (a = b))) [] := by
  refine con_x tbOk mixedW Try.func15 (by kernel_rfl) (.call (vB (decide (a.database = b.database))) [] <| .br (.call (vB (decide (a.catalogue = b.catalogue))) [] <| .lit <| .br (.call (vB (decide (a.dependencies = b.dependencies))) [] <| .lit <| .br (.call (vB (decide (a.inclusions = b.inclusions))) [] <| .fin []) (.fin [])) (.fin [])) (.fin [])) ?_
  refine Eq.mpr (by kernel_rfl : _ = ((a.database.tables.map eTable).length ≤ 9223372036854775807 → (a.catalogue.tables.map eTableStats).length ≤ 9223372036854775807 → (a.dependencies.map eDependency).length ≤ 9223372036854775807 → (a.inclusions.map eInclusion).length ≤ 9223372036854775807 → (b.database.tables.map eTable).length ≤ 9223372036854775807 → (b.catalogue.tables.map eTableStats).length ≤ 9223372036854775807 → (b.dependencies.map eDependency).length ≤ 9223372036854775807 → (b.inclusions.map eInclusion).length ≤ 9223372036854775807 → Con Try.prog 42 [.agg [.sl 90 3 (a.database.tables.map eTable)], .agg [.sl 90 3 (b.database.tables.map eTable)]] (vB (decide (a.database = b.database))) [] ∧ (((decide (a.database = b.database)) = true → Con Try.prog 10 [.agg [.int .i64 a.catalogue.version, .sl 60 4 (a.catalogue.tables.map eTableStats)], .agg [.int .i64 b.catalogue.version, .sl 60 4 (b.catalogue.tables.map eTableStats)]] (vB (decide (a.catalogue = b.catalogue))) [] ∧ (((decide (a.catalogue = b.catalogue)) = true → Con Try.prog 43 [.one (.sl 74 3 (a.dependencies.map eDependency)), .one (.sl 74 3 (b.dependencies.map eDependency)), .fn 44 []] (vB (decide (a.dependencies = b.dependencies))) [] ∧ (((decide (a.dependencies = b.dependencies)) = true → Con Try.prog 45 [.one (.sl 77 4 (a.inclusions.map eInclusion)), .one (.sl 77 4 (b.inclusions.map eInclusion))] (vB (decide (a.inclusions = b.inclusions))) [] ∧ (decide (a.inclusions = b.inclusions)) = (decide (a = b)) ∧ True) ∧ ((decide (a.dependencies = b.dependencies)) = false → (false) = (decide (a = b)) ∧ True))) ∧ ((decide (a.catalogue = b.catalogue)) = false → (false) = (decide (a = b)) ∧ True))) ∧ ((decide (a.database = b.database)) = false → (false) = (decide (a = b)) ∧ True)))) ?_
  intro n0 n1 n2 n3 n4 n5 n6 n7
  simp only [List.length_map] at n0 n1 n2 n3 n4 n5 n6 n7
  refine ⟨eqDb_impl _ _, ?_⟩
  refine ⟨fun g10 => ?_, fun g10 => ?_⟩
  · replace g10 := of_decide_eq_true g10
    refine ⟨eqCat_impl _ _, ?_⟩
    refine ⟨fun g17 => ?_, fun g17 => ?_⟩
    · replace g17 := of_decide_eq_true g17
      refine ⟨eqs_DependencyF _ _, ?_⟩
      refine ⟨fun g24 => ?_, fun g24 => ?_⟩
      · replace g24 := of_decide_eq_true g24
        refine ⟨eqs_Inclusion _ _, ?_⟩
        refine ⟨?_, trivial⟩
        · first | (rw [ext_Store]; done) | (rw [ext_Store]; simp_all [str_eq]; done)
      · replace g24 := of_decide_eq_false g24
        refine ⟨?_, trivial⟩
        · first | (rw [ext_Store]; done) | (rw [ext_Store]; simp_all [str_eq]; done)
    · replace g17 := of_decide_eq_false g17
      refine ⟨?_, trivial⟩
      · first | (rw [ext_Store]; done) | (rw [ext_Store]; simp_all [str_eq]; done)
  · replace g10 := of_decide_eq_false g10
    refine ⟨?_, trivial⟩
    · first | (rw [ext_Store]; done) | (rw [ext_Store]; simp_all [str_eq]; done)
end Go.Proofs.Ytjlagjhmlmfjeaa
