/-
  Equality of catalogues, the program's.
-/
import Derived.Test.YtjlagjhmlmfjeaaGreatDa
import Derived.Laws.Strings
namespace Go.Proofs.YtjlagjhmlmfjeaaGreat
open Go.ChangeShapes Go.WideShapes Go.ChangeAt Go.RowKit
set_option linter.unusedVariables false
set_option linter.unusedSimpArgs false
theorem str_eq (s t : ByteArray) : (s.toList == t.toList) = decide (s = t) := by
  rw [ByteArray.toList_eq, ByteArray.toList_eq]
  by_cases h : s = t
  · simp [h]
  · have : ¬ s.data.toList = t.data.toList := fun e => h (by cases s; cases t; simp at e; simp [e])
    simp only [h, decide_false, beq_eq_false_iff_ne]
    exact this
theorem take_same {α : Type} {l m : List α} {k : Nat} {x : α} (h : l[k]? = some x) (h' : m[k]? = some x) (e : l.take k = m.take k) : l.take (k + 1) = m.take (k + 1) := by rw [take_snoc h, take_snoc h', e]
theorem ne_at {α : Type} {l m : List α} {k : Nat} {x y : α} (h : l[k]? = some x) (h' : m[k]? = some y) (e : ¬ x = y) : ¬ l = m := by
  rintro rfl
  rw [h] at h'
  exact e (by injection h')
theorem ne_len {α : Type} {l m : List α} (h : ¬ (l.length : Int) = m.length) : ¬ l = m := fun e => h (by rw [e])
theorem same_take {α : Type} {l m : List α} {k : Nat} (hk : l.length ≤ k) (hl : l.length = m.length) (e : l.take k = m.take k) : l = m := by rwa [List.take_of_length_le hk, List.take_of_length_le (by omega)] at e

set_option maxRecDepth 100000 in
set_option maxHeartbeats 4000000 in
theorem eqs_Int (l m : List Int) : Con Tryz.prog 180 [.one (.sl 3 1 (l.map intD)), .one (.sl 3 1 (m.map intD))] (vB (decide (l = m))) [] := by
  refine con_x tbOk mixedW Tryz.func180 (by kernel_rfl) (.len l.length <| .len m.length <| .br (.fin []) (.len l.length <| .loop Nat (Q1 Nat) [5, 13, 14, 15, 16, 17, 18, 19, 20, 21, 22, 23, 24, 25] [] (fun k => [(13, vI (k : Int))]) (fun k => []) (fun k => k ≤ l.length ∧ l.take k = m.take k) (fun k => l.length - k) (fun k => .br (.elem Int intD l (fun e18 => .elem Int intD m (fun e22 => .br (.fin []) (.back [])))) (.fin [])))) ?_
  refine Eq.mpr (by kernel_rfl : _ = ((l.map intD).length ≤ 9223372036854775807 → (m.map intD).length ≤ 9223372036854775807 → (l.map intD).length = l.length ∧ ((m.map intD).length = m.length ∧ (((!(decide (((l.length : Nat) : Int) = ((m.length : Nat) : Int)))) = true → (false) = (decide (l = m)) ∧ True) ∧ ((!(decide (((l.length : Nat) : Int) = ((m.length : Nat) : Int)))) = false → (l.map intD).length = l.length ∧ ((∃ (k : Nat), (0 : Int) = (k : Int) ∧ k ≤ l.length ∧ l.take k = m.take k) ∧ ∀ (k : Nat), (k ≤ l.length ∧ l.take k = m.take k) → ((decide ((k : Int) < ((l.length : Nat) : Int))) = true → 0 ≤ (k : Int) ∧ (l.map intD = l.map intD ∧ k < l.length ∧ ∀ e18, l[k]? = some e18 → 0 ≤ (k : Int) ∧ (m.map intD = m.map intD ∧ k < m.length ∧ ∀ e22, m[k]? = some e22 → ((!(decide (e18 = e22))) = true → (false) = (decide (l = m)) ∧ True) ∧ ((!(decide (e18 = e22))) = false → inR ((k : Int) + (1 : Int)) ∧ ∃ (k' : Nat), ((k : Int) + (1 : Int)) = (k' : Int) ∧ (k' ≤ l.length ∧ l.take k' = m.take k') ∧ l.length - k' < l.length - k)))) ∧ ((decide ((k : Int) < ((l.length : Nat) : Int))) = false → (true) = (decide (l = m)) ∧ True))))))) ?_
  intro n0 n1
  simp only [List.length_map] at n0 n1
  refine ⟨List.length_map _, ?_⟩
  refine ⟨List.length_map _, ?_⟩
  refine ⟨fun c0 => ?_, fun c0 => ?_⟩
  · replace c0 := of_decide_eq_false (nt c0)
    refine ⟨?_, trivial⟩
    · first | (simp [ne_at hx hy hxy]; done) | (simp [ne_len c0]; done) | (simp [same_take (by omega) hl ht]; done)
  · replace c0 := of_decide_eq_true (nf c0)
    have hl : l.length = m.length := by omega
    refine ⟨List.length_map _, ?_⟩
    refine ⟨⟨0, rfl, Nat.zero_le _, rfl⟩, fun k ⟨hk, ht⟩ => ?_⟩
    refine ⟨fun c1 => ?_, fun c1 => ?_⟩
    · replace c1 := of_decide_eq_true c1
      obtain ⟨x, hx⟩ := at_some (l := l) (k := k) (by omega)
      obtain ⟨y, hy⟩ := at_some (l := m) (k := k) (by omega)
      refine ⟨by omega, ?_⟩
      refine ⟨rfl, by omega, fun e18 h18 => ?_⟩
      obtain rfl := (same_at hx h18).symm
      refine ⟨by omega, ?_⟩
      refine ⟨rfl, by omega, fun e22 h22 => ?_⟩
      obtain rfl := (same_at hy h22).symm
      refine ⟨fun c2 => ?_, fun c2 => ?_⟩
      · replace c2 := of_decide_eq_false (nt c2)
        have hxy : ¬ x = y := by simpa using c2
        refine ⟨?_, trivial⟩
        · first | (simp [ne_at hx hy hxy]; done) | (simp [ne_len c0]; done) | (simp [same_take (by omega) hl ht]; done)
      · replace c2 := of_decide_eq_true (nf c2)
        have hxy : x = y := by simpa using c2
        refine ⟨⟨by omega, by omega⟩, ?_⟩
        exact ⟨k + 1, rfl, ⟨by omega, take_same hx (by rw [hy, hxy]) ht⟩, by omega⟩
    · replace c1 := of_decide_eq_false c1
      refine ⟨?_, trivial⟩
      · first | (simp [ne_at hx hy hxy]; done) | (simp [ne_len c0]; done) | (simp [same_take (by omega) hl ht]; done)

set_option maxRecDepth 100000 in
set_option maxHeartbeats 4000000 in
theorem eqr1 (l m : List Int) : Con Tryz.prog 217 [.one (.sl 3 1 (l.map intD)), .one (.sl 3 1 (m.map intD))] (vB (decide (l = m))) [] := by
  refine con_x tbOk mixedW Tryz.func217 (by kernel_rfl) (.call (vB (decide (l = m))) [] <| .fin []) ?_
  refine Eq.mpr (by kernel_rfl : _ = ((l.map intD).length ≤ 9223372036854775807 → (m.map intD).length ≤ 9223372036854775807 → Con Tryz.prog 180 [.one (.sl 3 1 (l.map intD)), .one (.sl 3 1 (m.map intD))] (vB (decide (l = m))) [] ∧ (decide (l = m)) = (decide (l = m)) ∧ True)) ?_
  intro n0 n1
  simp only [List.length_map] at n0 n1
  refine ⟨eqs_Int _ _, ?_⟩
  refine ⟨?_, trivial⟩
  · rfl

set_option maxRecDepth 100000 in
set_option maxHeartbeats 4000000 in
theorem eqs_IntSF (l m : List (List Int)) : Con Tryz.prog 216 [.one (.sl 25 1 (l.map eIntS)), .one (.sl 25 1 (m.map eIntS)), .fn 217 []] (vB (decide (l = m))) [] := by
  refine con_x tbOk mixedW Tryz.func216 (by kernel_rfl) (.len l.length <| .len m.length <| .br (.fin []) (.len l.length <| .loop Nat (Q1 Nat) [7, 8, 9, 17, 18, 19, 20, 21, 22, 23, 24, 25, 26, 27, 28, 29, 30, 31] [] (fun k => [(17, vI (k : Int))]) (fun k => []) (fun k => k ≤ l.length ∧ l.take k = m.take k) (fun k => l.length - k) (fun k => .br (.elem (List Int) eIntS l (fun e20 => .elem (List Int) eIntS m (fun e24 => .call (vB (decide (e20 = e24))) [] <| .br (.fin []) (.back [])))) (.fin [])))) ?_
  refine Eq.mpr (by kernel_rfl : _ = ((l.map eIntS).length ≤ 9223372036854775807 → (m.map eIntS).length ≤ 9223372036854775807 → (l.map eIntS).length = l.length ∧ ((m.map eIntS).length = m.length ∧ (((!(decide (((l.length : Nat) : Int) = ((m.length : Nat) : Int)))) = true → (false) = (decide (l = m)) ∧ True) ∧ ((!(decide (((l.length : Nat) : Int) = ((m.length : Nat) : Int)))) = false → (l.map eIntS).length = l.length ∧ ((∃ (k : Nat), (0 : Int) = (k : Int) ∧ k ≤ l.length ∧ l.take k = m.take k) ∧ ∀ (k : Nat), (k ≤ l.length ∧ l.take k = m.take k) → ((decide ((k : Int) < ((l.length : Nat) : Int))) = true → 0 ≤ (k : Int) ∧ (l.map eIntS = l.map eIntS ∧ k < l.length ∧ ∀ e20, l[k]? = some e20 → 0 ≤ (k : Int) ∧ (m.map eIntS = m.map eIntS ∧ k < m.length ∧ ∀ e24, m[k]? = some e24 → Con Tryz.prog 217 [.one (.sl 3 1 (e20.map intD)), .one (.sl 3 1 (e24.map intD))] (vB (decide (e20 = e24))) [] ∧ (((!(decide (e20 = e24))) = true → (false) = (decide (l = m)) ∧ True) ∧ ((!(decide (e20 = e24))) = false → inR ((k : Int) + (1 : Int)) ∧ ∃ (k' : Nat), ((k : Int) + (1 : Int)) = (k' : Int) ∧ (k' ≤ l.length ∧ l.take k' = m.take k') ∧ l.length - k' < l.length - k))))) ∧ ((decide ((k : Int) < ((l.length : Nat) : Int))) = false → (true) = (decide (l = m)) ∧ True))))))) ?_
  intro n0 n1
  simp only [List.length_map] at n0 n1
  refine ⟨List.length_map _, ?_⟩
  refine ⟨List.length_map _, ?_⟩
  refine ⟨fun c0 => ?_, fun c0 => ?_⟩
  · replace c0 := of_decide_eq_false (nt c0)
    refine ⟨?_, trivial⟩
    · first | (simp [ne_at hx hy hxy]; done) | (simp [ne_len c0]; done) | (simp [same_take (by omega) hl ht]; done)
  · replace c0 := of_decide_eq_true (nf c0)
    have hl : l.length = m.length := by omega
    refine ⟨List.length_map _, ?_⟩
    refine ⟨⟨0, rfl, Nat.zero_le _, rfl⟩, fun k ⟨hk, ht⟩ => ?_⟩
    refine ⟨fun c1 => ?_, fun c1 => ?_⟩
    · replace c1 := of_decide_eq_true c1
      obtain ⟨x, hx⟩ := at_some (l := l) (k := k) (by omega)
      obtain ⟨y, hy⟩ := at_some (l := m) (k := k) (by omega)
      refine ⟨by omega, ?_⟩
      refine ⟨rfl, by omega, fun e20 h20 => ?_⟩
      obtain rfl := (same_at hx h20).symm
      refine ⟨by omega, ?_⟩
      refine ⟨rfl, by omega, fun e24 h24 => ?_⟩
      obtain rfl := (same_at hy h24).symm
      refine ⟨eqr1 _ _, ?_⟩
      refine ⟨fun c2 => ?_, fun c2 => ?_⟩
      · replace c2 := of_decide_eq_false (nt c2)
        have hxy : ¬ x = y := by simpa using c2
        refine ⟨?_, trivial⟩
        · first | (simp [ne_at hx hy hxy]; done) | (simp [ne_len c0]; done) | (simp [same_take (by omega) hl ht]; done)
      · replace c2 := of_decide_eq_true (nf c2)
        have hxy : x = y := by simpa using c2
        refine ⟨⟨by omega, by omega⟩, ?_⟩
        exact ⟨k + 1, rfl, ⟨by omega, take_same hx (by rw [hy, hxy]) ht⟩, by omega⟩
    · replace c1 := of_decide_eq_false c1
      refine ⟨?_, trivial⟩
      · first | (simp [ne_at hx hy hxy]; done) | (simp [ne_len c0]; done) | (simp [same_take (by omega) hl ht]; done)

set_option maxRecDepth 100000 in
set_option maxHeartbeats 4000000 in
theorem eqRows_impl (l m : List (List Int)) : Con Tryz.prog 197 [.one (.sl 25 1 (l.map eIntS)), .one (.sl 25 1 (m.map eIntS))] (vB (decide (l = m))) [] := by
  refine con_x tbOk mixedW Tryz.func197 (by kernel_rfl) (.call (vB (decide (l = m))) [] <| .fin []) ?_
  refine Eq.mpr (by kernel_rfl : _ = ((l.map eIntS).length ≤ 9223372036854775807 → (m.map eIntS).length ≤ 9223372036854775807 → Con Tryz.prog 216 [.one (.sl 25 1 (l.map eIntS)), .one (.sl 25 1 (m.map eIntS)), .fn 217 []] (vB (decide (l = m))) [] ∧ (decide (l = m)) = (decide (l = m)) ∧ True)) ?_
  intro n0 n1
  simp only [List.length_map] at n0 n1
  refine ⟨eqs_IntSF _ _, ?_⟩
  refine ⟨?_, trivial⟩
  · rfl

theorem ext_GroupStats (a b : GroupStatsD) : decide (a = b) = (decide (a.columns = b.columns) && (decide (a.values = b.values) && decide (a.counts = b.counts))) := by
  obtain ⟨a0, a1, a2⟩ := a
  obtain ⟨b0, b1, b2⟩ := b
  simp [Bool.and_assoc]

set_option maxRecDepth 100000 in
set_option maxHeartbeats 4000000 in
theorem eqGroups (a b : GroupStatsD) : Con Tryz.prog 177 [.agg [.sl 3 1 (a.columns.map intD), .sl 25 1 (a.values.map eIntS), .sl 3 1 (a.counts.map intD)], .agg [.sl 3 1 (b.columns.map intD), .sl 25 1 (b.values.map eIntS), .sl 3 1 (b.counts.map intD)]] (vB (decide (a = b))) [] := by
  refine con_x tbOk mixedW Tryz.func177 (by kernel_rfl) (.call (vB (decide (a.columns = b.columns))) [] <| .br (.call (vB (decide (a.values = b.values))) [] <| .lit <| .br (.call (vB (decide (a.counts = b.counts))) [] <| .fin []) (.fin [])) (.fin [])) ?_
  refine Eq.mpr (by kernel_rfl : _ = ((a.columns.map intD).length ≤ 9223372036854775807 → (a.values.map eIntS).length ≤ 9223372036854775807 → (a.counts.map intD).length ≤ 9223372036854775807 → (b.columns.map intD).length ≤ 9223372036854775807 → (b.values.map eIntS).length ≤ 9223372036854775807 → (b.counts.map intD).length ≤ 9223372036854775807 → Con Tryz.prog 180 [.one (.sl 3 1 (a.columns.map intD)), .one (.sl 3 1 (b.columns.map intD))] (vB (decide (a.columns = b.columns))) [] ∧ (((decide (a.columns = b.columns)) = true → Con Tryz.prog 197 [.one (.sl 25 1 (a.values.map eIntS)), .one (.sl 25 1 (b.values.map eIntS))] (vB (decide (a.values = b.values))) [] ∧ (((decide (a.values = b.values)) = true → Con Tryz.prog 180 [.one (.sl 3 1 (a.counts.map intD)), .one (.sl 3 1 (b.counts.map intD))] (vB (decide (a.counts = b.counts))) [] ∧ (decide (a.counts = b.counts)) = (decide (a = b)) ∧ True) ∧ ((decide (a.values = b.values)) = false → (false) = (decide (a = b)) ∧ True))) ∧ ((decide (a.columns = b.columns)) = false → (false) = (decide (a = b)) ∧ True)))) ?_
  intro n0 n1 n2 n3 n4 n5
  simp only [List.length_map] at n0 n1 n2 n3 n4 n5
  refine ⟨eqs_Int _ _, ?_⟩
  refine ⟨fun g10 => ?_, fun g10 => ?_⟩
  · replace g10 := of_decide_eq_true g10
    refine ⟨eqRows_impl _ _, ?_⟩
    refine ⟨fun g17 => ?_, fun g17 => ?_⟩
    · replace g17 := of_decide_eq_true g17
      refine ⟨eqs_Int _ _, ?_⟩
      refine ⟨?_, trivial⟩
      · first | (rw [ext_GroupStats]; done) | (rw [ext_GroupStats]; simp_all [str_eq]; done)
    · replace g17 := of_decide_eq_false g17
      refine ⟨?_, trivial⟩
      · first | (rw [ext_GroupStats]; done) | (rw [ext_GroupStats]; simp_all [str_eq]; done)
  · replace g10 := of_decide_eq_false g10
    refine ⟨?_, trivial⟩
    · first | (rw [ext_GroupStats]; done) | (rw [ext_GroupStats]; simp_all [str_eq]; done)

set_option maxRecDepth 100000 in
set_option maxHeartbeats 4000000 in
theorem eqs_GroupStatsF (l m : List GroupStatsD) : Con Tryz.prog 176 [.one (.sl 157 3 (l.map eGroupStats)), .one (.sl 157 3 (m.map eGroupStats)), .fn 177 []] (vB (decide (l = m))) [] := by
  refine con_x tbOk mixedW Tryz.func176 (by kernel_rfl) (.len l.length <| .len m.length <| .br (.fin []) (.len l.length <| .loop Nat (Q1 Nat) [7, 8, 9, 17, 18, 19, 20, 21, 22, 23, 24, 25, 26, 27, 28, 29, 30, 31] [800, 900] (fun k => [(17, vI (k : Int))]) (fun k => []) (fun k => k ≤ l.length ∧ l.take k = m.take k) (fun k => l.length - k) (fun k => .br (.elem GroupStatsD eGroupStats l (fun e20 => .elem GroupStatsD eGroupStats m (fun e24 => .call (vB (decide (e20 = e24))) [] <| .br (.fin []) (.back [])))) (.fin [])))) ?_
  refine Eq.mpr (by kernel_rfl : _ = ((l.map eGroupStats).length ≤ 9223372036854775807 → (m.map eGroupStats).length ≤ 9223372036854775807 → (l.map eGroupStats).length = l.length ∧ ((m.map eGroupStats).length = m.length ∧ (((!(decide (((l.length : Nat) : Int) = ((m.length : Nat) : Int)))) = true → (false) = (decide (l = m)) ∧ True) ∧ ((!(decide (((l.length : Nat) : Int) = ((m.length : Nat) : Int)))) = false → (l.map eGroupStats).length = l.length ∧ ((∃ (k : Nat), (0 : Int) = (k : Int) ∧ k ≤ l.length ∧ l.take k = m.take k) ∧ ∀ (k : Nat), (k ≤ l.length ∧ l.take k = m.take k) → ((decide ((k : Int) < ((l.length : Nat) : Int))) = true → 0 ≤ (k : Int) ∧ (l.map eGroupStats = l.map eGroupStats ∧ k < l.length ∧ ∀ e20, l[k]? = some e20 → 0 ≤ (k : Int) ∧ (m.map eGroupStats = m.map eGroupStats ∧ k < m.length ∧ ∀ e24, m[k]? = some e24 → Con Tryz.prog 177 [.agg [.sl 3 1 (e20.columns.map intD), .sl 25 1 (e20.values.map eIntS), .sl 3 1 (e20.counts.map intD)], .agg [.sl 3 1 (e24.columns.map intD), .sl 25 1 (e24.values.map eIntS), .sl 3 1 (e24.counts.map intD)]] (vB (decide (e20 = e24))) [] ∧ (((!(decide (e20 = e24))) = true → (false) = (decide (l = m)) ∧ True) ∧ ((!(decide (e20 = e24))) = false → inR ((k : Int) + (1 : Int)) ∧ ∃ (k' : Nat), ((k : Int) + (1 : Int)) = (k' : Int) ∧ (k' ≤ l.length ∧ l.take k' = m.take k') ∧ l.length - k' < l.length - k))))) ∧ ((decide ((k : Int) < ((l.length : Nat) : Int))) = false → (true) = (decide (l = m)) ∧ True))))))) ?_
  intro n0 n1
  simp only [List.length_map] at n0 n1
  refine ⟨List.length_map _, ?_⟩
  refine ⟨List.length_map _, ?_⟩
  refine ⟨fun c0 => ?_, fun c0 => ?_⟩
  · replace c0 := of_decide_eq_false (nt c0)
    refine ⟨?_, trivial⟩
    · first | (simp [ne_at hx hy hxy]; done) | (simp [ne_len c0]; done) | (simp [same_take (by omega) hl ht]; done)
  · replace c0 := of_decide_eq_true (nf c0)
    have hl : l.length = m.length := by omega
    refine ⟨List.length_map _, ?_⟩
    refine ⟨⟨0, rfl, Nat.zero_le _, rfl⟩, fun k ⟨hk, ht⟩ => ?_⟩
    refine ⟨fun c1 => ?_, fun c1 => ?_⟩
    · replace c1 := of_decide_eq_true c1
      obtain ⟨x, hx⟩ := at_some (l := l) (k := k) (by omega)
      obtain ⟨y, hy⟩ := at_some (l := m) (k := k) (by omega)
      refine ⟨by omega, ?_⟩
      refine ⟨rfl, by omega, fun e20 h20 => ?_⟩
      obtain rfl := (same_at hx h20).symm
      refine ⟨by omega, ?_⟩
      refine ⟨rfl, by omega, fun e24 h24 => ?_⟩
      obtain rfl := (same_at hy h24).symm
      refine ⟨eqGroups _ _, ?_⟩
      refine ⟨fun c2 => ?_, fun c2 => ?_⟩
      · replace c2 := of_decide_eq_false (nt c2)
        have hxy : ¬ x = y := by simpa using c2
        refine ⟨?_, trivial⟩
        · first | (simp [ne_at hx hy hxy]; done) | (simp [ne_len c0]; done) | (simp [same_take (by omega) hl ht]; done)
      · replace c2 := of_decide_eq_true (nf c2)
        have hxy : x = y := by simpa using c2
        refine ⟨⟨by omega, by omega⟩, ?_⟩
        exact ⟨k + 1, rfl, ⟨by omega, take_same hx (by rw [hy, hxy]) ht⟩, by omega⟩
    · replace c1 := of_decide_eq_false c1
      refine ⟨?_, trivial⟩
      · first | (simp [ne_at hx hy hxy]; done) | (simp [ne_len c0]; done) | (simp [same_take (by omega) hl ht]; done)

theorem ext_TableStats (a b : TableStatsD) : decide (a = b) = (decide (a.name = b.name) && (decide (a.arity = b.arity) && (decide (a.rowCount = b.rowCount) && decide (a.groups = b.groups)))) := by
  obtain ⟨a0, a1, a2, a3⟩ := a
  obtain ⟨b0, b1, b2, b3⟩ := b
  simp [Bool.and_assoc]

set_option maxRecDepth 100000 in
set_option maxHeartbeats 4000000 in
theorem eqStats_impl (a b : TableStatsD) : Con Tryz.prog 132 [.agg [.str a.name, .int .i64 a.arity, .int .i64 a.rowCount, .sl 157 3 (a.groups.map eGroupStats)], .agg [.str b.name, .int .i64 b.arity, .int .i64 b.rowCount, .sl 157 3 (b.groups.map eGroupStats)]] (vB (decide (a = b))) [] := by
  refine con_x tbOk mixedW Tryz.func132 (by kernel_rfl) (.br (.lit <| .lit <| .lit <| .lit <| .lit <| .br (.lit <| .lit <| .lit <| .lit <| .lit <| .br (.call (vB (decide (a.groups = b.groups))) [] <| .fin []) (.fin [])) (.fin [])) (.fin [])) ?_
  refine Eq.mpr (by kernel_rfl : _ = ((a.groups.map eGroupStats).length ≤ 9223372036854775807 → (b.groups.map eGroupStats).length ≤ 9223372036854775807 → ((a.name.toList == b.name.toList) = true → ((decide (a.arity = b.arity)) = true → ((decide (a.rowCount = b.rowCount)) = true → Con Tryz.prog 176 [.one (.sl 157 3 (a.groups.map eGroupStats)), .one (.sl 157 3 (b.groups.map eGroupStats)), .fn 177 []] (vB (decide (a.groups = b.groups))) [] ∧ (decide (a.groups = b.groups)) = (decide (a = b)) ∧ True) ∧ ((decide (a.rowCount = b.rowCount)) = false → (false) = (decide (a = b)) ∧ True)) ∧ ((decide (a.arity = b.arity)) = false → (false) = (decide (a = b)) ∧ True)) ∧ ((a.name.toList == b.name.toList) = false → (false) = (decide (a = b)) ∧ True))) ?_
  intro n0 n1
  simp only [List.length_map] at n0 n1
  refine ⟨fun g10 => ?_, fun g10 => ?_⟩
  · refine ⟨fun g17 => ?_, fun g17 => ?_⟩
    · replace g17 := of_decide_eq_true g17
      refine ⟨fun g24 => ?_, fun g24 => ?_⟩
      · replace g24 := of_decide_eq_true g24
        refine ⟨eqs_GroupStatsF _ _, ?_⟩
        refine ⟨?_, trivial⟩
        · first | (rw [ext_TableStats]; done) | (rw [ext_TableStats]; simp_all [str_eq]; done)
      · replace g24 := of_decide_eq_false g24
        refine ⟨?_, trivial⟩
        · first | (rw [ext_TableStats]; done) | (rw [ext_TableStats]; simp_all [str_eq]; done)
    · replace g17 := of_decide_eq_false g17
      refine ⟨?_, trivial⟩
      · first | (rw [ext_TableStats]; done) | (rw [ext_TableStats]; simp_all [str_eq]; done)
  · refine ⟨?_, trivial⟩
    · first | (rw [ext_TableStats]; done) | (rw [ext_TableStats]; simp_all [str_eq]; done)

set_option maxRecDepth 100000 in
set_option maxHeartbeats 4000000 in
theorem eqs_TableStatsF (l m : List TableStatsD) : Con Tryz.prog 156 [.one (.sl 32 4 (l.map eTableStats)), .one (.sl 32 4 (m.map eTableStats)), .fn 132 []] (vB (decide (l = m))) [] := by
  refine con_x tbOk mixedW Tryz.func156 (by kernel_rfl) (.len l.length <| .len m.length <| .br (.fin []) (.len l.length <| .loop Nat (Q1 Nat) [7, 8, 9, 17, 18, 19, 20, 21, 22, 23, 24, 25, 26, 27, 28, 29, 30, 31] [800, 900] (fun k => [(17, vI (k : Int))]) (fun k => []) (fun k => k ≤ l.length ∧ l.take k = m.take k) (fun k => l.length - k) (fun k => .br (.elem TableStatsD eTableStats l (fun e20 => .elem TableStatsD eTableStats m (fun e24 => .call (vB (decide (e20 = e24))) [] <| .br (.fin []) (.back [])))) (.fin [])))) ?_
  refine Eq.mpr (by kernel_rfl : _ = ((l.map eTableStats).length ≤ 9223372036854775807 → (m.map eTableStats).length ≤ 9223372036854775807 → (l.map eTableStats).length = l.length ∧ ((m.map eTableStats).length = m.length ∧ (((!(decide (((l.length : Nat) : Int) = ((m.length : Nat) : Int)))) = true → (false) = (decide (l = m)) ∧ True) ∧ ((!(decide (((l.length : Nat) : Int) = ((m.length : Nat) : Int)))) = false → (l.map eTableStats).length = l.length ∧ ((∃ (k : Nat), (0 : Int) = (k : Int) ∧ k ≤ l.length ∧ l.take k = m.take k) ∧ ∀ (k : Nat), (k ≤ l.length ∧ l.take k = m.take k) → ((decide ((k : Int) < ((l.length : Nat) : Int))) = true → 0 ≤ (k : Int) ∧ (l.map eTableStats = l.map eTableStats ∧ k < l.length ∧ ∀ e20, l[k]? = some e20 → 0 ≤ (k : Int) ∧ (m.map eTableStats = m.map eTableStats ∧ k < m.length ∧ ∀ e24, m[k]? = some e24 → Con Tryz.prog 132 [.agg [.str e20.name, .int .i64 e20.arity, .int .i64 e20.rowCount, .sl 157 3 (e20.groups.map eGroupStats)], .agg [.str e24.name, .int .i64 e24.arity, .int .i64 e24.rowCount, .sl 157 3 (e24.groups.map eGroupStats)]] (vB (decide (e20 = e24))) [] ∧ (((!(decide (e20 = e24))) = true → (false) = (decide (l = m)) ∧ True) ∧ ((!(decide (e20 = e24))) = false → inR ((k : Int) + (1 : Int)) ∧ ∃ (k' : Nat), ((k : Int) + (1 : Int)) = (k' : Int) ∧ (k' ≤ l.length ∧ l.take k' = m.take k') ∧ l.length - k' < l.length - k))))) ∧ ((decide ((k : Int) < ((l.length : Nat) : Int))) = false → (true) = (decide (l = m)) ∧ True))))))) ?_
  intro n0 n1
  simp only [List.length_map] at n0 n1
  refine ⟨List.length_map _, ?_⟩
  refine ⟨List.length_map _, ?_⟩
  refine ⟨fun c0 => ?_, fun c0 => ?_⟩
  · replace c0 := of_decide_eq_false (nt c0)
    refine ⟨?_, trivial⟩
    · first | (simp [ne_at hx hy hxy]; done) | (simp [ne_len c0]; done) | (simp [same_take (by omega) hl ht]; done)
  · replace c0 := of_decide_eq_true (nf c0)
    have hl : l.length = m.length := by omega
    refine ⟨List.length_map _, ?_⟩
    refine ⟨⟨0, rfl, Nat.zero_le _, rfl⟩, fun k ⟨hk, ht⟩ => ?_⟩
    refine ⟨fun c1 => ?_, fun c1 => ?_⟩
    · replace c1 := of_decide_eq_true c1
      obtain ⟨x, hx⟩ := at_some (l := l) (k := k) (by omega)
      obtain ⟨y, hy⟩ := at_some (l := m) (k := k) (by omega)
      refine ⟨by omega, ?_⟩
      refine ⟨rfl, by omega, fun e20 h20 => ?_⟩
      obtain rfl := (same_at hx h20).symm
      refine ⟨by omega, ?_⟩
      refine ⟨rfl, by omega, fun e24 h24 => ?_⟩
      obtain rfl := (same_at hy h24).symm
      refine ⟨eqStats_impl _ _, ?_⟩
      refine ⟨fun c2 => ?_, fun c2 => ?_⟩
      · replace c2 := of_decide_eq_false (nt c2)
        have hxy : ¬ x = y := by simpa using c2
        refine ⟨?_, trivial⟩
        · first | (simp [ne_at hx hy hxy]; done) | (simp [ne_len c0]; done) | (simp [same_take (by omega) hl ht]; done)
      · replace c2 := of_decide_eq_true (nf c2)
        have hxy : x = y := by simpa using c2
        refine ⟨⟨by omega, by omega⟩, ?_⟩
        exact ⟨k + 1, rfl, ⟨by omega, take_same hx (by rw [hy, hxy]) ht⟩, by omega⟩
    · replace c1 := of_decide_eq_false c1
      refine ⟨?_, trivial⟩
      · first | (simp [ne_at hx hy hxy]; done) | (simp [ne_len c0]; done) | (simp [same_take (by omega) hl ht]; done)

theorem ext_Catalogue (a b : CatalogueD) : decide (a = b) = (decide (a.version = b.version) && decide (a.tables = b.tables)) := by
  obtain ⟨a0, a1⟩ := a
  obtain ⟨b0, b1⟩ := b
  simp [Bool.and_assoc]

set_option maxRecDepth 100000 in
set_option maxHeartbeats 4000000 in
theorem eqCat_impl (a b : CatalogueD) : Con Tryz.prog 96 [.agg [.int .i64 a.version, .sl 32 4 (a.tables.map eTableStats)], .agg [.int .i64 b.version, .sl 32 4 (b.tables.map eTableStats)]] (vB (decide (a = b))) [] := by
  refine con_x tbOk mixedW Tryz.func96 (by kernel_rfl) (.br (.call (vB (decide (a.tables = b.tables))) [] <| .fin []) (.fin [])) ?_
  refine Eq.mpr (by kernel_rfl : _ = ((a.tables.map eTableStats).length ≤ 9223372036854775807 → (b.tables.map eTableStats).length ≤ 9223372036854775807 → ((decide (a.version = b.version)) = true → Con Tryz.prog 156 [.one (.sl 32 4 (a.tables.map eTableStats)), .one (.sl 32 4 (b.tables.map eTableStats)), .fn 132 []] (vB (decide (a.tables = b.tables))) [] ∧ (decide (a.tables = b.tables)) = (decide (a = b)) ∧ True) ∧ ((decide (a.version = b.version)) = false → (false) = (decide (a = b)) ∧ True))) ?_
  intro n0 n1
  simp only [List.length_map] at n0 n1
  refine ⟨fun g10 => ?_, fun g10 => ?_⟩
  · replace g10 := of_decide_eq_true g10
    refine ⟨eqs_TableStatsF _ _, ?_⟩
    refine ⟨?_, trivial⟩
    · first | (rw [ext_Catalogue]; done) | (rw [ext_Catalogue]; simp_all [str_eq]; done)
  · replace g10 := of_decide_eq_false g10
    refine ⟨?_, trivial⟩
    · first | (rw [ext_Catalogue]; done) | (rw [ext_Catalogue]; simp_all [str_eq]; done)
end Go.Proofs.YtjlagjhmlmfjeaaGreat
