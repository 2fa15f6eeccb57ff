/-
  Equality of catalogues, the reference's.
-/
import Derived.Test.YtjlagjhmlmfjeaaGreatEa
namespace Go.Proofs.YtjlagjhmlmfjeaaGreat
open Go.ChangeShapes Go.WideShapes Go.ChangeAt Go.RowKit
set_option linter.unusedVariables false
set_option linter.unusedSimpArgs false
def cmpR : List Int → List Int → Int
  | [], [] => 0
  | [], _ :: _ => -1
  | _ :: _, [] => 1
  | a :: l, b :: m => if a < b then -1 else if b < a then 1 else cmpR l m
theorem cmpR_zero : ∀ {l m : List Int}, cmpR l m = 0 ↔ l = m
  | [], [] => by simp [cmpR]
  | [], _ :: _ => by simp [cmpR]
  | _ :: _, [] => by simp [cmpR]
  | a :: l, b :: m => by
    unfold cmpR
    split
    · simp; omega
    · split
      · simp; omega
      · rw [cmpR_zero]
        have : a = b := by omega
        simp [this]
theorem drop_at {α : Type} {l : List α} {k : Nat} {x : α} (h : l[k]? = some x) : l.drop k = x :: l.drop (k + 1) := by
  obtain ⟨hk, rfl⟩ := List.getElem?_eq_some_iff.1 h
  exact List.drop_eq_getElem_cons hk
theorem drop_end {α : Type} {l : List α} {k : Nat} (h : l.length ≤ k) : l.drop k = [] := List.drop_eq_nil_of_le h
theorem cmpR_stop {l m : List Int} {k : Nat} (hk : k ≤ l.length ∧ k ≤ m.length) (hs : ¬ k < l.length ∨ ¬ k < m.length) : cmpR (l.drop k) (m.drop k) = if l.length < m.length then -1 else if m.length < l.length then 1 else 0 := by
  by_cases h1 : k < l.length
  · obtain ⟨x, hx⟩ := at_some h1
    rw [drop_at hx, drop_end (l := m) (by omega), cmpR, if_neg (by omega), if_pos (by omega)]
  · rw [drop_end (l := l) (by omega)]
    by_cases h2 : k < m.length
    · obtain ⟨x, hx⟩ := at_some h2
      rw [drop_at hx, cmpR, if_pos (by omega)]
    · rw [drop_end (l := m) (by omega), cmpR, if_neg (by omega), if_neg (by omega)]

set_option maxRecDepth 100000 in
set_option maxHeartbeats 4000000 in
theorem cmpRows_spec (l m : List Int) : Con Tryz.prog 126 [.one (.sl 3 1 (l.map intD)), .one (.sl 3 1 (m.map intD))] (vI (cmpR l m)) [] := by
  refine con_x tbOk mixedW Tryz.func126 (by kernel_rfl) (.loop Nat (Q1 Nat) [5, 6, 7, 8, 9, 10, 11, 12, 13, 14, 15, 16, 17, 18, 19, 20, 21, 22, 23, 24, 25, 26, 27, 28, 29, 30, 31, 32, 33, 34, 35] [] (fun k => [(5, vI (k : Int))]) (fun k => []) (fun k => (k ≤ l.length ∧ k ≤ m.length) ∧ cmpR (l.drop k) (m.drop k) = cmpR l m) (fun k => l.length - k) (fun k => .len l.length <| .br (.len m.length <| .lit <| .lit <| .br (.elem Int intD l (fun e20 => .elem Int intD m (fun e24 => .br (.fin []) (.elem Int intD l (fun e29 => .elem Int intD m (fun e33 => .br (.fin []) (.back []))))))) (.len l.length <| .len m.length <| .br (.fin []) (.len l.length <| .len m.length <| .br (.fin []) (.fin [])))) (.len l.length <| .len m.length <| .br (.fin []) (.len l.length <| .len m.length <| .br (.fin []) (.fin []))))) ?_
  refine Eq.mpr (by kernel_rfl : _ = ((l.map intD).length ≤ 9223372036854775807 → (m.map intD).length ≤ 9223372036854775807 → (∃ (k : Nat), (0 : Int) = (k : Int) ∧ (k ≤ l.length ∧ k ≤ m.length) ∧ cmpR (l.drop k) (m.drop k) = cmpR l m) ∧ ∀ (k : Nat), ((k ≤ l.length ∧ k ≤ m.length) ∧ cmpR (l.drop k) (m.drop k) = cmpR l m) → (l.map intD).length = l.length ∧ (((decide ((k : Int) < ((l.length : Nat) : Int))) = true → (m.map intD).length = m.length ∧ (((decide ((k : Int) < ((m.length : Nat) : Int))) = true → 0 ≤ (k : Int) ∧ (l.map intD = l.map intD ∧ k < l.length ∧ ∀ e20, l[k]? = some e20 → 0 ≤ (k : Int) ∧ (m.map intD = m.map intD ∧ k < m.length ∧ ∀ e24, m[k]? = some e24 → ((decide (e20 < e24)) = true → (-1 : Int) = (cmpR l m) ∧ True) ∧ ((decide (e20 < e24)) = false → 0 ≤ (k : Int) ∧ (l.map intD = l.map intD ∧ k < l.length ∧ ∀ e29, l[k]? = some e29 → 0 ≤ (k : Int) ∧ (m.map intD = m.map intD ∧ k < m.length ∧ ∀ e33, m[k]? = some e33 → ((decide (e33 < e29)) = true → (1 : Int) = (cmpR l m) ∧ True) ∧ ((decide (e33 < e29)) = false → inR ((k : Int) + (1 : Int)) ∧ ∃ (k' : Nat), ((k : Int) + (1 : Int)) = (k' : Int) ∧ ((k' ≤ l.length ∧ k' ≤ m.length) ∧ cmpR (l.drop k') (m.drop k') = cmpR l m) ∧ l.length - k' < l.length - k))))))) ∧ ((decide ((k : Int) < ((m.length : Nat) : Int))) = false → (l.map intD).length = l.length ∧ ((m.map intD).length = m.length ∧ (((decide (((l.length : Nat) : Int) < ((m.length : Nat) : Int))) = true → (-1 : Int) = (cmpR l m) ∧ True) ∧ ((decide (((l.length : Nat) : Int) < ((m.length : Nat) : Int))) = false → (l.map intD).length = l.length ∧ ((m.map intD).length = m.length ∧ (((decide (((m.length : Nat) : Int) < ((l.length : Nat) : Int))) = true → (1 : Int) = (cmpR l m) ∧ True) ∧ ((decide (((m.length : Nat) : Int) < ((l.length : Nat) : Int))) = false → (0 : Int) = (cmpR l m) ∧ True))))))))) ∧ ((decide ((k : Int) < ((l.length : Nat) : Int))) = false → (l.map intD).length = l.length ∧ ((m.map intD).length = m.length ∧ (((decide (((l.length : Nat) : Int) < ((m.length : Nat) : Int))) = true → (-1 : Int) = (cmpR l m) ∧ True) ∧ ((decide (((l.length : Nat) : Int) < ((m.length : Nat) : Int))) = false → (l.map intD).length = l.length ∧ ((m.map intD).length = m.length ∧ (((decide (((m.length : Nat) : Int) < ((l.length : Nat) : Int))) = true → (1 : Int) = (cmpR l m) ∧ True) ∧ ((decide (((m.length : Nat) : Int) < ((l.length : Nat) : Int))) = false → (0 : Int) = (cmpR l m) ∧ True)))))))))) ?_
  intro n0 n1
  simp only [List.length_map] at n0 n1
  refine ⟨⟨0, rfl, ⟨Nat.zero_le _, Nat.zero_le _⟩, rfl⟩, fun k ⟨hk, hv⟩ => ?_⟩
  refine ⟨List.length_map _, ?_⟩
  refine ⟨fun g10 => ?_, fun g10 => ?_⟩
  · replace g10 := of_decide_eq_true g10
    refine ⟨List.length_map _, ?_⟩
    refine ⟨fun c0 => ?_, fun c0 => ?_⟩
    · replace c0 := of_decide_eq_true c0
      obtain ⟨x, hx⟩ := at_some (l := l) (k := k) (by omega)
      obtain ⟨y, hy⟩ := at_some (l := m) (k := k) (by omega)
      have hd : cmpR l m = if x < y then -1 else if y < x then 1 else cmpR (l.drop (k + 1)) (m.drop (k + 1)) := by rw [← hv, drop_at hx, drop_at hy, cmpR]
      refine ⟨by omega, ?_⟩
      refine ⟨rfl, by omega, fun e20 h20 => ?_⟩
      obtain rfl := (same_at hx h20).symm
      refine ⟨by omega, ?_⟩
      refine ⟨rfl, by omega, fun e24 h24 => ?_⟩
      obtain rfl := (same_at hy h24).symm
      refine ⟨fun c1 => ?_, fun c1 => ?_⟩
      · replace c1 := of_decide_eq_true c1
        refine ⟨?_, trivial⟩
        · first | (rw [hd, if_pos c1]; done) | (rw [hd, if_neg c1, if_pos c2]; done) | (rw [← hv, cmpR_stop hk (by omega), if_pos (by omega)]; done) | (rw [← hv, cmpR_stop hk (by omega), if_neg (by omega), if_pos (by omega)]; done) | (rw [← hv, cmpR_stop hk (by omega), if_neg (by omega), if_neg (by omega)]; done)
      · replace c1 := of_decide_eq_false c1
        refine ⟨by omega, ?_⟩
        refine ⟨rfl, by omega, fun e29 h29 => ?_⟩
        obtain rfl := (same_at hx h29).symm
        refine ⟨by omega, ?_⟩
        refine ⟨rfl, by omega, fun e33 h33 => ?_⟩
        obtain rfl := (same_at hy h33).symm
        refine ⟨fun c2 => ?_, fun c2 => ?_⟩
        · replace c2 := of_decide_eq_true c2
          refine ⟨?_, trivial⟩
          · first | (rw [hd, if_pos c1]; done) | (rw [hd, if_neg c1, if_pos c2]; done) | (rw [← hv, cmpR_stop hk (by omega), if_pos (by omega)]; done) | (rw [← hv, cmpR_stop hk (by omega), if_neg (by omega), if_pos (by omega)]; done) | (rw [← hv, cmpR_stop hk (by omega), if_neg (by omega), if_neg (by omega)]; done)
        · replace c2 := of_decide_eq_false c2
          refine ⟨⟨by omega, by omega⟩, ?_⟩
          exact ⟨k + 1, rfl, ⟨by omega, by rw [hd, if_neg c1, if_neg c2]⟩, by omega⟩
    · replace c0 := of_decide_eq_false c0
      refine ⟨List.length_map _, ?_⟩
      refine ⟨List.length_map _, ?_⟩
      refine ⟨fun c3 => ?_, fun c3 => ?_⟩
      · replace c3 := of_decide_eq_true c3
        refine ⟨?_, trivial⟩
        · first | (rw [hd, if_pos c1]; done) | (rw [hd, if_neg c1, if_pos c2]; done) | (rw [← hv, cmpR_stop hk (by omega), if_pos (by omega)]; done) | (rw [← hv, cmpR_stop hk (by omega), if_neg (by omega), if_pos (by omega)]; done) | (rw [← hv, cmpR_stop hk (by omega), if_neg (by omega), if_neg (by omega)]; done)
      · replace c3 := of_decide_eq_false c3
        refine ⟨List.length_map _, ?_⟩
        refine ⟨List.length_map _, ?_⟩
        refine ⟨fun c4 => ?_, fun c4 => ?_⟩
        · replace c4 := of_decide_eq_true c4
          refine ⟨?_, trivial⟩
          · first | (rw [hd, if_pos c1]; done) | (rw [hd, if_neg c1, if_pos c2]; done) | (rw [← hv, cmpR_stop hk (by omega), if_pos (by omega)]; done) | (rw [← hv, cmpR_stop hk (by omega), if_neg (by omega), if_pos (by omega)]; done) | (rw [← hv, cmpR_stop hk (by omega), if_neg (by omega), if_neg (by omega)]; done)
        · replace c4 := of_decide_eq_false c4
          refine ⟨?_, trivial⟩
          · first | (rw [hd, if_pos c1]; done) | (rw [hd, if_neg c1, if_pos c2]; done) | (rw [← hv, cmpR_stop hk (by omega), if_pos (by omega)]; done) | (rw [← hv, cmpR_stop hk (by omega), if_neg (by omega), if_pos (by omega)]; done) | (rw [← hv, cmpR_stop hk (by omega), if_neg (by omega), if_neg (by omega)]; done)
  · replace g10 := of_decide_eq_false g10
    refine ⟨List.length_map _, ?_⟩
    refine ⟨List.length_map _, ?_⟩
    refine ⟨fun c3 => ?_, fun c3 => ?_⟩
    · replace c3 := of_decide_eq_true c3
      refine ⟨?_, trivial⟩
      · first | (rw [hd, if_pos c1]; done) | (rw [hd, if_neg c1, if_pos c2]; done) | (rw [← hv, cmpR_stop hk (by omega), if_pos (by omega)]; done) | (rw [← hv, cmpR_stop hk (by omega), if_neg (by omega), if_pos (by omega)]; done) | (rw [← hv, cmpR_stop hk (by omega), if_neg (by omega), if_neg (by omega)]; done)
    · replace c3 := of_decide_eq_false c3
      refine ⟨List.length_map _, ?_⟩
      refine ⟨List.length_map _, ?_⟩
      refine ⟨fun c4 => ?_, fun c4 => ?_⟩
      · replace c4 := of_decide_eq_true c4
        refine ⟨?_, trivial⟩
        · first | (rw [hd, if_pos c1]; done) | (rw [hd, if_neg c1, if_pos c2]; done) | (rw [← hv, cmpR_stop hk (by omega), if_pos (by omega)]; done) | (rw [← hv, cmpR_stop hk (by omega), if_neg (by omega), if_pos (by omega)]; done) | (rw [← hv, cmpR_stop hk (by omega), if_neg (by omega), if_neg (by omega)]; done)
      · replace c4 := of_decide_eq_false c4
        refine ⟨?_, trivial⟩
        · first | (rw [hd, if_pos c1]; done) | (rw [hd, if_neg c1, if_pos c2]; done) | (rw [← hv, cmpR_stop hk (by omega), if_pos (by omega)]; done) | (rw [← hv, cmpR_stop hk (by omega), if_neg (by omega), if_pos (by omega)]; done) | (rw [← hv, cmpR_stop hk (by omega), if_neg (by omega), if_neg (by omega)]; done)

theorem grp_eq {x y : GroupStatsD} (h1 : x.columns = y.columns) (h2 : x.values = y.values) (h3 : x.counts = y.counts) : x = y := by
  obtain ⟨a, b, c⟩ := x
  obtain ⟨d, e, f⟩ := y
  simp at h1 h2 h3
  subst h1 h2 h3
  rfl

set_option maxRecDepth 100000 in
set_option maxHeartbeats 4000000 in
theorem eqStats_spec (a b : TableStatsD) (ha : cTableStats a ≤ 1048576) : Con Tryz.prog 120 [.agg [.str a.name, .int .i64 a.arity, .int .i64 a.rowCount, .sl 157 3 (a.groups.map eGroupStats)], .agg [.str b.name, .int .i64 b.arity, .int .i64 b.rowCount, .sl 157 3 (b.groups.map eGroupStats)]] (vB (decide (a = b))) [] := by
  refine con_x tbOk mixedW Tryz.func120 (by kernel_rfl) (.br (.fin []) (.lit <| .lit <| .lit <| .lit <| .lit <| .br (.fin []) (.lit <| .lit <| .lit <| .lit <| .lit <| .br (.fin []) (.len a.groups.length <| .len b.groups.length <| .lit <| .lit <| .br (.fin []) (.loop Nat (Q1 Nat) [5, 6, 7, 8, 37, 38, 39, 40, 41, 42, 43, 44, 45, 46, 47, 48, 49, 50, 51, 52, 53, 54, 55, 56, 57, 58, 59, 60, 61, 62, 63, 64, 65, 66, 67, 68, 69, 70, 71, 72, 73, 74, 75, 76, 77, 78, 79, 80, 81, 82, 83, 84, 85, 86, 87, 88, 89, 90, 91, 92, 93, 94, 95] [600, 700] (fun i => [(5, vI (i : Int))]) (fun i => []) (fun i => i ≤ a.groups.length ∧ a.groups.take i = b.groups.take i) (fun i => a.groups.length - i) (fun i => .len a.groups.length <| .br (.elem GroupStatsD eGroupStats a.groups (fun e47 => .elem GroupStatsD eGroupStats b.groups (fun e52 => .call (vI (cmpR e47.columns e52.columns)) [] <| .br (.fin []) (.call (vI (cmpR e47.counts e52.counts)) [] <| .lit <| .lit <| .br (.fin []) (.len e47.values.length <| .len e52.values.length <| .lit <| .lit <| .br (.fin []) (.loop Nat (Q1 Nat) [8, 77, 78, 79, 80, 81, 82, 83, 84, 85, 86, 87, 88, 89, 90, 91, 92, 93, 94, 95] [] (fun k => [(8, vI (k : Int))]) (fun k => []) (fun k => k ≤ e47.values.length ∧ e47.values.take k = e52.values.take k) (fun k => e47.values.length - k) (fun k => .len e47.values.length <| .br (.elem (List Int) eIntS e47.values (fun e87 => .elem (List Int) eIntS e52.values (fun e92 => .call (vI (cmpR e87 e92)) [] <| .br (.fin []) (.back [])))) (.back [])))))))) (.fin []))))))) ?_
  refine Eq.mpr (by kernel_rfl : _ = ((a.groups.map eGroupStats).length ≤ 9223372036854775807 → (b.groups.map eGroupStats).length ≤ 9223372036854775807 → ((!(a.name.toList == b.name.toList)) = true → (false) = (decide (a = b)) ∧ True) ∧ ((!(a.name.toList == b.name.toList)) = false → ((!(decide (a.arity = b.arity))) = true → (false) = (decide (a = b)) ∧ True) ∧ ((!(decide (a.arity = b.arity))) = false → ((!(decide (a.rowCount = b.rowCount))) = true → (false) = (decide (a = b)) ∧ True) ∧ ((!(decide (a.rowCount = b.rowCount))) = false → (a.groups.map eGroupStats).length = a.groups.length ∧ ((b.groups.map eGroupStats).length = b.groups.length ∧ (((!(decide (((a.groups.length : Nat) : Int) = ((b.groups.length : Nat) : Int)))) = true → (false) = (decide (a = b)) ∧ True) ∧ ((!(decide (((a.groups.length : Nat) : Int) = ((b.groups.length : Nat) : Int)))) = false → (∃ (i : Nat), (0 : Int) = (i : Int) ∧ i ≤ a.groups.length ∧ a.groups.take i = b.groups.take i) ∧ ∀ (i : Nat), (i ≤ a.groups.length ∧ a.groups.take i = b.groups.take i) → (a.groups.map eGroupStats).length = a.groups.length ∧ (((decide ((i : Int) < ((a.groups.length : Nat) : Int))) = true → 0 ≤ (i : Int) ∧ (a.groups.map eGroupStats = a.groups.map eGroupStats ∧ i < a.groups.length ∧ ∀ e47, a.groups[i]? = some e47 → 0 ≤ (i : Int) ∧ (b.groups.map eGroupStats = b.groups.map eGroupStats ∧ i < b.groups.length ∧ ∀ e52, b.groups[i]? = some e52 → Con Tryz.prog 126 [.one (.sl 3 1 (e47.columns.map intD)), .one (.sl 3 1 (e52.columns.map intD))] (vI (cmpR e47.columns e52.columns)) [] ∧ (((!(decide ((cmpR e47.columns e52.columns) = (0 : Int)))) = true → (false) = (decide (a = b)) ∧ True) ∧ ((!(decide ((cmpR e47.columns e52.columns) = (0 : Int)))) = false → Con Tryz.prog 126 [.one (.sl 3 1 (e47.counts.map intD)), .one (.sl 3 1 (e52.counts.map intD))] (vI (cmpR e47.counts e52.counts)) [] ∧ (((!(decide ((cmpR e47.counts e52.counts) = (0 : Int)))) = true → (false) = (decide (a = b)) ∧ True) ∧ ((!(decide ((cmpR e47.counts e52.counts) = (0 : Int)))) = false → (e47.values.map eIntS).length = e47.values.length ∧ ((e52.values.map eIntS).length = e52.values.length ∧ (((!(decide (((e47.values.length : Nat) : Int) = ((e52.values.length : Nat) : Int)))) = true → (false) = (decide (a = b)) ∧ True) ∧ ((!(decide (((e47.values.length : Nat) : Int) = ((e52.values.length : Nat) : Int)))) = false → (∃ (k : Nat), (0 : Int) = (k : Int) ∧ k ≤ e47.values.length ∧ e47.values.take k = e52.values.take k) ∧ ∀ (k : Nat), (k ≤ e47.values.length ∧ e47.values.take k = e52.values.take k) → (e47.values.map eIntS).length = e47.values.length ∧ (((decide ((k : Int) < ((e47.values.length : Nat) : Int))) = true → 0 ≤ (k : Int) ∧ (e47.values.map eIntS = e47.values.map eIntS ∧ k < e47.values.length ∧ ∀ e87, e47.values[k]? = some e87 → 0 ≤ (k : Int) ∧ (e52.values.map eIntS = e52.values.map eIntS ∧ k < e52.values.length ∧ ∀ e92, e52.values[k]? = some e92 → Con Tryz.prog 126 [.one (.sl 3 1 (e87.map intD)), .one (.sl 3 1 (e92.map intD))] (vI (cmpR e87 e92)) [] ∧ (((!(decide ((cmpR e87 e92) = (0 : Int)))) = true → (false) = (decide (a = b)) ∧ True) ∧ ((!(decide ((cmpR e87 e92) = (0 : Int)))) = false → inR ((k : Int) + (1 : Int)) ∧ ∃ (k' : Nat), ((k : Int) + (1 : Int)) = (k' : Int) ∧ (k' ≤ e47.values.length ∧ e47.values.take k' = e52.values.take k') ∧ e47.values.length - k' < e47.values.length - k))))) ∧ ((decide ((k : Int) < ((e47.values.length : Nat) : Int))) = false → inR ((i : Int) + (1 : Int)) ∧ ∃ (i' : Nat), ((i : Int) + (1 : Int)) = (i' : Int) ∧ (i' ≤ a.groups.length ∧ a.groups.take i' = b.groups.take i') ∧ a.groups.length - i' < a.groups.length - i)))))))))))) ∧ ((decide ((i : Int) < ((a.groups.length : Nat) : Int))) = false → (true) = (decide (a = b)) ∧ True)))))))))) ?_
  intro n0 n1
  simp only [List.length_map] at n0 n1
  refine ⟨fun g14 => ?_, fun g14 => ?_⟩
  · replace g14 := nt g14
    refine ⟨?_, trivial⟩
    · first | (simp [hne]; done) | (rw [ext_TableStats]; simp_all [str_eq]; done)
  · replace g14 := nf g14
    refine ⟨fun g21 => ?_, fun g21 => ?_⟩
    · replace g21 := of_decide_eq_false (nt g21)
      refine ⟨?_, trivial⟩
      · first | (simp [hne]; done) | (rw [ext_TableStats]; simp_all [str_eq]; done)
    · replace g21 := of_decide_eq_true (nf g21)
      refine ⟨fun g28 => ?_, fun g28 => ?_⟩
      · replace g28 := of_decide_eq_false (nt g28)
        refine ⟨?_, trivial⟩
        · first | (simp [hne]; done) | (rw [ext_TableStats]; simp_all [str_eq]; done)
      · replace g28 := of_decide_eq_true (nf g28)
        refine ⟨List.length_map _, ?_⟩
        refine ⟨List.length_map _, ?_⟩
        refine ⟨fun c0 => ?_, fun c0 => ?_⟩
        · replace c0 := of_decide_eq_false (nt c0)
          have hne : ¬ a = b := fun e => c0 (by rw [e])
          refine ⟨?_, trivial⟩
          · first | (simp [hne]; done) | (rw [ext_TableStats]; simp_all [str_eq]; done)
        · replace c0 := of_decide_eq_true (nf c0)
          have hl : a.groups.length = b.groups.length := by omega
          refine ⟨⟨0, rfl, Nat.zero_le _, rfl⟩, fun i ⟨hi, ht⟩ => ?_⟩
          refine ⟨List.length_map _, ?_⟩
          refine ⟨fun c1 => ?_, fun c1 => ?_⟩
          · replace c1 := of_decide_eq_true c1
            refine ⟨by omega, ?_⟩
            refine ⟨rfl, by omega, fun e47 h47 => ?_⟩
            have q1 := cGroupStatsS_el h47
            have q2 : cTableStats a = a.name.size + cGroupStatsS a.groups := rfl
            have q3 : cGroupStats e47 = cIntS e47.columns + cIntSS e47.values + cIntS e47.counts := rfl
            have q4 := cIntSS_len e47.values
            refine ⟨by omega, ?_⟩
            refine ⟨rfl, by omega, fun e52 h52 => ?_⟩
            refine ⟨cmpRows_spec _ _, ?_⟩
            refine ⟨fun g60 => ?_, fun g60 => ?_⟩
            · replace g60 := of_decide_eq_false (nt g60)
              have hne : ¬ a = b := fun e => by subst e; have q := same_at h47 h52; subst q; exact g60 (cmpR_zero.2 rfl)
              refine ⟨?_, trivial⟩
              · first | (simp [hne]; done) | (rw [ext_TableStats]; simp_all [str_eq]; done)
            · replace g60 := of_decide_eq_true (nf g60)
              refine ⟨cmpRows_spec _ _, ?_⟩
              refine ⟨fun g68 => ?_, fun g68 => ?_⟩
              · replace g68 := of_decide_eq_false (nt g68)
                have hne : ¬ a = b := fun e => by subst e; have q := same_at h47 h52; subst q; exact g68 (cmpR_zero.2 rfl)
                refine ⟨?_, trivial⟩
                · first | (simp [hne]; done) | (rw [ext_TableStats]; simp_all [str_eq]; done)
              · replace g68 := of_decide_eq_true (nf g68)
                refine ⟨List.length_map _, ?_⟩
                refine ⟨List.length_map _, ?_⟩
                refine ⟨fun c2 => ?_, fun c2 => ?_⟩
                · replace c2 := of_decide_eq_false (nt c2)
                  have hne : ¬ a = b := fun e => by subst e; have q := same_at h47 h52; subst q; exact c2 rfl
                  refine ⟨?_, trivial⟩
                  · first | (simp [hne]; done) | (rw [ext_TableStats]; simp_all [str_eq]; done)
                · replace c2 := of_decide_eq_true (nf c2)
                  refine ⟨⟨0, rfl, Nat.zero_le _, rfl⟩, fun k ⟨hk, hv⟩ => ?_⟩
                  refine ⟨List.length_map _, ?_⟩
                  refine ⟨fun c3 => ?_, fun c3 => ?_⟩
                  · replace c3 := of_decide_eq_true c3
                    refine ⟨by omega, ?_⟩
                    refine ⟨rfl, by omega, fun e87 h87 => ?_⟩
                    refine ⟨by omega, ?_⟩
                    refine ⟨rfl, by omega, fun e92 h92 => ?_⟩
                    refine ⟨cmpRows_spec _ _, ?_⟩
                    refine ⟨fun c4 => ?_, fun c4 => ?_⟩
                    · replace c4 := of_decide_eq_false (nt c4)
                      have hne : ¬ a = b := fun e => by subst e; have q := same_at h47 h52; subst q; have q := same_at h87 h92; subst q; exact c4 (cmpR_zero.2 rfl)
                      refine ⟨?_, trivial⟩
                      · first | (simp [hne]; done) | (rw [ext_TableStats]; simp_all [str_eq]; done)
                    · replace c4 := of_decide_eq_true (nf c4)
                      refine ⟨⟨by omega, by omega⟩, ?_⟩
                      exact ⟨k + 1, rfl, ⟨by omega, take_same h87 (by rw [h92, cmpR_zero.1 c4]) hv⟩, by omega⟩
                  · replace c3 := of_decide_eq_false c3
                    have hxy : e52 = e47 := (grp_eq (cmpR_zero.1 g60) (same_take (by omega) (by omega) hv) (cmpR_zero.1 g68)).symm
                    refine ⟨⟨by omega, by omega⟩, ?_⟩
                    exact ⟨i + 1, rfl, ⟨by omega, take_same h47 (by rw [h52, hxy]) ht⟩, by omega⟩
          · replace c1 := of_decide_eq_false c1
            have hg := same_take (by omega) hl ht
            refine ⟨?_, trivial⟩
            · first | (simp [hne]; done) | (rw [ext_TableStats]; simp_all [str_eq]; done)

set_option maxRecDepth 100000 in
set_option maxHeartbeats 4000000 in
theorem eqCat_spec (a b : CatalogueD) (ha : cCatalogue a ≤ 1048576) : Con Tryz.prog 92 [.agg [.int .i64 a.version, .sl 32 4 (a.tables.map eTableStats)], .agg [.int .i64 b.version, .sl 32 4 (b.tables.map eTableStats)]] (vB (decide (a = b))) [] := by
  refine con_x tbOk mixedW Tryz.func92 (by kernel_rfl) (.br (.fin []) (.len a.tables.length <| .len b.tables.length <| .lit <| .lit <| .br (.fin []) (.loop Nat (Q1 Nat) [5, 20, 21, 22, 23, 24, 25, 26, 27, 28, 29, 30, 31, 32, 33, 34, 35, 36, 37, 38] [] (fun k => [(5, vI (k : Int))]) (fun k => []) (fun k => k ≤ a.tables.length ∧ a.tables.take k = b.tables.take k) (fun k => a.tables.length - k) (fun k => .len a.tables.length <| .br (.elem TableStatsD eTableStats a.tables (fun e30 => .elem TableStatsD eTableStats b.tables (fun e35 => .call (vB (decide (e30 = e35))) [] <| .br (.fin []) (.back [])))) (.fin []))))) ?_
  refine Eq.mpr (by kernel_rfl : _ = ((a.tables.map eTableStats).length ≤ 9223372036854775807 → (b.tables.map eTableStats).length ≤ 9223372036854775807 → ((!(decide (a.version = b.version))) = true → (false) = (decide (a = b)) ∧ True) ∧ ((!(decide (a.version = b.version))) = false → (a.tables.map eTableStats).length = a.tables.length ∧ ((b.tables.map eTableStats).length = b.tables.length ∧ (((!(decide (((a.tables.length : Nat) : Int) = ((b.tables.length : Nat) : Int)))) = true → (false) = (decide (a = b)) ∧ True) ∧ ((!(decide (((a.tables.length : Nat) : Int) = ((b.tables.length : Nat) : Int)))) = false → (∃ (k : Nat), (0 : Int) = (k : Int) ∧ k ≤ a.tables.length ∧ a.tables.take k = b.tables.take k) ∧ ∀ (k : Nat), (k ≤ a.tables.length ∧ a.tables.take k = b.tables.take k) → (a.tables.map eTableStats).length = a.tables.length ∧ (((decide ((k : Int) < ((a.tables.length : Nat) : Int))) = true → 0 ≤ (k : Int) ∧ (a.tables.map eTableStats = a.tables.map eTableStats ∧ k < a.tables.length ∧ ∀ e30, a.tables[k]? = some e30 → 0 ≤ (k : Int) ∧ (b.tables.map eTableStats = b.tables.map eTableStats ∧ k < b.tables.length ∧ ∀ e35, b.tables[k]? = some e35 → Con Tryz.prog 120 [.agg [.str e30.name, .int .i64 e30.arity, .int .i64 e30.rowCount, .sl 157 3 (e30.groups.map eGroupStats)], .agg [.str e35.name, .int .i64 e35.arity, .int .i64 e35.rowCount, .sl 157 3 (e35.groups.map eGroupStats)]] (vB (decide (e30 = e35))) [] ∧ (((!(decide (e30 = e35))) = true → (false) = (decide (a = b)) ∧ True) ∧ ((!(decide (e30 = e35))) = false → inR ((k : Int) + (1 : Int)) ∧ ∃ (k' : Nat), ((k : Int) + (1 : Int)) = (k' : Int) ∧ (k' ≤ a.tables.length ∧ a.tables.take k' = b.tables.take k') ∧ a.tables.length - k' < a.tables.length - k))))) ∧ ((decide ((k : Int) < ((a.tables.length : Nat) : Int))) = false → (true) = (decide (a = b)) ∧ True)))))))) ?_
  intro n0 n1
  simp only [List.length_map] at n0 n1
  have hS : cCatalogue a = cTableStatsS a.tables := rfl
  refine ⟨fun g11 => ?_, fun g11 => ?_⟩
  · replace g11 := of_decide_eq_false (nt g11)
    refine ⟨?_, trivial⟩
    · first | (simp [hne]; done) | (rw [ext_Catalogue]; simp_all; done)
  · replace g11 := of_decide_eq_true (nf g11)
    refine ⟨List.length_map _, ?_⟩
    refine ⟨List.length_map _, ?_⟩
    refine ⟨fun c0 => ?_, fun c0 => ?_⟩
    · replace c0 := of_decide_eq_false (nt c0)
      have hne : ¬ a = b := fun e => c0 (by rw [e])
      refine ⟨?_, trivial⟩
      · first | (simp [hne]; done) | (rw [ext_Catalogue]; simp_all; done)
    · replace c0 := of_decide_eq_true (nf c0)
      have hl : a.tables.length = b.tables.length := by omega
      refine ⟨⟨0, rfl, Nat.zero_le _, rfl⟩, fun k ⟨hk, ht⟩ => ?_⟩
      refine ⟨List.length_map _, ?_⟩
      refine ⟨fun c1 => ?_, fun c1 => ?_⟩
      · replace c1 := of_decide_eq_true c1
        refine ⟨by omega, ?_⟩
        refine ⟨rfl, by omega, fun e30 h30 => ?_⟩
        refine ⟨by omega, ?_⟩
        refine ⟨rfl, by omega, fun e35 h35 => ?_⟩
        refine ⟨eqStats_spec _ _ (by have := cTableStatsS_el h30; omega), ?_⟩
        refine ⟨fun c2 => ?_, fun c2 => ?_⟩
        · replace c2 := of_decide_eq_false (nt c2)
          have hne : ¬ a = b := fun e => by subst e; exact c2 (same_at h35 h30)
          refine ⟨?_, trivial⟩
          · first | (simp [hne]; done) | (rw [ext_Catalogue]; simp_all; done)
        · replace c2 := of_decide_eq_true (nf c2)
          refine ⟨⟨by omega, by omega⟩, ?_⟩
          exact ⟨k + 1, rfl, ⟨by omega, take_same h30 (by rw [h35, c2]) ht⟩, by omega⟩
      · replace c1 := of_decide_eq_false c1
        have hg := same_take (by omega) hl ht
        refine ⟨?_, trivial⟩
        · first | (simp [hne]; done) | (rw [ext_Catalogue]; simp_all; done)
end Go.Proofs.YtjlagjhmlmfjeaaGreat
