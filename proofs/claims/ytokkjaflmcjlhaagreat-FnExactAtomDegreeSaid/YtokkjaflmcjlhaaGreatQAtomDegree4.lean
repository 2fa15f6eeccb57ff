/-
  Contracts and plain laws, joined: part 5.
-/
import Derived.Test.YtokkjaflmcjlhaaGreatQAtomDegree3
namespace Go.Proofs.YtokkjaflmcjlhaaGreat
open Go.ChangeShapes Go.WideShapes Go.ChangeAt Go.RowKit
set_option linter.unusedVariables false
set_option linter.unusedSimpArgs false
set_option maxRecDepth 100000
set_option maxHeartbeats 4000000
def cmpR : List Int → List Int → Int
  | [], [] => 0
  | [], _ :: _ => -1
  | _ :: _, [] => 1
  | a :: l, b :: m => if a < b then -1 else if b < a then 1 else cmpR l m
theorem cmpR_zero : ∀ {l m : List Int}, cmpR l m = 0 ↔ l = m
  | [], [] => by simp [cmpR]
  | [], _ :: _ => by simp [cmpR]
  | _ :: _, [] => by simp [cmpR]
  | a :: l, b :: m => by
    unfold cmpR
    split
    · simp; omega
    · split
      · simp; omega
      · rw [cmpR_zero]
        have : a = b := by omega
        simp [this]
theorem drop_at {α : Type} {l : List α} {k : Nat} {x : α} (h : l[k]? = some x) : l.drop k = x :: l.drop (k + 1) := by
  obtain ⟨hk, rfl⟩ := List.getElem?_eq_some_iff.1 h
  exact List.drop_eq_getElem_cons hk
theorem drop_end {α : Type} {l : List α} {k : Nat} (h : l.length ≤ k) : l.drop k = [] := List.drop_eq_nil_of_le h
theorem cmpR_stop {l m : List Int} {k : Nat} (hk : k ≤ l.length ∧ k ≤ m.length) (hs : ¬ k < l.length ∨ ¬ k < m.length) : cmpR (l.drop k) (m.drop k) = if l.length < m.length then -1 else if m.length < l.length then 1 else 0 := by
  by_cases h1 : k < l.length
  · obtain ⟨x, hx⟩ := at_some h1
    rw [drop_at hx, drop_end (l := m) (by omega), cmpR, if_neg (by omega), if_pos (by omega)]
  · rw [drop_end (l := l) (by omega)]
    by_cases h2 : k < m.length
    · obtain ⟨x, hx⟩ := at_some h2
      rw [drop_at hx, cmpR, if_pos (by omega)]
    · rw [drop_end (l := m) (by omega), cmpR, if_neg (by omega), if_neg (by omega)]
abbrev K_cmpRows_spec (l : List Int) (m : List Int) : Prop := Con Tryz.prog 211 [.one (.sl 3 1 (l.map intD)), .one (.sl 3 1 (m.map intD))] (vI (cmpR l m)) []
theorem cmpRows_spec (l m : List Int) : K_cmpRows_spec l m := by
 refine con_x tbOk mixedW Tryz.func211 (by kernel_rfl) (.loop Nat (Q1 Nat) [5, 6, 7, 8, 9, 10, 11, 12, 13, 14, 15, 16, 17, 18, 19, 20, 21, 22, 23, 24, 25, 26, 27, 28, 29, 30, 31, 32, 33, 34, 35] [] (fun k => [(5, vI (k : Int))]) (fun k => []) (fun k => (k ≤ l.length ∧ k ≤ m.length) ∧ cmpR (l.drop k) (m.drop k) = cmpR l m) (fun k => l.length - k) (fun k => .len l.length <| .br (.len m.length <| .lit <| .lit <| .br (.elem _ intD l (fun e20 => .elem _ intD m (fun e24 => .br (.fin []) (.elem _ intD l (fun e29 => .elem _ intD m (fun e33 => .br (.fin []) (.back []))))))) (.len l.length <| .len m.length <| .br (.fin []) (.len l.length <| .len m.length <| .br (.fin []) (.fin [])))) (.len l.length <| .len m.length <| .br (.fin []) (.len l.length <| .len m.length <| .br (.fin []) (.fin []))))) ?_
 refine Eq.mpr (by kernel_rfl : _ = ((l.map intD).length ≤ 9223372036854775807 → (m.map intD).length ≤ 9223372036854775807 → (∃ (k : Nat), (0 : Int) = (k : Int) ∧ (k ≤ l.length ∧ k ≤ m.length) ∧ cmpR (l.drop k) (m.drop k) = cmpR l m) ∧ ∀ (k : Nat), ((k ≤ l.length ∧ k ≤ m.length) ∧ cmpR (l.drop k) (m.drop k) = cmpR l m) → Lm intD l ∧ (((decide ((k : Int) < ((l.length : Nat) : Int))) = true → Lm intD m ∧ (((decide ((k : Int) < ((m.length : Nat) : Int))) = true → 0 ≤ (k : Int) ∧ Em intD l k fun e20 => 0 ≤ (k : Int) ∧ Em intD m k fun e24 => ((decide (e20 < e24)) = true → (-1 : Int) = (cmpR l m) ∧ True) ∧ ((decide (e20 < e24)) = false → 0 ≤ (k : Int) ∧ Em intD l k fun e29 => 0 ≤ (k : Int) ∧ Em intD m k fun e33 => ((decide (e33 < e29)) = true → (1 : Int) = (cmpR l m) ∧ True) ∧ ((decide (e33 < e29)) = false → inR ((k : Int) + (1 : Int)) ∧ ∃ (k' : Nat), ((k : Int) + (1 : Int)) = (k' : Int) ∧ ((k' ≤ l.length ∧ k' ≤ m.length) ∧ cmpR (l.drop k') (m.drop k') = cmpR l m) ∧ l.length - k' < l.length - k))) ∧ ((decide ((k : Int) < ((m.length : Nat) : Int))) = false → Lm intD l ∧ (Lm intD m ∧ (((decide (((l.length : Nat) : Int) < ((m.length : Nat) : Int))) = true → (-1 : Int) = (cmpR l m) ∧ True) ∧ ((decide (((l.length : Nat) : Int) < ((m.length : Nat) : Int))) = false → Lm intD l ∧ (Lm intD m ∧ (((decide (((m.length : Nat) : Int) < ((l.length : Nat) : Int))) = true → (1 : Int) = (cmpR l m) ∧ True) ∧ ((decide (((m.length : Nat) : Int) < ((l.length : Nat) : Int))) = false → (0 : Int) = (cmpR l m) ∧ True))))))))) ∧ ((decide ((k : Int) < ((l.length : Nat) : Int))) = false → Lm intD l ∧ (Lm intD m ∧ (((decide (((l.length : Nat) : Int) < ((m.length : Nat) : Int))) = true → (-1 : Int) = (cmpR l m) ∧ True) ∧ ((decide (((l.length : Nat) : Int) < ((m.length : Nat) : Int))) = false → Lm intD l ∧ (Lm intD m ∧ (((decide (((m.length : Nat) : Int) < ((l.length : Nat) : Int))) = true → (1 : Int) = (cmpR l m) ∧ True) ∧ ((decide (((m.length : Nat) : Int) < ((l.length : Nat) : Int))) = false → (0 : Int) = (cmpR l m) ∧ True)))))))))) ?_
 intro n0 n1
 simp only [List.length_map] at n0 n1
 refine ⟨⟨0, rfl, ⟨Nat.zero_le _, Nat.zero_le _⟩, rfl⟩, fun k ⟨hk, hv⟩ => ?_⟩
 refine ⟨List.length_map _, fun g10 => ?_, fun g10 => ?_⟩
 ·replace g10 := yq g10
  refine ⟨List.length_map _, fun c0 => ?_, fun c0 => ?_⟩
  ·replace c0 := yq c0
   obtain ⟨x, hx⟩ := at_some (l := l) (k := k) (by omega)
   obtain ⟨y, hy⟩ := at_some (l := m) (k := k) (by omega)
   have hd : cmpR l m = if x < y then -1 else if y < x then 1 else cmpR (l.drop (k + 1)) (m.drop (k + 1)) := by rw [← hv, drop_at hx, drop_at hy, cmpR]
   refine ⟨by omega, rfl, by omega, fun e20 h20 => ?_⟩
   obtain rfl := (same_at hx h20).symm
   refine ⟨by omega, rfl, by omega, fun e24 h24 => ?_⟩
   obtain rfl := (same_at hy h24).symm
   refine ⟨fun c1 => ?_, fun c1 => ?_⟩
   ·replace c1 := yq c1
    refine ⟨?_, trivial⟩
    ·first | (rw [hd, if_pos c1]; done) | (rw [hd, if_neg c1, if_pos c2]; done) | (rw [← hv, cmpR_stop hk (by omega), if_pos (by omega)]; done) | (rw [← hv, cmpR_stop hk (by omega), if_neg (by omega), if_pos (by omega)]; done) | (rw [← hv, cmpR_stop hk (by omega), if_neg (by omega), if_neg (by omega)]; done)
   ·replace c1 := nq c1
    refine ⟨by omega, rfl, by omega, fun e29 h29 => ?_⟩
    obtain rfl := (same_at hx h29).symm
    refine ⟨by omega, rfl, by omega, fun e33 h33 => ?_⟩
    obtain rfl := (same_at hy h33).symm
    refine ⟨fun c2 => ?_, fun c2 => ?_⟩
    ·replace c2 := yq c2
     refine ⟨?_, trivial⟩
     ·first | (rw [hd, if_pos c1]; done) | (rw [hd, if_neg c1, if_pos c2]; done) | (rw [← hv, cmpR_stop hk (by omega), if_pos (by omega)]; done) | (rw [← hv, cmpR_stop hk (by omega), if_neg (by omega), if_pos (by omega)]; done) | (rw [← hv, cmpR_stop hk (by omega), if_neg (by omega), if_neg (by omega)]; done)
    ·replace c2 := nq c2
     refine ⟨⟨by omega, by omega⟩, ?_⟩
     exact ⟨k + 1, rfl, ⟨by omega, by rw [hd, if_neg c1, if_neg c2]⟩, by omega⟩
  ·replace c0 := nq c0
   refine ⟨List.length_map _, List.length_map _, fun c3 => ?_, fun c3 => ?_⟩
   ·replace c3 := yq c3
    refine ⟨?_, trivial⟩
    ·first | (rw [hd, if_pos c1]; done) | (rw [hd, if_neg c1, if_pos c2]; done) | (rw [← hv, cmpR_stop hk (by omega), if_pos (by omega)]; done) | (rw [← hv, cmpR_stop hk (by omega), if_neg (by omega), if_pos (by omega)]; done) | (rw [← hv, cmpR_stop hk (by omega), if_neg (by omega), if_neg (by omega)]; done)
   ·replace c3 := nq c3
    refine ⟨List.length_map _, List.length_map _, fun c4 => ?_, fun c4 => ?_⟩
    ·replace c4 := yq c4
     refine ⟨?_, trivial⟩
     ·first | (rw [hd, if_pos c1]; done) | (rw [hd, if_neg c1, if_pos c2]; done) | (rw [← hv, cmpR_stop hk (by omega), if_pos (by omega)]; done) | (rw [← hv, cmpR_stop hk (by omega), if_neg (by omega), if_pos (by omega)]; done) | (rw [← hv, cmpR_stop hk (by omega), if_neg (by omega), if_neg (by omega)]; done)
    ·replace c4 := nq c4
     refine ⟨?_, trivial⟩
     ·first | (rw [hd, if_pos c1]; done) | (rw [hd, if_neg c1, if_pos c2]; done) | (rw [← hv, cmpR_stop hk (by omega), if_pos (by omega)]; done) | (rw [← hv, cmpR_stop hk (by omega), if_neg (by omega), if_pos (by omega)]; done) | (rw [← hv, cmpR_stop hk (by omega), if_neg (by omega), if_neg (by omega)]; done)
 ·replace g10 := nq g10
  refine ⟨List.length_map _, List.length_map _, fun c3 => ?_, fun c3 => ?_⟩
  ·replace c3 := yq c3
   refine ⟨?_, trivial⟩
   ·first | (rw [hd, if_pos c1]; done) | (rw [hd, if_neg c1, if_pos c2]; done) | (rw [← hv, cmpR_stop hk (by omega), if_pos (by omega)]; done) | (rw [← hv, cmpR_stop hk (by omega), if_neg (by omega), if_pos (by omega)]; done) | (rw [← hv, cmpR_stop hk (by omega), if_neg (by omega), if_neg (by omega)]; done)
  ·replace c3 := nq c3
   refine ⟨List.length_map _, List.length_map _, fun c4 => ?_, fun c4 => ?_⟩
   ·replace c4 := yq c4
    refine ⟨?_, trivial⟩
    ·first | (rw [hd, if_pos c1]; done) | (rw [hd, if_neg c1, if_pos c2]; done) | (rw [← hv, cmpR_stop hk (by omega), if_pos (by omega)]; done) | (rw [← hv, cmpR_stop hk (by omega), if_neg (by omega), if_pos (by omega)]; done) | (rw [← hv, cmpR_stop hk (by omega), if_neg (by omega), if_neg (by omega)]; done)
   ·replace c4 := nq c4
    refine ⟨?_, trivial⟩
    ·first | (rw [hd, if_pos c1]; done) | (rw [hd, if_neg c1, if_pos c2]; done) | (rw [← hv, cmpR_stop hk (by omega), if_pos (by omega)]; done) | (rw [← hv, cmpR_stop hk (by omega), if_neg (by omega), if_pos (by omega)]; done) | (rw [← hv, cmpR_stop hk (by omega), if_neg (by omega), if_neg (by omega)]; done)
theorem grp_eq {x y : GroupStatsD} (h1 : x.columns = y.columns) (h2 : x.values = y.values) (h3 : x.counts = y.counts) : x = y := by
  obtain ⟨a, b, c⟩ := x
  obtain ⟨d, e, f⟩ := y
  simp at h1 h2 h3
  subst h1 h2 h3
  rfl
abbrev K_eqStats_spec (a : TableStatsD) (b : TableStatsD) : Prop := Con Tryz.prog 204 [.agg [.str a.name, .int .i64 a.arity, .int .i64 a.rowCount, .sl 218 3 (a.groups.map eGroupStats)], .agg [.str b.name, .int .i64 b.arity, .int .i64 b.rowCount, .sl 218 3 (b.groups.map eGroupStats)]] (vB (decide (a = b))) []
theorem eqStats_spec (a b : TableStatsD) (ha : cTableStats a ≤ 1048576) : K_eqStats_spec a b := by
 refine con_x tbOk mixedW Tryz.func204 (by kernel_rfl) (.br (.fin []) (.lit <| .lit <| .lit <| .lit <| .lit <| .br (.fin []) (.lit <| .lit <| .lit <| .lit <| .lit <| .br (.fin []) (.len a.groups.length <| .len b.groups.length <| .lit <| .lit <| .br (.fin []) (.loop Nat (Q1 Nat) [5, 6, 7, 8, 37, 38, 39, 40, 41, 42, 43, 44, 45, 46, 47, 48, 49, 50, 51, 52, 53, 54, 55, 56, 57, 58, 59, 60, 61, 62, 63, 64, 65, 66, 67, 68, 69, 70, 71, 72, 73, 74, 75, 76, 77, 78, 79, 80, 81, 82, 83, 84, 85, 86, 87, 88, 89, 90, 91, 92, 93, 94, 95] [600, 700] (fun i => [(5, vI (i : Int))]) (fun i => []) (fun i => i ≤ a.groups.length ∧ a.groups.take i = b.groups.take i) (fun i => a.groups.length - i) (fun i => .len a.groups.length <| .br (.elem _ eGroupStats a.groups (fun e47 => .elem _ eGroupStats b.groups (fun e52 => .call (vI (cmpR e47.columns e52.columns)) [] <| .br (.fin []) (.call (vI (cmpR e47.counts e52.counts)) [] <| .lit <| .lit <| .br (.fin []) (.len e47.values.length <| .len e52.values.length <| .lit <| .lit <| .br (.fin []) (.loop Nat (Q1 Nat) [8, 77, 78, 79, 80, 81, 82, 83, 84, 85, 86, 87, 88, 89, 90, 91, 92, 93, 94, 95] [] (fun k => [(8, vI (k : Int))]) (fun k => []) (fun k => k ≤ e47.values.length ∧ e47.values.take k = e52.values.take k) (fun k => e47.values.length - k) (fun k => .len e47.values.length <| .br (.elem _ eIntS e47.values (fun e87 => .elem _ eIntS e52.values (fun e92 => .call (vI (cmpR e87 e92)) [] <| .br (.fin []) (.back [])))) (.back [])))))))) (.fin []))))))) ?_
 refine Eq.mpr (by kernel_rfl : _ = ((a.groups.map eGroupStats).length ≤ 9223372036854775807 → (b.groups.map eGroupStats).length ≤ 9223372036854775807 → ((!(a.name.toList == b.name.toList)) = true → (false) = (decide (a = b)) ∧ True) ∧ ((!(a.name.toList == b.name.toList)) = false → ((!(decide (a.arity = b.arity))) = true → (false) = (decide (a = b)) ∧ True) ∧ ((!(decide (a.arity = b.arity))) = false → ((!(decide (a.rowCount = b.rowCount))) = true → (false) = (decide (a = b)) ∧ True) ∧ ((!(decide (a.rowCount = b.rowCount))) = false → Lm eGroupStats a.groups ∧ (Lm eGroupStats b.groups ∧ (((!(decide (((a.groups.length : Nat) : Int) = ((b.groups.length : Nat) : Int)))) = true → (false) = (decide (a = b)) ∧ True) ∧ ((!(decide (((a.groups.length : Nat) : Int) = ((b.groups.length : Nat) : Int)))) = false → (∃ (i : Nat), (0 : Int) = (i : Int) ∧ i ≤ a.groups.length ∧ a.groups.take i = b.groups.take i) ∧ ∀ (i : Nat), (i ≤ a.groups.length ∧ a.groups.take i = b.groups.take i) → Lm eGroupStats a.groups ∧ (((decide ((i : Int) < ((a.groups.length : Nat) : Int))) = true → 0 ≤ (i : Int) ∧ Em eGroupStats a.groups i fun e47 => 0 ≤ (i : Int) ∧ Em eGroupStats b.groups i fun e52 => K_cmpRows_spec e47.columns e52.columns ∧ (((!(decide ((cmpR e47.columns e52.columns) = (0 : Int)))) = true → (false) = (decide (a = b)) ∧ True) ∧ ((!(decide ((cmpR e47.columns e52.columns) = (0 : Int)))) = false → K_cmpRows_spec e47.counts e52.counts ∧ (((!(decide ((cmpR e47.counts e52.counts) = (0 : Int)))) = true → (false) = (decide (a = b)) ∧ True) ∧ ((!(decide ((cmpR e47.counts e52.counts) = (0 : Int)))) = false → Lm eIntS e47.values ∧ (Lm eIntS e52.values ∧ (((!(decide (((e47.values.length : Nat) : Int) = ((e52.values.length : Nat) : Int)))) = true → (false) = (decide (a = b)) ∧ True) ∧ ((!(decide (((e47.values.length : Nat) : Int) = ((e52.values.length : Nat) : Int)))) = false → (∃ (k : Nat), (0 : Int) = (k : Int) ∧ k ≤ e47.values.length ∧ e47.values.take k = e52.values.take k) ∧ ∀ (k : Nat), (k ≤ e47.values.length ∧ e47.values.take k = e52.values.take k) → Lm eIntS e47.values ∧ (((decide ((k : Int) < ((e47.values.length : Nat) : Int))) = true → 0 ≤ (k : Int) ∧ Em eIntS e47.values k fun e87 => 0 ≤ (k : Int) ∧ Em eIntS e52.values k fun e92 => K_cmpRows_spec e87 e92 ∧ (((!(decide ((cmpR e87 e92) = (0 : Int)))) = true → (false) = (decide (a = b)) ∧ True) ∧ ((!(decide ((cmpR e87 e92) = (0 : Int)))) = false → inR ((k : Int) + (1 : Int)) ∧ ∃ (k' : Nat), ((k : Int) + (1 : Int)) = (k' : Int) ∧ (k' ≤ e47.values.length ∧ e47.values.take k' = e52.values.take k') ∧ e47.values.length - k' < e47.values.length - k))) ∧ ((decide ((k : Int) < ((e47.values.length : Nat) : Int))) = false → inR ((i : Int) + (1 : Int)) ∧ ∃ (i' : Nat), ((i : Int) + (1 : Int)) = (i' : Int) ∧ (i' ≤ a.groups.length ∧ a.groups.take i' = b.groups.take i') ∧ a.groups.length - i' < a.groups.length - i)))))))))) ∧ ((decide ((i : Int) < ((a.groups.length : Nat) : Int))) = false → (true) = (decide (a = b)) ∧ True)))))))))) ?_
 intro n0 n1
 simp only [List.length_map] at n0 n1
 refine ⟨fun g14 => ?_, fun g14 => ?_⟩
 ·replace g14 := nt g14
  refine ⟨?_, trivial⟩
  ·first | (simp [hne]; done) | (rw [ext_TableStats]; simp_all [str_eq]; done)
 ·replace g14 := nf g14
  refine ⟨fun g21 => ?_, fun g21 => ?_⟩
  ·replace g21 := nq (nt g21)
   refine ⟨?_, trivial⟩
   ·first | (simp [hne]; done) | (rw [ext_TableStats]; simp_all [str_eq]; done)
  ·replace g21 := yq (nf g21)
   refine ⟨fun g28 => ?_, fun g28 => ?_⟩
   ·replace g28 := nq (nt g28)
    refine ⟨?_, trivial⟩
    ·first | (simp [hne]; done) | (rw [ext_TableStats]; simp_all [str_eq]; done)
   ·replace g28 := yq (nf g28)
    refine ⟨List.length_map _, List.length_map _, fun c0 => ?_, fun c0 => ?_⟩
    ·replace c0 := nq (nt c0)
     have hne : ¬ a = b := fun e => c0 (by rw [e])
     refine ⟨?_, trivial⟩
     ·first | (simp [hne]; done) | (rw [ext_TableStats]; simp_all [str_eq]; done)
    ·replace c0 := yq (nf c0)
     have hl : a.groups.length = b.groups.length := by omega
     refine ⟨⟨0, rfl, Nat.zero_le _, rfl⟩, fun i ⟨hi, ht⟩ => ?_⟩
     refine ⟨List.length_map _, fun c1 => ?_, fun c1 => ?_⟩
     ·replace c1 := yq c1
      refine ⟨by omega, rfl, by omega, fun e47 h47 => ?_⟩
      have q1 := cGroupStatsS_el h47
      have q2 : cTableStats a = a.name.size + cGroupStatsS a.groups := rfl
      have q3 : cGroupStats e47 = cIntS e47.columns + cIntSS e47.values + cIntS e47.counts := rfl
      have q4 := cIntSS_len e47.values
      refine ⟨by omega, rfl, by omega, fun e52 h52 => ?_⟩
      refine ⟨cmpRows_spec _ _, fun g60 => ?_, fun g60 => ?_⟩
      ·replace g60 := nq (nt g60)
       have hne : ¬ a = b := fun e => by subst e; have q := same_at h47 h52; subst q; exact g60 (cmpR_zero.2 rfl)
       refine ⟨?_, trivial⟩
       ·first | (simp [hne]; done) | (rw [ext_TableStats]; simp_all [str_eq]; done)
      ·replace g60 := yq (nf g60)
       refine ⟨cmpRows_spec _ _, fun g68 => ?_, fun g68 => ?_⟩
       ·replace g68 := nq (nt g68)
        have hne : ¬ a = b := fun e => by subst e; have q := same_at h47 h52; subst q; exact g68 (cmpR_zero.2 rfl)
        refine ⟨?_, trivial⟩
        ·first | (simp [hne]; done) | (rw [ext_TableStats]; simp_all [str_eq]; done)
       ·replace g68 := yq (nf g68)
        refine ⟨List.length_map _, List.length_map _, fun c2 => ?_, fun c2 => ?_⟩
        ·replace c2 := nq (nt c2)
         have hne : ¬ a = b := fun e => by subst e; have q := same_at h47 h52; subst q; exact c2 rfl
         refine ⟨?_, trivial⟩
         ·first | (simp [hne]; done) | (rw [ext_TableStats]; simp_all [str_eq]; done)
        ·replace c2 := yq (nf c2)
         refine ⟨⟨0, rfl, Nat.zero_le _, rfl⟩, fun k ⟨hk, hv⟩ => ?_⟩
         refine ⟨List.length_map _, fun c3 => ?_, fun c3 => ?_⟩
         ·replace c3 := yq c3
          refine ⟨by omega, rfl, by omega, fun e87 h87 => ?_⟩
          refine ⟨by omega, rfl, by omega, fun e92 h92 => ?_⟩
          refine ⟨cmpRows_spec _ _, fun c4 => ?_, fun c4 => ?_⟩
          ·replace c4 := nq (nt c4)
           have hne : ¬ a = b := fun e => by subst e; have q := same_at h47 h52; subst q; have q := same_at h87 h92; subst q; exact c4 (cmpR_zero.2 rfl)
           refine ⟨?_, trivial⟩
           ·first | (simp [hne]; done) | (rw [ext_TableStats]; simp_all [str_eq]; done)
          ·replace c4 := yq (nf c4)
           refine ⟨⟨by omega, by omega⟩, ?_⟩
           exact ⟨k + 1, rfl, ⟨by omega, take_same h87 (by rw [h92, cmpR_zero.1 c4]) hv⟩, by omega⟩
         ·replace c3 := nq c3
          have hxy : e52 = e47 := (grp_eq (cmpR_zero.1 g60) (same_take (by omega) (by omega) hv) (cmpR_zero.1 g68)).symm
          refine ⟨⟨by omega, by omega⟩, ?_⟩
          exact ⟨i + 1, rfl, ⟨by omega, take_same h47 (by rw [h52, hxy]) ht⟩, by omega⟩
     ·replace c1 := nq c1
      have hg := same_take (by omega) hl ht
      refine ⟨?_, trivial⟩
      ·first | (simp [hne]; done) | (rw [ext_TableStats]; simp_all [str_eq]; done)
abbrev K_eqCat_spec (a : CatalogueD) (b : CatalogueD) : Prop := Con Tryz.prog 129 [.agg [.int .i64 a.version, .sl 121 4 (a.tables.map eTableStats)], .agg [.int .i64 b.version, .sl 121 4 (b.tables.map eTableStats)]] (vB (decide (a = b))) []
theorem eqCat_spec (a b : CatalogueD) (ha : cCatalogue a ≤ 1048576) : K_eqCat_spec a b := by
 refine con_x tbOk mixedW Tryz.func129 (by kernel_rfl) (.br (.fin []) (.len a.tables.length <| .len b.tables.length <| .lit <| .lit <| .br (.fin []) (.loop Nat (Q1 Nat) [5, 20, 21, 22, 23, 24, 25, 26, 27, 28, 29, 30, 31, 32, 33, 34, 35, 36, 37, 38] [] (fun k => [(5, vI (k : Int))]) (fun k => []) (fun k => k ≤ a.tables.length ∧ a.tables.take k = b.tables.take k) (fun k => a.tables.length - k) (fun k => .len a.tables.length <| .br (.elem _ eTableStats a.tables (fun e30 => .elem _ eTableStats b.tables (fun e35 => .call (vB (decide (e30 = e35))) [] <| .br (.fin []) (.back [])))) (.fin []))))) ?_
 refine Eq.mpr (by kernel_rfl : _ = ((a.tables.map eTableStats).length ≤ 9223372036854775807 → (b.tables.map eTableStats).length ≤ 9223372036854775807 → ((!(decide (a.version = b.version))) = true → (false) = (decide (a = b)) ∧ True) ∧ ((!(decide (a.version = b.version))) = false → Lm eTableStats a.tables ∧ (Lm eTableStats b.tables ∧ (((!(decide (((a.tables.length : Nat) : Int) = ((b.tables.length : Nat) : Int)))) = true → (false) = (decide (a = b)) ∧ True) ∧ ((!(decide (((a.tables.length : Nat) : Int) = ((b.tables.length : Nat) : Int)))) = false → (∃ (k : Nat), (0 : Int) = (k : Int) ∧ k ≤ a.tables.length ∧ a.tables.take k = b.tables.take k) ∧ ∀ (k : Nat), (k ≤ a.tables.length ∧ a.tables.take k = b.tables.take k) → Lm eTableStats a.tables ∧ (((decide ((k : Int) < ((a.tables.length : Nat) : Int))) = true → 0 ≤ (k : Int) ∧ Em eTableStats a.tables k fun e30 => 0 ≤ (k : Int) ∧ Em eTableStats b.tables k fun e35 => K_eqStats_spec e30 e35 ∧ (((!(decide (e30 = e35))) = true → (false) = (decide (a = b)) ∧ True) ∧ ((!(decide (e30 = e35))) = false → inR ((k : Int) + (1 : Int)) ∧ ∃ (k' : Nat), ((k : Int) + (1 : Int)) = (k' : Int) ∧ (k' ≤ a.tables.length ∧ a.tables.take k' = b.tables.take k') ∧ a.tables.length - k' < a.tables.length - k))) ∧ ((decide ((k : Int) < ((a.tables.length : Nat) : Int))) = false → (true) = (decide (a = b)) ∧ True)))))))) ?_
 intro n0 n1
 simp only [List.length_map] at n0 n1
 have hS : cCatalogue a = cTableStatsS a.tables := rfl
 refine ⟨fun g11 => ?_, fun g11 => ?_⟩
 ·replace g11 := nq (nt g11)
  refine ⟨?_, trivial⟩
  ·first | (simp [hne]; done) | (rw [ext_Catalogue]; simp_all; done)
 ·replace g11 := yq (nf g11)
  refine ⟨List.length_map _, List.length_map _, fun c0 => ?_, fun c0 => ?_⟩
  ·replace c0 := nq (nt c0)
   have hne : ¬ a = b := fun e => c0 (by rw [e])
   refine ⟨?_, trivial⟩
   ·first | (simp [hne]; done) | (rw [ext_Catalogue]; simp_all; done)
  ·replace c0 := yq (nf c0)
   have hl : a.tables.length = b.tables.length := by omega
   refine ⟨⟨0, rfl, Nat.zero_le _, rfl⟩, fun k ⟨hk, ht⟩ => ?_⟩
   refine ⟨List.length_map _, fun c1 => ?_, fun c1 => ?_⟩
   ·replace c1 := yq c1
    refine ⟨by omega, rfl, by omega, fun e30 h30 => ?_⟩
    refine ⟨by omega, rfl, by omega, fun e35 h35 => ?_⟩
    refine ⟨eqStats_spec _ _ (by have := cTableStatsS_el h30; omega), fun c2 => ?_, fun c2 => ?_⟩
    ·replace c2 := nq (nt c2)
     have hne : ¬ a = b := fun e => by subst e; exact c2 (same_at h35 h30)
     refine ⟨?_, trivial⟩
     ·first | (simp [hne]; done) | (rw [ext_Catalogue]; simp_all; done)
    ·replace c2 := yq (nf c2)
     refine ⟨⟨by omega, by omega⟩, ?_⟩
     exact ⟨k + 1, rfl, ⟨by omega, take_same h30 (by rw [h35, c2]) ht⟩, by omega⟩
   ·replace c1 := nq c1
    have hg := same_take (by omega) hl ht
    refine ⟨?_, trivial⟩
    ·first | (simp [hne]; done) | (rw [ext_Catalogue]; simp_all; done)
abbrev K_in_impl (n : Int) (a : Int) (b : Int) : Prop := Con Tryz.prog 102 [.one (.int .i64 n), .one (.int .i64 a), .one (.int .i64 b)] (vB (inB n a b)) []
theorem in_impl (n a b : Int) : K_in_impl n a b := by
 refine con_x tbOk mixedW Tryz.func102 (by kernel_rfl) (.br (.fin []) (.fin [])) ?_
 refine Eq.mpr (by kernel_rfl : _ = (((decide (a ≤ n)) = true → (decide (n ≤ b)) = (inB n a b) ∧ True) ∧ ((decide (a ≤ n)) = false → (false) = (inB n a b) ∧ True))) ?_
 refine ⟨fun g10 => ?_, fun g10 => ?_⟩
 ·replace g10 := yq g10
  refine ⟨?_, trivial⟩
  ·first | (simp [inB, g10]; done) | (simp [inB]; omega)
 ·replace g10 := nq g10
  refine ⟨?_, trivial⟩
  ·first | (simp [inB, g10]; done) | (simp [inB]; omega)
abbrev K_in_spec (n : Int) (a : Int) (b : Int) : Prop := Con Tryz.prog 99 [.one (.int .i64 n), .one (.int .i64 a), .one (.int .i64 b)] (vB (inB n a b)) []
theorem in_spec (n a b : Int) : K_in_spec n a b := by
 refine con_x tbOk mixedW Tryz.func99 (by kernel_rfl) (.br (.fin []) (.fin [])) ?_
 refine Eq.mpr (by kernel_rfl : _ = (((decide (a ≤ n)) = true → (decide (n ≤ b)) = (inB n a b) ∧ True) ∧ ((decide (a ≤ n)) = false → (false) = (inB n a b) ∧ True))) ?_
 refine ⟨fun g10 => ?_, fun g10 => ?_⟩
 ·replace g10 := yq g10
  refine ⟨?_, trivial⟩
  ·first | (simp [inB, g10]; done) | (simp [inB]; omega)
 ·replace g10 := nq g10
  refine ⟨?_, trivial⟩
  ·first | (simp [inB, g10]; done) | (simp [inB]; omega)
def okVal (v : Int) : Bool := inB v 0 9
def okRow (n : Int) (r : List Int) : Bool := r.all okVal && decide ((r.length : Int) = n)
def okName (s : ByteArray) : Bool := decide ((s.size : Int) = 1) && (decide (97 ≤ byteAt s 0) && decide (byteAt s 0 ≤ 122))
abbrev K_row_impl (r : List Int) (n : Int) : Prop := Con Tryz.prog 226 [.one (.sl 3 1 (r.map intD)), .one (.int .i64 n)] (vB (okRow n r)) []
theorem row_impl (r : List Int) (n : Int) : K_row_impl r n := by
 refine con_x tbOk mixedW Tryz.func226 (by kernel_rfl) (.len r.length <| .loop Nat (Q1 Nat) [6, 9, 10, 11, 12, 13, 14, 15, 16] [] (fun k => [(9, vI (k : Int))]) (fun k => []) (fun k => k ≤ r.length ∧ (r.take k).all okVal = true) (fun k => r.length - k) (fun k => .br (.elem _ intD r (fun e11 => .call (vB (inB e11 (0 : Int) (9 : Int))) [] <| .br (.fin []) (.back []))) (.len r.length <| .fin []))) ?_
 refine Eq.mpr (by kernel_rfl : _ = ((r.map intD).length ≤ 9223372036854775807 → Lm intD r ∧ ((∃ (k : Nat), (0 : Int) = (k : Int) ∧ k ≤ r.length ∧ (r.take k).all okVal = true) ∧ ∀ (k : Nat), (k ≤ r.length ∧ (r.take k).all okVal = true) → ((decide ((k : Int) < ((r.length : Nat) : Int))) = true → 0 ≤ (k : Int) ∧ Em intD r k fun e11 => K_in_impl e11 (0 : Int) (9 : Int) ∧ (((!(inB e11 (0 : Int) (9 : Int))) = true → (false) = (okRow n r) ∧ True) ∧ ((!(inB e11 (0 : Int) (9 : Int))) = false → inR ((k : Int) + (1 : Int)) ∧ ∃ (k' : Nat), ((k : Int) + (1 : Int)) = (k' : Int) ∧ (k' ≤ r.length ∧ (r.take k').all okVal = true) ∧ r.length - k' < r.length - k))) ∧ ((decide ((k : Int) < ((r.length : Nat) : Int))) = false → Lm intD r ∧ (decide (((r.length : Nat) : Int) = n)) = (okRow n r) ∧ True)))) ?_
 intro n0
 simp only [List.length_map] at n0
 refine ⟨List.length_map _, ⟨0, rfl, Nat.zero_le _, rfl⟩, fun k ⟨hk, ha⟩ => ?_⟩
 refine ⟨fun c0 => ?_, fun c0 => ?_⟩
 ·replace c0 := yq c0
  refine ⟨by omega, rfl, by omega, fun e11 h11 => ?_⟩
  refine ⟨in_impl _ _ _, fun c1 => ?_, fun c1 => ?_⟩
  ·replace c1 := nt c1
   refine ⟨?_, trivial⟩
   ·first | (rw [okRow, all_stop h11 c1]; rfl) | (rw [okRow, all_done (by omega) ha]; simp)
  ·replace c1 := nf c1
   refine ⟨⟨by omega, by omega⟩, ?_⟩
   exact ⟨k + 1, rfl, ⟨by omega, all_snoc h11 ha c1⟩, by omega⟩
 ·replace c0 := nq c0
  refine ⟨List.length_map _, ?_, trivial⟩
  ·first | (rw [okRow, all_stop h11 c1]; rfl) | (rw [okRow, all_done (by omega) ha]; simp)
abbrev K_row_spec (r : List Int) (n : Int) : Prop := Con Tryz.prog 208 [.one (.sl 3 1 (r.map intD)), .one (.int .i64 n)] (vB (okRow n r)) []
theorem row_spec (r : List Int) (n : Int) : K_row_spec r n := by
 refine con_x tbOk mixedW Tryz.func208 (by kernel_rfl) (.loop Nat (Q1 Nat) [5, 6, 7, 8, 9, 10, 11, 12, 13, 14, 15, 16, 17] [] (fun k => [(5, vI (k : Int))]) (fun k => []) (fun k => k ≤ r.length ∧ (r.take k).all okVal = true) (fun k => r.length - k) (fun k => .len r.length <| .br (.elem _ intD r (fun e14 => .call (vB (inB e14 (0 : Int) (9 : Int))) [] <| .br (.fin []) (.back []))) (.len r.length <| .fin []))) ?_
 refine Eq.mpr (by kernel_rfl : _ = ((r.map intD).length ≤ 9223372036854775807 → (∃ (k : Nat), (0 : Int) = (k : Int) ∧ k ≤ r.length ∧ (r.take k).all okVal = true) ∧ ∀ (k : Nat), (k ≤ r.length ∧ (r.take k).all okVal = true) → Lm intD r ∧ (((decide ((k : Int) < ((r.length : Nat) : Int))) = true → 0 ≤ (k : Int) ∧ Em intD r k fun e14 => K_in_spec e14 (0 : Int) (9 : Int) ∧ (((!(inB e14 (0 : Int) (9 : Int))) = true → (false) = (okRow n r) ∧ True) ∧ ((!(inB e14 (0 : Int) (9 : Int))) = false → inR ((k : Int) + (1 : Int)) ∧ ∃ (k' : Nat), ((k : Int) + (1 : Int)) = (k' : Int) ∧ (k' ≤ r.length ∧ (r.take k').all okVal = true) ∧ r.length - k' < r.length - k))) ∧ ((decide ((k : Int) < ((r.length : Nat) : Int))) = false → Lm intD r ∧ (decide (((r.length : Nat) : Int) = n)) = (okRow n r) ∧ True)))) ?_
 intro n0
 simp only [List.length_map] at n0
 refine ⟨⟨0, rfl, Nat.zero_le _, rfl⟩, fun k ⟨hk, ha⟩ => ?_⟩
 refine ⟨List.length_map _, fun c0 => ?_, fun c0 => ?_⟩
 ·replace c0 := yq c0
  refine ⟨by omega, rfl, by omega, fun e14 h14 => ?_⟩
  refine ⟨in_spec _ _ _, fun c1 => ?_, fun c1 => ?_⟩
  ·replace c1 := nt c1
   refine ⟨?_, trivial⟩
   ·first | (rw [okRow, all_stop h14 c1]; rfl) | (rw [okRow, all_done (by omega) ha]; simp)
  ·replace c1 := nf c1
   refine ⟨⟨by omega, by omega⟩, ?_⟩
   exact ⟨k + 1, rfl, ⟨by omega, all_snoc h14 ha c1⟩, by omega⟩
 ·replace c0 := nq c0
  refine ⟨List.length_map _, ?_, trivial⟩
  ·first | (rw [okRow, all_stop h14 c1]; rfl) | (rw [okRow, all_done (by omega) ha]; simp)
abbrev K_name_impl (s : ByteArray) : Prop := Con Tryz.prog 253 [.one (.str s)] (vB (okName s)) []
theorem name_impl (s : ByteArray) : K_name_impl s := by
 refine con_x tbOk mixedW Tryz.func253 (by kernel_rfl) (.br (.lit <| .lit <| .lit <| .br (.fin []) (.fin [])) (.fin [])) ?_
 refine Eq.mpr (by kernel_rfl : _ = (((decide (((s.size : Nat) : Int) = (1 : Int))) = true → 0 ≤ (0 : Int) ∧ (0 : Int) < ((s.size : Nat) : Int) ∧ (((decide ((97 : Int) ≤ (byteAt s 0))) = true → 0 ≤ (0 : Int) ∧ (0 : Int) < ((s.size : Nat) : Int) ∧ (decide ((byteAt s 0) ≤ (122 : Int))) = (okName s) ∧ True) ∧ ((decide ((97 : Int) ≤ (byteAt s 0))) = false → (false) = (okName s) ∧ True))) ∧ ((decide (((s.size : Nat) : Int) = (1 : Int))) = false → (false) = (okName s) ∧ True))) ?_
 refine ⟨fun g6 => ?_, fun g6 => ?_⟩
 ·replace g6 := yq g6
  refine ⟨by omega, by omega, fun g11 => ?_, fun g11 => ?_⟩
  ·replace g11 := yq g11
   refine ⟨by omega, by omega, ?_, trivial⟩
   ·first | (simp [okName, g6]; done) | (simp [okName, g6, g11]; done) | (simp [okName, *]; done)
  ·replace g11 := nq g11
   refine ⟨?_, trivial⟩
   ·first | (simp [okName, g6]; done) | (simp [okName, g6, g11]; done) | (simp [okName, *]; done)
 ·replace g6 := nq g6
  refine ⟨?_, trivial⟩
  ·first | (simp [okName, g6]; done) | (simp [okName, g6, g11]; done) | (simp [okName, *]; done)
abbrev K_name_spec (s : ByteArray) : Prop := Con Tryz.prog 243 [.one (.str s)] (vB (okName s)) []
theorem name_spec (s : ByteArray) : K_name_spec s := by
 refine con_x tbOk mixedW Tryz.func243 (by kernel_rfl) (.br (.lit <| .lit <| .lit <| .br (.fin []) (.fin [])) (.fin [])) ?_
 refine Eq.mpr (by kernel_rfl : _ = (((decide (((s.size : Nat) : Int) = (1 : Int))) = true → 0 ≤ (0 : Int) ∧ (0 : Int) < ((s.size : Nat) : Int) ∧ (((decide ((97 : Int) ≤ (byteAt s 0))) = true → 0 ≤ (0 : Int) ∧ (0 : Int) < ((s.size : Nat) : Int) ∧ (decide ((byteAt s 0) ≤ (122 : Int))) = (okName s) ∧ True) ∧ ((decide ((97 : Int) ≤ (byteAt s 0))) = false → (false) = (okName s) ∧ True))) ∧ ((decide (((s.size : Nat) : Int) = (1 : Int))) = false → (false) = (okName s) ∧ True))) ?_
 refine ⟨fun g6 => ?_, fun g6 => ?_⟩
 ·replace g6 := yq g6
  refine ⟨by omega, by omega, fun g11 => ?_, fun g11 => ?_⟩
  ·replace g11 := yq g11
   refine ⟨by omega, by omega, ?_, trivial⟩
   ·first | (simp [okName, g6]; done) | (simp [okName, g6, g11]; done) | (simp [okName, *]; done)
  ·replace g11 := nq g11
   refine ⟨?_, trivial⟩
   ·first | (simp [okName, g6]; done) | (simp [okName, g6, g11]; done) | (simp [okName, *]; done)
 ·replace g6 := nq g6
  refine ⟨?_, trivial⟩
  ·first | (simp [okName, g6]; done) | (simp [okName, g6, g11]; done) | (simp [okName, *]; done)
abbrev K_nan_int (n : Int) : Prop := Con Tryz.prog 314 [.one (.int .i64 n)] (vB false) []
theorem nan_int (n : Int) : K_nan_int n := by
 refine con_x tbOk mixedW Tryz.func314 (by kernel_rfl) (.fin []) ?_
 refine Eq.mpr (by kernel_rfl : _ = ((!(decide (n = n))) = false ∧ True)) ?_
 refine ⟨?_, trivial⟩
 ·simp
def cmpI (a b : Int) : Int := if a < b then -1 else if b < a then 1 else 0
abbrev K_cmp_int (a : Int) (b : Int) : Prop := Con Tryz.prog 308 [.one (.int .i64 a), .one (.int .i64 b)] (vI (cmpI a b)) []
theorem cmp_int (a b : Int) : K_cmp_int a b := by
 refine con_x tbOk mixedW Tryz.func308 (by kernel_rfl) (.call (vB false) [] <| .call (vB false) [] <| .lit <| .lit <| .br (.fin []) (.br (.fin []) (.fin []))) ?_
 refine Eq.mpr (by kernel_rfl : _ = (K_nan_int a ∧ (K_nan_int b ∧ (((decide (a < b)) = true → (-1 : Int) = (cmpI a b) ∧ True) ∧ ((decide (a < b)) = false → ((decide (b < a)) = true → (1 : Int) = (cmpI a b) ∧ True) ∧ ((decide (b < a)) = false → (0 : Int) = (cmpI a b) ∧ True)))))) ?_
 refine ⟨nan_int _, nan_int _, fun c3 => ?_, fun c3 => ?_⟩
 ·replace c3 := yq c3
  refine ⟨?_, trivial⟩
  ·simp [cmpI, *]; try omega
 ·replace c3 := nq c3
  refine ⟨fun c4 => ?_, fun c4 => ?_⟩
  ·replace c4 := yq c4
   refine ⟨?_, trivial⟩
   ·simp [cmpI, *]; try omega
  ·replace c4 := nq c4
   refine ⟨?_, trivial⟩
   ·simp [cmpI, *]; try omega
theorem cmpR_cons (a b : Int) (l m : List Int) : cmpR (a :: l) (b :: m) = if cmpI a b = 0 then cmpR l m else cmpI a b := by
  unfold cmpI
  rw [cmpR]
  by_cases h1 : a < b
  · simp [h1]
  · by_cases h2 : b < a
    · simp [h1, h2]
    · simp [h1, h2]
abbrev K_cmpS (l : List Int) (m : List Int) : Prop := Con Tryz.prog 285 [.one (.sl 3 1 (l.map intD)), .one (.sl 3 1 (m.map intD))] (vI (cmpR l m)) []
theorem cmpS (l m : List Int) : K_cmpS l m := by
 refine con_x tbOk mixedW Tryz.func285 (by kernel_rfl) (.len l.length <| .loop Nat (Q1 Nat) [5, 6, 7, 8, 11, 12, 13, 14, 15, 16, 17, 18, 19, 20, 21, 22, 23, 24, 25, 26, 27, 28, 30] [] (fun k => [(11, vI (k : Int))]) (fun k => []) (fun k => (k ≤ l.length ∧ k ≤ m.length) ∧ cmpR (l.drop k) (m.drop k) = cmpR l m) (fun k => l.length - k) (fun k => .br (.elem _ intD l (fun e14 => .len m.length <| .br (.fin []) (.elem _ intD m (fun e22 => .call (vI (cmpI e14 e22)) [] <| .br (.fin []) (.back []))))) (.len l.length <| .len m.length <| .br (.fin []) (.fin [])))) ?_
 refine Eq.mpr (by kernel_rfl : _ = ((l.map intD).length ≤ 9223372036854775807 → (m.map intD).length ≤ 9223372036854775807 → Lm intD l ∧ ((∃ (k : Nat), (0 : Int) = (k : Int) ∧ (k ≤ l.length ∧ k ≤ m.length) ∧ cmpR (l.drop k) (m.drop k) = cmpR l m) ∧ ∀ (k : Nat), ((k ≤ l.length ∧ k ≤ m.length) ∧ cmpR (l.drop k) (m.drop k) = cmpR l m) → ((decide ((k : Int) < ((l.length : Nat) : Int))) = true → 0 ≤ (k : Int) ∧ Em intD l k fun e14 => Lm intD m ∧ (((decide (((m.length : Nat) : Int) ≤ (k : Int))) = true → (1 : Int) = (cmpR l m) ∧ True) ∧ ((decide (((m.length : Nat) : Int) ≤ (k : Int))) = false → 0 ≤ (k : Int) ∧ Em intD m k fun e22 => K_cmp_int e14 e22 ∧ (((!(decide ((cmpI e14 e22) = (0 : Int)))) = true → (cmpI e14 e22) = (cmpR l m) ∧ True) ∧ ((!(decide ((cmpI e14 e22) = (0 : Int)))) = false → inR ((k : Int) + (1 : Int)) ∧ ∃ (k' : Nat), ((k : Int) + (1 : Int)) = (k' : Int) ∧ ((k' ≤ l.length ∧ k' ≤ m.length) ∧ cmpR (l.drop k') (m.drop k') = cmpR l m) ∧ l.length - k' < l.length - k))))) ∧ ((decide ((k : Int) < ((l.length : Nat) : Int))) = false → Lm intD l ∧ (Lm intD m ∧ (((decide (((l.length : Nat) : Int) < ((m.length : Nat) : Int))) = true → (-1 : Int) = (cmpR l m) ∧ True) ∧ ((decide (((l.length : Nat) : Int) < ((m.length : Nat) : Int))) = false → (0 : Int) = (cmpR l m) ∧ True))))))) ?_
 intro n0 n1
 simp only [List.length_map] at n0 n1
 refine ⟨List.length_map _, ⟨0, rfl, ⟨Nat.zero_le _, Nat.zero_le _⟩, rfl⟩, fun k ⟨hk, hv⟩ => ?_⟩
 refine ⟨fun c0 => ?_, fun c0 => ?_⟩
 ·replace c0 := yq c0
  obtain ⟨x, hx⟩ := at_some (l := l) (k := k) (by omega)
  refine ⟨by omega, rfl, by omega, fun e14 h14 => ?_⟩
  obtain rfl := (same_at hx h14).symm
  refine ⟨List.length_map _, fun c1 => ?_, fun c1 => ?_⟩
  ·replace c1 := yq c1
   refine ⟨?_, trivial⟩
   ·first | (rw [hd, if_neg c2]; done) | (rw [← hv, cmpR_stop hk (by omega), if_neg (by omega), if_pos (by omega)]; done) | (rw [← hv, cmpR_stop hk (by omega), if_pos (by omega)]; done) | (rw [← hv, cmpR_stop hk (by omega), if_neg (by omega), if_neg (by omega)]; done)
  ·replace c1 := nq c1
   obtain ⟨y, hy⟩ := at_some (l := m) (k := k) (by omega)
   have hd : cmpR l m = if cmpI x y = 0 then cmpR (l.drop (k + 1)) (m.drop (k + 1)) else cmpI x y := by rw [← hv, drop_at hx, drop_at hy, cmpR_cons]
   refine ⟨by omega, rfl, by omega, fun e22 h22 => ?_⟩
   obtain rfl := (same_at hy h22).symm
   refine ⟨cmp_int _ _, fun c2 => ?_, fun c2 => ?_⟩
   ·replace c2 := nq (nt c2)
    refine ⟨?_, trivial⟩
    ·first | (rw [hd, if_neg c2]; done) | (rw [← hv, cmpR_stop hk (by omega), if_neg (by omega), if_pos (by omega)]; done) | (rw [← hv, cmpR_stop hk (by omega), if_pos (by omega)]; done) | (rw [← hv, cmpR_stop hk (by omega), if_neg (by omega), if_neg (by omega)]; done)
   ·replace c2 := yq (nf c2)
    refine ⟨⟨by omega, by omega⟩, ?_⟩
    exact ⟨k + 1, rfl, ⟨by omega, by rw [hd, if_pos c2]⟩, by omega⟩
 ·replace c0 := nq c0
  refine ⟨List.length_map _, List.length_map _, fun c3 => ?_, fun c3 => ?_⟩
  ·replace c3 := yq c3
   refine ⟨?_, trivial⟩
   ·first | (rw [hd, if_neg c2]; done) | (rw [← hv, cmpR_stop hk (by omega), if_neg (by omega), if_pos (by omega)]; done) | (rw [← hv, cmpR_stop hk (by omega), if_pos (by omega)]; done) | (rw [← hv, cmpR_stop hk (by omega), if_neg (by omega), if_neg (by omega)]; done)
  ·replace c3 := nq c3
   refine ⟨?_, trivial⟩
   ·first | (rw [hd, if_neg c2]; done) | (rw [← hv, cmpR_stop hk (by omega), if_neg (by omega), if_pos (by omega)]; done) | (rw [← hv, cmpR_stop hk (by omega), if_pos (by omega)]; done) | (rw [← hv, cmpR_stop hk (by omega), if_neg (by omega), if_neg (by omega)]; done)
abbrev K_cmpRows_impl (l : List Int) (m : List Int) : Prop := Con Tryz.prog 269 [.one (.sl 3 1 (l.map intD)), .one (.sl 3 1 (m.map intD))] (vI (cmpR l m)) []
theorem cmpRows_impl (l m : List Int) : K_cmpRows_impl l m := by
 refine con_x tbOk mixedW Tryz.func269 (by kernel_rfl) (.call (vI (cmpR l m)) [] <| .fin []) ?_
 refine Eq.mpr (by kernel_rfl : _ = ((l.map intD).length ≤ 9223372036854775807 → (m.map intD).length ≤ 9223372036854775807 → K_cmpS l m ∧ (cmpR l m) = (cmpR l m) ∧ True)) ?_
 intro n0 n1
 simp only [List.length_map] at n0 n1
 refine ⟨cmpS _ _, ?_⟩
 exact ⟨rfl, trivial⟩
def ascAt (l : List (List Int)) (i : Nat) : Bool := decide (cmpR (l.getD i []) (l.getD (i + 1) []) < 0)
def ascR (l : List (List Int)) : Bool := (List.range (l.length - 1)).all (ascAt l)
def okTable (t : TableD) : Bool := t.rows.all (okRow t.arity) && (okName t.name && (inB t.arity 1 3 && (decide ((t.rows.length : Int) ≤ 8) && ascR t.rows)))
theorem range_snoc {p : Nat → Bool} {k : Nat} (h : (List.range k).all p = true) (hk : p k = true) : (List.range (k + 1)).all p = true := by
  rw [List.range_succ, List.all_append, h]; simp [hk]
theorem range_stop {p : Nat → Bool} {n k : Nat} (hk : k < n) (h : p k = false) : (List.range n).all p = false := by
  rw [List.all_eq_false]; exact ⟨k, List.mem_range.2 hk, by simp [h]⟩
theorem getD_at {α : Type} {l : List α} {k : Nat} {x y : α} (h : l[k]? = some x) : l.getD k y = x := by simp [List.getD_eq_getElem?_getD, h]
abbrev K_asc_impl (l : List (List Int)) : Prop := Con Tryz.prog 264 [.one (.sl 32 1 (l.map eIntS))] (vB (ascR l)) []
theorem asc_impl (l : List (List Int)) : K_asc_impl l := by
 refine con_x tbOk mixedW Tryz.func264 (by kernel_rfl) (.loop Nat (Q1 Nat) [3, 4, 5, 6, 7, 8, 9, 10, 11, 12, 13, 14, 15, 16, 17, 18, 19, 20] [] (fun k => [(3, vI (((k : Nat) : Int) + 1))]) (fun k => []) (fun k => (k + 1 ≤ l.length ∨ k = 0) ∧ (List.range k).all (ascAt l) = true) (fun k => l.length - k) (fun k => .len l.length <| .br (.elem _ eIntS l (fun e13 => .elem _ eIntS l (fun e17 => .call (vI (cmpR e13 e17)) [] <| .br (.fin []) (.back [])))) (.fin []))) ?_
 refine Eq.mpr (by kernel_rfl : _ = ((l.map eIntS).length ≤ 9223372036854775807 → (∃ (k : Nat), (1 : Int) = (((k : Nat) : Int) + 1) ∧ (k + 1 ≤ l.length ∨ k = 0) ∧ (List.range k).all (ascAt l) = true) ∧ ∀ (k : Nat), ((k + 1 ≤ l.length ∨ k = 0) ∧ (List.range k).all (ascAt l) = true) → Lm eIntS l ∧ (((decide ((((k : Nat) : Int) + 1) < ((l.length : Nat) : Int))) = true → inR ((((k : Nat) : Int) + 1) - (1 : Int)) ∧ (0 ≤ ((((k : Nat) : Int) + 1) - (1 : Int)) ∧ Em eIntS l (((((k : Nat) : Int) + 1) - (1 : Int)).toNat) fun e13 => 0 ≤ (((k : Nat) : Int) + 1) ∧ Em eIntS l (k + 1) fun e17 => K_cmpRows_impl e13 e17 ∧ (((decide ((0 : Int) ≤ (cmpR e13 e17))) = true → (false) = (ascR l) ∧ True) ∧ ((decide ((0 : Int) ≤ (cmpR e13 e17))) = false → inR ((((k : Nat) : Int) + 1) + (1 : Int)) ∧ ∃ (k' : Nat), ((((k : Nat) : Int) + 1) + (1 : Int)) = (((k' : Nat) : Int) + 1) ∧ ((k' + 1 ≤ l.length ∨ k' = 0) ∧ (List.range k').all (ascAt l) = true) ∧ l.length - k' < l.length - k)))) ∧ ((decide ((((k : Nat) : Int) + 1) < ((l.length : Nat) : Int))) = false → (true) = (ascR l) ∧ True)))) ?_
 intro n0
 simp only [List.length_map] at n0
 refine ⟨⟨0, rfl, .inr rfl, rfl⟩, fun k ⟨hk, ha⟩ => ?_⟩
 refine ⟨List.length_map _, fun c0 => ?_, fun c0 => ?_⟩
 ·replace c0 := yq c0
  refine ⟨⟨by omega, by omega⟩, by omega, rfl, by omega, fun e13 h13 => ?_⟩
  have i13 : l[k]? = some e13 := by rw [← h13]; congr 1; omega
  refine ⟨by omega, rfl, by omega, fun e17 h17 => ?_⟩
  refine ⟨cmpRows_impl _ _, fun c1 => ?_, fun c1 => ?_⟩
  ·replace c1 := yq c1
   have hp : ascAt l k = false := by rw [ascAt, getD_at i13, getD_at h17]; simp; omega
   refine ⟨?_, trivial⟩
   ·first | (rw [ascR, range_stop (by omega) hp]; done) | (rw [ascR, show l.length - 1 = k by omega, ha]; done)
  ·replace c1 := nq c1
   have hp : ascAt l k = true := by rw [ascAt, getD_at i13, getD_at h17]; simp; omega
   refine ⟨⟨by omega, by omega⟩, ?_⟩
   exact ⟨k + 1, rfl, ⟨by omega, range_snoc ha hp⟩, by omega⟩
 ·replace c0 := nq c0
  refine ⟨?_, trivial⟩
  ·first | (rw [ascR, range_stop (by omega) hp]; done) | (rw [ascR, show l.length - 1 = k by omega, ha]; done)
abbrev K_tab_impl (t : TableD) : Prop := Con Tryz.prog 225 [.agg [.str t.name, .int .i64 t.arity, .sl 32 1 (t.rows.map eIntS)]] (vB (okTable t)) []
theorem tab_impl (t : TableD) : K_tab_impl t := by
 refine con_x tbOk mixedW Tryz.func225 (by kernel_rfl) (.len t.rows.length <| .loop Nat (Q1 Nat) [4, 8, 9, 10, 11, 12, 13, 14, 15, 16, 17] [] (fun k => [(8, vI (k : Int))]) (fun k => []) (fun k => k ≤ t.rows.length ∧ (t.rows.take k).all (okRow t.arity) = true) (fun k => t.rows.length - k) (fun k => .br (.elem _ eIntS t.rows (fun e10 => .call (vB (okRow t.arity e10)) [] <| .br (.fin []) (.back []))) (.call (vB (okName t.name)) [] <| .br (.call (vB (inB t.arity (1 : Int) (3 : Int))) [] <| .lit <| .br (.len t.rows.length <| .lit <| .lit <| .br (.call (vB (ascR t.rows)) [] <| .fin []) (.fin [])) (.fin [])) (.fin [])))) ?_
 refine Eq.mpr (by kernel_rfl : _ = ((t.rows.map eIntS).length ≤ 9223372036854775807 → Lm eIntS t.rows ∧ ((∃ (k : Nat), (0 : Int) = (k : Int) ∧ k ≤ t.rows.length ∧ (t.rows.take k).all (okRow t.arity) = true) ∧ ∀ (k : Nat), (k ≤ t.rows.length ∧ (t.rows.take k).all (okRow t.arity) = true) → ((decide ((k : Int) < ((t.rows.length : Nat) : Int))) = true → 0 ≤ (k : Int) ∧ Em eIntS t.rows k fun e10 => K_row_impl e10 t.arity ∧ (((!(okRow t.arity e10)) = true → (false) = (okTable t) ∧ True) ∧ ((!(okRow t.arity e10)) = false → inR ((k : Int) + (1 : Int)) ∧ ∃ (k' : Nat), ((k : Int) + (1 : Int)) = (k' : Int) ∧ (k' ≤ t.rows.length ∧ (t.rows.take k').all (okRow t.arity) = true) ∧ t.rows.length - k' < t.rows.length - k))) ∧ ((decide ((k : Int) < ((t.rows.length : Nat) : Int))) = false → K_name_impl t.name ∧ (((okName t.name) = true → K_in_impl t.arity (1 : Int) (3 : Int) ∧ (((inB t.arity (1 : Int) (3 : Int)) = true → Lm eIntS t.rows ∧ (((decide (((t.rows.length : Nat) : Int) ≤ (8 : Int))) = true → K_asc_impl t.rows ∧ (ascR t.rows) = (okTable t) ∧ True) ∧ ((decide (((t.rows.length : Nat) : Int) ≤ (8 : Int))) = false → (false) = (okTable t) ∧ True))) ∧ ((inB t.arity (1 : Int) (3 : Int)) = false → (false) = (okTable t) ∧ True))) ∧ ((okName t.name) = false → (false) = (okTable t) ∧ True)))))) ?_
 intro n0
 simp only [List.length_map] at n0
 refine ⟨List.length_map _, ⟨0, rfl, Nat.zero_le _, rfl⟩, fun k ⟨hk, ha⟩ => ?_⟩
 refine ⟨fun c0 => ?_, fun c0 => ?_⟩
 ·replace c0 := yq c0
  refine ⟨by omega, rfl, by omega, fun e10 h10 => ?_⟩
  refine ⟨row_impl _ _, fun c1 => ?_, fun c1 => ?_⟩
  ·replace c1 := nt c1
   refine ⟨?_, trivial⟩
   ·first | (rw [okTable, all_stop h10 c1]; rfl) | (simp [okTable, hall, *]; done)
  ·replace c1 := nf c1
   refine ⟨⟨by omega, by omega⟩, ?_⟩
   exact ⟨k + 1, rfl, ⟨by omega, all_snoc h10 ha c1⟩, by omega⟩
 ·replace c0 := nq c0
  have hall := all_done (by omega) ha
  refine ⟨name_impl _, fun g21 => ?_, fun g21 => ?_⟩
  ·refine ⟨in_impl _ _ _, fun g26 => ?_, fun g26 => ?_⟩
   ·refine ⟨List.length_map _, fun g32 => ?_, fun g32 => ?_⟩
    ·replace g32 := yq g32
     refine ⟨asc_impl _, ?_, trivial⟩
     ·first | (rw [okTable, all_stop h10 c1]; rfl) | (simp [okTable, hall, *]; done)
    ·replace g32 := nq g32
     refine ⟨?_, trivial⟩
     ·first | (rw [okTable, all_stop h10 c1]; rfl) | (simp [okTable, hall, *]; done)
   ·refine ⟨?_, trivial⟩
    ·first | (rw [okTable, all_stop h10 c1]; rfl) | (simp [okTable, hall, *]; done)
  ·refine ⟨?_, trivial⟩
   ·first | (rw [okTable, all_stop h10 c1]; rfl) | (simp [okTable, hall, *]; done)
abbrev K_tab_spec (t : TableD) : Prop := Con Tryz.prog 207 [.agg [.str t.name, .int .i64 t.arity, .sl 32 1 (t.rows.map eIntS)]] (vB (okTable t)) []
theorem tab_spec (t : TableD) : K_tab_spec t := by
 refine con_x tbOk mixedW Tryz.func207 (by kernel_rfl) (.call (vB (okName t.name)) [] <| .br (.fin []) (.call (vB (inB t.arity (1 : Int) (3 : Int))) [] <| .lit <| .lit <| .br (.fin []) (.len t.rows.length <| .lit <| .lit <| .br (.fin []) (.loop Nat (Q1 Nat) [3, 20, 21, 22, 23, 24, 25, 26, 27, 28, 29, 30, 31, 32, 33, 34, 35, 36, 37, 38, 39, 40, 41, 42, 43, 44, 45, 46, 47, 48, 49, 50, 51, 52, 53, 54] [] (fun k => [(3, vI (k : Int))]) (fun k => []) (fun k => k ≤ t.rows.length ∧ (t.rows.take k).all (okRow t.arity) = true ∧ (List.range (k - 1)).all (ascAt t.rows) = true) (fun k => t.rows.length - k) (fun k => .len t.rows.length <| .br (.elem _ eIntS t.rows (fun e30 => .call (vB (okRow t.arity e30)) [] <| .br (.fin []) (.lit <| .lit <| .br (.elem _ eIntS t.rows (fun e44 => .elem _ eIntS t.rows (fun e49 => .call (vI (cmpR e44 e49)) [] <| .lit <| .lit <| .lit <| .lit <| .br (.fin []) (.back [])))) (.back [])))) (.fin [])))))) ?_
 refine Eq.mpr (by kernel_rfl : _ = ((t.rows.map eIntS).length ≤ 9223372036854775807 → K_name_spec t.name ∧ (((!(okName t.name)) = true → (false) = (okTable t) ∧ True) ∧ ((!(okName t.name)) = false → K_in_spec t.arity (1 : Int) (3 : Int) ∧ (((!(inB t.arity (1 : Int) (3 : Int))) = true → (false) = (okTable t) ∧ True) ∧ ((!(inB t.arity (1 : Int) (3 : Int))) = false → Lm eIntS t.rows ∧ (((decide ((8 : Int) < ((t.rows.length : Nat) : Int))) = true → (false) = (okTable t) ∧ True) ∧ ((decide ((8 : Int) < ((t.rows.length : Nat) : Int))) = false → (∃ (k : Nat), (0 : Int) = (k : Int) ∧ k ≤ t.rows.length ∧ (t.rows.take k).all (okRow t.arity) = true ∧ (List.range (k - 1)).all (ascAt t.rows) = true) ∧ ∀ (k : Nat), (k ≤ t.rows.length ∧ (t.rows.take k).all (okRow t.arity) = true ∧ (List.range (k - 1)).all (ascAt t.rows) = true) → Lm eIntS t.rows ∧ (((decide ((k : Int) < ((t.rows.length : Nat) : Int))) = true → 0 ≤ (k : Int) ∧ Em eIntS t.rows k fun e30 => K_row_spec e30 t.arity ∧ (((!(okRow t.arity e30)) = true → (false) = (okTable t) ∧ True) ∧ ((!(okRow t.arity e30)) = false → ((decide ((0 : Int) < (k : Int))) = true → inR ((k : Int) - (1 : Int)) ∧ (0 ≤ ((k : Int) - (1 : Int)) ∧ Em eIntS t.rows (((k : Int) - (1 : Int)).toNat) fun e44 => 0 ≤ (k : Int) ∧ Em eIntS t.rows k fun e49 => K_cmpRows_spec e44 e49 ∧ (((decide ((0 : Int) ≤ (cmpR e44 e49))) = true → (false) = (okTable t) ∧ True) ∧ ((decide ((0 : Int) ≤ (cmpR e44 e49))) = false → inR ((k : Int) + (1 : Int)) ∧ ∃ (k' : Nat), ((k : Int) + (1 : Int)) = (k' : Int) ∧ (k' ≤ t.rows.length ∧ (t.rows.take k').all (okRow t.arity) = true ∧ (List.range (k' - 1)).all (ascAt t.rows) = true) ∧ t.rows.length - k' < t.rows.length - k)))) ∧ ((decide ((0 : Int) < (k : Int))) = false → inR ((k : Int) + (1 : Int)) ∧ ∃ (k' : Nat), ((k : Int) + (1 : Int)) = (k' : Int) ∧ (k' ≤ t.rows.length ∧ (t.rows.take k').all (okRow t.arity) = true ∧ (List.range (k' - 1)).all (ascAt t.rows) = true) ∧ t.rows.length - k' < t.rows.length - k)))) ∧ ((decide ((k : Int) < ((t.rows.length : Nat) : Int))) = false → (true) = (okTable t) ∧ True)))))))))) ?_
 intro n0
 simp only [List.length_map] at n0
 refine ⟨name_spec _, fun g8 => ?_, fun g8 => ?_⟩
 ·replace g8 := nt g8
  refine ⟨?_, trivial⟩
  ·first | (rw [okTable, all_stop h30 g36]; rfl) | (rw [okTable, h8, hz]; simp [*]; done) | (rw [okTable, hz]; simp [*]; done) | (rw [okTable, h8]; simp [*]; done) | (simp [okTable, *]; done)
 ·replace g8 := nf g8
  refine ⟨in_spec _ _ _, fun g14 => ?_, fun g14 => ?_⟩
  ·replace g14 := nt g14
   refine ⟨?_, trivial⟩
   ·first | (rw [okTable, all_stop h30 g36]; rfl) | (rw [okTable, h8, hz]; simp [*]; done) | (rw [okTable, hz]; simp [*]; done) | (rw [okTable, h8]; simp [*]; done) | (simp [okTable, *]; done)
  ·replace g14 := nf g14
   refine ⟨List.length_map _, fun c0 => ?_, fun c0 => ?_⟩
   ·replace c0 := yq c0
    have h8 : decide ((t.rows.length : Int) ≤ 8) = false := by simp; omega
    refine ⟨?_, trivial⟩
    ·first | (rw [okTable, all_stop h30 g36]; rfl) | (rw [okTable, h8, hz]; simp [*]; done) | (rw [okTable, hz]; simp [*]; done) | (rw [okTable, h8]; simp [*]; done) | (simp [okTable, *]; done)
   ·replace c0 := nq c0
    have h8 : decide ((t.rows.length : Int) ≤ 8) = true := by simp; omega
    refine ⟨⟨0, rfl, Nat.zero_le _, rfl, rfl⟩, fun k ⟨hk, ha, hs⟩ => ?_⟩
    refine ⟨List.length_map _, fun c1 => ?_, fun c1 => ?_⟩
    ·replace c1 := yq c1
     refine ⟨by omega, rfl, by omega, fun e30 h30 => ?_⟩
     refine ⟨row_spec _ _, fun g36 => ?_, fun g36 => ?_⟩
     ·replace g36 := nt g36
      refine ⟨?_, trivial⟩
      ·first | (rw [okTable, all_stop h30 g36]; rfl) | (rw [okTable, h8, hz]; simp [*]; done) | (rw [okTable, hz]; simp [*]; done) | (rw [okTable, h8]; simp [*]; done) | (simp [okTable, *]; done)
     ·replace g36 := nf g36
      refine ⟨fun g39 => ?_, fun g39 => ?_⟩
      ·replace g39 := yq g39
       refine ⟨⟨by omega, by omega⟩, by omega, rfl, by omega, fun e44 h44 => ?_⟩
       have i44 : t.rows[k - 1]? = some e44 := by rw [← h44]; congr 1; omega
       refine ⟨by omega, rfl, by omega, fun e49 h49 => ?_⟩
       refine ⟨cmpRows_spec _ _, fun c2 => ?_, fun c2 => ?_⟩
       ·replace c2 := yq c2
        have hp : ascAt t.rows (k - 1) = false := by rw [ascAt, getD_at i44, show k - 1 + 1 = k by omega, getD_at h49]; simp; omega
        have hz : ascR t.rows = false := range_stop (by omega) hp
        refine ⟨?_, trivial⟩
        ·first | (rw [okTable, all_stop h30 g36]; rfl) | (rw [okTable, h8, hz]; simp [*]; done) | (rw [okTable, hz]; simp [*]; done) | (rw [okTable, h8]; simp [*]; done) | (simp [okTable, *]; done)
       ·replace c2 := nq c2
        have hp : ascAt t.rows (k - 1) = true := by rw [ascAt, getD_at i44, show k - 1 + 1 = k by omega, getD_at h49]; simp; omega
        have hs2 : (List.range (k + 1 - 1)).all (ascAt t.rows) = true := by rw [show k + 1 - 1 = (k - 1) + 1 by omega]; exact range_snoc hs hp
        refine ⟨⟨by omega, by omega⟩, ?_⟩
        exact ⟨k + 1, rfl, ⟨by omega, all_snoc h30 ha g36, hs2⟩, by omega⟩
      ·replace g39 := nq g39
       have hs2 : (List.range (k + 1 - 1)).all (ascAt t.rows) = true := by rw [show k = 0 by omega]; rfl
       refine ⟨⟨by omega, by omega⟩, ?_⟩
       exact ⟨k + 1, rfl, ⟨by omega, all_snoc h30 ha g36, hs2⟩, by omega⟩
    ·replace c1 := nq c1
     have hall := all_done (by omega) ha
     have hz : ascR t.rows = true := by rw [ascR, show t.rows.length - 1 = k - 1 by omega, hs]
     refine ⟨?_, trivial⟩
     ·first | (rw [okTable, all_stop h30 g36]; rfl) | (rw [okTable, h8, hz]; simp [*]; done) | (rw [okTable, hz]; simp [*]; done) | (rw [okTable, h8]; simp [*]; done) | (simp [okTable, *]; done)
end Go.Proofs.YtokkjaflmcjlhaaGreat
