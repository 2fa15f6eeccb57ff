/-
  Statistics of a table, both sides.
-/
import Derived.Test.YtjlagjhmlmfjeaaGreatGf
namespace Go.Proofs.YtjlagjhmlmfjeaaGreat
open Go.ChangeShapes Go.WideShapes Go.ChangeAt Go.RowKit
set_option linter.unusedVariables false
set_option linter.unusedSimpArgs false
def grpS (t : TableD) (cols : List Int) : GroupStatsD := ⟨cols, (grpR t cols).1, (grpR t cols).2⟩
def statsOf (t : TableD) : TableStatsD := if okTable t = true then ⟨t.name, t.arity, (t.rows.length : Nat), (colSubs t.arity).map (grpS t)⟩ else zTableStats
theorem statsOf_yes {t : TableD} (h : okTable t = true) : statsOf t = ⟨t.name, t.arity, (t.rows.length : Nat), (colSubs t.arity).map (grpS t)⟩ := by rw [statsOf, if_pos h]
theorem statsOf_no {t : TableD} (h : okTable t = false) : statsOf t = zTableStats := by rw [statsOf, if_neg (by rw [h]; decide)]
theorem drop_ne {α : Type} {l : List α} {k : Nat} (h : k < l.length) : l.drop k ≠ [] := fun e => by
  have := congrArg List.length e
  simp at this
  omega
theorem drop_tl {α : Type} {l l2 : List α} {k : Nat} {x : α} (h : l.drop k = x :: l2) : l2 = l.drop (k + 1) := by rw [← List.tail_drop, h]; rfl
theorem drop_hd {α : Type} {l l2 : List α} {k : Nat} {x : α} (h : l.drop k = x :: l2) : l[k]? = some x := by
  have := congrArg List.head? h
  simpa [List.head?_drop] using this
theorem colSubs_at {n : Int} {k : Nat} {x : List Int} (h : (colSubs n)[k]? = some x) : x.length ≤ 3 := by
  obtain ⟨i, _, rfl⟩ := List.mem_map.1 (List.mem_of_getElem? h)
  exact bitsN_len _ 3
theorem colSubs_len {n : Int} (h : 1 ≤ n ∧ n ≤ 3) : (colSubs n).length ≤ 7 := by
  have := pow_small h
  simp only [colSubs, subsN, List.length_map, List.length_range]
  omega

set_option maxRecDepth 100000 in
set_option maxHeartbeats 4000000 in
theorem st_impl (t : TableD) : Con Tryz.prog 74 [.agg [.str t.name, .int .i64 t.arity, .sl 25 1 (t.rows.map eIntS)]] (.agg [.p none (.str ((statsOf t).name)), vI ((statsOf t).arity), vI ((statsOf t).rowCount), .own 0]) [(0, .arr 157 3 true (((statsOf t).groups).map eGroupStats))] := by
  refine con_x tbOk mixedW Tryz.func74 (by kernel_rfl) (.call (vB (okTable t)) [] <| .br (.fin []) (.len t.rows.length <| .call (.own 0) [(0, .arr 25 1 true ((colSubs t.arity).map eIntS))] <| .len ((colSubs t.arity).length) <| .loop (Nat × (List (List Int)) × (List GroupStatsD)) (Q3 Nat (List (List Int)) (List GroupStatsD)) [5, 6, 7, 24, 25, 26, 27, 28, 29, 30, 31, 32, 33, 34, 35, 36, 37, 38, 39, 40, 41, 42, 43] [300, 2200, 3100, 3101, 4000, 4100, 9000, 50607] (fun yy0 => [(24, vI (yy0.1 : Int))]) (fun yy0 => [(300, some (.box 32 [.p none (.str t.name), vI t.arity, vI ((t.rows.length : Nat) : Int), .own 9000])), (9000, some (.arr 157 3 true (yy0.2.2.map eGroupStats))), (2200, some (.arr 25 1 true (List.replicate yy0.1 [Dat.gone] ++ yy0.2.1.map eIntS)))]) (fun yy0 => yy0.1 ≤ (colSubs t.arity).length ∧ yy0.2.1 = (colSubs t.arity).drop yy0.1 ∧ yy0.2.2 = ((colSubs t.arity).take yy0.1).map (grpS t)) (fun yy0 => (colSubs t.arity).length - yy0.1) (fun yy0 => .br (.takeg 6 2200 yy0.1 50607 (List Int) eIntS yy0.2.1 (fun x6 l6 => .len (yy0.1 + (l6.length + 1)) <| .leave 7 2200 yy0.1 50607 (List Int) eIntS x6 l6 (.call (.tup [.own 0, .own 1]) [(0, .arr 25 1 true (((grpR t x6).1).map eIntS)), (1, .arr 3 1 true (((grpR t x6).2).map intD))] <| .appx GroupStatsD eGroupStats yy0.2.2 (⟨x6, (grpR t x6).1, (grpR t x6).2⟩ : GroupStatsD) <| .back [(300, 300), (2200, 2200), (9000, 4100)]))) (.fin [(0, 9000)])))) ?_
  refine Eq.mpr (by kernel_rfl : _ = ((t.rows.map eIntS).length ≤ 9223372036854775807 → Con Tryz.prog 131 [.agg [.str t.name, .int .i64 t.arity, .sl 25 1 (t.rows.map eIntS)]] (vB (okTable t)) [] ∧ (((!(okTable t)) = true → ByteArray.empty = ((statsOf t).name) ∧ (0 : Int) = ((statsOf t).arity) ∧ (0 : Int) = ((statsOf t).rowCount) ∧ [] = ((statsOf t).groups).map eGroupStats ∧ True) ∧ ((!(okTable t)) = false → (t.rows.map eIntS).length = t.rows.length ∧ (Con Tryz.prog 140 [.one (.int .i64 t.arity)] (.own 0) [(0, .arr 25 1 true ((colSubs t.arity).map eIntS))] ∧ (((colSubs t.arity).map eIntS).length = (colSubs t.arity).length ∧ ((∃ (k : Nat) (l2 : List (List Int)) (out : List GroupStatsD), (0 : Int) = (k : Int) ∧ t.name = t.name ∧ t.arity = t.arity ∧ ((t.rows.length : Nat) : Int) = ((t.rows.length : Nat) : Int) ∧ [] = out.map eGroupStats ∧ (colSubs t.arity).map eIntS = List.replicate k [Dat.gone] ++ l2.map eIntS ∧ k ≤ (colSubs t.arity).length ∧ l2 = (colSubs t.arity).drop k ∧ out = ((colSubs t.arity).take k).map (grpS t)) ∧ ∀ (k : Nat) (l2 : List (List Int)) (out : List GroupStatsD), (k ≤ (colSubs t.arity).length ∧ l2 = (colSubs t.arity).drop k ∧ out = ((colSubs t.arity).take k).map (grpS t)) → ((decide ((k : Int) < (((colSubs t.arity).length : Nat) : Int))) = true → List.replicate k [Dat.gone] ++ l2.map eIntS = List.replicate k [Dat.gone] ++ l2.map eIntS ∧ l2 ≠ [] ∧ ∀ x6 l6, l2 = x6 :: l6 → 0 ≤ (k : Int) ∧ (List.replicate k [Dat.gone] ++ (x6 :: l6).map eIntS).length = k + (l6.length + 1) ∧ (k : Int) < ((k + (l6.length + 1) : Nat) : Int) ∧ k = k ∧ List.replicate k [Dat.gone] ++ (x6 :: l6).map eIntS = List.replicate k [Dat.gone] ++ (x6 :: l6).map eIntS ∧ k = k ∧ Con Tryz.prog 141 [.agg [.str t.name, .int .i64 t.arity, .sl 25 1 (t.rows.map eIntS)], .one (.sl 3 1 (x6.map intD))] (.tup [.own 0, .own 1]) [(0, .arr 25 1 true (((grpR t x6).1).map eIntS)), (1, .arr 3 1 true (((grpR t x6).2).map intD))] ∧ out.map eGroupStats = out.map eGroupStats ∧ x6.map intD = ((⟨x6, (grpR t x6).1, (grpR t x6).2⟩ : GroupStatsD).columns).map intD ∧ ((grpR t x6).1).map eIntS = ((⟨x6, (grpR t x6).1, (grpR t x6).2⟩ : GroupStatsD).values).map eIntS ∧ ((grpR t x6).2).map intD = ((⟨x6, (grpR t x6).1, (grpR t x6).2⟩ : GroupStatsD).counts).map intD ∧ (out.length + 1) * 72 ≤ 140737488355328 ∧ inR ((k : Int) + (1 : Int)) ∧ ∃ (k' : Nat) (l2' : List (List Int)) (out' : List GroupStatsD), ((k : Int) + (1 : Int)) = (k' : Int) ∧ t.name = t.name ∧ t.arity = t.arity ∧ ((t.rows.length : Nat) : Int) = ((t.rows.length : Nat) : Int) ∧ (out ++ [(⟨x6, (grpR t x6).1, (grpR t x6).2⟩ : GroupStatsD)]).map eGroupStats = out'.map eGroupStats ∧ List.replicate (k + 1) [Dat.gone] ++ l6.map eIntS = List.replicate k' [Dat.gone] ++ l2'.map eIntS ∧ (k' ≤ (colSubs t.arity).length ∧ l2' = (colSubs t.arity).drop k' ∧ out' = ((colSubs t.arity).take k').map (grpS t)) ∧ (colSubs t.arity).length - k' < (colSubs t.arity).length - k) ∧ ((decide ((k : Int) < (((colSubs t.arity).length : Nat) : Int))) = false → t.name = ((statsOf t).name) ∧ t.arity = ((statsOf t).arity) ∧ ((t.rows.length : Nat) : Int) = ((statsOf t).rowCount) ∧ out.map eGroupStats = ((statsOf t).groups).map eGroupStats ∧ True)))))))) ?_
  intro n0
  simp only [List.length_map] at n0
  refine ⟨tab_impl t, ?_⟩
  refine ⟨fun c0 => ?_, fun c0 => ?_⟩
  · replace c0 := nt c0
    have hbad : okTable t = false := by simpa using c0
    refine ⟨?_, ?_, ?_, ?_, trivial⟩
    · first | (rw [statsOf_no hbad] <;> rfl) | (rw [statsOf_yes hok] <;> rfl) | (rw [statsOf_yes hok, ho, List.take_of_length_le (by omega)])
    · first | (rw [statsOf_no hbad] <;> rfl) | (rw [statsOf_yes hok] <;> rfl) | (rw [statsOf_yes hok, ho, List.take_of_length_le (by omega)])
    · first | (rw [statsOf_no hbad] <;> rfl) | (rw [statsOf_yes hok] <;> rfl) | (rw [statsOf_yes hok, ho, List.take_of_length_le (by omega)])
    · first | (rw [statsOf_no hbad] <;> rfl) | (rw [statsOf_yes hok] <;> rfl) | (rw [statsOf_yes hok, ho, List.take_of_length_le (by omega)])
  · replace c0 := nf c0
    have hok : okTable t = true := by simpa using c0
    have hT := okTable_arity hok
    have hn := colSubs_len (n := t.arity) ⟨hT.1, hT.2.1⟩
    refine ⟨List.length_map _, ?_⟩
    refine ⟨subs_impl t.arity (by omega), ?_⟩
    refine ⟨List.length_map _, ?_⟩
    refine ⟨⟨0, colSubs t.arity, ([] : List GroupStatsD), rfl, rfl, rfl, rfl, rfl, rfl, Nat.zero_le _, rfl, rfl⟩, fun k l2 out ⟨hk, hl, ho⟩ => ?_⟩
    have hlen : l2.length = (colSubs t.arity).length - k := by rw [hl, List.length_drop]
    refine ⟨fun c1 => ?_, fun c1 => ?_⟩
    · replace c1 := of_decide_eq_true c1
      refine ⟨rfl, (by rw [hl]; exact drop_ne (by omega)), fun x6 l6 t6 => ?_⟩
      have hdx := hl.symm.trans t6
      have hx := drop_hd hdx
      have hx3 := colSubs_at hx
      refine ⟨by omega, by simp, by omega, ?_⟩
      refine ⟨rfl, ?_⟩
      refine ⟨rfl, rfl, ?_⟩
      refine ⟨grp_impl t x6 (by omega), ?_⟩
      refine ⟨rfl, rfl, rfl, rfl, by first | omega | (simp [ho]; omega), ?_⟩
      refine ⟨⟨by omega, by omega⟩, ?_⟩
      exact ⟨k + 1, _, _, rfl, rfl, rfl, rfl, rfl, rfl, ⟨by omega, drop_tl hdx, by rw [ho, take_snoc hx, List.map_append]; rfl⟩, by omega⟩
    · replace c1 := of_decide_eq_false c1
      refine ⟨?_, ?_, ?_, ?_, trivial⟩
      · first | (rw [statsOf_no hbad] <;> rfl) | (rw [statsOf_yes hok] <;> rfl) | (rw [statsOf_yes hok, ho, List.take_of_length_le (by omega)])
      · first | (rw [statsOf_no hbad] <;> rfl) | (rw [statsOf_yes hok] <;> rfl) | (rw [statsOf_yes hok, ho, List.take_of_length_le (by omega)])
      · first | (rw [statsOf_no hbad] <;> rfl) | (rw [statsOf_yes hok] <;> rfl) | (rw [statsOf_yes hok, ho, List.take_of_length_le (by omega)])
      · first | (rw [statsOf_no hbad] <;> rfl) | (rw [statsOf_yes hok] <;> rfl) | (rw [statsOf_yes hok, ho, List.take_of_length_le (by omega)])

set_option maxRecDepth 100000 in
set_option maxHeartbeats 4000000 in
theorem st_spec (t : TableD) : Con Tryz.prog 68 [.agg [.str t.name, .int .i64 t.arity, .sl 25 1 (t.rows.map eIntS)]] (.agg [.p none (.str ((statsOf t).name)), vI ((statsOf t).arity), vI ((statsOf t).rowCount), .own 0]) [(0, .arr 157 3 true (((statsOf t).groups).map eGroupStats))] := by
  refine con_x tbOk mixedW Tryz.func68 (by kernel_rfl) (.call (vB (okTable t)) [] <| .br (.fin []) (.len t.rows.length <| .call (.own 0) [(0, .arr 25 1 true ((colSubs t.arity).map eIntS))] <| .loop (Nat × (List (List Int)) × (List GroupStatsD)) (Q3 Nat (List (List Int)) (List GroupStatsD)) [5, 6, 7, 23, 24, 25, 26, 27, 28, 29, 30, 31, 32, 33, 34, 35, 36, 37, 38, 39, 40, 41, 42, 43, 44, 45, 46, 47, 48, 49] [300, 2200, 3500, 3501, 4700, 4800, 9000, 50807] (fun yy0 => [(5, vI (yy0.1 : Int))]) (fun yy0 => [(300, some (.box 32 [.p none (.str t.name), vI t.arity, vI ((t.rows.length : Nat) : Int), .own 9000])), (9000, some (.arr 157 3 true (yy0.2.2.map eGroupStats))), (2200, some (.arr 25 1 true (List.replicate yy0.1 [Dat.gone] ++ yy0.2.1.map eIntS)))]) (fun yy0 => yy0.1 ≤ (colSubs t.arity).length ∧ yy0.2.1 = (colSubs t.arity).drop yy0.1 ∧ yy0.2.2 = ((colSubs t.arity).take yy0.1).map (grpS t)) (fun yy0 => (colSubs t.arity).length - yy0.1) (fun yy0 => .len (yy0.1 + yy0.2.1.length) <| .br (.takeg 8 2200 yy0.1 50807 (List Int) eIntS yy0.2.1 (fun x8 l8 => .len (yy0.1 + (l8.length + 1)) <| .call (.tup [.own 0, .own 1]) [(0, .arr 25 1 true (((grpR t x8).1).map eIntS)), (1, .arr 3 1 true (((grpR t x8).2).map intD))] <| .len (yy0.1 + (l8.length + 1)) <| .appx GroupStatsD eGroupStats yy0.2.2 (⟨x8, (grpR t x8).1, (grpR t x8).2⟩ : GroupStatsD) <| .leave 7 2200 yy0.1 50807 (List Int) eIntS x8 l8 (.back [(300, 300), (2200, 2200), (9000, 4800)]))) (.fin [(0, 9000)])))) ?_
  refine Eq.mpr (by kernel_rfl : _ = ((t.rows.map eIntS).length ≤ 9223372036854775807 → Con Tryz.prog 122 [.agg [.str t.name, .int .i64 t.arity, .sl 25 1 (t.rows.map eIntS)]] (vB (okTable t)) [] ∧ (((!(okTable t)) = true → ByteArray.empty = ((statsOf t).name) ∧ (0 : Int) = ((statsOf t).arity) ∧ (0 : Int) = ((statsOf t).rowCount) ∧ [] = ((statsOf t).groups).map eGroupStats ∧ True) ∧ ((!(okTable t)) = false → (t.rows.map eIntS).length = t.rows.length ∧ (Con Tryz.prog 127 [.one (.int .i64 t.arity)] (.own 0) [(0, .arr 25 1 true ((colSubs t.arity).map eIntS))] ∧ ((∃ (k : Nat) (l2 : List (List Int)) (out : List GroupStatsD), (0 : Int) = (k : Int) ∧ t.name = t.name ∧ t.arity = t.arity ∧ ((t.rows.length : Nat) : Int) = ((t.rows.length : Nat) : Int) ∧ [] = out.map eGroupStats ∧ (colSubs t.arity).map eIntS = List.replicate k [Dat.gone] ++ l2.map eIntS ∧ k ≤ (colSubs t.arity).length ∧ l2 = (colSubs t.arity).drop k ∧ out = ((colSubs t.arity).take k).map (grpS t)) ∧ ∀ (k : Nat) (l2 : List (List Int)) (out : List GroupStatsD), (k ≤ (colSubs t.arity).length ∧ l2 = (colSubs t.arity).drop k ∧ out = ((colSubs t.arity).take k).map (grpS t)) → (List.replicate k [Dat.gone] ++ l2.map eIntS).length = k + l2.length ∧ (((decide ((k : Int) < ((k + l2.length : Nat) : Int))) = true → List.replicate k [Dat.gone] ++ l2.map eIntS = List.replicate k [Dat.gone] ++ l2.map eIntS ∧ l2 ≠ [] ∧ ∀ x8 l8, l2 = x8 :: l8 → 0 ≤ (k : Int) ∧ (List.replicate k [Dat.gone] ++ (x8 :: l8).map eIntS).length = k + (l8.length + 1) ∧ (k : Int) < ((k + (l8.length + 1) : Nat) : Int) ∧ k = k ∧ Con Tryz.prog 128 [.agg [.str t.name, .int .i64 t.arity, .sl 25 1 (t.rows.map eIntS)], .one (.sl 3 1 (x8.map intD))] (.tup [.own 0, .own 1]) [(0, .arr 25 1 true (((grpR t x8).1).map eIntS)), (1, .arr 3 1 true (((grpR t x8).2).map intD))] ∧ 0 ≤ (k : Int) ∧ (List.replicate k [Dat.gone] ++ (x8 :: l8).map eIntS).length = k + (l8.length + 1) ∧ (k : Int) < ((k + (l8.length + 1) : Nat) : Int) ∧ k = k ∧ out.map eGroupStats = out.map eGroupStats ∧ x8.map intD = ((⟨x8, (grpR t x8).1, (grpR t x8).2⟩ : GroupStatsD).columns).map intD ∧ ((grpR t x8).1).map eIntS = ((⟨x8, (grpR t x8).1, (grpR t x8).2⟩ : GroupStatsD).values).map eIntS ∧ ((grpR t x8).2).map intD = ((⟨x8, (grpR t x8).1, (grpR t x8).2⟩ : GroupStatsD).counts).map intD ∧ (out.length + 1) * 72 ≤ 140737488355328 ∧ List.replicate k [Dat.gone] ++ (x8 :: l8).map eIntS = List.replicate k [Dat.gone] ++ (x8 :: l8).map eIntS ∧ k = k ∧ inR ((k : Int) + (1 : Int)) ∧ ∃ (k' : Nat) (l2' : List (List Int)) (out' : List GroupStatsD), ((k : Int) + (1 : Int)) = (k' : Int) ∧ t.name = t.name ∧ t.arity = t.arity ∧ ((t.rows.length : Nat) : Int) = ((t.rows.length : Nat) : Int) ∧ (out ++ [(⟨x8, (grpR t x8).1, (grpR t x8).2⟩ : GroupStatsD)]).map eGroupStats = out'.map eGroupStats ∧ List.replicate (k + 1) [Dat.gone] ++ l8.map eIntS = List.replicate k' [Dat.gone] ++ l2'.map eIntS ∧ (k' ≤ (colSubs t.arity).length ∧ l2' = (colSubs t.arity).drop k' ∧ out' = ((colSubs t.arity).take k').map (grpS t)) ∧ (colSubs t.arity).length - k' < (colSubs t.arity).length - k) ∧ ((decide ((k : Int) < ((k + l2.length : Nat) : Int))) = false → t.name = ((statsOf t).name) ∧ t.arity = ((statsOf t).arity) ∧ ((t.rows.length : Nat) : Int) = ((statsOf t).rowCount) ∧ out.map eGroupStats = ((statsOf t).groups).map eGroupStats ∧ True)))))))) ?_
  intro n0
  simp only [List.length_map] at n0
  refine ⟨tab_spec t, ?_⟩
  refine ⟨fun c0 => ?_, fun c0 => ?_⟩
  · replace c0 := nt c0
    have hbad : okTable t = false := by simpa using c0
    refine ⟨?_, ?_, ?_, ?_, trivial⟩
    · first | (rw [statsOf_no hbad] <;> rfl) | (rw [statsOf_yes hok] <;> rfl) | (rw [statsOf_yes hok, ho, List.take_of_length_le (by omega)])
    · first | (rw [statsOf_no hbad] <;> rfl) | (rw [statsOf_yes hok] <;> rfl) | (rw [statsOf_yes hok, ho, List.take_of_length_le (by omega)])
    · first | (rw [statsOf_no hbad] <;> rfl) | (rw [statsOf_yes hok] <;> rfl) | (rw [statsOf_yes hok, ho, List.take_of_length_le (by omega)])
    · first | (rw [statsOf_no hbad] <;> rfl) | (rw [statsOf_yes hok] <;> rfl) | (rw [statsOf_yes hok, ho, List.take_of_length_le (by omega)])
  · replace c0 := nf c0
    have hok : okTable t = true := by simpa using c0
    have hT := okTable_arity hok
    have hn := colSubs_len (n := t.arity) ⟨hT.1, hT.2.1⟩
    refine ⟨List.length_map _, ?_⟩
    refine ⟨subs_spec t.arity (by omega), ?_⟩
    refine ⟨⟨0, colSubs t.arity, ([] : List GroupStatsD), rfl, rfl, rfl, rfl, rfl, rfl, Nat.zero_le _, rfl, rfl⟩, fun k l2 out ⟨hk, hl, ho⟩ => ?_⟩
    have hlen : l2.length = (colSubs t.arity).length - k := by rw [hl, List.length_drop]
    refine ⟨by simp, ?_⟩
    refine ⟨fun c1 => ?_, fun c1 => ?_⟩
    · replace c1 := of_decide_eq_true c1
      refine ⟨rfl, (by rw [hl]; exact drop_ne (by omega)), fun x8 l8 t8 => ?_⟩
      have hdx := hl.symm.trans t8
      have hx := drop_hd hdx
      have hx3 := colSubs_at hx
      refine ⟨by omega, by simp, by omega, ?_⟩
      refine ⟨rfl, ?_⟩
      refine ⟨grp_spec t x8 (by omega), ?_⟩
      refine ⟨by omega, by simp, by omega, ?_⟩
      refine ⟨rfl, ?_⟩
      refine ⟨rfl, rfl, rfl, rfl, by first | omega | (simp [ho]; omega), ?_⟩
      refine ⟨rfl, rfl, ?_⟩
      refine ⟨⟨by omega, by omega⟩, ?_⟩
      exact ⟨k + 1, _, _, rfl, rfl, rfl, rfl, rfl, rfl, ⟨by omega, drop_tl hdx, by rw [ho, take_snoc hx, List.map_append]; rfl⟩, by omega⟩
    · replace c1 := of_decide_eq_false c1
      refine ⟨?_, ?_, ?_, ?_, trivial⟩
      · first | (rw [statsOf_no hbad] <;> rfl) | (rw [statsOf_yes hok] <;> rfl) | (rw [statsOf_yes hok, ho, List.take_of_length_le (by omega)])
      · first | (rw [statsOf_no hbad] <;> rfl) | (rw [statsOf_yes hok] <;> rfl) | (rw [statsOf_yes hok, ho, List.take_of_length_le (by omega)])
      · first | (rw [statsOf_no hbad] <;> rfl) | (rw [statsOf_yes hok] <;> rfl) | (rw [statsOf_yes hok, ho, List.take_of_length_le (by omega)])
      · first | (rw [statsOf_no hbad] <;> rfl) | (rw [statsOf_yes hok] <;> rfl) | (rw [statsOf_yes hok, ho, List.take_of_length_le (by omega)])
end Go.Proofs.YtjlagjhmlmfjeaaGreat
