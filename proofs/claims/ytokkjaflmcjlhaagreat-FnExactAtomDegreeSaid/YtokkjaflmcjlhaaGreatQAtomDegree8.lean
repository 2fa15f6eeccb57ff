/-
  Contracts and plain laws, joined: part 9.
-/
import Derived.Test.YtokkjaflmcjlhaaGreatQAtomDegree7
import Derived.Test.YtokkjaflmcjlhaaGreatQAtomDegree5
import Derived.Test.YtokkjaflmcjlhaaGreatQAtomDegree3
import Derived.Test.YtokkjaflmcjlhaaGreatQAtomDegree4
namespace Go.Proofs.YtokkjaflmcjlhaaGreat
open Go.ChangeShapes Go.WideShapes Go.ChangeAt Go.RowKit
set_option linter.unusedVariables false
set_option linter.unusedSimpArgs false
set_option maxRecDepth 100000
set_option maxHeartbeats 4000000
def grpS (t : TableD) (cols : List Int) : GroupStatsD := ⟨cols, (grpR t cols).1, (grpR t cols).2⟩
def statsOf (t : TableD) : TableStatsD := if okTable t = true then ⟨t.name, t.arity, (t.rows.length : Nat), (colSubs t.arity).map (grpS t)⟩ else zTableStats
theorem statsOf_yes {t : TableD} (h : okTable t = true) : statsOf t = ⟨t.name, t.arity, (t.rows.length : Nat), (colSubs t.arity).map (grpS t)⟩ := by rw [statsOf, if_pos h]
theorem statsOf_no {t : TableD} (h : okTable t = false) : statsOf t = zTableStats := by rw [statsOf, if_neg (by rw [h]; decide)]
theorem drop_ne {α : Type} {l : List α} {k : Nat} (h : k < l.length) : l.drop k ≠ [] := fun e => by
  have := congrArg List.length e
  simp at this
  omega
theorem drop_tl {α : Type} {l l2 : List α} {k : Nat} {x : α} (h : l.drop k = x :: l2) : l2 = l.drop (k + 1) := by rw [← List.tail_drop, h]; rfl
theorem drop_hd {α : Type} {l l2 : List α} {k : Nat} {x : α} (h : l.drop k = x :: l2) : l[k]? = some x := by
  have := congrArg List.head? h
  simpa [List.head?_drop] using this
theorem colSubs_at {n : Int} {k : Nat} {x : List Int} (h : (colSubs n)[k]? = some x) : x.length ≤ 3 := by
  obtain ⟨i, _, rfl⟩ := List.mem_map.1 (List.mem_of_getElem? h)
  exact bitsN_len _ 3
theorem colSubs_len {n : Int} (h : 1 ≤ n ∧ n ≤ 3) : (colSubs n).length ≤ 7 := by
  have := pow_small h
  simp only [colSubs, subsN, List.length_map, List.length_range]
  omega
abbrev k_st_impl (t : TableD) : AV × List (Nat × Rs) := (.agg [.p none (.str ((statsOf t).name)), vI ((statsOf t).arity), vI ((statsOf t).rowCount), .own 0], [(0, .arr 218 3 true (((statsOf t).groups).map eGroupStats))])
abbrev K_st_impl (t : TableD) : Prop := Con Tryz.prog 155 [.agg [.str t.name, .int .i64 t.arity, .sl 32 1 (t.rows.map eIntS)]] (k_st_impl t).1 (k_st_impl t).2
theorem st_impl (t : TableD) : K_st_impl t := by
 refine con_x tbOk mixedW Tryz.func155 (by kernel_rfl) (.call (vB (okTable t)) [] <| .br (.fin []) (.len t.rows.length <| callP (k_subs_impl t.arity) <| .len ((colSubs t.arity).length) <| .loop (Nat × (List (List Int)) × (List GroupStatsD)) (Q3 Nat (List (List Int)) (List GroupStatsD)) [5, 6, 7, 24, 25, 26, 27, 28, 29, 30, 31, 32, 33, 34, 35, 36, 37, 38, 39, 40, 41, 42, 43] [300, 2200, 3100, 3101, 4000, 4100, 9000, 50607] (fun yy0 => [(24, vI (yy0.1 : Int))]) (fun yy0 => [(300, some (.box 121 [.p none (.str t.name), vI t.arity, vI ((t.rows.length : Nat) : Int), .own 9000])), (9000, some (.arr 218 3 true (yy0.2.2.map eGroupStats))), (2200, some (.arr 32 1 true (List.replicate yy0.1 [Dat.gone] ++ yy0.2.1.map eIntS)))]) (fun yy0 => yy0.1 ≤ (colSubs t.arity).length ∧ yy0.2.1 = (colSubs t.arity).drop yy0.1 ∧ yy0.2.2 = ((colSubs t.arity).take yy0.1).map (grpS t)) (fun yy0 => (colSubs t.arity).length - yy0.1) (fun yy0 => .br (.takeg 6 2200 yy0.1 50607 (List Int) eIntS yy0.2.1 (fun x6 l6 => .len (yy0.1 + (l6.length + 1)) <| .leave 7 2200 yy0.1 50607 (List Int) eIntS x6 l6 (callP (k_grp_impl t x6) <| .appx GroupStatsD eGroupStats yy0.2.2 (⟨x6, (grpR t x6).1, (grpR t x6).2⟩ : GroupStatsD) <| .back [(300, 300), (2200, 2200), (9000, 4100)]))) (.fin [(0, 9000)])))) ?_
 refine Eq.mpr (by kernel_rfl : _ = ((t.rows.map eIntS).length ≤ 9223372036854775807 → K_tab_impl t ∧ (((!(okTable t)) = true → ByteArray.empty = ((statsOf t).name) ∧ (0 : Int) = ((statsOf t).arity) ∧ (0 : Int) = ((statsOf t).rowCount) ∧ [] = ((statsOf t).groups).map eGroupStats ∧ True) ∧ ((!(okTable t)) = false → Lm eIntS t.rows ∧ (K_subs_impl t.arity ∧ (Lm eIntS (colSubs t.arity) ∧ ((∃ (k : Nat) (l2 : List (List Int)) (out : List GroupStatsD), (0 : Int) = (k : Int) ∧ t.name = t.name ∧ t.arity = t.arity ∧ ((t.rows.length : Nat) : Int) = ((t.rows.length : Nat) : Int) ∧ [] = out.map eGroupStats ∧ (colSubs t.arity).map eIntS = List.replicate k [Dat.gone] ++ l2.map eIntS ∧ k ≤ (colSubs t.arity).length ∧ l2 = (colSubs t.arity).drop k ∧ out = ((colSubs t.arity).take k).map (grpS t)) ∧ ∀ (k : Nat) (l2 : List (List Int)) (out : List GroupStatsD), (k ≤ (colSubs t.arity).length ∧ l2 = (colSubs t.arity).drop k ∧ out = ((colSubs t.arity).take k).map (grpS t)) → ((decide ((k : Int) < (((colSubs t.arity).length : Nat) : Int))) = true → List.replicate k [Dat.gone] ++ l2.map eIntS = List.replicate k [Dat.gone] ++ l2.map eIntS ∧ l2 ≠ [] ∧ ∀ x6 l6, l2 = x6 :: l6 → 0 ≤ (k : Int) ∧ (List.replicate k [Dat.gone] ++ (x6 :: l6).map eIntS).length = k + (l6.length + 1) ∧ (k : Int) < ((k + (l6.length + 1) : Nat) : Int) ∧ k = k ∧ List.replicate k [Dat.gone] ++ (x6 :: l6).map eIntS = List.replicate k [Dat.gone] ++ (x6 :: l6).map eIntS ∧ k = k ∧ K_grp_impl t x6 ∧ out.map eGroupStats = out.map eGroupStats ∧ x6.map intD = ((⟨x6, (grpR t x6).1, (grpR t x6).2⟩ : GroupStatsD).columns).map intD ∧ ((grpR t x6).1).map eIntS = ((⟨x6, (grpR t x6).1, (grpR t x6).2⟩ : GroupStatsD).values).map eIntS ∧ ((grpR t x6).2).map intD = ((⟨x6, (grpR t x6).1, (grpR t x6).2⟩ : GroupStatsD).counts).map intD ∧ (out.length + 1) * 72 ≤ 140737488355328 ∧ inR ((k : Int) + (1 : Int)) ∧ ∃ (k' : Nat) (l2' : List (List Int)) (out' : List GroupStatsD), ((k : Int) + (1 : Int)) = (k' : Int) ∧ t.name = t.name ∧ t.arity = t.arity ∧ ((t.rows.length : Nat) : Int) = ((t.rows.length : Nat) : Int) ∧ (out ++ [(⟨x6, (grpR t x6).1, (grpR t x6).2⟩ : GroupStatsD)]).map eGroupStats = out'.map eGroupStats ∧ List.replicate (k + 1) [Dat.gone] ++ l6.map eIntS = List.replicate k' [Dat.gone] ++ l2'.map eIntS ∧ (k' ≤ (colSubs t.arity).length ∧ l2' = (colSubs t.arity).drop k' ∧ out' = ((colSubs t.arity).take k').map (grpS t)) ∧ (colSubs t.arity).length - k' < (colSubs t.arity).length - k) ∧ ((decide ((k : Int) < (((colSubs t.arity).length : Nat) : Int))) = false → t.name = ((statsOf t).name) ∧ t.arity = ((statsOf t).arity) ∧ ((t.rows.length : Nat) : Int) = ((statsOf t).rowCount) ∧ out.map eGroupStats = ((statsOf t).groups).map eGroupStats ∧ True)))))))) ?_
 intro n0
 simp only [List.length_map] at n0
 refine ⟨tab_impl t, fun c0 => ?_, fun c0 => ?_⟩
 ·replace c0 := nt c0
  have hbad : okTable t = false := by simpa using c0
  refine ⟨?_, ?_, ?_, ?_, trivial⟩
  ·first | (rw [statsOf_no hbad] <;> rfl) | (rw [statsOf_yes hok] <;> rfl) | (rw [statsOf_yes hok, ho, List.take_of_length_le (by omega)])
  ·first | (rw [statsOf_no hbad] <;> rfl) | (rw [statsOf_yes hok] <;> rfl) | (rw [statsOf_yes hok, ho, List.take_of_length_le (by omega)])
  ·first | (rw [statsOf_no hbad] <;> rfl) | (rw [statsOf_yes hok] <;> rfl) | (rw [statsOf_yes hok, ho, List.take_of_length_le (by omega)])
  ·first | (rw [statsOf_no hbad] <;> rfl) | (rw [statsOf_yes hok] <;> rfl) | (rw [statsOf_yes hok, ho, List.take_of_length_le (by omega)])
 ·replace c0 := nf c0
  have hok : okTable t = true := by simpa using c0
  have hT := okTable_arity hok
  have hn := colSubs_len (n := t.arity) ⟨hT.1, hT.2.1⟩
  refine ⟨List.length_map _, subs_impl t.arity (by omega), List.length_map _, ⟨0, colSubs t.arity, ([] : List GroupStatsD), rfl, rfl, rfl, rfl, rfl, rfl, Nat.zero_le _, rfl, rfl⟩, fun k l2 out ⟨hk, hl, ho⟩ => ?_⟩
  have hlen : l2.length = (colSubs t.arity).length - k := by rw [hl, List.length_drop]
  refine ⟨fun c1 => ?_, fun c1 => ?_⟩
  ·replace c1 := yq c1
   refine ⟨rfl, (by rw [hl]; exact drop_ne (by omega)), fun x6 l6 t6 => ?_⟩
   have hdx := hl.symm.trans t6
   have hx := drop_hd hdx
   have hx3 := colSubs_at hx
   refine ⟨by omega, by simp, by omega, rfl, rfl, rfl, grp_impl t x6 (by omega), rfl, rfl, rfl, rfl, by first | omega | (simp [ho]; omega), ⟨by omega, by omega⟩, ?_⟩
   exact ⟨k + 1, _, _, rfl, rfl, rfl, rfl, rfl, rfl, ⟨by omega, drop_tl hdx, by rw [ho, take_snoc hx, List.map_append]; rfl⟩, by omega⟩
  ·replace c1 := nq c1
   refine ⟨?_, ?_, ?_, ?_, trivial⟩
   ·first | (rw [statsOf_no hbad] <;> rfl) | (rw [statsOf_yes hok] <;> rfl) | (rw [statsOf_yes hok, ho, List.take_of_length_le (by omega)])
   ·first | (rw [statsOf_no hbad] <;> rfl) | (rw [statsOf_yes hok] <;> rfl) | (rw [statsOf_yes hok, ho, List.take_of_length_le (by omega)])
   ·first | (rw [statsOf_no hbad] <;> rfl) | (rw [statsOf_yes hok] <;> rfl) | (rw [statsOf_yes hok, ho, List.take_of_length_le (by omega)])
   ·first | (rw [statsOf_no hbad] <;> rfl) | (rw [statsOf_yes hok] <;> rfl) | (rw [statsOf_yes hok, ho, List.take_of_length_le (by omega)])
abbrev k_st_spec (t : TableD) : AV × List (Nat × Rs) := (.agg [.p none (.str ((statsOf t).name)), vI ((statsOf t).arity), vI ((statsOf t).rowCount), .own 0], [(0, .arr 218 3 true (((statsOf t).groups).map eGroupStats))])
abbrev K_st_spec (t : TableD) : Prop := Con Tryz.prog 139 [.agg [.str t.name, .int .i64 t.arity, .sl 32 1 (t.rows.map eIntS)]] (k_st_spec t).1 (k_st_spec t).2
theorem st_spec (t : TableD) : K_st_spec t := by
 refine con_x tbOk mixedW Tryz.func139 (by kernel_rfl) (.call (vB (okTable t)) [] <| .br (.fin []) (.len t.rows.length <| callP (k_subs_spec t.arity) <| .loop (Nat × (List (List Int)) × (List GroupStatsD)) (Q3 Nat (List (List Int)) (List GroupStatsD)) [5, 6, 7, 23, 24, 25, 26, 27, 28, 29, 30, 31, 32, 33, 34, 35, 36, 37, 38, 39, 40, 41, 42, 43, 44, 45, 46, 47, 48, 49] [300, 2200, 3500, 3501, 4700, 4800, 9000, 50807] (fun yy0 => [(5, vI (yy0.1 : Int))]) (fun yy0 => [(300, some (.box 121 [.p none (.str t.name), vI t.arity, vI ((t.rows.length : Nat) : Int), .own 9000])), (9000, some (.arr 218 3 true (yy0.2.2.map eGroupStats))), (2200, some (.arr 32 1 true (List.replicate yy0.1 [Dat.gone] ++ yy0.2.1.map eIntS)))]) (fun yy0 => yy0.1 ≤ (colSubs t.arity).length ∧ yy0.2.1 = (colSubs t.arity).drop yy0.1 ∧ yy0.2.2 = ((colSubs t.arity).take yy0.1).map (grpS t)) (fun yy0 => (colSubs t.arity).length - yy0.1) (fun yy0 => .len (yy0.1 + yy0.2.1.length) <| .br (.takeg 8 2200 yy0.1 50807 (List Int) eIntS yy0.2.1 (fun x8 l8 => .len (yy0.1 + (l8.length + 1)) <| callP (k_grp_spec t x8) <| .len (yy0.1 + (l8.length + 1)) <| .appx GroupStatsD eGroupStats yy0.2.2 (⟨x8, (grpR t x8).1, (grpR t x8).2⟩ : GroupStatsD) <| .leave 7 2200 yy0.1 50807 (List Int) eIntS x8 l8 (.back [(300, 300), (2200, 2200), (9000, 4800)]))) (.fin [(0, 9000)])))) ?_
 refine Eq.mpr (by kernel_rfl : _ = ((t.rows.map eIntS).length ≤ 9223372036854775807 → K_tab_spec t ∧ (((!(okTable t)) = true → ByteArray.empty = ((statsOf t).name) ∧ (0 : Int) = ((statsOf t).arity) ∧ (0 : Int) = ((statsOf t).rowCount) ∧ [] = ((statsOf t).groups).map eGroupStats ∧ True) ∧ ((!(okTable t)) = false → Lm eIntS t.rows ∧ (K_subs_spec t.arity ∧ ((∃ (k : Nat) (l2 : List (List Int)) (out : List GroupStatsD), (0 : Int) = (k : Int) ∧ t.name = t.name ∧ t.arity = t.arity ∧ ((t.rows.length : Nat) : Int) = ((t.rows.length : Nat) : Int) ∧ [] = out.map eGroupStats ∧ (colSubs t.arity).map eIntS = List.replicate k [Dat.gone] ++ l2.map eIntS ∧ k ≤ (colSubs t.arity).length ∧ l2 = (colSubs t.arity).drop k ∧ out = ((colSubs t.arity).take k).map (grpS t)) ∧ ∀ (k : Nat) (l2 : List (List Int)) (out : List GroupStatsD), (k ≤ (colSubs t.arity).length ∧ l2 = (colSubs t.arity).drop k ∧ out = ((colSubs t.arity).take k).map (grpS t)) → (List.replicate k [Dat.gone] ++ l2.map eIntS).length = k + l2.length ∧ (((decide ((k : Int) < ((k + l2.length : Nat) : Int))) = true → List.replicate k [Dat.gone] ++ l2.map eIntS = List.replicate k [Dat.gone] ++ l2.map eIntS ∧ l2 ≠ [] ∧ ∀ x8 l8, l2 = x8 :: l8 → 0 ≤ (k : Int) ∧ (List.replicate k [Dat.gone] ++ (x8 :: l8).map eIntS).length = k + (l8.length + 1) ∧ (k : Int) < ((k + (l8.length + 1) : Nat) : Int) ∧ k = k ∧ K_grp_spec t x8 ∧ 0 ≤ (k : Int) ∧ (List.replicate k [Dat.gone] ++ (x8 :: l8).map eIntS).length = k + (l8.length + 1) ∧ (k : Int) < ((k + (l8.length + 1) : Nat) : Int) ∧ k = k ∧ out.map eGroupStats = out.map eGroupStats ∧ x8.map intD = ((⟨x8, (grpR t x8).1, (grpR t x8).2⟩ : GroupStatsD).columns).map intD ∧ ((grpR t x8).1).map eIntS = ((⟨x8, (grpR t x8).1, (grpR t x8).2⟩ : GroupStatsD).values).map eIntS ∧ ((grpR t x8).2).map intD = ((⟨x8, (grpR t x8).1, (grpR t x8).2⟩ : GroupStatsD).counts).map intD ∧ (out.length + 1) * 72 ≤ 140737488355328 ∧ List.replicate k [Dat.gone] ++ (x8 :: l8).map eIntS = List.replicate k [Dat.gone] ++ (x8 :: l8).map eIntS ∧ k = k ∧ inR ((k : Int) + (1 : Int)) ∧ ∃ (k' : Nat) (l2' : List (List Int)) (out' : List GroupStatsD), ((k : Int) + (1 : Int)) = (k' : Int) ∧ t.name = t.name ∧ t.arity = t.arity ∧ ((t.rows.length : Nat) : Int) = ((t.rows.length : Nat) : Int) ∧ (out ++ [(⟨x8, (grpR t x8).1, (grpR t x8).2⟩ : GroupStatsD)]).map eGroupStats = out'.map eGroupStats ∧ List.replicate (k + 1) [Dat.gone] ++ l8.map eIntS = List.replicate k' [Dat.gone] ++ l2'.map eIntS ∧ (k' ≤ (colSubs t.arity).length ∧ l2' = (colSubs t.arity).drop k' ∧ out' = ((colSubs t.arity).take k').map (grpS t)) ∧ (colSubs t.arity).length - k' < (colSubs t.arity).length - k) ∧ ((decide ((k : Int) < ((k + l2.length : Nat) : Int))) = false → t.name = ((statsOf t).name) ∧ t.arity = ((statsOf t).arity) ∧ ((t.rows.length : Nat) : Int) = ((statsOf t).rowCount) ∧ out.map eGroupStats = ((statsOf t).groups).map eGroupStats ∧ True)))))))) ?_
 intro n0
 simp only [List.length_map] at n0
 refine ⟨tab_spec t, fun c0 => ?_, fun c0 => ?_⟩
 ·replace c0 := nt c0
  have hbad : okTable t = false := by simpa using c0
  refine ⟨?_, ?_, ?_, ?_, trivial⟩
  ·first | (rw [statsOf_no hbad] <;> rfl) | (rw [statsOf_yes hok] <;> rfl) | (rw [statsOf_yes hok, ho, List.take_of_length_le (by omega)])
  ·first | (rw [statsOf_no hbad] <;> rfl) | (rw [statsOf_yes hok] <;> rfl) | (rw [statsOf_yes hok, ho, List.take_of_length_le (by omega)])
  ·first | (rw [statsOf_no hbad] <;> rfl) | (rw [statsOf_yes hok] <;> rfl) | (rw [statsOf_yes hok, ho, List.take_of_length_le (by omega)])
  ·first | (rw [statsOf_no hbad] <;> rfl) | (rw [statsOf_yes hok] <;> rfl) | (rw [statsOf_yes hok, ho, List.take_of_length_le (by omega)])
 ·replace c0 := nf c0
  have hok : okTable t = true := by simpa using c0
  have hT := okTable_arity hok
  have hn := colSubs_len (n := t.arity) ⟨hT.1, hT.2.1⟩
  refine ⟨List.length_map _, subs_spec t.arity (by omega), ⟨0, colSubs t.arity, ([] : List GroupStatsD), rfl, rfl, rfl, rfl, rfl, rfl, Nat.zero_le _, rfl, rfl⟩, fun k l2 out ⟨hk, hl, ho⟩ => ?_⟩
  have hlen : l2.length = (colSubs t.arity).length - k := by rw [hl, List.length_drop]
  refine ⟨by simp, fun c1 => ?_, fun c1 => ?_⟩
  ·replace c1 := yq c1
   refine ⟨rfl, (by rw [hl]; exact drop_ne (by omega)), fun x8 l8 t8 => ?_⟩
   have hdx := hl.symm.trans t8
   have hx := drop_hd hdx
   have hx3 := colSubs_at hx
   refine ⟨by omega, by simp, by omega, rfl, grp_spec t x8 (by omega), by omega, by simp, by omega, rfl, rfl, rfl, rfl, rfl, by first | omega | (simp [ho]; omega), rfl, rfl, ⟨by omega, by omega⟩, ?_⟩
   exact ⟨k + 1, _, _, rfl, rfl, rfl, rfl, rfl, rfl, ⟨by omega, drop_tl hdx, by rw [ho, take_snoc hx, List.map_append]; rfl⟩, by omega⟩
  ·replace c1 := nq c1
   refine ⟨?_, ?_, ?_, ?_, trivial⟩
   ·first | (rw [statsOf_no hbad] <;> rfl) | (rw [statsOf_yes hok] <;> rfl) | (rw [statsOf_yes hok, ho, List.take_of_length_le (by omega)])
   ·first | (rw [statsOf_no hbad] <;> rfl) | (rw [statsOf_yes hok] <;> rfl) | (rw [statsOf_yes hok, ho, List.take_of_length_le (by omega)])
   ·first | (rw [statsOf_no hbad] <;> rfl) | (rw [statsOf_yes hok] <;> rfl) | (rw [statsOf_yes hok, ho, List.take_of_length_le (by omega)])
   ·first | (rw [statsOf_no hbad] <;> rfl) | (rw [statsOf_yes hok] <;> rfl) | (rw [statsOf_yes hok, ho, List.take_of_length_le (by omega)])
abbrev k_cpS_impl (x : TableStatsD) : AV × List (Nat × Rs) := (.agg [.p none (.str x.name), vI x.arity, vI x.rowCount, .own 0], [(0, .arr 218 3 true (x.groups.map eGroupStats))])
abbrev K_cpS_impl (x : TableStatsD) : Prop := Con Tryz.prog 197 [.agg [.str x.name, .int .i64 x.arity, .int .i64 x.rowCount, .sl 218 3 (x.groups.map eGroupStats)]] (k_cpS_impl x).1 (k_cpS_impl x).2
theorem cpS_impl (x : TableStatsD) (hc : cTableStats x ≤ 1048576) : K_cpS_impl x := by
 refine con_x tbOk mixedW Tryz.func197 (by kernel_rfl) (.len x.groups.length <| .loop (Nat × (List GroupStatsD)) (Q2 Nat (List GroupStatsD)) [3, 5, 6, 10, 11, 12, 13, 14, 15, 16, 17, 18, 19, 20, 21, 22, 23, 24, 25, 26, 27] [500, 600, 1700, 2000, 2300, 2500, 2600] (fun yy0 => [(3, .own 600), (10, vI (yy0.1 : Int))]) (fun yy0 => [(600, some (.arr 218 3 true (yy0.2.map eGroupStats)))]) (fun yy0 => yy0.1 ≤ x.groups.length ∧ yy0.2 = x.groups.take yy0.1) (fun yy0 => x.groups.length - yy0.1) (fun yy0 => .br (.elem _ eGroupStats x.groups (fun e12 => callP (k_cpI e12.columns) <| callP (k_cpR e12.values) <| callP (k_cpI e12.counts) <| .appx GroupStatsD eGroupStats yy0.2 e12 <| .back [(600, 2600)])) (.fin [(0, 600)]))) ?_
 refine Eq.mpr (by kernel_rfl : _ = ((x.groups.map eGroupStats).length ≤ 9223372036854775807 → Lm eGroupStats x.groups ∧ ((∃ (k : Nat) (out : List GroupStatsD), (0 : Int) = (k : Int) ∧ [] = out.map eGroupStats ∧ k ≤ x.groups.length ∧ out = x.groups.take k) ∧ ∀ (k : Nat) (out : List GroupStatsD), (k ≤ x.groups.length ∧ out = x.groups.take k) → ((decide ((k : Int) < ((x.groups.length : Nat) : Int))) = true → 0 ≤ (k : Int) ∧ Em eGroupStats x.groups k fun e12 => K_cpI e12.columns ∧ K_cpR e12.values ∧ K_cpI e12.counts ∧ out.map eGroupStats = out.map eGroupStats ∧ e12.columns.map intD = e12.columns.map intD ∧ e12.values.map eIntS = e12.values.map eIntS ∧ e12.counts.map intD = e12.counts.map intD ∧ (out.length + 1) * 72 ≤ 140737488355328 ∧ inR ((k : Int) + (1 : Int)) ∧ ∃ (k' : Nat) (out' : List GroupStatsD), ((k : Int) + (1 : Int)) = (k' : Int) ∧ (out ++ [e12]).map eGroupStats = out'.map eGroupStats ∧ (k' ≤ x.groups.length ∧ out' = x.groups.take k') ∧ x.groups.length - k' < x.groups.length - k) ∧ ((decide ((k : Int) < ((x.groups.length : Nat) : Int))) = false → x.name = x.name ∧ x.arity = x.arity ∧ x.rowCount = x.rowCount ∧ out.map eGroupStats = x.groups.map eGroupStats ∧ True)))) ?_
 intro n0
 simp only [List.length_map] at n0
 have q2 : cTableStats x = x.name.size + cGroupStatsS x.groups := rfl
 have q5 := cGroupStatsS_len x.groups
 refine ⟨List.length_map _, ⟨0, ([] : List GroupStatsD), rfl, rfl, Nat.zero_le _, rfl⟩, fun k out ⟨hk, ho⟩ => ?_⟩
 refine ⟨fun c0 => ?_, fun c0 => ?_⟩
 ·replace c0 := yq c0
  refine ⟨by omega, rfl, by omega, fun e12 h12 => ?_⟩
  have q1 := cGroupStatsS_el h12
  have q3 : cGroupStats e12 = cIntS e12.columns + cIntSS e12.values + cIntS e12.counts := rfl
  have q6 : cIntS e12.columns = e12.columns.length := rfl
  have q7 : cIntS e12.counts = e12.counts.length := rfl
  have q8 := cIntSS_len e12.values
  refine ⟨cpI _ (by omega), cpR _ (by omega), cpI _ (by omega), rfl, rfl, rfl, rfl, by simp [ho]; omega, ⟨by omega, by omega⟩, ?_⟩
  exact ⟨k + 1, out ++ [e12], rfl, rfl, ⟨by omega, by rw [ho, take_snoc h12]⟩, by omega⟩
 ·replace c0 := nq c0
  refine ⟨rfl, rfl, rfl, ?_, trivial⟩
  ·rw [ho, List.take_of_length_le (by omega)]
def lastV (x : TableStatsD) : List (List Int) := (x.groups.getD (x.groups.length - 1) zGroupStats).values
def tabOf (x : TableStatsD) : TableD := ⟨x.name, x.arity, lastV x⟩
def okStats (x : TableStatsD) : Bool := okTable (tabOf x) && decide (statsOf (tabOf x) = x)
theorem lastV_at {x : TableStatsD} {g : GroupStatsD} (h : x.groups[x.groups.length - 1]? = some g) : lastV x = g.values := by rw [lastV, getD_at h]
theorem lastV_nil {x : TableStatsD} (h : x.groups.length = 0) : lastV x = [] := by
  rw [lastV, List.length_eq_zero_iff.1 h]; rfl
abbrev k_tabOf_impl (x : TableStatsD) : AV × List (Nat × Rs) := (.tup [.agg [.p none (.str ((tabOf x).name)), vI ((tabOf x).arity), .own 0], vB (okStats x)], [(0, .arr 32 1 true (((tabOf x).rows).map eIntS))])
abbrev K_tabOf_impl (x : TableStatsD) : Prop := Con Tryz.prog 181 [.agg [.str x.name, .int .i64 x.arity, .int .i64 x.rowCount, .sl 218 3 (x.groups.map eGroupStats)]] (k_tabOf_impl x).1 (k_tabOf_impl x).2
theorem tabOf_impl (x : TableStatsD) (hc : cTableStats x ≤ 1048576) : K_tabOf_impl x := by
 refine con_x tbOk mixedW Tryz.func181 (by kernel_rfl) (.len x.groups.length <| .br (.elem _ eGroupStats x.groups (fun e20 => callP (k_cpR e20.values) <| .call (vB (okTable (⟨x.name, x.arity, e20.values⟩ : TableD))) [] <| .br (callP (k_st_impl (⟨x.name, x.arity, e20.values⟩ : TableD)) <| .call (vB (decide ((statsOf (⟨x.name, x.arity, e20.values⟩ : TableD)) = x))) [] <| .fin [(0, 2300)]) (.fin [(0, 2300)]))) (.call (vB (okTable (⟨x.name, x.arity, ([] : List (List Int))⟩ : TableD))) [] <| .br (.call (.agg [.p none (.str ((statsOf (⟨x.name, x.arity, ([] : List (List Int))⟩ : TableD)).name)), vI ((statsOf (⟨x.name, x.arity, ([] : List (List Int))⟩ : TableD)).arity), vI ((statsOf (⟨x.name, x.arity, ([] : List (List Int))⟩ : TableD)).rowCount), .own 0]) [(0, .arr 218 3 true (((statsOf (⟨x.name, x.arity, ([] : List (List Int))⟩ : TableD)).groups).map eGroupStats))] <| .call (vB (decide ((statsOf (⟨x.name, x.arity, ([] : List (List Int))⟩ : TableD)) = x))) [] <| .fin []) (.fin []))) ?_
 refine Eq.mpr (by kernel_rfl : _ = ((x.groups.map eGroupStats).length ≤ 9223372036854775807 → Lm eGroupStats x.groups ∧ (((decide ((0 : Int) < ((x.groups.length : Nat) : Int))) = true → inR (((x.groups.length : Nat) : Int) - (1 : Int)) ∧ (0 ≤ (((x.groups.length : Nat) : Int) - (1 : Int)) ∧ Em eGroupStats x.groups ((((x.groups.length : Nat) : Int) - (1 : Int)).toNat) fun e20 => K_cpR e20.values ∧ (K_tab_impl (⟨x.name, x.arity, e20.values⟩ : TableD) ∧ (((okTable (⟨x.name, x.arity, e20.values⟩ : TableD)) = true → K_st_impl (⟨x.name, x.arity, e20.values⟩ : TableD) ∧ K_eqStats_impl (statsOf (⟨x.name, x.arity, e20.values⟩ : TableD)) x ∧ x.name = ((tabOf x).name) ∧ x.arity = ((tabOf x).arity) ∧ (decide ((statsOf (⟨x.name, x.arity, e20.values⟩ : TableD)) = x)) = (okStats x) ∧ e20.values.map eIntS = ((tabOf x).rows).map eIntS ∧ True) ∧ ((okTable (⟨x.name, x.arity, e20.values⟩ : TableD)) = false → x.name = ((tabOf x).name) ∧ x.arity = ((tabOf x).arity) ∧ (false) = (okStats x) ∧ e20.values.map eIntS = ((tabOf x).rows).map eIntS ∧ True))))) ∧ ((decide ((0 : Int) < ((x.groups.length : Nat) : Int))) = false → Con Tryz.prog 225 [.agg [.str x.name, .int .i64 x.arity, .sl 0 1 ([])]] (vB (okTable (⟨x.name, x.arity, ([] : List (List Int))⟩ : TableD))) [] ∧ (((okTable (⟨x.name, x.arity, ([] : List (List Int))⟩ : TableD)) = true → Con Tryz.prog 155 [.agg [.str x.name, .int .i64 x.arity, .sl 0 1 ([])]] (.agg [.p none (.str ((statsOf (⟨x.name, x.arity, ([] : List (List Int))⟩ : TableD)).name)), vI ((statsOf (⟨x.name, x.arity, ([] : List (List Int))⟩ : TableD)).arity), vI ((statsOf (⟨x.name, x.arity, ([] : List (List Int))⟩ : TableD)).rowCount), .own 0]) [(0, .arr 218 3 true (((statsOf (⟨x.name, x.arity, ([] : List (List Int))⟩ : TableD)).groups).map eGroupStats))] ∧ K_eqStats_impl (statsOf (⟨x.name, x.arity, ([] : List (List Int))⟩ : TableD)) x ∧ x.name = ((tabOf x).name) ∧ x.arity = ((tabOf x).arity) ∧ (decide ((statsOf (⟨x.name, x.arity, ([] : List (List Int))⟩ : TableD)) = x)) = (okStats x) ∧ [] = ((tabOf x).rows).map eIntS ∧ True) ∧ ((okTable (⟨x.name, x.arity, ([] : List (List Int))⟩ : TableD)) = false → x.name = ((tabOf x).name) ∧ x.arity = ((tabOf x).arity) ∧ (false) = (okStats x) ∧ [] = ((tabOf x).rows).map eIntS ∧ True)))))) ?_
 intro n0
 simp only [List.length_map] at n0
 have q2 : cTableStats x = x.name.size + cGroupStatsS x.groups := rfl
 have q5 := cGroupStatsS_len x.groups
 refine ⟨List.length_map _, fun c0 => ?_, fun c0 => ?_⟩
 ·replace c0 := yq c0
  refine ⟨⟨by omega, by omega⟩, by omega, rfl, by omega, fun e20 h20 => ?_⟩
  have i20 : x.groups[x.groups.length - 1]? = some e20 := by rw [← h20]; congr 1; omega
  have hT : lastV x = e20.values := lastV_at i20
  have q1 := cGroupStatsS_el i20
  have q3 : cGroupStats e20 = cIntS e20.columns + cIntSS e20.values + cIntS e20.counts := rfl
  have q6 : cIntS e20.columns = e20.columns.length := rfl
  have q7 : cIntS e20.counts = e20.counts.length := rfl
  have q8 := cIntSS_len e20.values
  refine ⟨cpR _ (by omega), tab_impl (⟨x.name, x.arity, e20.values⟩ : TableD), fun g28 => ?_, fun g28 => ?_⟩
  ·refine ⟨st_impl (⟨x.name, x.arity, e20.values⟩ : TableD), eqStats_impl _ _, ?_, ?_, ?_, ?_, trivial⟩
   ·first | (rw [tabOf, hT] <;> rfl) | rfl | (simp [okStats, tabOf, hT, *]; done)
   ·first | (rw [tabOf, hT] <;> rfl) | rfl | (simp [okStats, tabOf, hT, *]; done)
   ·first | (rw [tabOf, hT] <;> rfl) | rfl | (simp [okStats, tabOf, hT, *]; done)
   ·first | (rw [tabOf, hT] <;> rfl) | rfl | (simp [okStats, tabOf, hT, *]; done)
  ·refine ⟨?_, ?_, ?_, ?_, trivial⟩
   ·first | (rw [tabOf, hT] <;> rfl) | rfl | (simp [okStats, tabOf, hT, *]; done)
   ·first | (rw [tabOf, hT] <;> rfl) | rfl | (simp [okStats, tabOf, hT, *]; done)
   ·first | (rw [tabOf, hT] <;> rfl) | rfl | (simp [okStats, tabOf, hT, *]; done)
   ·first | (rw [tabOf, hT] <;> rfl) | rfl | (simp [okStats, tabOf, hT, *]; done)
 ·replace c0 := nq c0
  have hT : lastV x = [] := lastV_nil (by omega)
  refine ⟨Con.imp (fun A w vs h => by simpa only [ArsRd, ArRd, RdL, rdV_nilE, List.map_nil] using h) (tab_impl (⟨x.name, x.arity, ([] : List (List Int))⟩ : TableD)), ?_⟩
  refine ⟨fun g28 => ?_, fun g28 => ?_⟩
  ·refine ⟨Con.imp (fun A w vs h => by simpa only [ArsRd, ArRd, RdL, rdV_nilE, List.map_nil] using h) (st_impl (⟨x.name, x.arity, ([] : List (List Int))⟩ : TableD)), ?_⟩
   refine ⟨eqStats_impl _ _, ?_, ?_, ?_, ?_, trivial⟩
   ·first | (rw [tabOf, hT] <;> rfl) | rfl | (simp [okStats, tabOf, hT, *]; done)
   ·first | (rw [tabOf, hT] <;> rfl) | rfl | (simp [okStats, tabOf, hT, *]; done)
   ·first | (rw [tabOf, hT] <;> rfl) | rfl | (simp [okStats, tabOf, hT, *]; done)
   ·first | (rw [tabOf, hT] <;> rfl) | rfl | (simp [okStats, tabOf, hT, *]; done)
  ·refine ⟨?_, ?_, ?_, ?_, trivial⟩
   ·first | (rw [tabOf, hT] <;> rfl) | rfl | (simp [okStats, tabOf, hT, *]; done)
   ·first | (rw [tabOf, hT] <;> rfl) | rfl | (simp [okStats, tabOf, hT, *]; done)
   ·first | (rw [tabOf, hT] <;> rfl) | rfl | (simp [okStats, tabOf, hT, *]; done)
   ·first | (rw [tabOf, hT] <;> rfl) | rfl | (simp [okStats, tabOf, hT, *]; done)
abbrev K_okS_impl (x : TableStatsD) : Prop := Con Tryz.prog 196 [.agg [.str x.name, .int .i64 x.arity, .int .i64 x.rowCount, .sl 218 3 (x.groups.map eGroupStats)]] (vB (okStats x)) []
theorem okS_impl (x : TableStatsD) (hc : cTableStats x ≤ 1048576) : K_okS_impl x := by
 refine con_x tbOk mixedW Tryz.func196 (by kernel_rfl) (callP (k_tabOf_impl x) <| .fin []) ?_
 refine Eq.mpr (by kernel_rfl : _ = ((x.groups.map eGroupStats).length ≤ 9223372036854775807 → K_tabOf_impl x ∧ (okStats x) = (okStats x) ∧ True)) ?_
 intro n0
 simp only [List.length_map] at n0
 refine ⟨tabOf_impl x (by omega), ?_⟩
 exact ⟨rfl, trivial⟩
theorem cIntSS_cons (a : List Int) (l : List (List Int)) : cIntSS (a :: l) = cIntSS l + 1 + a.length := by
  simp only [cIntSS, cntL, cIntS, List.map_cons, List.sum_cons, List.length_cons]
  omega
theorem cIntSS_take (l : List (List Int)) : ∀ k, cIntSS (l.take k) ≤ cIntSS l := by
  induction l with
  | nil => intro k; simp
  | cons a l ih =>
    intro k
    cases k with
    | zero => rw [List.take_zero]; exact Nat.zero_le _
    | succ k => rw [List.take_succ_cons, cIntSS_cons, cIntSS_cons]; have := ih k; omega
theorem putR_cnt {row : List Int} : ∀ {xs : List (List Int)}, cIntSS (putR row xs) ≤ cIntSS xs + 1 + row.length
  | [] => by rw [putR_nil, cIntSS_cons]; exact Nat.le_refl _
  | x :: xs => by
    by_cases h : 0 < cmpR x row
    · rw [putR_in h, cIntSS_cons]; omega
    · by_cases h' : cmpR x row = 0
      · rw [putR_eq h']; omega
      · rw [putR_lt h h', cIntSS_cons, cIntSS_cons]
        have := putR_cnt (row := row) (xs := xs)
        omega
theorem putR_ge {row : List Int} : ∀ {xs : List (List Int)}, xs.length ≤ (putR row xs).length
  | [] => by simp
  | x :: xs => by
    by_cases h : 0 < cmpR x row
    · rw [putR_in h]; simp
    · by_cases h' : cmpR x row = 0
      · rw [putR_eq h']; simp
      · rw [putR_lt h h']
        have := putR_ge (row := row) (xs := xs)
        simp only [List.length_cons]; omega
theorem fold_cnt (l : List (List Int)) : ∀ acc, cIntSS (l.foldl (fun acc x => putR x acc) acc) ≤ cIntSS acc + cIntSS l ∧ acc.length ≤ (l.foldl (fun acc x => putR x acc) acc).length := by
  induction l with
  | nil => intro acc; simp
  | cons x l ih =>
    intro acc
    obtain ⟨h1, h2⟩ := ih (putR x acc)
    have h3 := putR_cnt (row := x) (xs := acc)
    have h4 := putR_ge (row := x) (xs := acc)
    rw [List.foldl_cons, cIntSS_cons]
    exact ⟨by omega, by omega⟩
theorem foldPut_cnt (l : List (List Int)) (k : Nat) : cIntSS (foldPut (l.take k)) ≤ cIntSS l := by
  have h1 := (fold_cnt (l.take k) []).1
  have h2 := cIntSS_take l k
  have h3 : cIntSS ([] : List (List Int)) = 0 := rfl
  unfold foldPut
  omega
theorem foldPut_grow (l : List (List Int)) (k : Nat) : (foldPut (l.take k)).length ≤ (foldPut l).length := by
  have h := (fold_cnt (l.drop k) (foldPut (l.take k))).2
  have e : foldPut l = (l.drop k).foldl (fun acc x => putR x acc) (foldPut (l.take k)) := by
    unfold foldPut
    rw [← List.foldl_append, List.take_append_drop]
  rw [e]; exact h
def newT (name : ByteArray) (arity : Int) (rows : List (List Int)) : TableD × Bool := if okTable ⟨name, arity, foldPut rows⟩ = true then (⟨name, arity, foldPut rows⟩, true) else (zTable, false)
theorem newT_yes {name : ByteArray} {arity : Int} {rows : List (List Int)} (h : okTable ⟨name, arity, foldPut rows⟩ = true) : newT name arity rows = (⟨name, arity, foldPut rows⟩, true) := by rw [newT, if_pos h]
theorem newT_no {name : ByteArray} {arity : Int} {rows : List (List Int)} (h : okTable ⟨name, arity, foldPut rows⟩ = false) : newT name arity rows = (zTable, false) := by rw [newT, if_neg (by rw [h]; decide)]
theorem okTable_big {t : TableD} (h : 8 < t.rows.length) : okTable t = false := by
  cases e : okTable t with
  | false => rfl
  | true => have := okTable_arity e; omega
theorem newT_end {name : ByteArray} {arity : Int} {rows : List (List Int)} {k : Nat} {acc : List (List Int)} (ha : acc = foldPut (rows.take k)) (h : rows.length ≤ k ∨ 8 < acc.length) : okTable ⟨name, arity, acc⟩ = okTable ⟨name, arity, foldPut rows⟩ ∧ (okTable ⟨name, arity, acc⟩ = true → acc = foldPut rows) := by
  by_cases h1 : 8 < acc.length
  · have h2 := foldPut_grow rows k
    rw [← ha] at h2
    have q1 := okTable_big (t := ⟨name, arity, acc⟩) h1
    rw [q1, okTable_big (t := ⟨name, arity, foldPut rows⟩) (show 8 < (foldPut rows).length by omega)]
    exact ⟨rfl, fun q => by cases q⟩
  · have e : acc = foldPut rows := by rw [ha, List.take_of_length_le (by omega)]
    rw [e]; exact ⟨rfl, fun _ => rfl⟩
theorem asc_of : ∀ {l : List (List Int)}, (∀ i, i + 1 < l.length → cmpR (l.getD i []) (l.getD (i + 1) []) < 0) → Asc l
  | [], _ => List.Pairwise.nil
  | [a], _ => List.pairwise_singleton _ _
  | a :: b :: l, h => by
    have ih := asc_of (l := b :: l) fun i hi => by
      have := h (i + 1) (by simpa using hi)
      simpa using this
    have h0 : cmpR a b < 0 := by
      have := h 0 (by simp)
      simpa using this
    refine List.pairwise_cons.2 ⟨fun y hy => ?_, ih⟩
    rcases List.mem_cons.1 hy with rfl | q
    · exact h0
    · exact cmpR_trans h0 ((List.pairwise_cons.1 ih).1 y q)
theorem ascR_asc {l : List (List Int)} (h : ascR l = true) : Asc l := asc_of fun i hi => by
  have := List.all_eq_true.1 h i (List.mem_range.2 (by omega))
  simpa [ascAt] using this
theorem okTable_parts {t : TableD} (h : okTable t = true) : t.rows.all (okRow t.arity) = true ∧ okName t.name = true ∧ ascR t.rows = true := by
  simp only [okTable, Bool.and_eq_true] at h
  exact ⟨h.1, h.2.1, h.2.2.2.2⟩
theorem foldPut_asc {l : List (List Int)} (h : Asc l) : foldPut l = l := by
  obtain ⟨h1, h2, _⟩ := foldPut_all l [] List.Pairwise.nil
  exact asc_ext h1 h fun x => by have := h2 x; simpa [foldPut] using this
theorem row_len {t : TableD} (h : okTable t = true) {r : List Int} (hr : r ∈ t.rows) : (r.length : Int) = t.arity := by
  have := List.all_eq_true.1 (okTable_parts h).1 r hr
  simp only [okRow, Bool.and_eq_true, decide_eq_true_eq] at this
  exact this.2
def allC (n : Int) : List Int := bitsZ ((2 : Int) ^ n.toNat - 1)
theorem sel_all {n : Int} (hn : 1 ≤ n ∧ n ≤ 3) {r : List Int} (h : (r.length : Int) = n) : (selR r (allC n)).1 = r := by
  have h1 : n = 1 ∨ n = 2 ∨ n = 3 := by omega
  rcases h1 with rfl | rfl | rfl
  · match r, h with
    | [a], _ => rfl
    | [], h => simp at h
    | _ :: _ :: _, h => simp at h; omega
  · match r, h with
    | [a, b], _ => rfl
    | [], h => simp at h
    | [_], h => simp at h
    | _ :: _ :: _ :: _, h => simp at h; omega
  · match r, h with
    | [a, b, c], _ => rfl
    | [], h => simp at h
    | [_], h => simp at h
    | [_, _], h => simp at h
    | _ :: _ :: _ :: _ :: _, h => simp at h; omega
theorem all_cols {n : Int} (hn : 1 ≤ n ∧ n ≤ 3) : colsOk (n - 1) (allC n) = true := by
  have h1 : n = 1 ∨ n = 2 ∨ n = 3 := by omega
  rcases h1 with rfl | rfl | rfl <;> decide
theorem colSubs_last {n : Int} (hn : 1 ≤ n ∧ n ≤ 3) : 0 < (colSubs n).length ∧ (colSubs n)[(colSubs n).length - 1]? = some (allC n) := by
  have h1 : n = 1 ∨ n = 2 ∨ n = 3 := by omega
  rcases h1 with rfl | rfl | rfl <;> decide
theorem grpV_all {t : TableD} (h : okTable t = true) : (grpR t (allC t.arity)).1 = t.rows := by
  have hT := okTable_arity h
  have hc := all_cols (n := t.arity) ⟨hT.1, hT.2.1⟩
  rw [grpR_yes (by rw [h, hc]; rfl)]
  have e : selA t (allC t.arity) = t.rows := by
    rw [selA]
    conv => rhs; rw [← List.map_id t.rows]
    exact List.map_congr_left fun r hr => sel_all ⟨hT.1, hT.2.1⟩ (row_len h hr)
  show dedR (sortR (selA t (allC t.arity))) = t.rows
  rw [e, ← foldPut_ded, foldPut_asc (ascR_asc (okTable_parts h).2.2)]
theorem lastV_stats {t : TableD} (h : okTable t = true) : lastV (statsOf t) = t.rows ∧ (statsOf t).groups ≠ [] := by
  have hT := okTable_arity h
  obtain ⟨h0, h1⟩ := colSubs_last (n := t.arity) ⟨hT.1, hT.2.1⟩
  rw [statsOf_yes h]
  constructor
  · rw [lastV]
    show (((colSubs t.arity).map (grpS t)).getD (((colSubs t.arity).map (grpS t)).length - 1) zGroupStats).values = t.rows
    rw [List.length_map, getD_at (x := grpS t (allC t.arity)) (by rw [List.getElem?_map, h1]; rfl)]
    exact grpV_all h
  · intro e
    have : ((colSubs t.arity).map (grpS t)).length = 0 := congrArg List.length e
    rw [List.length_map] at this
    omega
def tabS (x : TableStatsD) : TableD × Bool := if x.groups.length = 0 then (zTable, false) else newT x.name x.arity (lastV x)
theorem tabS_ok {x : TableStatsD} (h : okStats x = true) : tabS x = (tabOf x, true) := by
  simp only [okStats, Bool.and_eq_true, decide_eq_true_eq] at h
  have h2 := (lastV_stats h.1).2
  rw [h.2] at h2
  rw [tabS, if_neg (fun e => h2 (List.eq_nil_of_length_eq_zero e))]
  have e := foldPut_asc (ascR_asc (okTable_parts h.1).2.2)
  rw [show (tabOf x).rows = lastV x from rfl] at e
  rw [newT_yes (by rw [e]; exact h.1), e]; rfl
theorem tabS_same (x : TableStatsD) : ((tabS x).2 && decide (statsOf (tabS x).1 = x)) = okStats x := by
  cases h : okStats x with
  | true =>
    rw [tabS_ok h]
    simp only [okStats, Bool.and_eq_true, decide_eq_true_eq] at h
    simp [h.2]
  | false =>
    rw [tabS]
    split
    · rfl
    · cases e : okTable ⟨x.name, x.arity, foldPut (lastV x)⟩ with
      | false => rw [newT_no e]; rfl
      | true =>
        rw [newT_yes e]
        simp only [Bool.true_and]
        by_cases q : statsOf ⟨x.name, x.arity, foldPut (lastV x)⟩ = x
        · exfalso
          have h3 := (lastV_stats e).1
          rw [q] at h3
          have h4 : tabOf x = ⟨x.name, x.arity, foldPut (lastV x)⟩ := by
            rw [tabOf]
            congr 1
          rw [okStats, h4, e, q] at h
          simp at h
        · simp [q]
theorem okS_parts {x : TableStatsD} (h : okStats x = true) : okTable (tabOf x) = true ∧ statsOf (tabOf x) = x := by
  simpa only [okStats, Bool.and_eq_true, decide_eq_true_eq] using h
theorem okS_groups {x : TableStatsD} (h : okStats x = true) : x.groups = (colSubs x.arity).map (grpS (tabOf x)) := by
  obtain ⟨h1, h2⟩ := okS_parts h
  rw [statsOf_yes h1] at h2
  exact (congrArg TableStatsD.groups h2).symm
theorem okS_count {x : TableStatsD} (h : okStats x = true) : x.rowCount = ((lastV x).length : Nat) := by
  obtain ⟨h1, h2⟩ := okS_parts h
  rw [statsOf_yes h1] at h2
  exact (congrArg TableStatsD.rowCount h2).symm
theorem okS_arity {x : TableStatsD} (h : okStats x = true) : 1 ≤ x.arity ∧ x.arity ≤ 3 := by
  have := okTable_arity (okS_parts h).1
  exact ⟨this.1, this.2.1⟩
theorem find_at {α : Type} {p : α → Bool} {l : List α} {k : Nat} {x : α} (h : l[k]? = some x) (ha : (l.take k).all (fun y => !p y) = true) (hx : p x = true) : l.find? p = some x := by
  rw [List.find?_eq_some_iff_getElem]
  obtain ⟨hk, rfl⟩ := List.getElem?_eq_some_iff.1 h
  refine ⟨hx, k, hk, rfl, fun j hj => ?_⟩
  have := List.all_eq_true.1 ha l[j] (List.mem_iff_getElem.2 ⟨j, by simp; omega, by simp⟩)
  exact this
theorem find_no {α : Type} {p : α → Bool} {l : List α} (ha : l.all (fun y => !p y) = true) : l.find? p = none := by
  rw [List.find?_eq_none]
  intro x hx
  have := List.all_eq_true.1 ha x hx
  simpa using this
def nameAt (l : List TableD) (i : Nat) : Bool := Op.bytesLess (l.getD i zTable).name.toList (l.getD (i + 1) zTable).name.toList
def okDb (d : DatabaseD) : Bool := d.tables.all okTable && ((List.range (d.tables.length - 1)).all (nameAt d.tables) && decide ((d.tables.length : Int) ≤ 6))
abbrev K_db_impl (t : DatabaseD) : Prop := Con Tryz.prog 154 [.agg [.sl 162 3 (t.tables.map eTable)]] (vB (okDb t)) []
theorem db_impl (t : DatabaseD) : K_db_impl t := by
 refine con_x tbOk mixedW Tryz.func154 (by kernel_rfl) (.len t.tables.length <| .loop Nat (Q1 Nat) [3, 4, 8, 9, 10, 11, 12, 13, 14, 15, 16, 17, 18, 19, 20, 21, 22, 23, 24, 25, 26, 27, 28, 29, 30, 31, 32] [400] (fun k => [(8, vI (k : Int))]) (fun k => []) (fun k => k ≤ t.tables.length ∧ (t.tables.take k).all okTable = true ∧ (List.range (k - 1)).all (nameAt t.tables) = true) (fun k => t.tables.length - k) (fun k => .br (.elem _ eTable t.tables (fun e11 => .call (vB (okTable e11)) [] <| .br (.fin []) (.lit <| .lit <| .br (.elem _ eTable t.tables (fun e24 => .lit <| .lit <| .lit <| .lit <| .lit <| .lit <| .lit <| .lit <| .br (.fin []) (.back []))) (.back [])))) (.len t.tables.length <| .fin []))) ?_
 refine Eq.mpr (by kernel_rfl : _ = ((t.tables.map eTable).length ≤ 9223372036854775807 → Lm eTable t.tables ∧ ((∃ (k : Nat), (0 : Int) = (k : Int) ∧ k ≤ t.tables.length ∧ (t.tables.take k).all okTable = true ∧ (List.range (k - 1)).all (nameAt t.tables) = true) ∧ ∀ (k : Nat), (k ≤ t.tables.length ∧ (t.tables.take k).all okTable = true ∧ (List.range (k - 1)).all (nameAt t.tables) = true) → ((decide ((k : Int) < ((t.tables.length : Nat) : Int))) = true → 0 ≤ (k : Int) ∧ Em eTable t.tables k fun e11 => K_tab_impl e11 ∧ (((!(okTable e11)) = true → (false) = (okDb t) ∧ True) ∧ ((!(okTable e11)) = false → ((decide ((0 : Int) < (k : Int))) = true → inR ((k : Int) - (1 : Int)) ∧ (0 ≤ ((k : Int) - (1 : Int)) ∧ Em eTable t.tables (((k : Int) - (1 : Int)).toNat) fun e24 => ((!(Op.bytesLess e24.name.toList e11.name.toList)) = true → (false) = (okDb t) ∧ True) ∧ ((!(Op.bytesLess e24.name.toList e11.name.toList)) = false → inR ((k : Int) + (1 : Int)) ∧ ∃ (k' : Nat), ((k : Int) + (1 : Int)) = (k' : Int) ∧ (k' ≤ t.tables.length ∧ (t.tables.take k').all okTable = true ∧ (List.range (k' - 1)).all (nameAt t.tables) = true) ∧ t.tables.length - k' < t.tables.length - k))) ∧ ((decide ((0 : Int) < (k : Int))) = false → inR ((k : Int) + (1 : Int)) ∧ ∃ (k' : Nat), ((k : Int) + (1 : Int)) = (k' : Int) ∧ (k' ≤ t.tables.length ∧ (t.tables.take k').all okTable = true ∧ (List.range (k' - 1)).all (nameAt t.tables) = true) ∧ t.tables.length - k' < t.tables.length - k)))) ∧ ((decide ((k : Int) < ((t.tables.length : Nat) : Int))) = false → Lm eTable t.tables ∧ (decide (((t.tables.length : Nat) : Int) ≤ (6 : Int))) = (okDb t) ∧ True)))) ?_
 intro n0
 simp only [List.length_map] at n0
 refine ⟨List.length_map _, ⟨0, rfl, Nat.zero_le _, rfl, rfl⟩, fun k ⟨hk, ha, hs⟩ => ?_⟩
 refine ⟨fun c0 => ?_, fun c0 => ?_⟩
 ·replace c0 := yq c0
  refine ⟨by omega, rfl, by omega, fun e11 h11 => ?_⟩
  refine ⟨tab_impl e11, fun g16 => ?_, fun g16 => ?_⟩
  ·replace g16 := nt g16
   refine ⟨?_, trivial⟩
   ·first | (rw [okDb, all_stop h11 g16]; rfl) | (rw [okDb, hz]; simp [*]; done) | (rw [okDb, hz]; simp; done)
  ·replace g16 := nf g16
   refine ⟨fun g19 => ?_, fun g19 => ?_⟩
   ·replace g19 := yq g19
    refine ⟨⟨by omega, by omega⟩, by omega, rfl, by omega, fun e24 h24 => ?_⟩
    have i1 : t.tables[k - 1]? = some e24 := by rw [← h24]; congr 1; omega
    refine ⟨fun c1 => ?_, fun c1 => ?_⟩
    ·replace c1 := nt c1
     have hp : nameAt t.tables (k - 1) = false := by rw [nameAt, getD_at i1, show k - 1 + 1 = k by omega, getD_at h11]; simpa using c1
     have hz : (List.range (t.tables.length - 1)).all (nameAt t.tables) = false := range_stop (by omega) hp
     refine ⟨?_, trivial⟩
     ·first | (rw [okDb, all_stop h11 g16]; rfl) | (rw [okDb, hz]; simp [*]; done) | (rw [okDb, hz]; simp; done)
    ·replace c1 := nf c1
     have hp : nameAt t.tables (k - 1) = true := by rw [nameAt, getD_at i1, show k - 1 + 1 = k by omega, getD_at h11]; simpa using c1
     have hs2 : (List.range (k + 1 - 1)).all (nameAt t.tables) = true := by rw [show k + 1 - 1 = (k - 1) + 1 by omega]; exact range_snoc hs hp
     refine ⟨⟨by omega, by omega⟩, ?_⟩
     exact ⟨k + 1, rfl, ⟨by omega, all_snoc h11 ha g16, hs2⟩, by omega⟩
   ·replace g19 := nq g19
    have hs2 : (List.range (k + 1 - 1)).all (nameAt t.tables) = true := by rw [show k = 0 by omega]; rfl
    refine ⟨⟨by omega, by omega⟩, ?_⟩
    exact ⟨k + 1, rfl, ⟨by omega, all_snoc h11 ha g16, hs2⟩, by omega⟩
 ·replace c0 := nq c0
  have hall := all_done (by omega) ha
  have hz : (List.range (t.tables.length - 1)).all (nameAt t.tables) = true := by rw [show t.tables.length - 1 = k - 1 by omega, hs]
  refine ⟨List.length_map _, ?_, trivial⟩
  ·first | (rw [okDb, all_stop h11 g16]; rfl) | (rw [okDb, hz]; simp [*]; done) | (rw [okDb, hz]; simp; done)
abbrev K_db_spec (t : DatabaseD) : Prop := Con Tryz.prog 138 [.agg [.sl 162 3 (t.tables.map eTable)]] (vB (okDb t)) []
theorem db_spec (t : DatabaseD) : K_db_spec t := by
 refine con_x tbOk mixedW Tryz.func138 (by kernel_rfl) (.loop Nat (Q1 Nat) [3, 4, 5, 6, 7, 8, 9, 10, 11, 12, 13, 14, 15, 16, 17, 18, 19, 20, 21, 22, 23, 24, 25, 26, 27, 28, 29, 30, 31, 32, 33, 34, 35, 36, 37] [] (fun k => [(3, vI (k : Int))]) (fun k => []) (fun k => k ≤ t.tables.length ∧ (t.tables.take k).all okTable = true ∧ (List.range (k - 1)).all (nameAt t.tables) = true) (fun k => t.tables.length - k) (fun k => .len t.tables.length <| .br (.elem _ eTable t.tables (fun e14 => .call (vB (okTable e14)) [] <| .br (.fin []) (.lit <| .lit <| .br (.elem _ eTable t.tables (fun e26 => .elem _ eTable t.tables (fun e32 => .lit <| .lit <| .lit <| .lit <| .lit <| .lit <| .br (.fin []) (.back [])))) (.back [])))) (.len t.tables.length <| .fin []))) ?_
 refine Eq.mpr (by kernel_rfl : _ = ((t.tables.map eTable).length ≤ 9223372036854775807 → (∃ (k : Nat), (0 : Int) = (k : Int) ∧ k ≤ t.tables.length ∧ (t.tables.take k).all okTable = true ∧ (List.range (k - 1)).all (nameAt t.tables) = true) ∧ ∀ (k : Nat), (k ≤ t.tables.length ∧ (t.tables.take k).all okTable = true ∧ (List.range (k - 1)).all (nameAt t.tables) = true) → Lm eTable t.tables ∧ (((decide ((k : Int) < ((t.tables.length : Nat) : Int))) = true → 0 ≤ (k : Int) ∧ Em eTable t.tables k fun e14 => K_tab_spec e14 ∧ (((!(okTable e14)) = true → (false) = (okDb t) ∧ True) ∧ ((!(okTable e14)) = false → ((decide ((0 : Int) < (k : Int))) = true → inR ((k : Int) - (1 : Int)) ∧ (0 ≤ ((k : Int) - (1 : Int)) ∧ Em eTable t.tables (((k : Int) - (1 : Int)).toNat) fun e26 => 0 ≤ (k : Int) ∧ Em eTable t.tables k fun e32 => ((!(Op.bytesLess e26.name.toList e32.name.toList)) = true → (false) = (okDb t) ∧ True) ∧ ((!(Op.bytesLess e26.name.toList e32.name.toList)) = false → inR ((k : Int) + (1 : Int)) ∧ ∃ (k' : Nat), ((k : Int) + (1 : Int)) = (k' : Int) ∧ (k' ≤ t.tables.length ∧ (t.tables.take k').all okTable = true ∧ (List.range (k' - 1)).all (nameAt t.tables) = true) ∧ t.tables.length - k' < t.tables.length - k))) ∧ ((decide ((0 : Int) < (k : Int))) = false → inR ((k : Int) + (1 : Int)) ∧ ∃ (k' : Nat), ((k : Int) + (1 : Int)) = (k' : Int) ∧ (k' ≤ t.tables.length ∧ (t.tables.take k').all okTable = true ∧ (List.range (k' - 1)).all (nameAt t.tables) = true) ∧ t.tables.length - k' < t.tables.length - k)))) ∧ ((decide ((k : Int) < ((t.tables.length : Nat) : Int))) = false → Lm eTable t.tables ∧ (decide (((t.tables.length : Nat) : Int) ≤ (6 : Int))) = (okDb t) ∧ True)))) ?_
 intro n0
 simp only [List.length_map] at n0
 refine ⟨⟨0, rfl, Nat.zero_le _, rfl, rfl⟩, fun k ⟨hk, ha, hs⟩ => ?_⟩
 refine ⟨List.length_map _, fun c0 => ?_, fun c0 => ?_⟩
 ·replace c0 := yq c0
  refine ⟨by omega, rfl, by omega, fun e14 h14 => ?_⟩
  refine ⟨tab_spec e14, fun g18 => ?_, fun g18 => ?_⟩
  ·replace g18 := nt g18
   refine ⟨?_, trivial⟩
   ·first | (rw [okDb, all_stop h14 g18]; rfl) | (rw [okDb, hz]; simp [*]; done) | (rw [okDb, hz]; simp; done)
  ·replace g18 := nf g18
   refine ⟨fun g21 => ?_, fun g21 => ?_⟩
   ·replace g21 := yq g21
    refine ⟨⟨by omega, by omega⟩, by omega, rfl, by omega, fun e26 h26 => ?_⟩
    have i1 : t.tables[k - 1]? = some e26 := by rw [← h26]; congr 1; omega
    refine ⟨by omega, rfl, by omega, fun e32 h32 => ?_⟩
    refine ⟨fun c1 => ?_, fun c1 => ?_⟩
    ·replace c1 := nt c1
     have hp : nameAt t.tables (k - 1) = false := by rw [nameAt, getD_at i1, show k - 1 + 1 = k by omega, getD_at h32]; simpa using c1
     have hz : (List.range (t.tables.length - 1)).all (nameAt t.tables) = false := range_stop (by omega) hp
     refine ⟨?_, trivial⟩
     ·first | (rw [okDb, all_stop h14 g18]; rfl) | (rw [okDb, hz]; simp [*]; done) | (rw [okDb, hz]; simp; done)
    ·replace c1 := nf c1
     have hp : nameAt t.tables (k - 1) = true := by rw [nameAt, getD_at i1, show k - 1 + 1 = k by omega, getD_at h32]; simpa using c1
     have hs2 : (List.range (k + 1 - 1)).all (nameAt t.tables) = true := by rw [show k + 1 - 1 = (k - 1) + 1 by omega]; exact range_snoc hs hp
     refine ⟨⟨by omega, by omega⟩, ?_⟩
     exact ⟨k + 1, rfl, ⟨by omega, all_snoc h14 ha g18, hs2⟩, by omega⟩
   ·replace g21 := nq g21
    have hs2 : (List.range (k + 1 - 1)).all (nameAt t.tables) = true := by rw [show k = 0 by omega]; rfl
    refine ⟨⟨by omega, by omega⟩, ?_⟩
    exact ⟨k + 1, rfl, ⟨by omega, all_snoc h14 ha g18, hs2⟩, by omega⟩
 ·replace c0 := nq c0
  have hall := all_done (by omega) ha
  have hz : (List.range (t.tables.length - 1)).all (nameAt t.tables) = true := by rw [show t.tables.length - 1 = k - 1 by omega, hs]
  refine ⟨List.length_map _, ?_, trivial⟩
  ·first | (rw [okDb, all_stop h14 g18]; rfl) | (rw [okDb, hz]; simp [*]; done) | (rw [okDb, hz]; simp; done)
end Go.Proofs.YtokkjaflmcjlhaaGreat
