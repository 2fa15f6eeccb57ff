/-
  Groups of rows, the spec's side.
-/
import Derived.Test.YtjlagjhmlmfjeaaGreatGd
namespace Go.Proofs.YtjlagjhmlmfjeaaGreat
open Go.ChangeShapes Go.WideShapes Go.ChangeAt Go.RowKit
set_option linter.unusedVariables false
set_option linter.unusedSimpArgs false
theorem pgo_true {row : List Int} : ∀ xs : List (List Int), pgo row true xs = xs
  | [] => rfl
  | x :: xs => by rw [pgo_on, pgo_true xs]
theorem putR_nil {row : List Int} : putR row [] = [row] := rfl
theorem putR_in {row x : List Int} {xs : List (List Int)} (h : 0 < cmpR x row) : putR row (x :: xs) = row :: x :: xs := by rw [putR, pgo_in h, pgo_true]
theorem putR_eq {row x : List Int} {xs : List (List Int)} (h : cmpR x row = 0) : putR row (x :: xs) = x :: xs := by rw [putR, pgo_eq h, pgo_true]
theorem putR_lt {row x : List Int} {xs : List (List Int)} (h : ¬ 0 < cmpR x row) (h' : ¬ cmpR x row = 0) : putR row (x :: xs) = x :: putR row xs := by rw [putR, pgo_lt h h', putR]
theorem putR_mem {row y : List Int} : ∀ {xs : List (List Int)}, y ∈ putR row xs ↔ y = row ∨ y ∈ xs
  | [] => by simp [putR_nil]
  | x :: xs => by
    by_cases h : 0 < cmpR x row
    · rw [putR_in h]; simp
    · by_cases h' : cmpR x row = 0
      · rw [putR_eq h', cmpR_zero.1 h']
        constructor
        · exact Or.inr
        · rintro (rfl | q)
          · simp
          · exact q
      · rw [putR_lt h h', List.mem_cons, List.mem_cons, putR_mem]
        constructor
        · rintro (q | q | q)
          · exact .inr (.inl q)
          · exact .inl q
          · exact .inr (.inr q)
        · rintro (q | q | q)
          · exact .inr (.inl q)
          · exact .inl q
          · exact .inr (.inr q)
abbrev Asc (l : List (List Int)) : Prop := l.Pairwise fun a b => cmpR a b < 0
theorem putR_asc {row : List Int} : ∀ {xs : List (List Int)}, Asc xs → Asc (putR row xs)
  | [], _ => by rw [putR_nil]; exact List.pairwise_singleton _ _
  | x :: xs, hx => by
    have h1 := List.pairwise_cons.1 hx
    by_cases h : 0 < cmpR x row
    · rw [putR_in h]
      refine List.pairwise_cons.2 ⟨fun y hy => ?_, hx⟩
      have hrx : cmpR row x < 0 := cmpR_anti.2 h
      rcases List.mem_cons.1 hy with rfl | q
      · exact hrx
      · exact cmpR_trans hrx (h1.1 y q)
    · by_cases h' : cmpR x row = 0
      · rw [putR_eq h']; exact hx
      · rw [putR_lt h h']
        refine List.pairwise_cons.2 ⟨fun y hy => ?_, putR_asc h1.2⟩
        rcases putR_mem.1 hy with rfl | q
        · omega
        · exact h1.1 y q
theorem putR_len {row : List Int} : ∀ {xs : List (List Int)}, (putR row xs).length ≤ xs.length + 1
  | [] => by simp [putR_nil]
  | x :: xs => by
    by_cases h : 0 < cmpR x row
    · rw [putR_in h]; simp
    · by_cases h' : cmpR x row = 0
      · rw [putR_eq h']; simp
      · rw [putR_lt h h']
        have := putR_len (row := row) (xs := xs)
        simp only [List.length_cons]; omega
def foldPut (l : List (List Int)) : List (List Int) := l.foldl (fun acc x => putR x acc) []
theorem foldPut_all (l : List (List Int)) : ∀ acc, Asc acc → Asc (l.foldl (fun acc x => putR x acc) acc) ∧ (∀ y, y ∈ l.foldl (fun acc x => putR x acc) acc ↔ y ∈ acc ∨ y ∈ l) ∧ (l.foldl (fun acc x => putR x acc) acc).length ≤ acc.length + l.length := by
  induction l with
  | nil => intro acc h; simp [h]
  | cons x l ih =>
    intro acc h
    obtain ⟨h1, h2, h3⟩ := ih _ (putR_asc (row := x) h)
    refine ⟨h1, fun y => ?_, ?_⟩
    · rw [List.foldl_cons, h2, putR_mem, List.mem_cons]
      constructor
      · rintro ((q | q) | q)
        · exact .inr (.inl q)
        · exact .inl q
        · exact .inr (.inr q)
      · rintro (q | q | q)
        · exact .inl (.inr q)
        · exact .inl (.inl q)
        · exact .inr q
    · have := putR_len (row := x) (xs := acc)
      rw [List.foldl_cons, List.length_cons]; omega
theorem foldPut_snoc {l : List (List Int)} {x : List Int} : foldPut (l ++ [x]) = putR x (foldPut l) := by simp [foldPut, List.foldl_append]
theorem asc_ext : ∀ {l m : List (List Int)}, Asc l → Asc m → (∀ x, x ∈ l ↔ x ∈ m) → l = m
  | [], [], _, _, _ => rfl
  | [], b :: m, _, _, h => by have := (h b).2 (by simp); simp at this
  | a :: l, [], _, _, h => by have := (h a).1 (by simp); simp at this
  | a :: l, b :: m, hl, hm, h => by
    have hl' := List.pairwise_cons.1 hl
    have hm' := List.pairwise_cons.1 hm
    have hab : a = b := by
      rcases List.mem_cons.1 ((h a).1 (by simp)) with q | q
      · exact q
      · rcases List.mem_cons.1 ((h b).2 (by simp)) with r | r
        · exact r.symm
        · have h1 := hm'.1 a q
          have h2 := hl'.1 b r
          have := cmpR_trans h1 h2
          rw [cmpR_self] at this; omega
    subst hab
    congr 1
    refine asc_ext hl'.2 hm'.2 fun x => ⟨fun hx => ?_, fun hx => ?_⟩
    · rcases List.mem_cons.1 ((h x).1 (by simp [hx])) with q | q
      · subst q; have := hl'.1 _ hx; rw [cmpR_self] at this; omega
      · exact q
    · rcases List.mem_cons.1 ((h x).2 (by simp [hx])) with q | q
      · subst q; have := hm'.1 _ hx; rw [cmpR_self] at this; omega
      · exact q
theorem dedL_mem {s : List (List Int)} {i : Nat} : i ∈ dedL s ↔ i < s.length ∧ (i = 0 ∨ ¬ s.getD i [] = s.getD (i - 1) []) := by
  rw [dedL, List.mem_filter, List.mem_range]
  simp [dedI]
theorem ded_first (s : List (List Int)) : ∀ n, n < s.length → ∃ i, i ∈ dedL s ∧ s.getD i [] = s.getD n []
  | 0, h => ⟨0, dedL_mem.2 ⟨h, .inl rfl⟩, rfl⟩
  | n + 1, h => by
    by_cases e : s.getD (n + 1) [] = s.getD n []
    · obtain ⟨i, h1, h2⟩ := ded_first s n (by omega)
      exact ⟨i, h1, by rw [h2, e]⟩
    · exact ⟨n + 1, dedL_mem.2 ⟨h, .inr e⟩, rfl⟩
theorem dedR_mem {s : List (List Int)} {x : List Int} : x ∈ dedR s ↔ x ∈ s := by
  constructor
  · intro h
    obtain ⟨i, hi, rfl⟩ := List.mem_map.1 h
    obtain ⟨y, hy⟩ := at_some (dedL_lt hi)
    rw [getD_at hy]; exact List.mem_of_getElem? hy
  · intro h
    obtain ⟨n, hn, hx⟩ := List.mem_iff_getElem.1 h
    obtain ⟨i, h1, h2⟩ := ded_first s n hn
    refine List.mem_map.2 ⟨i, h1, ?_⟩
    rw [h2, ← hx]; simp [hn]
theorem dedR_asc {s : List (List Int)} (hs : s.Pairwise (fun a b => leR a b = true)) : Asc (dedR s) := by
  rw [dedR, Asc, List.pairwise_map]
  have h0 : (dedL s).Pairwise (· < ·) := List.Pairwise.filter _ List.pairwise_lt_range
  refine List.Pairwise.imp_of_mem ?_ h0
  intro i j hi hj hij
  have h1 := dedL_mem.1 hj
  have hp := List.pairwise_iff_getElem.1 hs
  have hg : ∀ a b, a < b → b < s.length → leR (s.getD a []) (s.getD b []) = true := by
    intro a b hab hb
    have := hp a b (by omega) hb hab
    simpa [hb, show a < s.length by omega] using this
  have h2 := hg (j - 1) j (by omega) h1.1
  rw [leR, decide_eq_true_eq] at h2
  have h3 : cmpR (s.getD (j - 1) []) (s.getD j []) < 0 := by
    have : ¬ cmpR (s.getD (j - 1) []) (s.getD j []) = 0 := fun q => by
      have := cmpR_zero.1 q
      rcases h1.2 with r | r
      · omega
      · exact r this.symm
    omega
  by_cases e : i = j - 1
  · rw [e]; exact h3
  · have h4 := hg i (j - 1) (by omega) (by omega)
    rw [leR, decide_eq_true_eq] at h4
    by_cases z : cmpR (s.getD i []) (s.getD (j - 1) []) = 0
    · rw [cmpR_zero.1 z]; exact h3
    · exact cmpR_trans (by omega) h3
theorem foldPut_ded (l : List (List Int)) : foldPut l = dedR (sortR l) := by
  obtain ⟨h1, h2, _⟩ := foldPut_all l [] List.Pairwise.nil
  exact asc_ext h1 (dedR_asc (sortR_pair l)) fun x => by
    have h2' := h2 x
    rw [show l.foldl (fun acc x => putR x acc) [] = foldPut l from rfl] at h2'
    rw [h2', dedR_mem, (sortR_perm l).mem_iff]; simp
theorem foldPut_small {l : List (List Int)} {m : Nat} (h : ∀ x ∈ l, x.length ≤ m) : (foldPut l).length ≤ l.length ∧ cIntSS (foldPut l) ≤ l.length + l.length * m := by
  obtain ⟨_, h2, h3⟩ := foldPut_all l [] List.Pairwise.nil
  have h4 : (foldPut l).length ≤ l.length := by
    rw [List.length_nil, Nat.zero_add] at h3
    exact h3
  have := cIntSS_bound (l := foldPut l) (m := m) fun x hx => h x (by simpa using (h2 x).1 hx)
  have := Nat.mul_le_mul_right m h4
  exact ⟨h4, by omega⟩
theorem selA_at {t : TableD} {cols : List Int} {j : Nat} {e : List Int} (h : t.rows[j]? = some e) : (selA t cols)[j]? = some (selR e cols).1 := by simp [selA, h]
theorem sel_put {t : TableD} {cols : List Int} {k : Nat} (h : (okTable t && colsOk (t.arity - 1) cols) = true) : (foldPut ((selA t cols).take k)).length ≤ 8 ∧ cIntSS (foldPut ((selA t cols).take k)) ≤ 64 := by
  have h0 := h
  rw [Bool.and_eq_true] at h
  have ha := okTable_arity h.1
  have hc := cols_len h.2 (by omega)
  have hl : (selA t cols).length = t.rows.length := List.length_map _
  have := foldPut_small (l := (selA t cols).take k) (m := 3) fun r hr => by
    obtain ⟨q, _, rfl⟩ := List.mem_map.1 (List.mem_of_mem_take hr)
    have := selR_len q cols
    omega
  have h5 : ((selA t cols).take k).length ≤ 8 := by simp; omega
  omega

set_option maxRecDepth 100000 in
set_option maxHeartbeats 4000000 in
theorem grp_spec (t : TableD) (cols : List Int) (hl : cols.length ≤ 1048576) : Con Tryz.prog 128 [.agg [.str t.name, .int .i64 t.arity, .sl 25 1 (t.rows.map eIntS)], .one (.sl 3 1 (cols.map intD))] (.tup [.own 0, .own 1]) [(0, .arr 25 1 true (((grpR t cols).1).map eIntS)), (1, .arr 3 1 true (((grpR t cols).2).map intD))] := by
  refine con_x tbOk mixedW Tryz.func128 (by kernel_rfl) (.call (vB (okTable t && colsOk (t.arity - 1) cols)) [] <| .br (.fin [(0, 1600), (1, 1700)]) (.loop (Nat × (List (List Int))) (Q2 Nat (List (List Int))) [6, 8, 9, 10, 16, 24, 25, 26, 27, 28, 29, 30, 31, 32, 33, 34, 35, 36, 37, 38, 39, 40, 41, 42, 43] [1600, 3800, 4300] (fun yy0 => [(8, vI (yy0.1 : Int)), (6, .own 1600)]) (fun yy0 => [(1600, some (.arr 25 1 true (yy0.2.map eIntS)))]) (fun yy0 => yy0.1 ≤ t.rows.length ∧ yy0.2 = foldPut ((selA t cols).take yy0.1)) (fun yy0 => t.rows.length - yy0.1) (fun yy0 => .len t.rows.length <| .br (.elem (List Int) eIntS t.rows (fun e35 => .call (.tup [.own 0, vB ((selR e35 cols).2)]) [(0, .arr 3 1 true (((selR e35 cols).1).map intD))] <| .call (.own 0) [(0, .arr 25 1 true ((putR ((selR e35 cols).1) yy0.2).map eIntS))] <| .back [(1600, 4300)])) (.loop (Nat × (List Int)) (Q2 Nat (List Int)) [7, 11, 12, 13, 14, 15, 17, 44, 45, 46, 47, 48, 49, 50, 51, 52, 53, 54, 55, 56, 57, 58, 59, 60, 61, 62, 63, 64, 65, 66, 67, 68, 69, 70, 71, 72, 73, 74, 75, 76, 77, 78, 79] [1700, 6400, 7800, 7900] (fun yy1 => [(11, vI (yy1.1 : Int)), (7, .own 1700)]) (fun yy1 => [(1700, some (.arr 3 1 true (yy1.2.map intD)))]) (fun yy1 => yy1.1 ≤ yy0.2.length ∧ yy1.2 = (yy0.2.take yy1.1).map (cntOf (selA t cols))) (fun yy1 => yy0.2.length - yy1.1) (fun yy1 => .len yy0.2.length <| .br (.loop (Nat × Int) (Q2 Nat Int) [12, 13, 14, 15, 50, 51, 52, 53, 54, 55, 56, 57, 58, 59, 60, 61, 62, 63, 64, 65, 66, 67, 68, 69, 70, 71, 72, 73, 74, 75] [6400] (fun yy2 => [(12, vI yy2.2), (13, vI (yy2.1 : Int))]) (fun yy2 => []) (fun yy2 => yy2.1 ≤ t.rows.length ∧ yy2.2 = cntOf ((selA t cols).take yy2.1) (yy0.2.getD yy1.1 [])) (fun yy2 => t.rows.length - yy2.1) (fun yy2 => .len t.rows.length <| .br (.elem (List Int) eIntS t.rows (fun e61 => .call (.tup [.own 0, vB ((selR e61 cols).2)]) [(0, .arr 3 1 true (((selR e61 cols).1).map intD))] <| .len yy0.2.length <| .elem (List Int) eIntS yy0.2 (fun e71 => .call (vI (cmpR ((selR e61 cols).1) e71)) [] <| .br (.back []) (.back [])))) (.app Int intD yy1.2 ([yy2.2] : List Int) <| .back [(1700, 7900)]))) (.fin [(0, 1600), (1, 1700)])))))) ?_
  refine Eq.mpr (by kernel_rfl : _ = ((t.rows.map eIntS).length ≤ 9223372036854775807 → (cols.map intD).length ≤ 9223372036854775807 → Con Tryz.prog 171 [.agg [.str t.name, .int .i64 t.arity, .sl 25 1 (t.rows.map eIntS)], .one (.sl 3 1 (cols.map intD))] (vB (okTable t && colsOk (t.arity - 1) cols)) [] ∧ (((!(okTable t && colsOk (t.arity - 1) cols)) = true → [] = ((grpR t cols).1).map eIntS ∧ [] = ((grpR t cols).2).map intD ∧ True) ∧ ((!(okTable t && colsOk (t.arity - 1) cols)) = false → (∃ (k : Nat) (out : List (List Int)), (0 : Int) = (k : Int) ∧ [] = out.map eIntS ∧ k ≤ t.rows.length ∧ out = foldPut ((selA t cols).take k)) ∧ ∀ (k : Nat) (out : List (List Int)), (k ≤ t.rows.length ∧ out = foldPut ((selA t cols).take k)) → (t.rows.map eIntS).length = t.rows.length ∧ (((decide ((k : Int) < ((t.rows.length : Nat) : Int))) = true → 0 ≤ (k : Int) ∧ (t.rows.map eIntS = t.rows.map eIntS ∧ k < t.rows.length ∧ ∀ e35, t.rows[k]? = some e35 → Con Tryz.prog 172 [.one (.sl 3 1 (e35.map intD)), .one (.sl 3 1 (cols.map intD))] (.tup [.own 0, vB ((selR e35 cols).2)]) [(0, .arr 3 1 true (((selR e35 cols).1).map intD))] ∧ Con Tryz.prog 125 [.one (.sl 25 1 (out.map eIntS)), .one (.sl 3 1 (((selR e35 cols).1).map intD))] (.own 0) [(0, .arr 25 1 true ((putR ((selR e35 cols).1) out).map eIntS))] ∧ inR ((k : Int) + (1 : Int)) ∧ ∃ (k' : Nat) (out' : List (List Int)), ((k : Int) + (1 : Int)) = (k' : Int) ∧ (putR ((selR e35 cols).1) out).map eIntS = out'.map eIntS ∧ (k' ≤ t.rows.length ∧ out' = foldPut ((selA t cols).take k')) ∧ t.rows.length - k' < t.rows.length - k)) ∧ ((decide ((k : Int) < ((t.rows.length : Nat) : Int))) = false → (∃ (i : Nat) (c : List Int), (0 : Int) = (i : Int) ∧ [] = c.map intD ∧ i ≤ out.length ∧ c = (out.take i).map (cntOf (selA t cols))) ∧ ∀ (i : Nat) (c : List Int), (i ≤ out.length ∧ c = (out.take i).map (cntOf (selA t cols))) → (out.map eIntS).length = out.length ∧ (((decide ((i : Int) < ((out.length : Nat) : Int))) = true → (∃ (j : Nat) (z : Int), (0 : Int) = z ∧ (0 : Int) = (j : Int) ∧ j ≤ t.rows.length ∧ z = cntOf ((selA t cols).take j) (out.getD i [])) ∧ ∀ (j : Nat) (z : Int), (j ≤ t.rows.length ∧ z = cntOf ((selA t cols).take j) (out.getD i [])) → (t.rows.map eIntS).length = t.rows.length ∧ (((decide ((j : Int) < ((t.rows.length : Nat) : Int))) = true → 0 ≤ (j : Int) ∧ (t.rows.map eIntS = t.rows.map eIntS ∧ j < t.rows.length ∧ ∀ e61, t.rows[j]? = some e61 → Con Tryz.prog 172 [.one (.sl 3 1 (e61.map intD)), .one (.sl 3 1 (cols.map intD))] (.tup [.own 0, vB ((selR e61 cols).2)]) [(0, .arr 3 1 true (((selR e61 cols).1).map intD))] ∧ (0 ≤ (i : Int) ∧ (out.map eIntS).length = out.length ∧ (i : Int) < ((out.length : Nat) : Int) ∧ (out.map eIntS = out.map eIntS ∧ i < out.length ∧ ∀ e71, out[i]? = some e71 → Con Tryz.prog 126 [.one (.sl 3 1 (((selR e61 cols).1).map intD)), .one (.sl 3 1 (e71.map intD))] (vI (cmpR ((selR e61 cols).1) e71)) [] ∧ (((decide ((cmpR ((selR e61 cols).1) e71) = (0 : Int))) = true → inR (z + (1 : Int)) ∧ inR ((j : Int) + (1 : Int)) ∧ ∃ (j' : Nat) (z' : Int), (z + (1 : Int)) = z' ∧ ((j : Int) + (1 : Int)) = (j' : Int) ∧ (j' ≤ t.rows.length ∧ z' = cntOf ((selA t cols).take j') (out.getD i [])) ∧ t.rows.length - j' < t.rows.length - j) ∧ ((decide ((cmpR ((selR e61 cols).1) e71) = (0 : Int))) = false → inR ((j : Int) + (1 : Int)) ∧ ∃ (j' : Nat) (z' : Int), z = z' ∧ ((j : Int) + (1 : Int)) = (j' : Int) ∧ (j' ≤ t.rows.length ∧ z' = cntOf ((selA t cols).take j') (out.getD i [])) ∧ t.rows.length - j' < t.rows.length - j)))))) ∧ ((decide ((j : Int) < ((t.rows.length : Nat) : Int))) = false → c.map intD = c.map intD ∧ [[.int .i64 z]] = ([z] : List Int).map intD ∧ (∀ x, flatB (intD x) = true) ∧ (c.length + ([z] : List Int).length) * 8 ≤ 140737488355328 ∧ inR ((i : Int) + (1 : Int)) ∧ ∃ (i' : Nat) (c' : List Int), ((i : Int) + (1 : Int)) = (i' : Int) ∧ (c ++ [z]).map intD = c'.map intD ∧ (i' ≤ out.length ∧ c' = (out.take i').map (cntOf (selA t cols))) ∧ out.length - i' < out.length - i))) ∧ ((decide ((i : Int) < ((out.length : Nat) : Int))) = false → out.map eIntS = ((grpR t cols).1).map eIntS ∧ c.map intD = ((grpR t cols).2).map intD ∧ True)))))))) ?_
  intro n0 n1
  simp only [List.length_map] at n0 n1
  refine ⟨cols_spec t _, ?_⟩
  refine ⟨fun c0 => ?_, fun c0 => ?_⟩
  · replace c0 := nt c0
    have hbad : (okTable t && colsOk (t.arity - 1) cols) = false := by simpa using c0
    refine ⟨?_, ?_, trivial⟩
    · first | (rw [grpR_no hbad] <;> rfl) | (rw [grpR_yes hok, hV] <;> rfl) | (rw [grpR_yes hok, hC] <;> rfl)
    · first | (rw [grpR_no hbad] <;> rfl) | (rw [grpR_yes hok, hV] <;> rfl) | (rw [grpR_yes hok, hC] <;> rfl)
  · replace c0 := nf c0
    have hok : (okTable t && colsOk (t.arity - 1) cols) = true := by simpa using c0
    obtain ⟨hs1, hs2⟩ := selA_small hok
    refine ⟨⟨0, ([] : List (List Int)), rfl, rfl, Nat.zero_le _, rfl⟩, fun k out ⟨hk, ho⟩ => ?_⟩
    refine ⟨List.length_map _, ?_⟩
    refine ⟨fun c1 => ?_, fun c1 => ?_⟩
    · replace c1 := of_decide_eq_true c1
      have hp := sel_put (k := k) hok
      rw [← ho] at hp
      refine ⟨by omega, ?_⟩
      refine ⟨rfl, by omega, fun e35 h35 => ?_⟩
      have hsl := selR_len e35 cols
      refine ⟨sel_spec _ _ (by omega), ?_⟩
      refine ⟨put_spec out ((selR e35 cols).1) (by omega) (by omega) (by omega), ?_⟩
      refine ⟨⟨by omega, by omega⟩, ?_⟩
      exact ⟨k + 1, _, rfl, rfl, ⟨by omega, by rw [ho, take_snoc (selA_at h35), foldPut_snoc]⟩, by omega⟩
    · replace c1 := of_decide_eq_false c1
      have hV : out = grpV t cols := by rw [ho, List.take_of_length_le (by simp [selA]; omega), foldPut_ded]; rfl
      have hp := sel_put (k := k) hok
      rw [← ho] at hp
      refine ⟨⟨0, ([] : List Int), rfl, rfl, Nat.zero_le _, rfl⟩, fun i c ⟨hi, hc⟩ => ?_⟩
      refine ⟨List.length_map _, ?_⟩
      refine ⟨fun c2 => ?_, fun c2 => ?_⟩
      · replace c2 := of_decide_eq_true c2
        obtain ⟨g, hg⟩ := at_some (l := out) (k := i) (by omega)
        refine ⟨⟨0, 0, rfl, rfl, Nat.zero_le _, rfl⟩, fun j z ⟨hj, hz⟩ => ?_⟩
        refine ⟨List.length_map _, ?_⟩
        refine ⟨fun c3 => ?_, fun c3 => ?_⟩
        · replace c3 := of_decide_eq_true c3
          refine ⟨by omega, ?_⟩
          refine ⟨rfl, by omega, fun e61 h61 => ?_⟩
          refine ⟨sel_spec _ _ (by omega), ?_⟩
          refine ⟨by omega, List.length_map _, by omega, ?_⟩
          refine ⟨rfl, by omega, fun e71 h71 => ?_⟩
          have hg71 : out.getD i [] = e71 := getD_at h71
          refine ⟨cmpRows_spec _ _, ?_⟩
          refine ⟨fun c4 => ?_, fun c4 => ?_⟩
          · replace c4 := of_decide_eq_true c4
            have hcl := cnt_le ((selA t cols).take j) e71
            rw [← hg71, ← hz] at hcl
            have hjl : ((selA t cols).take j).length ≤ 8 := by simp; omega
            refine ⟨⟨by omega, by omega⟩, ?_⟩
            refine ⟨⟨by omega, by omega⟩, ?_⟩
            exact ⟨j + 1, _, rfl, rfl, ⟨by omega, by rw [hz, hg71, cnt_yes (selA_at h61) (cmpR_zero.1 c4).symm]⟩, by omega⟩
          · replace c4 := of_decide_eq_false c4
            refine ⟨⟨by omega, by omega⟩, ?_⟩
            exact ⟨j + 1, _, rfl, rfl, ⟨by omega, by rw [hz, hg71, cnt_no (selA_at h61) (fun q => c4 (cmpR_zero.2 q.symm))]⟩, by omega⟩
        · replace c3 := of_decide_eq_false c3
          refine ⟨rfl, rfl, fun _ => rfl, by first | omega | (simp; omega) | (rw [hc]; simp; omega), ?_⟩
          refine ⟨⟨by omega, by omega⟩, ?_⟩
          exact ⟨i + 1, _, rfl, rfl, ⟨by omega, by rw [hc, hz, take_snoc hg, getD_at hg, List.map_append, List.take_of_length_le (l := selA t cols) (i := j) (by simp [selA]; omega)]; rfl⟩, by omega⟩
      · replace c2 := of_decide_eq_false c2
        have hC : c = grpC t cols := by rw [hc, List.take_of_length_le (by omega), hV]; rfl
        refine ⟨?_, ?_, trivial⟩
        · first | (rw [grpR_no hbad] <;> rfl) | (rw [grpR_yes hok, hV] <;> rfl) | (rw [grpR_yes hok, hC] <;> rfl)
        · first | (rw [grpR_no hbad] <;> rfl) | (rw [grpR_yes hok, hV] <;> rfl) | (rw [grpR_yes hok, hC] <;> rfl)
end Go.Proofs.YtjlagjhmlmfjeaaGreat
