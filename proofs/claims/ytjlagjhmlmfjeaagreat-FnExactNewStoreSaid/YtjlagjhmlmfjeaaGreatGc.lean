/-
  Groups of rows, the program's side.
-/
import Derived.Test.YtjlagjhmlmfjeaaGreatGb
import Derived.Test.YtjlagjhmlmfjeaaGreatGa
namespace Go.Proofs.YtjlagjhmlmfjeaaGreat
open Go.ChangeShapes Go.WideShapes Go.ChangeAt Go.RowKit
set_option linter.unusedVariables false
set_option linter.unusedSimpArgs false
def selA (t : TableD) (cols : List Int) : List (List Int) := t.rows.map fun r => (selR r cols).1
def cntOf (all : List (List Int)) (g : List Int) : Int := (((all.filter fun x => decide (g = x)).length : Nat) : Int)
def grpV (t : TableD) (cols : List Int) : List (List Int) := dedR (sortR (selA t cols))
def grpC (t : TableD) (cols : List Int) : List Int := (grpV t cols).map (cntOf (selA t cols))
def grpR (t : TableD) (cols : List Int) : List (List Int) × List Int := if (okTable t && colsOk (t.arity - 1) cols) = true then (grpV t cols, grpC t cols) else ([], [])
theorem grpR_yes {t : TableD} {cols : List Int} (h : (okTable t && colsOk (t.arity - 1) cols) = true) : grpR t cols = (grpV t cols, grpC t cols) := by rw [grpR, if_pos h]
theorem grpR_no {t : TableD} {cols : List Int} (h : (okTable t && colsOk (t.arity - 1) cols) = false) : grpR t cols = ([], []) := by rw [grpR, if_neg (by rw [h]; decide)]
theorem cnt_yes {all : List (List Int)} {g x : List Int} {j : Nat} (hx : all[j]? = some x) (h : g = x) : cntOf (all.take (j + 1)) g = cntOf (all.take j) g + 1 := by
  subst h
  rw [cntOf, cntOf, take_snoc hx, List.filter_append]
  simp
theorem cnt_no {all : List (List Int)} {g x : List Int} {j : Nat} (hx : all[j]? = some x) (h : ¬ g = x) : cntOf (all.take (j + 1)) g = cntOf (all.take j) g := by
  rw [cntOf, cntOf, take_snoc hx, List.filter_append]
  simp [h]
theorem cnt_le (all : List (List Int)) (g : List Int) : 0 ≤ cntOf all g ∧ cntOf all g ≤ all.length := by
  have := List.length_filter_le (fun x => decide (g = x)) all
  unfold cntOf
  omega
theorem cols_low {b : Int} {cols : List Int} (h : colsOk b cols = true) : ∀ i, i < cols.length → (i : Int) ≤ cols.getD i 0 ∧ cols.getD i 0 ≤ b
  | 0, hi => by
    have := List.all_eq_true.1 h 0 (List.mem_range.2 hi)
    simp only [colAt, Bool.and_eq_true] at this
    have := inB_true this.1
    exact ⟨by simpa using this.1, this.2⟩
  | i + 1, hi => by
    have ih := cols_low h i (by omega)
    have := List.all_eq_true.1 h (i + 1) (List.mem_range.2 hi)
    simp only [colAt, Bool.and_eq_true, Bool.or_eq_true, decide_eq_true_eq, Nat.add_sub_cancel] at this
    have h2 := inB_true this.1
    rcases this.2 with q | q
    · omega
    · exact ⟨by omega, h2.2⟩
theorem cols_len {b : Int} {cols : List Int} (h : colsOk b cols = true) (hb : b ≤ 2) : cols.length ≤ 3 := by
  by_cases h3 : 3 < cols.length
  · have := cols_low h 3 h3
    omega
  · omega
theorem sumL_bound {α : Type} {ct : α → Nat} {m : Nat} : ∀ {l : List α}, (∀ x ∈ l, ct x ≤ m) → sumL ct l ≤ l.length * m
  | [], _ => by simp [sumL]
  | a :: l, h => by
    have h1 := h a (by simp)
    have h2 := sumL_bound (l := l) fun x hx => h x (by simp [hx])
    simp only [sumL, List.map_cons, List.sum_cons, List.length_cons, Nat.add_mul, Nat.one_mul] at *
    omega
theorem cIntSS_bound {l : List (List Int)} {m : Nat} (h : ∀ r ∈ l, r.length ≤ m) : cIntSS l ≤ l.length + l.length * m := by
  have h1 := sumL_bound (ct := cIntS) (m := m) (l := l) fun r hr => h r hr
  have h2 : cIntSS l = l.length + sumL cIntS l := rfl
  omega
theorem selA_small {t : TableD} {cols : List Int} (h : (okTable t && colsOk (t.arity - 1) cols) = true) : (selA t cols).length ≤ 8 ∧ cIntSS (selA t cols) ≤ 32 := by
  rw [Bool.and_eq_true] at h
  have ha := okTable_arity h.1
  have hc := cols_len h.2 (by omega)
  have hl : (selA t cols).length = t.rows.length := List.length_map _
  have := cIntSS_bound (l := selA t cols) (m := 3) fun r hr => by
    obtain ⟨q, _, rfl⟩ := List.mem_map.1 hr
    have := selR_len q cols
    omega
  omega
theorem dedR_len (l : List (List Int)) : (dedR (sortR l)).length ≤ l.length := by
  rw [dedR, List.length_map, ← sortR_len l]
  have := (List.filter_sublist (l := List.range (sortR l).length) (p := fun j => decide (j = 0) || !dedI (sortR l) j (j - 1))).length_le
  rw [List.length_range] at this
  exact this
theorem set_at {α : Type} {l : List α} {i : Nat} {x y : α} (h : (l.set i x)[i]? = some y) : y = x := at_set h
theorem fill_zero {f : List Int → Int} {l : List (List Int)} {i : Nat} (h : i < l.length) : ((l.take i).map f ++ List.replicate (l.length - i) (0 : Int)).set i 0 = (l.take i).map f ++ List.replicate (l.length - i) 0 := by
  rw [show l.length - i = (l.length - (i + 1)) + 1 by omega, List.replicate_succ, List.set_append_right _ _ (by simp; omega)]
  simp [show i - min i l.length = 0 by omega]
theorem fill_cnt {f : List Int → Int} {l : List (List Int)} {i : Nat} {x : List Int} (h : l[i]? = some x) : ((l.take i).map f ++ List.replicate (l.length - i) (0 : Int)).set i (f x) = (l.take (i + 1)).map f ++ List.replicate (l.length - (i + 1)) 0 := by
  have hi : i < l.length := (List.getElem?_eq_some_iff.1 h).1
  rw [show l.length - i = (l.length - (i + 1)) + 1 by omega, List.replicate_succ, List.set_append_right _ _ (by simp; omega), take_snoc h]
  simp [show i - min i l.length = 0 by omega]
theorem fill_done2 {f : List Int → Int} {l : List (List Int)} {i : Nat} (h : i ≤ l.length) (h' : ¬ i < l.length) : (l.take i).map f ++ List.replicate (l.length - i) (0 : Int) = l.map f := by
  rw [show i = l.length by omega]; simp

set_option maxRecDepth 100000 in
set_option maxHeartbeats 4000000 in
theorem grp_impl (t : TableD) (cols : List Int) (hl : cols.length ≤ 1048576) : Con Tryz.prog 141 [.agg [.str t.name, .int .i64 t.arity, .sl 25 1 (t.rows.map eIntS)], .one (.sl 3 1 (cols.map intD))] (.tup [.own 0, .own 1]) [(0, .arr 25 1 true (((grpR t cols).1).map eIntS)), (1, .arr 3 1 true (((grpR t cols).2).map intD))] := by
  refine con_x tbOk mixedW Tryz.func141 (by kernel_rfl) (.call (vB (okTable t)) [] <| .br (.fin []) (.call (vB (colsOk (t.arity - 1) cols)) [] <| .lit <| .lit <| .br (.fin []) (.len t.rows.length <| .loop (Nat × (List (List Int))) (Q2 Nat (List (List Int))) [6, 8, 9, 10, 27, 31, 32, 33, 34, 35, 36, 37, 38, 39, 40, 41, 42, 43, 44, 45] [2700, 3800, 4300, 4400] (fun yy0 => [(31, vI (yy0.1 : Int)), (6, .own 2700)]) (fun yy0 => [(2700, some (.arr 25 1 true (yy0.2.map eIntS)))]) (fun yy0 => yy0.1 ≤ t.rows.length ∧ yy0.2 = (t.rows.take yy0.1).map fun r => (selR r cols).1) (fun yy0 => t.rows.length - yy0.1) (fun yy0 => .br (.elem (List Int) eIntS t.rows (fun e33 => .call (.tup [.own 0, vB ((selR e33 cols).2)]) [(0, .arr 3 1 true (((selR e33 cols).1).map intD))] <| .appx (List Int) eIntS yy0.2 ((selR e33 cols).1) <| .back [(2700, 4400)])) (.call (.own 0) [(0, .arr 25 1 true ((dedR (sortR yy0.2)).map eIntS))] <| .len ((dedR (sortR yy0.2)).length) <| .mk ((dedR (sortR yy0.2)).length) [.int .i64 (0 : Int)] ((List.replicate ((dedR (sortR yy0.2)).length) (0 : Int)).map intD) <| .len ((dedR (sortR yy0.2)).length) <| .loop (Nat × (List Int)) (Q2 Nat (List Int)) [13, 14, 16, 53, 54, 55, 56, 57, 58, 59, 60, 61, 62, 63, 64, 65, 66, 67, 68, 69, 70, 71, 72, 73, 74] [5000] (fun yy1 => [(53, vI (yy1.1 : Int))]) (fun yy1 => [(5000, some (.arr 3 1 true (yy1.2.map intD)))]) (fun yy1 => yy1.1 ≤ (dedR (sortR yy0.2)).length ∧ yy1.2 = ((dedR (sortR yy0.2)).take yy1.1).map (cntOf yy0.2) ++ List.replicate ((dedR (sortR yy0.2)).length - yy1.1) 0 ∧ yy1.2.length = (dedR (sortR yy0.2)).length) (fun yy1 => (dedR (sortR yy0.2)).length - yy1.1) (fun yy1 => .br (.len ((dedR (sortR yy0.2)).length) <| .elem (List Int) eIntS (dedR (sortR yy0.2)) (fun e57 => .len yy0.2.length <| .loop (Nat × (List Int) × Int) (Q3 Nat (List Int) Int) [16, 60, 61, 62, 63, 64, 65, 66, 67, 68, 69, 70, 71, 72, 73] [5000] (fun yy2 => [(60, vI (yy2.1 : Int))]) (fun yy2 => [(5000, some (.arr 3 1 true (yy2.2.1.map intD)))]) (fun yy2 => yy2.1 ≤ yy0.2.length ∧ yy2.2.1 = yy1.2.set yy1.1 yy2.2.2 ∧ yy2.2.2 = cntOf (yy0.2.take yy2.1) e57) (fun yy2 => yy0.2.length - yy2.1) (fun yy2 => .br (.len yy0.2.length <| .elem (List Int) eIntS yy0.2 (fun e63 => .call (vB (decide (e57 = e63))) [] <| .br (.len yy2.2.1.length <| .elem Int intD yy2.2.1 (fun e70 => .len yy2.2.1.length <| .set Int intD yy2.2.1 (fun s19_6 => e70 + (1 : Int)) (fun s19_6 => .back [(5000, 5000)]))) (.back [(5000, 5000)]))) (.back [(5000, 5000)])))) (.fin [(0, 4700), (1, 5000)]))))))) ?_
  refine Eq.mpr (by kernel_rfl : _ = ((t.rows.map eIntS).length ≤ 9223372036854775807 → (cols.map intD).length ≤ 9223372036854775807 → Con Tryz.prog 131 [.agg [.str t.name, .int .i64 t.arity, .sl 25 1 (t.rows.map eIntS)]] (vB (okTable t)) [] ∧ (((!(okTable t)) = true → [] = ((grpR t cols).1).map eIntS ∧ [] = ((grpR t cols).2).map intD ∧ True) ∧ ((!(okTable t)) = false → Con Tryz.prog 185 [.one (.sl 3 1 (cols.map intD)), .one (.int .i64 t.arity)] (vB (colsOk (t.arity - 1) cols)) [] ∧ (((!(colsOk (t.arity - 1) cols)) = true → [] = ((grpR t cols).1).map eIntS ∧ [] = ((grpR t cols).2).map intD ∧ True) ∧ ((!(colsOk (t.arity - 1) cols)) = false → (t.rows.map eIntS).length = t.rows.length ∧ ((∃ (k : Nat) (out : List (List Int)), (0 : Int) = (k : Int) ∧ [] = out.map eIntS ∧ k ≤ t.rows.length ∧ out = (t.rows.take k).map fun r => (selR r cols).1) ∧ ∀ (k : Nat) (out : List (List Int)), (k ≤ t.rows.length ∧ out = (t.rows.take k).map fun r => (selR r cols).1) → ((decide ((k : Int) < ((t.rows.length : Nat) : Int))) = true → 0 ≤ (k : Int) ∧ (t.rows.map eIntS = t.rows.map eIntS ∧ k < t.rows.length ∧ ∀ e33, t.rows[k]? = some e33 → Con Tryz.prog 86 [.one (.sl 3 1 (e33.map intD)), .one (.sl 3 1 (cols.map intD))] (.tup [.own 0, vB ((selR e33 cols).2)]) [(0, .arr 3 1 true (((selR e33 cols).1).map intD))] ∧ out.map eIntS = out.map eIntS ∧ ((selR e33 cols).1).map intD = ((selR e33 cols).1).map intD ∧ (out.length + 1) * 24 ≤ 140737488355328 ∧ inR ((k : Int) + (1 : Int)) ∧ ∃ (k' : Nat) (out' : List (List Int)), ((k : Int) + (1 : Int)) = (k' : Int) ∧ (out ++ [(selR e33 cols).1]).map eIntS = out'.map eIntS ∧ (k' ≤ t.rows.length ∧ out' = (t.rows.take k').map fun r => (selR r cols).1) ∧ t.rows.length - k' < t.rows.length - k)) ∧ ((decide ((k : Int) < ((t.rows.length : Nat) : Int))) = false → Con Tryz.prog 137 [.one (.sl 25 1 (out.map eIntS))] (.own 0) [(0, .arr 25 1 true ((dedR (sortR out)).map eIntS))] ∧ (((dedR (sortR out)).map eIntS).length = (dedR (sortR out)).length ∧ ((((dedR (sortR out)).length : Nat) : Int) = (((dedR (sortR out)).length : Nat) : Int) ∧ (((dedR (sortR out)).length : Nat) : Int) = (((dedR (sortR out)).length : Nat) : Int) ∧ 8 * ((dedR (sortR out)).length) ≤ 281474976710656 ∧ ((dedR (sortR out)).length) ≤ 9223372036854775807 ∧ List.replicate ((dedR (sortR out)).length) [.int .i64 (0 : Int)] = (List.replicate ((dedR (sortR out)).length) (0 : Int)).map intD ∧ (((dedR (sortR out)).map eIntS).length = (dedR (sortR out)).length ∧ ((∃ (i : Nat) (c : List Int), (0 : Int) = (i : Int) ∧ (List.replicate ((dedR (sortR out)).length) (0 : Int)).map intD = c.map intD ∧ i ≤ (dedR (sortR out)).length ∧ c = ((dedR (sortR out)).take i).map (cntOf out) ++ List.replicate ((dedR (sortR out)).length - i) 0 ∧ c.length = (dedR (sortR out)).length) ∧ ∀ (i : Nat) (c : List Int), (i ≤ (dedR (sortR out)).length ∧ c = ((dedR (sortR out)).take i).map (cntOf out) ++ List.replicate ((dedR (sortR out)).length - i) 0 ∧ c.length = (dedR (sortR out)).length) → ((decide ((i : Int) < (((dedR (sortR out)).length : Nat) : Int))) = true → 0 ≤ (i : Int) ∧ ((dedR (sortR out)).map eIntS).length = (dedR (sortR out)).length ∧ (i : Int) < (((dedR (sortR out)).length : Nat) : Int) ∧ ((dedR (sortR out)).map eIntS = (dedR (sortR out)).map eIntS ∧ i < (dedR (sortR out)).length ∧ ∀ e57, (dedR (sortR out))[i]? = some e57 → (out.map eIntS).length = out.length ∧ ((∃ (j : Nat) (c2 : List Int) (z : Int), (0 : Int) = (j : Int) ∧ c.map intD = c2.map intD ∧ j ≤ out.length ∧ c2 = c.set i z ∧ z = cntOf (out.take j) e57) ∧ ∀ (j : Nat) (c2 : List Int) (z : Int), (j ≤ out.length ∧ c2 = c.set i z ∧ z = cntOf (out.take j) e57) → ((decide ((j : Int) < ((out.length : Nat) : Int))) = true → 0 ≤ (j : Int) ∧ (out.map eIntS).length = out.length ∧ (j : Int) < ((out.length : Nat) : Int) ∧ (out.map eIntS = out.map eIntS ∧ j < out.length ∧ ∀ e63, out[j]? = some e63 → Con Tryz.prog 180 [.one (.sl 3 1 (e57.map intD)), .one (.sl 3 1 (e63.map intD))] (vB (decide (e57 = e63))) [] ∧ (((decide (e57 = e63)) = true → 0 ≤ (i : Int) ∧ (c2.map intD).length = c2.length ∧ (i : Int) < ((c2.length : Nat) : Int) ∧ (c2.map intD = c2.map intD ∧ i < c2.length ∧ ∀ e70, c2[i]? = some e70 → inR (e70 + (1 : Int)) ∧ (0 ≤ (i : Int) ∧ (c2.map intD).length = c2.length ∧ (i : Int) < ((c2.length : Nat) : Int) ∧ (c2.map intD = c2.map intD ∧ i < c2.length ∧ ∀ s19_6, c2[i]? = some s19_6 → flatB (intD s19_6) = true ∧ 0 + 1 ≤ (intD s19_6).length ∧ (intD s19_6).take 0 ++ [.int .i64 (e70 + (1 : Int))] ++ (intD s19_6).drop (0 + 1) = intD (e70 + (1 : Int)) ∧ inR ((j : Int) + (1 : Int)) ∧ ∃ (j' : Nat) (c2' : List Int) (z' : Int), ((j : Int) + (1 : Int)) = (j' : Int) ∧ (c2.set i (e70 + (1 : Int))).map intD = c2'.map intD ∧ (j' ≤ out.length ∧ c2' = c.set i z' ∧ z' = cntOf (out.take j') e57) ∧ out.length - j' < out.length - j)))) ∧ ((decide (e57 = e63)) = false → inR ((j : Int) + (1 : Int)) ∧ ∃ (j' : Nat) (c2' : List Int) (z' : Int), ((j : Int) + (1 : Int)) = (j' : Int) ∧ c2.map intD = c2'.map intD ∧ (j' ≤ out.length ∧ c2' = c.set i z' ∧ z' = cntOf (out.take j') e57) ∧ out.length - j' < out.length - j)))) ∧ ((decide ((j : Int) < ((out.length : Nat) : Int))) = false → inR ((i : Int) + (1 : Int)) ∧ ∃ (i' : Nat) (c' : List Int), ((i : Int) + (1 : Int)) = (i' : Int) ∧ c2.map intD = c'.map intD ∧ (i' ≤ (dedR (sortR out)).length ∧ c' = ((dedR (sortR out)).take i').map (cntOf out) ++ List.replicate ((dedR (sortR out)).length - i') 0 ∧ c'.length = (dedR (sortR out)).length) ∧ (dedR (sortR out)).length - i' < (dedR (sortR out)).length - i)))) ∧ ((decide ((i : Int) < (((dedR (sortR out)).length : Nat) : Int))) = false → (dedR (sortR out)).map eIntS = ((grpR t cols).1).map eIntS ∧ c.map intD = ((grpR t cols).2).map intD ∧ True))))))))))))) ?_
  intro n0 n1
  simp only [List.length_map] at n0 n1
  refine ⟨tab_impl t, ?_⟩
  refine ⟨fun g20 => ?_, fun g20 => ?_⟩
  · replace g20 := nt g20
    have hbad : (okTable t && colsOk (t.arity - 1) cols) = false := by rw [g20]; rfl
    refine ⟨?_, ?_, trivial⟩
    · first | (rw [grpR_no hbad] <;> rfl) | (rw [grpR_yes hok, hA] <;> rfl) | (rw [grpR_yes hok, hC] <;> rfl)
    · first | (rw [grpR_no hbad] <;> rfl) | (rw [grpR_yes hok, hA] <;> rfl) | (rw [grpR_yes hok, hC] <;> rfl)
  · replace g20 := nf g20
    have hT := okTable_arity g20
    refine ⟨cols_impl _ _ (by omega), ?_⟩
    refine ⟨fun c0 => ?_, fun c0 => ?_⟩
    · replace c0 := nt c0
      have hbad : (okTable t && colsOk (t.arity - 1) cols) = false := by rw [g20, c0]; rfl
      refine ⟨?_, ?_, trivial⟩
      · first | (rw [grpR_no hbad] <;> rfl) | (rw [grpR_yes hok, hA] <;> rfl) | (rw [grpR_yes hok, hC] <;> rfl)
      · first | (rw [grpR_no hbad] <;> rfl) | (rw [grpR_yes hok, hA] <;> rfl) | (rw [grpR_yes hok, hC] <;> rfl)
    · replace c0 := nf c0
      have hok : (okTable t && colsOk (t.arity - 1) cols) = true := by rw [g20, c0]; rfl
      obtain ⟨hs1, hs2⟩ := selA_small hok
      refine ⟨List.length_map _, ?_⟩
      refine ⟨⟨0, ([] : List (List Int)), rfl, rfl, Nat.zero_le _, rfl⟩, fun k out ⟨hk, ho⟩ => ?_⟩
      refine ⟨fun c1 => ?_, fun c1 => ?_⟩
      · replace c1 := of_decide_eq_true c1
        refine ⟨by omega, ?_⟩
        refine ⟨rfl, by first | omega | (rw [hc2, List.length_set, hcn]; omega) | (simp; omega), fun e33 h33 => ?_⟩
        refine ⟨sel_impl _ _ (by omega), ?_⟩
        refine ⟨rfl, rfl, by first | omega | (simp [ho]; omega) | (simp; omega), ?_⟩
        refine ⟨⟨by omega, by omega⟩, ?_⟩
        exact ⟨k + 1, _, rfl, rfl, ⟨by omega, by rw [ho, take_snoc h33, List.map_append]; rfl⟩, by omega⟩
      · replace c1 := of_decide_eq_false c1
        have hA : out = selA t cols := by rw [ho, List.take_of_length_le (by omega)]; rfl
        rw [← hA] at hs1 hs2
        have hd := dedR_len out
        refine ⟨sorted_impl out (by omega), ?_⟩
        refine ⟨List.length_map _, ?_⟩
        refine ⟨rfl, rfl, by first | omega | (simp [ho]; omega) | (simp; omega), by first | omega | (simp [ho]; omega) | (simp; omega), by first | (rw [List.map_replicate]; done) | (rw [List.map_replicate]; rfl), ?_⟩
        refine ⟨List.length_map _, ?_⟩
        refine ⟨⟨0, List.replicate ((dedR (sortR out)).length) (0 : Int), rfl, rfl, Nat.zero_le _, by simp, List.length_replicate⟩, fun i c ⟨hi, hc, hcn⟩ => ?_⟩
        refine ⟨fun c2 => ?_, fun c2 => ?_⟩
        · replace c2 := of_decide_eq_true c2
          refine ⟨by omega, List.length_map _, by first | omega | (rw [hc2, List.length_set, hcn]; omega) | (simp; omega), ?_⟩
          refine ⟨rfl, by first | omega | (rw [hc2, List.length_set, hcn]; omega) | (simp; omega), fun e57 h57 => ?_⟩
          refine ⟨List.length_map _, ?_⟩
          refine ⟨⟨0, c, 0, rfl, rfl, Nat.zero_le _, by rw [hc]; exact (fill_zero (by omega)).symm, rfl⟩, fun j c2 z ⟨hj, hc2, hz⟩ => ?_⟩
          refine ⟨fun c3 => ?_, fun c3 => ?_⟩
          · replace c3 := of_decide_eq_true c3
            refine ⟨by omega, List.length_map _, by first | omega | (rw [hc2, List.length_set, hcn]; omega) | (simp; omega), ?_⟩
            refine ⟨rfl, by first | omega | (rw [hc2, List.length_set, hcn]; omega) | (simp; omega), fun e63 h63 => ?_⟩
            refine ⟨eqs_Int _ _, ?_⟩
            refine ⟨fun c4 => ?_, fun c4 => ?_⟩
            · replace c4 := of_decide_eq_true c4
              refine ⟨by omega, List.length_map _, by first | omega | (rw [hc2, List.length_set, hcn]; omega) | (simp; omega), ?_⟩
              refine ⟨rfl, by first | omega | (rw [hc2, List.length_set, hcn]; omega) | (simp; omega), fun e70 h70 => ?_⟩
              have hz70 : e70 = z := by rw [hc2] at h70; exact (set_at h70)
              have hcl := cnt_le (out.take j) e57
              have hjl : (out.take j).length ≤ out.length := by simp; omega
              refine ⟨⟨by omega, by omega⟩, ?_⟩
              refine ⟨by omega, List.length_map _, by first | omega | (rw [hc2, List.length_set, hcn]; omega) | (simp; omega), ?_⟩
              refine ⟨rfl, by first | omega | (rw [hc2, List.length_set, hcn]; omega) | (simp; omega), fun s19_6 hs19_6 => ⟨rfl, Nat.le_of_ble_eq_true rfl, rfl, ?_⟩⟩
              refine ⟨⟨by omega, by omega⟩, ?_⟩
              exact ⟨j + 1, _, _, rfl, rfl, ⟨by omega, by rw [hc2, List.set_set, hz70], by rw [hz, cnt_yes h63 c4]⟩, by omega⟩
            · replace c4 := of_decide_eq_false c4
              refine ⟨⟨by omega, by omega⟩, ?_⟩
              exact ⟨j + 1, _, _, rfl, rfl, ⟨by omega, hc2, by rw [hz, cnt_no h63 c4]⟩, by omega⟩
          · replace c3 := of_decide_eq_false c3
            have hj9 : j = out.length := by omega
            rw [hj9, List.take_length] at hz
            refine ⟨⟨by omega, by omega⟩, ?_⟩
            exact ⟨i + 1, _, rfl, rfl, ⟨by omega, by rw [hc2, hz, hc]; exact fill_cnt h57, by rw [hc2, List.length_set]; exact hcn⟩, by omega⟩
        · replace c2 := of_decide_eq_false c2
          have hC : c = grpC t cols := by rw [hc, fill_done2 hi (by omega), hA]; rfl
          refine ⟨?_, ?_, trivial⟩
          · first | (rw [grpR_no hbad] <;> rfl) | (rw [grpR_yes hok, hA] <;> rfl) | (rw [grpR_yes hok, hC] <;> rfl)
          · first | (rw [grpR_no hbad] <;> rfl) | (rw [grpR_yes hok, hA] <;> rfl) | (rw [grpR_yes hok, hC] <;> rfl)
end Go.Proofs.YtjlagjhmlmfjeaaGreat
