/-
  Contracts and plain laws, joined: part 8.
-/
import Derived.Test.YtokkjaflmcjlhaaGreatQUpdateStore5
import Derived.Test.YtokkjaflmcjlhaaGreatQUpdateStore6
namespace Go.Proofs.YtokkjaflmcjlhaaGreat
open Go.ChangeShapes Go.WideShapes Go.ChangeAt Go.RowKit
set_option linter.unusedVariables false
set_option linter.unusedSimpArgs false
set_option maxRecDepth 100000
set_option maxHeartbeats 4000000
def selA (t : TableD) (cols : List Int) : List (List Int) := t.rows.map fun r => (selR r cols).1
def cntOf (all : List (List Int)) (g : List Int) : Int := (((all.filter fun x => decide (g = x)).length : Nat) : Int)
def grpV (t : TableD) (cols : List Int) : List (List Int) := dedR (sortR (selA t cols))
def grpC (t : TableD) (cols : List Int) : List Int := (grpV t cols).map (cntOf (selA t cols))
def grpR (t : TableD) (cols : List Int) : List (List Int) × List Int := if (okTable t && colsOk (t.arity - 1) cols) = true then (grpV t cols, grpC t cols) else ([], [])
theorem grpR_yes {t : TableD} {cols : List Int} (h : (okTable t && colsOk (t.arity - 1) cols) = true) : grpR t cols = (grpV t cols, grpC t cols) := by rw [grpR, if_pos h]
theorem grpR_no {t : TableD} {cols : List Int} (h : (okTable t && colsOk (t.arity - 1) cols) = false) : grpR t cols = ([], []) := by rw [grpR, if_neg (by rw [h]; decide)]
theorem cnt_yes {all : List (List Int)} {g x : List Int} {j : Nat} (hx : all[j]? = some x) (h : g = x) : cntOf (all.take (j + 1)) g = cntOf (all.take j) g + 1 := by
  subst h
  rw [cntOf, cntOf, take_snoc hx, List.filter_append]
  simp
theorem cnt_no {all : List (List Int)} {g x : List Int} {j : Nat} (hx : all[j]? = some x) (h : ¬ g = x) : cntOf (all.take (j + 1)) g = cntOf (all.take j) g := by
  rw [cntOf, cntOf, take_snoc hx, List.filter_append]
  simp [h]
theorem cnt_le (all : List (List Int)) (g : List Int) : 0 ≤ cntOf all g ∧ cntOf all g ≤ all.length := by
  have := List.length_filter_le (fun x => decide (g = x)) all
  unfold cntOf
  omega
theorem cols_low {b : Int} {cols : List Int} (h : colsOk b cols = true) : ∀ i, i < cols.length → (i : Int) ≤ cols.getD i 0 ∧ cols.getD i 0 ≤ b
  | 0, hi => by
    have := List.all_eq_true.1 h 0 (List.mem_range.2 hi)
    simp only [colAt, Bool.and_eq_true] at this
    have := inB_true this.1
    exact ⟨by simpa using this.1, this.2⟩
  | i + 1, hi => by
    have ih := cols_low h i (by omega)
    have := List.all_eq_true.1 h (i + 1) (List.mem_range.2 hi)
    simp only [colAt, Bool.and_eq_true, Bool.or_eq_true, decide_eq_true_eq, Nat.add_sub_cancel] at this
    have h2 := inB_true this.1
    rcases this.2 with q | q
    · omega
    · exact ⟨by omega, h2.2⟩
theorem cols_len {b : Int} {cols : List Int} (h : colsOk b cols = true) (hb : b ≤ 2) : cols.length ≤ 3 := by
  by_cases h3 : 3 < cols.length
  · have := cols_low h 3 h3
    omega
  · omega
theorem sumL_bound {α : Type} {ct : α → Nat} {m : Nat} : ∀ {l : List α}, (∀ x ∈ l, ct x ≤ m) → sumL ct l ≤ l.length * m
  | [], _ => by simp [sumL]
  | a :: l, h => by
    have h1 := h a (by simp)
    have h2 := sumL_bound (l := l) fun x hx => h x (by simp [hx])
    simp only [sumL, List.map_cons, List.sum_cons, List.length_cons, Nat.add_mul, Nat.one_mul] at *
    omega
theorem cIntSS_bound {l : List (List Int)} {m : Nat} (h : ∀ r ∈ l, r.length ≤ m) : cIntSS l ≤ l.length + l.length * m := by
  have h1 := sumL_bound (ct := cIntS) (m := m) (l := l) fun r hr => h r hr
  have h2 : cIntSS l = l.length + sumL cIntS l := rfl
  omega
theorem selA_small {t : TableD} {cols : List Int} (h : (okTable t && colsOk (t.arity - 1) cols) = true) : (selA t cols).length ≤ 8 ∧ cIntSS (selA t cols) ≤ 32 := by
  rw [Bool.and_eq_true] at h
  have ha := okTable_arity h.1
  have hc := cols_len h.2 (by omega)
  have hl : (selA t cols).length = t.rows.length := List.length_map _
  have := cIntSS_bound (l := selA t cols) (m := 3) fun r hr => by
    obtain ⟨q, _, rfl⟩ := List.mem_map.1 hr
    have := selR_len q cols
    omega
  omega
theorem dedR_len (l : List (List Int)) : (dedR (sortR l)).length ≤ l.length := by
  rw [dedR, List.length_map, ← sortR_len l]
  have := (List.filter_sublist (l := List.range (sortR l).length) (p := fun j => decide (j = 0) || !dedI (sortR l) j (j - 1))).length_le
  rw [List.length_range] at this
  exact this
theorem set_at {α : Type} {l : List α} {i : Nat} {x y : α} (h : (l.set i x)[i]? = some y) : y = x := at_set h
theorem fill_zero {f : List Int → Int} {l : List (List Int)} {i : Nat} (h : i < l.length) : ((l.take i).map f ++ List.replicate (l.length - i) (0 : Int)).set i 0 = (l.take i).map f ++ List.replicate (l.length - i) 0 := by
  rw [show l.length - i = (l.length - (i + 1)) + 1 by omega, List.replicate_succ, List.set_append_right _ _ (by simp; omega)]
  simp [show i - min i l.length = 0 by omega]
theorem fill_cnt {f : List Int → Int} {l : List (List Int)} {i : Nat} {x : List Int} (h : l[i]? = some x) : ((l.take i).map f ++ List.replicate (l.length - i) (0 : Int)).set i (f x) = (l.take (i + 1)).map f ++ List.replicate (l.length - (i + 1)) 0 := by
  have hi : i < l.length := (List.getElem?_eq_some_iff.1 h).1
  rw [show l.length - i = (l.length - (i + 1)) + 1 by omega, List.replicate_succ, List.set_append_right _ _ (by simp; omega), take_snoc h]
  simp [show i - min i l.length = 0 by omega]
theorem fill_done2 {f : List Int → Int} {l : List (List Int)} {i : Nat} (h : i ≤ l.length) (h' : ¬ i < l.length) : (l.take i).map f ++ List.replicate (l.length - i) (0 : Int) = l.map f := by
  rw [show i = l.length by omega]; simp
abbrev k_grp_impl (t : TableD) (cols : List Int) : AV × List (Nat × Rs) := (.tup [.own 0, .own 1], [(0, .arr 32 1 true (((grpR t cols).1).map eIntS)), (1, .arr 3 1 true (((grpR t cols).2).map intD))])
abbrev K_grp_impl (t : TableD) (cols : List Int) : Prop := Con Tryz.prog 236 [.agg [.str t.name, .int .i64 t.arity, .sl 32 1 (t.rows.map eIntS)], .one (.sl 3 1 (cols.map intD))] (k_grp_impl t cols).1 (k_grp_impl t cols).2
theorem grp_impl (t : TableD) (cols : List Int) (hl : cols.length ≤ 1048576) : K_grp_impl t cols := by
 refine con_x tbOk mixedW Tryz.func236 (by kernel_rfl) (.call (vB (okTable t)) [] <| .br (.fin []) (.call (vB (colsOk (t.arity - 1) cols)) [] <| .lit <| .lit <| .br (.fin []) (.len t.rows.length <| .loop (Nat × (List (List Int))) (Q2 Nat (List (List Int))) [6, 8, 9, 10, 27, 31, 32, 33, 34, 35, 36, 37, 38, 39, 40, 41, 42, 43, 44, 45] [2700, 3800, 4300, 4400] (fun yy0 => [(31, vI (yy0.1 : Int)), (6, .own 2700)]) (fun yy0 => [(2700, some (.arr 32 1 true (yy0.2.map eIntS)))]) (fun yy0 => yy0.1 ≤ t.rows.length ∧ yy0.2 = (t.rows.take yy0.1).map fun r => (selR r cols).1) (fun yy0 => t.rows.length - yy0.1) (fun yy0 => .br (.elem _ eIntS t.rows (fun e33 => callP (k_sel_impl e33 cols) <| .appx (List Int) eIntS yy0.2 ((selR e33 cols).1) <| .back [(2700, 4400)])) (callP (k_sorted_impl yy0.2) <| .len ((dedR (sortR yy0.2)).length) <| .mk ((dedR (sortR yy0.2)).length) [.int .i64 (0 : Int)] ((List.replicate ((dedR (sortR yy0.2)).length) (0 : Int)).map intD) <| .len ((dedR (sortR yy0.2)).length) <| .loop (Nat × (List Int)) (Q2 Nat (List Int)) [13, 14, 16, 53, 54, 55, 56, 57, 58, 59, 60, 61, 62, 63, 64, 65, 66, 67, 68, 69, 70, 71, 72, 73, 74] [5000] (fun yy1 => [(53, vI (yy1.1 : Int))]) (fun yy1 => [(5000, some (.arr 3 1 true (yy1.2.map intD)))]) (fun yy1 => yy1.1 ≤ (dedR (sortR yy0.2)).length ∧ yy1.2 = ((dedR (sortR yy0.2)).take yy1.1).map (cntOf yy0.2) ++ List.replicate ((dedR (sortR yy0.2)).length - yy1.1) 0 ∧ yy1.2.length = (dedR (sortR yy0.2)).length) (fun yy1 => (dedR (sortR yy0.2)).length - yy1.1) (fun yy1 => .br (.len ((dedR (sortR yy0.2)).length) <| .elem _ eIntS (dedR (sortR yy0.2)) (fun e57 => .len yy0.2.length <| .loop (Nat × (List Int) × Int) (Q3 Nat (List Int) Int) [16, 60, 61, 62, 63, 64, 65, 66, 67, 68, 69, 70, 71, 72, 73] [5000] (fun yy2 => [(60, vI (yy2.1 : Int))]) (fun yy2 => [(5000, some (.arr 3 1 true (yy2.2.1.map intD)))]) (fun yy2 => yy2.1 ≤ yy0.2.length ∧ yy2.2.1 = yy1.2.set yy1.1 yy2.2.2 ∧ yy2.2.2 = cntOf (yy0.2.take yy2.1) e57) (fun yy2 => yy0.2.length - yy2.1) (fun yy2 => .br (.len yy0.2.length <| .elem _ eIntS yy0.2 (fun e63 => .call (vB (decide (e57 = e63))) [] <| .br (.len yy2.2.1.length <| .elem _ intD yy2.2.1 (fun e70 => .len yy2.2.1.length <| .set Int intD yy2.2.1 (fun s19_6 => e70 + (1 : Int)) (fun s19_6 => .back [(5000, 5000)]))) (.back [(5000, 5000)]))) (.back [(5000, 5000)])))) (.fin [(0, 4700), (1, 5000)]))))))) ?_
 refine Eq.mpr (by kernel_rfl : _ = ((t.rows.map eIntS).length ≤ 9223372036854775807 → (cols.map intD).length ≤ 9223372036854775807 → K_tab_impl t ∧ (((!(okTable t)) = true → [] = ((grpR t cols).1).map eIntS ∧ [] = ((grpR t cols).2).map intD ∧ True) ∧ ((!(okTable t)) = false → K_cols_impl cols t.arity ∧ (((!(colsOk (t.arity - 1) cols)) = true → [] = ((grpR t cols).1).map eIntS ∧ [] = ((grpR t cols).2).map intD ∧ True) ∧ ((!(colsOk (t.arity - 1) cols)) = false → Lm eIntS t.rows ∧ ((∃ (k : Nat) (out : List (List Int)), (0 : Int) = (k : Int) ∧ [] = out.map eIntS ∧ k ≤ t.rows.length ∧ out = (t.rows.take k).map fun r => (selR r cols).1) ∧ ∀ (k : Nat) (out : List (List Int)), (k ≤ t.rows.length ∧ out = (t.rows.take k).map fun r => (selR r cols).1) → ((decide ((k : Int) < ((t.rows.length : Nat) : Int))) = true → 0 ≤ (k : Int) ∧ Em eIntS t.rows k fun e33 => K_sel_impl e33 cols ∧ out.map eIntS = out.map eIntS ∧ ((selR e33 cols).1).map intD = ((selR e33 cols).1).map intD ∧ (out.length + 1) * 24 ≤ 140737488355328 ∧ inR ((k : Int) + (1 : Int)) ∧ ∃ (k' : Nat) (out' : List (List Int)), ((k : Int) + (1 : Int)) = (k' : Int) ∧ (out ++ [(selR e33 cols).1]).map eIntS = out'.map eIntS ∧ (k' ≤ t.rows.length ∧ out' = (t.rows.take k').map fun r => (selR r cols).1) ∧ t.rows.length - k' < t.rows.length - k) ∧ ((decide ((k : Int) < ((t.rows.length : Nat) : Int))) = false → K_sorted_impl out ∧ (Lm eIntS (dedR (sortR out)) ∧ ((((dedR (sortR out)).length : Nat) : Int) = (((dedR (sortR out)).length : Nat) : Int) ∧ (((dedR (sortR out)).length : Nat) : Int) = (((dedR (sortR out)).length : Nat) : Int) ∧ 8 * ((dedR (sortR out)).length) ≤ 281474976710656 ∧ ((dedR (sortR out)).length) ≤ 9223372036854775807 ∧ List.replicate ((dedR (sortR out)).length) [.int .i64 (0 : Int)] = (List.replicate ((dedR (sortR out)).length) (0 : Int)).map intD ∧ (Lm eIntS (dedR (sortR out)) ∧ ((∃ (i : Nat) (c : List Int), (0 : Int) = (i : Int) ∧ (List.replicate ((dedR (sortR out)).length) (0 : Int)).map intD = c.map intD ∧ i ≤ (dedR (sortR out)).length ∧ c = ((dedR (sortR out)).take i).map (cntOf out) ++ List.replicate ((dedR (sortR out)).length - i) 0 ∧ c.length = (dedR (sortR out)).length) ∧ ∀ (i : Nat) (c : List Int), (i ≤ (dedR (sortR out)).length ∧ c = ((dedR (sortR out)).take i).map (cntOf out) ++ List.replicate ((dedR (sortR out)).length - i) 0 ∧ c.length = (dedR (sortR out)).length) → ((decide ((i : Int) < (((dedR (sortR out)).length : Nat) : Int))) = true → 0 ≤ (i : Int) ∧ Lm eIntS (dedR (sortR out)) ∧ (i : Int) < (((dedR (sortR out)).length : Nat) : Int) ∧ Em eIntS (dedR (sortR out)) i fun e57 => Lm eIntS out ∧ ((∃ (j : Nat) (c2 : List Int) (z : Int), (0 : Int) = (j : Int) ∧ c.map intD = c2.map intD ∧ j ≤ out.length ∧ c2 = c.set i z ∧ z = cntOf (out.take j) e57) ∧ ∀ (j : Nat) (c2 : List Int) (z : Int), (j ≤ out.length ∧ c2 = c.set i z ∧ z = cntOf (out.take j) e57) → ((decide ((j : Int) < ((out.length : Nat) : Int))) = true → 0 ≤ (j : Int) ∧ Lm eIntS out ∧ (j : Int) < ((out.length : Nat) : Int) ∧ Em eIntS out j fun e63 => K_eqs_Int e57 e63 ∧ (((decide (e57 = e63)) = true → 0 ≤ (i : Int) ∧ Lm intD c2 ∧ (i : Int) < ((c2.length : Nat) : Int) ∧ Em intD c2 i fun e70 => inR (e70 + (1 : Int)) ∧ (0 ≤ (i : Int) ∧ Lm intD c2 ∧ (i : Int) < ((c2.length : Nat) : Int) ∧ (c2.map intD = c2.map intD ∧ i < c2.length ∧ ∀ s19_6, c2[i]? = some s19_6 → flatB (intD s19_6) = true ∧ 0 + 1 ≤ (intD s19_6).length ∧ (intD s19_6).take 0 ++ [.int .i64 (e70 + (1 : Int))] ++ (intD s19_6).drop (0 + 1) = intD (e70 + (1 : Int)) ∧ inR ((j : Int) + (1 : Int)) ∧ ∃ (j' : Nat) (c2' : List Int) (z' : Int), ((j : Int) + (1 : Int)) = (j' : Int) ∧ (c2.set i (e70 + (1 : Int))).map intD = c2'.map intD ∧ (j' ≤ out.length ∧ c2' = c.set i z' ∧ z' = cntOf (out.take j') e57) ∧ out.length - j' < out.length - j))) ∧ ((decide (e57 = e63)) = false → inR ((j : Int) + (1 : Int)) ∧ ∃ (j' : Nat) (c2' : List Int) (z' : Int), ((j : Int) + (1 : Int)) = (j' : Int) ∧ c2.map intD = c2'.map intD ∧ (j' ≤ out.length ∧ c2' = c.set i z' ∧ z' = cntOf (out.take j') e57) ∧ out.length - j' < out.length - j))) ∧ ((decide ((j : Int) < ((out.length : Nat) : Int))) = false → inR ((i : Int) + (1 : Int)) ∧ ∃ (i' : Nat) (c' : List Int), ((i : Int) + (1 : Int)) = (i' : Int) ∧ c2.map intD = c'.map intD ∧ (i' ≤ (dedR (sortR out)).length ∧ c' = ((dedR (sortR out)).take i').map (cntOf out) ++ List.replicate ((dedR (sortR out)).length - i') 0 ∧ c'.length = (dedR (sortR out)).length) ∧ (dedR (sortR out)).length - i' < (dedR (sortR out)).length - i))) ∧ ((decide ((i : Int) < (((dedR (sortR out)).length : Nat) : Int))) = false → (dedR (sortR out)).map eIntS = ((grpR t cols).1).map eIntS ∧ c.map intD = ((grpR t cols).2).map intD ∧ True))))))))))))) ?_
 intro n0 n1
 simp only [List.length_map] at n0 n1
 refine ⟨tab_impl t, fun g20 => ?_, fun g20 => ?_⟩
 ·replace g20 := nt g20
  have hbad : (okTable t && colsOk (t.arity - 1) cols) = false := by rw [g20]; rfl
  refine ⟨?_, ?_, trivial⟩
  ·first | (rw [grpR_no hbad] <;> rfl) | (rw [grpR_yes hok, hA] <;> rfl) | (rw [grpR_yes hok, hC] <;> rfl)
  ·first | (rw [grpR_no hbad] <;> rfl) | (rw [grpR_yes hok, hA] <;> rfl) | (rw [grpR_yes hok, hC] <;> rfl)
 ·replace g20 := nf g20
  have hT := okTable_arity g20
  refine ⟨cols_impl _ _ (by omega), fun c0 => ?_, fun c0 => ?_⟩
  ·replace c0 := nt c0
   have hbad : (okTable t && colsOk (t.arity - 1) cols) = false := by rw [g20, c0]; rfl
   refine ⟨?_, ?_, trivial⟩
   ·first | (rw [grpR_no hbad] <;> rfl) | (rw [grpR_yes hok, hA] <;> rfl) | (rw [grpR_yes hok, hC] <;> rfl)
   ·first | (rw [grpR_no hbad] <;> rfl) | (rw [grpR_yes hok, hA] <;> rfl) | (rw [grpR_yes hok, hC] <;> rfl)
  ·replace c0 := nf c0
   have hok : (okTable t && colsOk (t.arity - 1) cols) = true := by rw [g20, c0]; rfl
   obtain ⟨hs1, hs2⟩ := selA_small hok
   refine ⟨List.length_map _, ⟨0, ([] : List (List Int)), rfl, rfl, Nat.zero_le _, rfl⟩, fun k out ⟨hk, ho⟩ => ?_⟩
   refine ⟨fun c1 => ?_, fun c1 => ?_⟩
   ·replace c1 := yq c1
    refine ⟨by omega, rfl, by first | omega | (rw [hc2, List.length_set, hcn]; omega) | (simp; omega), fun e33 h33 => ?_⟩
    refine ⟨sel_impl _ _ (by omega), rfl, rfl, by first | omega | (simp [ho]; omega) | (simp; omega), ⟨by omega, by omega⟩, ?_⟩
    exact ⟨k + 1, _, rfl, rfl, ⟨by omega, by rw [ho, take_snoc h33, List.map_append]; rfl⟩, by omega⟩
   ·replace c1 := nq c1
    have hA : out = selA t cols := by rw [ho, List.take_of_length_le (by omega)]; rfl
    rw [← hA] at hs1 hs2
    have hd := dedR_len out
    refine ⟨sorted_impl out (by omega), List.length_map _, rfl, rfl, by first | omega | (simp [ho]; omega) | (simp; omega), by first | omega | (simp [ho]; omega) | (simp; omega), by first | (rw [List.map_replicate]; done) | (rw [List.map_replicate]; rfl), List.length_map _, ⟨0, List.replicate ((dedR (sortR out)).length) (0 : Int), rfl, rfl, Nat.zero_le _, by simp, List.length_replicate⟩, fun i c ⟨hi, hc, hcn⟩ => ?_⟩
    refine ⟨fun c2 => ?_, fun c2 => ?_⟩
    ·replace c2 := yq c2
     refine ⟨by omega, List.length_map _, by first | omega | (rw [hc2, List.length_set, hcn]; omega) | (simp; omega), rfl, by first | omega | (rw [hc2, List.length_set, hcn]; omega) | (simp; omega), fun e57 h57 => ?_⟩
     refine ⟨List.length_map _, ⟨0, c, 0, rfl, rfl, Nat.zero_le _, by rw [hc]; exact (fill_zero (by omega)).symm, rfl⟩, fun j c2 z ⟨hj, hc2, hz⟩ => ?_⟩
     refine ⟨fun c3 => ?_, fun c3 => ?_⟩
     ·replace c3 := yq c3
      refine ⟨by omega, List.length_map _, by first | omega | (rw [hc2, List.length_set, hcn]; omega) | (simp; omega), rfl, by first | omega | (rw [hc2, List.length_set, hcn]; omega) | (simp; omega), fun e63 h63 => ?_⟩
      refine ⟨eqs_Int _ _, fun c4 => ?_, fun c4 => ?_⟩
      ·replace c4 := yq c4
       refine ⟨by omega, List.length_map _, by first | omega | (rw [hc2, List.length_set, hcn]; omega) | (simp; omega), rfl, by first | omega | (rw [hc2, List.length_set, hcn]; omega) | (simp; omega), fun e70 h70 => ?_⟩
       have hz70 : e70 = z := by rw [hc2] at h70; exact (set_at h70)
       have hcl := cnt_le (out.take j) e57
       have hjl : (out.take j).length ≤ out.length := by simp; omega
       refine ⟨⟨by omega, by omega⟩, by omega, List.length_map _, by first | omega | (rw [hc2, List.length_set, hcn]; omega) | (simp; omega), rfl, by first | omega | (rw [hc2, List.length_set, hcn]; omega) | (simp; omega), fun s19_6 hs19_6 => ⟨rfl, Nat.le_of_ble_eq_true rfl, rfl, ?_⟩⟩
       refine ⟨⟨by omega, by omega⟩, ?_⟩
       exact ⟨j + 1, _, _, rfl, rfl, ⟨by omega, by rw [hc2, List.set_set, hz70], by rw [hz, cnt_yes h63 c4]⟩, by omega⟩
      ·replace c4 := nq c4
       refine ⟨⟨by omega, by omega⟩, ?_⟩
       exact ⟨j + 1, _, _, rfl, rfl, ⟨by omega, hc2, by rw [hz, cnt_no h63 c4]⟩, by omega⟩
     ·replace c3 := nq c3
      have hj9 : j = out.length := by omega
      rw [hj9, List.take_length] at hz
      refine ⟨⟨by omega, by omega⟩, ?_⟩
      exact ⟨i + 1, _, rfl, rfl, ⟨by omega, by rw [hc2, hz, hc]; exact fill_cnt h57, by rw [hc2, List.length_set]; exact hcn⟩, by omega⟩
    ·replace c2 := nq c2
     have hC : c = grpC t cols := by rw [hc, fill_done2 hi (by omega), hA]; rfl
     refine ⟨?_, ?_, trivial⟩
     ·first | (rw [grpR_no hbad] <;> rfl) | (rw [grpR_yes hok, hA] <;> rfl) | (rw [grpR_yes hok, hC] <;> rfl)
     ·first | (rw [grpR_no hbad] <;> rfl) | (rw [grpR_yes hok, hA] <;> rfl) | (rw [grpR_yes hok, hC] <;> rfl)
theorem mem_sumL {α : Type} (f : α → Nat) {x : α} : ∀ {l : List α}, x ∈ l → f x ≤ sumL f l
  | a :: l, h => by
    simp only [sumL, List.map_cons, List.sum_cons]
    rcases List.mem_cons.1 h with q | q
    · subst q; omega
    · have := mem_sumL f q
      simp only [sumL] at this
      omega
theorem cIntSS_at {l : List (List Int)} {i : Nat} {x : List Int} (h : l[i]? = some x) : x.length ≤ cIntSS l := by
  have h1 : cIntSS l = l.length + sumL cIntS l := rfl
  have h2 : x.length ≤ sumL cIntS l := mem_sumL cIntS (List.mem_of_getElem? h)
  omega
def pgo (row : List Int) : Bool → List (List Int) → List (List Int)
  | p, [] => if p = true then [] else [row]
  | p, x :: xs => if 0 < cmpR x row ∧ p = false then row :: x :: pgo row true xs else x :: pgo row (p || decide (cmpR x row = 0)) xs
def putR (row : List Int) (rows : List (List Int)) : List (List Int) := pgo row false rows
theorem pgo_in {row x : List Int} {xs : List (List Int)} (h : 0 < cmpR x row) : pgo row false (x :: xs) = row :: x :: pgo row true xs := by rw [pgo, if_pos ⟨h, rfl⟩]
theorem pgo_eq {row x : List Int} {xs : List (List Int)} {p : Bool} (h : cmpR x row = 0) : pgo row p (x :: xs) = x :: pgo row true xs := by rw [pgo, if_neg (by omega), h]; simp
theorem pgo_on {row x : List Int} {xs : List (List Int)} : pgo row true (x :: xs) = x :: pgo row true xs := by rw [pgo, if_neg (by simp)]; rfl
theorem pgo_lt {row x : List Int} {xs : List (List Int)} {p : Bool} (h : ¬ 0 < cmpR x row) (h' : ¬ cmpR x row = 0) : pgo row p (x :: xs) = x :: pgo row p xs := by rw [pgo, if_neg (by omega)]; simp [h']
abbrev k_put_spec (rows : List (List Int)) (row : List Int) : AV × List (Nat × Rs) := (.own 0, [(0, .arr 32 1 true ((putR row rows).map eIntS))])
abbrev K_put_spec (rows : List (List Int)) (row : List Int) : Prop := Con Tryz.prog 210 [.one (.sl 32 1 (rows.map eIntS)), .one (.sl 3 1 (row.map intD))] (k_put_spec rows row).1 (k_put_spec rows row).2
theorem put_spec (rows : List (List Int)) (row : List Int) (hl : rows.length ≤ 1000000) (hc : cIntSS rows ≤ 1048576) (hr : row.length ≤ 1048576) : K_put_spec rows row := by
 refine con_x tbOk mixedW Tryz.func210 (by kernel_rfl) (.loop (Nat × (List (List Int)) × Bool) (Q3 Nat (List (List Int)) Bool) [5, 6, 7, 8, 9, 10, 11, 12, 13, 14, 15, 16, 17, 18, 19, 20, 21, 22, 23, 24, 25, 26, 27, 28, 29, 30, 31, 32, 33, 34, 35, 36, 37, 38, 39, 40, 41, 42, 43, 44] [900, 3100, 3300, 3400, 3500, 3700, 4200, 4300, 4400] (fun yy0 => [(7, vI (yy0.1 : Int)), (5, .own 900), (6, vB yy0.2.2)]) (fun yy0 => [(900, some (.arr 32 1 true (yy0.2.1.map eIntS)))]) (fun yy0 => yy0.1 ≤ rows.length ∧ yy0.2.1.length ≤ 2 * yy0.1 ∧ yy0.2.1 ++ pgo row yy0.2.2 (rows.drop yy0.1) = putR row rows) (fun yy0 => rows.length - yy0.1) (fun yy0 => .len rows.length <| .br (.elem _ eIntS rows (fun e18 => .call (vI (cmpR e18 row)) [] <| .br (.br (.elem _ eIntS rows (fun e40 => .app Int intD ([] : List Int) e40 <| .appx (List Int) eIntS yy0.2.1 (([] : List Int) ++ e40) <| .back [(900, 4400)])) (.elem _ eIntS rows (fun e40 => .app Int intD ([] : List Int) e40 <| .appx (List Int) eIntS yy0.2.1 (([] : List Int) ++ e40) <| .back [(900, 4400)]))) (.br (.lit <| .lit <| .br (.app Int intD ([] : List Int) row <| .appx (List Int) eIntS yy0.2.1 (([] : List Int) ++ row) <| .elem _ eIntS rows (fun e40 => .app Int intD ([] : List Int) e40 <| .appx (List Int) eIntS (yy0.2.1 ++ [([] : List Int) ++ row]) (([] : List Int) ++ e40) <| .back [(900, 4400)])) (.elem _ eIntS rows (fun e40 => .app Int intD ([] : List Int) e40 <| .appx (List Int) eIntS yy0.2.1 (([] : List Int) ++ e40) <| .back [(900, 4400)]))) (.elem _ eIntS rows (fun e40 => .app Int intD ([] : List Int) e40 <| .appx (List Int) eIntS yy0.2.1 (([] : List Int) ++ e40) <| .back [(900, 4400)]))))) (.br (.app Int intD ([] : List Int) row <| .appx (List Int) eIntS yy0.2.1 (([] : List Int) ++ row) <| .fin [(0, 5200)]) (.fin [(0, 900)])))) ?_
 refine Eq.mpr (by kernel_rfl : _ = ((rows.map eIntS).length ≤ 9223372036854775807 → (row.map intD).length ≤ 9223372036854775807 → (∃ (k : Nat) (out : List (List Int)) (p : Bool), (0 : Int) = (k : Int) ∧ (false) = p ∧ [] = out.map eIntS ∧ k ≤ rows.length ∧ out.length ≤ 2 * k ∧ out ++ pgo row p (rows.drop k) = putR row rows) ∧ ∀ (k : Nat) (out : List (List Int)) (p : Bool), (k ≤ rows.length ∧ out.length ≤ 2 * k ∧ out ++ pgo row p (rows.drop k) = putR row rows) → Lm eIntS rows ∧ (((decide ((k : Int) < ((rows.length : Nat) : Int))) = true → 0 ≤ (k : Int) ∧ Em eIntS rows k fun e18 => K_cmpRows_spec e18 row ∧ (((decide ((cmpR e18 row) = (0 : Int))) = true → ((decide ((0 : Int) < (cmpR e18 row))) = true → 0 ≤ (k : Int) ∧ Em eIntS rows k fun e40 => [] = ([] : List Int).map intD ∧ e40.map intD = e40.map intD ∧ (∀ x, flatB (intD x) = true) ∧ (([] : List Int).length + e40.length) * 8 ≤ 140737488355328 ∧ out.map eIntS = out.map eIntS ∧ (([] : List Int) ++ e40).map intD = (([] : List Int) ++ e40).map intD ∧ (out.length + 1) * 24 ≤ 140737488355328 ∧ inR ((k : Int) + (1 : Int)) ∧ ∃ (k' : Nat) (out' : List (List Int)) (p' : Bool), ((k : Int) + (1 : Int)) = (k' : Int) ∧ (true) = p' ∧ (out ++ [([] : List Int) ++ e40]).map eIntS = out'.map eIntS ∧ (k' ≤ rows.length ∧ out'.length ≤ 2 * k' ∧ out' ++ pgo row p' (rows.drop k') = putR row rows) ∧ rows.length - k' < rows.length - k) ∧ ((decide ((0 : Int) < (cmpR e18 row))) = false → 0 ≤ (k : Int) ∧ Em eIntS rows k fun e40 => [] = ([] : List Int).map intD ∧ e40.map intD = e40.map intD ∧ (∀ x, flatB (intD x) = true) ∧ (([] : List Int).length + e40.length) * 8 ≤ 140737488355328 ∧ out.map eIntS = out.map eIntS ∧ (([] : List Int) ++ e40).map intD = (([] : List Int) ++ e40).map intD ∧ (out.length + 1) * 24 ≤ 140737488355328 ∧ inR ((k : Int) + (1 : Int)) ∧ ∃ (k' : Nat) (out' : List (List Int)) (p' : Bool), ((k : Int) + (1 : Int)) = (k' : Int) ∧ (true) = p' ∧ (out ++ [([] : List Int) ++ e40]).map eIntS = out'.map eIntS ∧ (k' ≤ rows.length ∧ out'.length ≤ 2 * k' ∧ out' ++ pgo row p' (rows.drop k') = putR row rows) ∧ rows.length - k' < rows.length - k)) ∧ ((decide ((cmpR e18 row) = (0 : Int))) = false → ((decide ((0 : Int) < (cmpR e18 row))) = true → ((!p) = true → [] = ([] : List Int).map intD ∧ row.map intD = row.map intD ∧ (∀ x, flatB (intD x) = true) ∧ (([] : List Int).length + row.length) * 8 ≤ 140737488355328 ∧ out.map eIntS = out.map eIntS ∧ (([] : List Int) ++ row).map intD = (([] : List Int) ++ row).map intD ∧ (out.length + 1) * 24 ≤ 140737488355328 ∧ 0 ≤ (k : Int) ∧ Em eIntS rows k fun e40 => [] = ([] : List Int).map intD ∧ e40.map intD = e40.map intD ∧ (∀ x, flatB (intD x) = true) ∧ (([] : List Int).length + e40.length) * 8 ≤ 140737488355328 ∧ (out ++ [([] : List Int) ++ row]).map eIntS = (out ++ [([] : List Int) ++ row]).map eIntS ∧ (([] : List Int) ++ e40).map intD = (([] : List Int) ++ e40).map intD ∧ ((out ++ [([] : List Int) ++ row]).length + 1) * 24 ≤ 140737488355328 ∧ inR ((k : Int) + (1 : Int)) ∧ ∃ (k' : Nat) (out' : List (List Int)) (p' : Bool), ((k : Int) + (1 : Int)) = (k' : Int) ∧ (true) = p' ∧ ((out ++ [([] : List Int) ++ row]) ++ [([] : List Int) ++ e40]).map eIntS = out'.map eIntS ∧ (k' ≤ rows.length ∧ out'.length ≤ 2 * k' ∧ out' ++ pgo row p' (rows.drop k') = putR row rows) ∧ rows.length - k' < rows.length - k) ∧ ((!p) = false → 0 ≤ (k : Int) ∧ Em eIntS rows k fun e40 => [] = ([] : List Int).map intD ∧ e40.map intD = e40.map intD ∧ (∀ x, flatB (intD x) = true) ∧ (([] : List Int).length + e40.length) * 8 ≤ 140737488355328 ∧ out.map eIntS = out.map eIntS ∧ (([] : List Int) ++ e40).map intD = (([] : List Int) ++ e40).map intD ∧ (out.length + 1) * 24 ≤ 140737488355328 ∧ inR ((k : Int) + (1 : Int)) ∧ ∃ (k' : Nat) (out' : List (List Int)) (p' : Bool), ((k : Int) + (1 : Int)) = (k' : Int) ∧ (p) = p' ∧ (out ++ [([] : List Int) ++ e40]).map eIntS = out'.map eIntS ∧ (k' ≤ rows.length ∧ out'.length ≤ 2 * k' ∧ out' ++ pgo row p' (rows.drop k') = putR row rows) ∧ rows.length - k' < rows.length - k)) ∧ ((decide ((0 : Int) < (cmpR e18 row))) = false → 0 ≤ (k : Int) ∧ Em eIntS rows k fun e40 => [] = ([] : List Int).map intD ∧ e40.map intD = e40.map intD ∧ (∀ x, flatB (intD x) = true) ∧ (([] : List Int).length + e40.length) * 8 ≤ 140737488355328 ∧ out.map eIntS = out.map eIntS ∧ (([] : List Int) ++ e40).map intD = (([] : List Int) ++ e40).map intD ∧ (out.length + 1) * 24 ≤ 140737488355328 ∧ inR ((k : Int) + (1 : Int)) ∧ ∃ (k' : Nat) (out' : List (List Int)) (p' : Bool), ((k : Int) + (1 : Int)) = (k' : Int) ∧ (p) = p' ∧ (out ++ [([] : List Int) ++ e40]).map eIntS = out'.map eIntS ∧ (k' ≤ rows.length ∧ out'.length ≤ 2 * k' ∧ out' ++ pgo row p' (rows.drop k') = putR row rows) ∧ rows.length - k' < rows.length - k)))) ∧ ((decide ((k : Int) < ((rows.length : Nat) : Int))) = false → ((!p) = true → [] = ([] : List Int).map intD ∧ row.map intD = row.map intD ∧ (∀ x, flatB (intD x) = true) ∧ (([] : List Int).length + row.length) * 8 ≤ 140737488355328 ∧ out.map eIntS = out.map eIntS ∧ (([] : List Int) ++ row).map intD = (([] : List Int) ++ row).map intD ∧ (out.length + 1) * 24 ≤ 140737488355328 ∧ (out ++ [([] : List Int) ++ row]).map eIntS = (putR row rows).map eIntS ∧ True) ∧ ((!p) = false → out.map eIntS = (putR row rows).map eIntS ∧ True))))) ?_
 intro n0 n1
 simp only [List.length_map] at n0 n1
 refine ⟨⟨0, ([] : List (List Int)), false, rfl, rfl, rfl, Nat.zero_le _, by simp, rfl⟩, fun k out p ⟨hk, ho, hv⟩ => ?_⟩
 refine ⟨List.length_map _, fun c0 => ?_, fun c0 => ?_⟩
 ·replace c0 := yq c0
  refine ⟨by omega, rfl, by omega, fun e18 h18 => ?_⟩
  have hsz := cIntSS_at h18
  refine ⟨cmpRows_spec _ _, fun c1 => ?_, fun c1 => ?_⟩
  ·replace c1 := yq c1
   refine ⟨fun g26 => ?_, fun g26 => ?_⟩
   ·replace g26 := yq g26
    refine ⟨by omega, rfl, by omega, fun e40 h40 => ?_⟩
    obtain rfl := (same_at h18 h40).symm
    refine ⟨rfl, rfl, fun _ => rfl, by first | omega | (simp; omega), ?_⟩
    refine ⟨rfl, rfl, by first | omega | (simp; omega), ⟨by omega, by omega⟩, ?_⟩
    exact ⟨k + 1, _, _, rfl, rfl, rfl, ⟨by omega, by simp; omega, by rw [← hv, drop_at h18]; first | (rw [pgo_eq c1]; simp; done) | (subst c2; rw [pgo_on]; simp; done) | (subst c2; rw [pgo_in g26]; simp; done) | (rw [pgo_lt g26 c1]; simp; done)⟩, by omega⟩
   ·replace g26 := nq g26
    refine ⟨by omega, rfl, by omega, fun e40 h40 => ?_⟩
    obtain rfl := (same_at h18 h40).symm
    refine ⟨rfl, rfl, fun _ => rfl, by first | omega | (simp; omega), ?_⟩
    refine ⟨rfl, rfl, by first | omega | (simp; omega), ⟨by omega, by omega⟩, ?_⟩
    exact ⟨k + 1, _, _, rfl, rfl, rfl, ⟨by omega, by simp; omega, by rw [← hv, drop_at h18]; first | (rw [pgo_eq c1]; simp; done) | (subst c2; rw [pgo_on]; simp; done) | (subst c2; rw [pgo_in g26]; simp; done) | (rw [pgo_lt g26 c1]; simp; done)⟩, by omega⟩
  ·replace c1 := nq c1
   refine ⟨fun g26 => ?_, fun g26 => ?_⟩
   ·replace g26 := yq g26
    refine ⟨fun c2 => ?_, fun c2 => ?_⟩
    ·replace c2 := nt c2
     refine ⟨rfl, rfl, fun _ => rfl, by first | omega | (simp; omega), ?_⟩
     refine ⟨rfl, rfl, by first | omega | (simp; omega), by omega, rfl, by omega, fun e40 h40 => ?_⟩
     obtain rfl := (same_at h18 h40).symm
     refine ⟨rfl, rfl, fun _ => rfl, by first | omega | (simp; omega), ?_⟩
     refine ⟨rfl, rfl, by first | omega | (simp; omega), ⟨by omega, by omega⟩, ?_⟩
     exact ⟨k + 1, _, _, rfl, rfl, rfl, ⟨by omega, by simp; omega, by rw [← hv, drop_at h18]; first | (rw [pgo_eq c1]; simp; done) | (subst c2; rw [pgo_on]; simp; done) | (subst c2; rw [pgo_in g26]; simp; done) | (rw [pgo_lt g26 c1]; simp; done)⟩, by omega⟩
    ·replace c2 := nf c2
     refine ⟨by omega, rfl, by omega, fun e40 h40 => ?_⟩
     obtain rfl := (same_at h18 h40).symm
     refine ⟨rfl, rfl, fun _ => rfl, by first | omega | (simp; omega), ?_⟩
     refine ⟨rfl, rfl, by first | omega | (simp; omega), ⟨by omega, by omega⟩, ?_⟩
     exact ⟨k + 1, _, _, rfl, rfl, rfl, ⟨by omega, by simp; omega, by rw [← hv, drop_at h18]; first | (rw [pgo_eq c1]; simp; done) | (subst c2; rw [pgo_on]; simp; done) | (subst c2; rw [pgo_in g26]; simp; done) | (rw [pgo_lt g26 c1]; simp; done)⟩, by omega⟩
   ·replace g26 := nq g26
    refine ⟨by omega, rfl, by omega, fun e40 h40 => ?_⟩
    obtain rfl := (same_at h18 h40).symm
    refine ⟨rfl, rfl, fun _ => rfl, by first | omega | (simp; omega), ?_⟩
    refine ⟨rfl, rfl, by first | omega | (simp; omega), ⟨by omega, by omega⟩, ?_⟩
    exact ⟨k + 1, _, _, rfl, rfl, rfl, ⟨by omega, by simp; omega, by rw [← hv, drop_at h18]; first | (rw [pgo_eq c1]; simp; done) | (subst c2; rw [pgo_on]; simp; done) | (subst c2; rw [pgo_in g26]; simp; done) | (rw [pgo_lt g26 c1]; simp; done)⟩, by omega⟩
 ·replace c0 := nq c0
  refine ⟨fun c3 => ?_, fun c3 => ?_⟩
  ·replace c3 := nt c3
   refine ⟨rfl, rfl, fun _ => rfl, by first | omega | (simp; omega), ?_⟩
   refine ⟨rfl, rfl, by first | omega | (simp; omega), ?_, trivial⟩
   ·rw [← hv, drop_end (by omega), pgo]; simp [c3]
  ·replace c3 := nf c3
   refine ⟨?_, trivial⟩
   ·rw [← hv, drop_end (by omega), pgo]; simp [c3]
abbrev k_cpT_impl (t : TableD) : AV × List (Nat × Rs) := (.agg [.p none (.str t.name), vI t.arity, .own 0], [(0, .arr 32 1 true (t.rows.map eIntS))])
abbrev K_cpT_impl (t : TableD) : Prop := Con Tryz.prog 220 [.agg [.str t.name, .int .i64 t.arity, .sl 32 1 (t.rows.map eIntS)]] (k_cpT_impl t).1 (k_cpT_impl t).2
theorem cpT_impl (t : TableD) (hc : cTable t ≤ 1048576) : K_cpT_impl t := by
 refine con_x tbOk mixedW Tryz.func220 (by kernel_rfl) (callP (k_cpR t.rows) <| .fin [(0, 500)]) ?_
 refine Eq.mpr (by kernel_rfl : _ = ((t.rows.map eIntS).length ≤ 9223372036854775807 → K_cpR t.rows ∧ t.name = t.name ∧ t.arity = t.arity ∧ t.rows.map eIntS = t.rows.map eIntS ∧ True)) ?_
 intro n0
 simp only [List.length_map] at n0
 have q1 : cTable t = t.name.size + cIntSS t.rows := rfl
 have q2 := cIntSS_len t.rows
 refine ⟨cpR _ (by omega), ?_⟩
 exact ⟨rfl, rfl, rfl, trivial⟩
abbrev k_cpT_spec (t : TableD) : AV × List (Nat × Rs) := (.agg [.p none (.str t.name), vI t.arity, .own 0], [(0, .arr 32 1 true (t.rows.map eIntS))])
abbrev K_cpT_spec (t : TableD) : Prop := Con Tryz.prog 205 [.agg [.str t.name, .int .i64 t.arity, .sl 32 1 (t.rows.map eIntS)]] (k_cpT_spec t).1 (k_cpT_spec t).2
theorem cpT_spec (t : TableD) (hc : cTable t ≤ 1048576) : K_cpT_spec t := by
 refine con_x tbOk mixedW Tryz.func205 (by kernel_rfl) (.loop (Nat × (List (List Int))) (Q2 Nat (List (List Int))) [4, 10, 11, 12, 13, 14, 15, 16, 17, 18, 19, 20, 21, 22, 23, 24, 25, 26, 27, 28] [300, 1900, 2500, 2600, 2700, 9000] (fun yy0 => [(4, vI (yy0.1 : Int))]) (fun yy0 => [(300, some (.box 162 [.p none (.str t.name), vI t.arity, .own 9000])), (9000, some (.arr 32 1 true (yy0.2.map eIntS)))]) (fun yy0 => yy0.1 ≤ t.rows.length ∧ yy0.2 = t.rows.take yy0.1) (fun yy0 => t.rows.length - yy0.1) (fun yy0 => .len t.rows.length <| .br (.elem _ eIntS t.rows (fun e23 => .app Int intD ([] : List Int) e23 <| .appx (List Int) eIntS yy0.2 (([] : List Int) ++ e23) <| .back [(300, 300), (9000, 2700)])) (.fin [(0, 9000)]))) ?_
 refine Eq.mpr (by kernel_rfl : _ = ((t.rows.map eIntS).length ≤ 9223372036854775807 → (∃ (k : Nat) (out : List (List Int)), (0 : Int) = (k : Int) ∧ t.name = t.name ∧ t.arity = t.arity ∧ [] = out.map eIntS ∧ k ≤ t.rows.length ∧ out = t.rows.take k) ∧ ∀ (k : Nat) (out : List (List Int)), (k ≤ t.rows.length ∧ out = t.rows.take k) → Lm eIntS t.rows ∧ (((decide ((k : Int) < ((t.rows.length : Nat) : Int))) = true → 0 ≤ (k : Int) ∧ Em eIntS t.rows k fun e23 => [] = ([] : List Int).map intD ∧ e23.map intD = e23.map intD ∧ (∀ x, flatB (intD x) = true) ∧ (([] : List Int).length + e23.length) * 8 ≤ 140737488355328 ∧ out.map eIntS = out.map eIntS ∧ (([] : List Int) ++ e23).map intD = (([] : List Int) ++ e23).map intD ∧ (out.length + 1) * 24 ≤ 140737488355328 ∧ inR ((k : Int) + (1 : Int)) ∧ ∃ (k' : Nat) (out' : List (List Int)), ((k : Int) + (1 : Int)) = (k' : Int) ∧ t.name = t.name ∧ t.arity = t.arity ∧ (out ++ [([] : List Int) ++ e23]).map eIntS = out'.map eIntS ∧ (k' ≤ t.rows.length ∧ out' = t.rows.take k') ∧ t.rows.length - k' < t.rows.length - k) ∧ ((decide ((k : Int) < ((t.rows.length : Nat) : Int))) = false → t.name = t.name ∧ t.arity = t.arity ∧ out.map eIntS = t.rows.map eIntS ∧ True)))) ?_
 intro n0
 simp only [List.length_map] at n0
 have q1 : cTable t = t.name.size + cIntSS t.rows := rfl
 have q2 := cIntSS_len t.rows
 refine ⟨⟨0, ([] : List (List Int)), rfl, rfl, rfl, rfl, Nat.zero_le _, rfl⟩, fun k out ⟨hk, ho⟩ => ?_⟩
 refine ⟨List.length_map _, fun c0 => ?_, fun c0 => ?_⟩
 ·replace c0 := yq c0
  refine ⟨by omega, rfl, by omega, fun e23 h23 => ?_⟩
  have hp3 := cIntSS_at h23
  refine ⟨rfl, rfl, fun _ => rfl, by first | omega | (simp; omega) | (simp [ho]; omega), ?_⟩
  refine ⟨rfl, rfl, by first | omega | (simp; omega) | (simp [ho]; omega), ⟨by omega, by omega⟩, ?_⟩
  exact ⟨k + 1, _, rfl, rfl, rfl, rfl, ⟨by omega, by rw [ho, take_snoc h23]; rfl⟩, by omega⟩
 ·replace c0 := nq c0
  refine ⟨rfl, rfl, ?_, trivial⟩
  ·first | rfl | (rw [ho, List.take_of_length_le (by omega)])
abbrev k_cpS_impl (x : TableStatsD) : AV × List (Nat × Rs) := (.agg [.p none (.str x.name), vI x.arity, vI x.rowCount, .own 0], [(0, .arr 218 3 true (x.groups.map eGroupStats))])
abbrev K_cpS_impl (x : TableStatsD) : Prop := Con Tryz.prog 197 [.agg [.str x.name, .int .i64 x.arity, .int .i64 x.rowCount, .sl 218 3 (x.groups.map eGroupStats)]] (k_cpS_impl x).1 (k_cpS_impl x).2
theorem cpS_impl (x : TableStatsD) (hc : cTableStats x ≤ 1048576) : K_cpS_impl x := by
 refine con_x tbOk mixedW Tryz.func197 (by kernel_rfl) (.len x.groups.length <| .loop (Nat × (List GroupStatsD)) (Q2 Nat (List GroupStatsD)) [3, 5, 6, 10, 11, 12, 13, 14, 15, 16, 17, 18, 19, 20, 21, 22, 23, 24, 25, 26, 27] [500, 600, 1700, 2000, 2300, 2500, 2600] (fun yy0 => [(3, .own 600), (10, vI (yy0.1 : Int))]) (fun yy0 => [(600, some (.arr 218 3 true (yy0.2.map eGroupStats)))]) (fun yy0 => yy0.1 ≤ x.groups.length ∧ yy0.2 = x.groups.take yy0.1) (fun yy0 => x.groups.length - yy0.1) (fun yy0 => .br (.elem _ eGroupStats x.groups (fun e12 => callP (k_cpI e12.columns) <| callP (k_cpR e12.values) <| callP (k_cpI e12.counts) <| .appx GroupStatsD eGroupStats yy0.2 e12 <| .back [(600, 2600)])) (.fin [(0, 600)]))) ?_
 refine Eq.mpr (by kernel_rfl : _ = ((x.groups.map eGroupStats).length ≤ 9223372036854775807 → Lm eGroupStats x.groups ∧ ((∃ (k : Nat) (out : List GroupStatsD), (0 : Int) = (k : Int) ∧ [] = out.map eGroupStats ∧ k ≤ x.groups.length ∧ out = x.groups.take k) ∧ ∀ (k : Nat) (out : List GroupStatsD), (k ≤ x.groups.length ∧ out = x.groups.take k) → ((decide ((k : Int) < ((x.groups.length : Nat) : Int))) = true → 0 ≤ (k : Int) ∧ Em eGroupStats x.groups k fun e12 => K_cpI e12.columns ∧ K_cpR e12.values ∧ K_cpI e12.counts ∧ out.map eGroupStats = out.map eGroupStats ∧ e12.columns.map intD = e12.columns.map intD ∧ e12.values.map eIntS = e12.values.map eIntS ∧ e12.counts.map intD = e12.counts.map intD ∧ (out.length + 1) * 72 ≤ 140737488355328 ∧ inR ((k : Int) + (1 : Int)) ∧ ∃ (k' : Nat) (out' : List GroupStatsD), ((k : Int) + (1 : Int)) = (k' : Int) ∧ (out ++ [e12]).map eGroupStats = out'.map eGroupStats ∧ (k' ≤ x.groups.length ∧ out' = x.groups.take k') ∧ x.groups.length - k' < x.groups.length - k) ∧ ((decide ((k : Int) < ((x.groups.length : Nat) : Int))) = false → x.name = x.name ∧ x.arity = x.arity ∧ x.rowCount = x.rowCount ∧ out.map eGroupStats = x.groups.map eGroupStats ∧ True)))) ?_
 intro n0
 simp only [List.length_map] at n0
 have q2 : cTableStats x = x.name.size + cGroupStatsS x.groups := rfl
 have q5 := cGroupStatsS_len x.groups
 refine ⟨List.length_map _, ⟨0, ([] : List GroupStatsD), rfl, rfl, Nat.zero_le _, rfl⟩, fun k out ⟨hk, ho⟩ => ?_⟩
 refine ⟨fun c0 => ?_, fun c0 => ?_⟩
 ·replace c0 := yq c0
  refine ⟨by omega, rfl, by omega, fun e12 h12 => ?_⟩
  have q1 := cGroupStatsS_el h12
  have q3 : cGroupStats e12 = cIntS e12.columns + cIntSS e12.values + cIntS e12.counts := rfl
  have q6 : cIntS e12.columns = e12.columns.length := rfl
  have q7 : cIntS e12.counts = e12.counts.length := rfl
  have q8 := cIntSS_len e12.values
  refine ⟨cpI _ (by omega), cpR _ (by omega), cpI _ (by omega), rfl, rfl, rfl, rfl, by simp [ho]; omega, ⟨by omega, by omega⟩, ?_⟩
  exact ⟨k + 1, out ++ [e12], rfl, rfl, ⟨by omega, by rw [ho, take_snoc h12]⟩, by omega⟩
 ·replace c0 := nq c0
  refine ⟨rfl, rfl, rfl, ?_, trivial⟩
  ·rw [ho, List.take_of_length_le (by omega)]
abbrev k_cpS_spec (x : TableStatsD) : AV × List (Nat × Rs) := (.agg [.p none (.str x.name), vI x.arity, vI x.rowCount, .own 0], [(0, .arr 218 3 true (x.groups.map eGroupStats))])
abbrev K_cpS_spec (x : TableStatsD) : Prop := Con Tryz.prog 206 [.agg [.str x.name, .int .i64 x.arity, .int .i64 x.rowCount, .sl 218 3 (x.groups.map eGroupStats)]] (k_cpS_spec x).1 (k_cpS_spec x).2
theorem cpS_spec (x : TableStatsD) (hc : cTableStats x ≤ 1048576) : K_cpS_spec x := by
 refine con_x tbOk mixedW Tryz.func206 (by kernel_rfl) (.loop (Nat × (List GroupStatsD)) (Q2 Nat (List GroupStatsD)) [4, 5, 6, 14, 15, 16, 17, 18, 19, 20, 21, 22, 23, 24, 25, 26, 27, 28, 29, 30, 31, 32, 33, 34, 35, 36, 37, 38, 39, 40, 41, 42, 43, 44, 45, 46, 47, 48, 49, 50, 51, 52, 53, 54, 55, 56, 57, 58, 59, 60, 61, 62, 63, 64, 65, 66, 67, 68, 69, 70] [300, 500, 2100, 2800, 2900, 3600, 5100, 6100, 6200, 6300, 6800, 6900, 9000, 9001] (fun yy0 => [(4, vI (yy0.1 : Int))]) (fun yy0 => [(300, some (.box 121 [.p none (.str x.name), vI x.arity, vI x.rowCount, .own 9000])), (9000, some (.arr 218 3 true (yy0.2.map eGroupStats)))]) (fun yy0 => yy0.1 ≤ x.groups.length ∧ yy0.2 = x.groups.take yy0.1) (fun yy0 => x.groups.length - yy0.1) (fun yy0 => .len x.groups.length <| .br (.elem _ eGroupStats x.groups (fun e25 => .app Int intD ([] : List Int) e25.columns <| .elem _ eGroupStats x.groups (fun e33 => .app Int intD ([] : List Int) e33.counts <| .loop (Nat × (List (List Int))) (Q2 Nat (List (List Int))) [6, 38, 39, 40, 41, 42, 43, 44, 45, 46, 47, 48, 49, 50, 51, 52, 53, 54, 55, 56, 57, 58, 59, 60, 61, 62, 63, 64] [500, 5100, 6100, 6200, 6300, 9001] (fun yy1 => [(6, vI (yy1.1 : Int))]) (fun yy1 => [(500, some (.box 218 [.own 2800, .own 9001, .own 3600])), (9001, some (.arr 32 1 true (yy1.2.map eIntS)))]) (fun yy1 => yy1.1 ≤ e25.values.length ∧ yy1.2 = e25.values.take yy1.1) (fun yy1 => e25.values.length - yy1.1) (fun yy1 => .elem _ eGroupStats x.groups (fun e42 => .len e42.values.length <| .br (.elem _ eGroupStats x.groups (fun e55 => .elem _ eIntS e55.values (fun e59 => .app Int intD ([] : List Int) e59 <| .appx (List Int) eIntS yy1.2 (([] : List Int) ++ e59) <| .back [(500, 500), (9001, 6300)]))) (.appx GroupStatsD eGroupStats yy0.2 (⟨([] : List Int) ++ e25.columns, yy1.2, ([] : List Int) ++ e33.counts⟩ : GroupStatsD) <| .back [(300, 300), (9000, 6900)])))))) (.fin [(0, 9000)]))) ?_
 refine Eq.mpr (by kernel_rfl : _ = ((x.groups.map eGroupStats).length ≤ 9223372036854775807 → (∃ (k : Nat) (out : List GroupStatsD), (0 : Int) = (k : Int) ∧ x.name = x.name ∧ x.arity = x.arity ∧ x.rowCount = x.rowCount ∧ [] = out.map eGroupStats ∧ k ≤ x.groups.length ∧ out = x.groups.take k) ∧ ∀ (k : Nat) (out : List GroupStatsD), (k ≤ x.groups.length ∧ out = x.groups.take k) → Lm eGroupStats x.groups ∧ (((decide ((k : Int) < ((x.groups.length : Nat) : Int))) = true → 0 ≤ (k : Int) ∧ Em eGroupStats x.groups k fun e25 => [] = ([] : List Int).map intD ∧ e25.columns.map intD = e25.columns.map intD ∧ (∀ x, flatB (intD x) = true) ∧ (([] : List Int).length + e25.columns.length) * 8 ≤ 140737488355328 ∧ (0 ≤ (k : Int) ∧ Em eGroupStats x.groups k fun e33 => [] = ([] : List Int).map intD ∧ e33.counts.map intD = e33.counts.map intD ∧ (∀ x, flatB (intD x) = true) ∧ (([] : List Int).length + e33.counts.length) * 8 ≤ 140737488355328 ∧ ((∃ (i : Nat) (v : List (List Int)), (0 : Int) = (i : Int) ∧ [] = v.map eIntS ∧ i ≤ e25.values.length ∧ v = e25.values.take i) ∧ ∀ (i : Nat) (v : List (List Int)), (i ≤ e25.values.length ∧ v = e25.values.take i) → 0 ≤ (k : Int) ∧ Em eGroupStats x.groups k fun e42 => Lm eIntS e42.values ∧ (((decide ((i : Int) < ((e42.values.length : Nat) : Int))) = true → 0 ≤ (k : Int) ∧ Em eGroupStats x.groups k fun e55 => 0 ≤ (i : Int) ∧ Em eIntS e55.values i fun e59 => [] = ([] : List Int).map intD ∧ e59.map intD = e59.map intD ∧ (∀ x, flatB (intD x) = true) ∧ (([] : List Int).length + e59.length) * 8 ≤ 140737488355328 ∧ v.map eIntS = v.map eIntS ∧ (([] : List Int) ++ e59).map intD = (([] : List Int) ++ e59).map intD ∧ (v.length + 1) * 24 ≤ 140737488355328 ∧ inR ((i : Int) + (1 : Int)) ∧ ∃ (i' : Nat) (v' : List (List Int)), ((i : Int) + (1 : Int)) = (i' : Int) ∧ (v ++ [([] : List Int) ++ e59]).map eIntS = v'.map eIntS ∧ (i' ≤ e25.values.length ∧ v' = e25.values.take i') ∧ e25.values.length - i' < e25.values.length - i) ∧ ((decide ((i : Int) < ((e42.values.length : Nat) : Int))) = false → out.map eGroupStats = out.map eGroupStats ∧ (([] : List Int) ++ e25.columns).map intD = ((⟨([] : List Int) ++ e25.columns, v, ([] : List Int) ++ e33.counts⟩ : GroupStatsD).columns).map intD ∧ v.map eIntS = ((⟨([] : List Int) ++ e25.columns, v, ([] : List Int) ++ e33.counts⟩ : GroupStatsD).values).map eIntS ∧ (([] : List Int) ++ e33.counts).map intD = ((⟨([] : List Int) ++ e25.columns, v, ([] : List Int) ++ e33.counts⟩ : GroupStatsD).counts).map intD ∧ (out.length + 1) * 72 ≤ 140737488355328 ∧ inR ((k : Int) + (1 : Int)) ∧ ∃ (k' : Nat) (out' : List GroupStatsD), ((k : Int) + (1 : Int)) = (k' : Int) ∧ x.name = x.name ∧ x.arity = x.arity ∧ x.rowCount = x.rowCount ∧ (out ++ [(⟨([] : List Int) ++ e25.columns, v, ([] : List Int) ++ e33.counts⟩ : GroupStatsD)]).map eGroupStats = out'.map eGroupStats ∧ (k' ≤ x.groups.length ∧ out' = x.groups.take k') ∧ x.groups.length - k' < x.groups.length - k))))) ∧ ((decide ((k : Int) < ((x.groups.length : Nat) : Int))) = false → x.name = x.name ∧ x.arity = x.arity ∧ x.rowCount = x.rowCount ∧ out.map eGroupStats = x.groups.map eGroupStats ∧ True)))) ?_
 intro n0
 simp only [List.length_map] at n0
 have q2 : cTableStats x = x.name.size + cGroupStatsS x.groups := rfl
 have q5 := cGroupStatsS_len x.groups
 refine ⟨⟨0, ([] : List GroupStatsD), rfl, rfl, rfl, rfl, rfl, Nat.zero_le _, rfl⟩, fun k out ⟨hk, ho⟩ => ?_⟩
 refine ⟨List.length_map _, fun c0 => ?_, fun c0 => ?_⟩
 ·replace c0 := yq c0
  refine ⟨by omega, rfl, by omega, fun e25 h25 => ?_⟩
  try (obtain rfl := (same_at h25 h25).symm)
  have q1 := cGroupStatsS_el h25
  have q3 : cGroupStats e25 = cIntS e25.columns + cIntSS e25.values + cIntS e25.counts := rfl
  have q6 : cIntS e25.columns = e25.columns.length := rfl
  have q7 : cIntS e25.counts = e25.counts.length := rfl
  have q8 := cIntSS_len e25.values
  refine ⟨rfl, rfl, fun _ => rfl, by first | omega | (simp; omega) | (simp [ho]; omega) | (simp [hv]; omega), ?_⟩
  refine ⟨by omega, rfl, by omega, fun e33 h33 => ?_⟩
  try (obtain rfl := (same_at h25 h33).symm)
  refine ⟨rfl, rfl, fun _ => rfl, by first | omega | (simp; omega) | (simp [ho]; omega) | (simp [hv]; omega), ?_⟩
  refine ⟨⟨0, ([] : List (List Int)), rfl, rfl, Nat.zero_le _, rfl⟩, fun i v ⟨hi, hv⟩ => ?_⟩
  refine ⟨by omega, rfl, by omega, fun e42 h42 => ?_⟩
  try (obtain rfl := (same_at h25 h42).symm)
  refine ⟨List.length_map _, fun c1 => ?_, fun c1 => ?_⟩
  ·replace c1 := yq c1
   refine ⟨by omega, rfl, by omega, fun e55 h55 => ?_⟩
   try (obtain rfl := (same_at h25 h55).symm)
   refine ⟨by omega, rfl, by omega, fun e59 h59 => ?_⟩
   have hp3 := cIntSS_at h59
   refine ⟨rfl, rfl, fun _ => rfl, by first | omega | (simp; omega) | (simp [ho]; omega) | (simp [hv]; omega), ?_⟩
   refine ⟨rfl, rfl, by first | omega | (simp; omega) | (simp [ho]; omega) | (simp [hv]; omega), ⟨by omega, by omega⟩, ?_⟩
   exact ⟨i + 1, _, rfl, rfl, ⟨by omega, by rw [hv, take_snoc h59]; rfl⟩, by omega⟩
  ·replace c1 := nq c1
   have hvv : v = e25.values := by rw [hv, List.take_of_length_le (by omega)]
   refine ⟨rfl, rfl, rfl, rfl, by first | omega | (simp; omega) | (simp [ho]; omega) | (simp [hv]; omega), ⟨by omega, by omega⟩, ?_⟩
   exact ⟨k + 1, _, rfl, rfl, rfl, rfl, rfl, ⟨by omega, by rw [ho, take_snoc h25, hvv]; rfl⟩, by omega⟩
 ·replace c0 := nq c0
  refine ⟨rfl, rfl, rfl, ?_, trivial⟩
  ·first | rfl | (rw [ho, List.take_of_length_le (by omega)])
end Go.Proofs.YtokkjaflmcjlhaaGreat
