/-
  Draws of pivots; lists that are the same.
-/
import Derived.Test.YtepphdhnkaiamaaYf
import Derived.Test.YtepphdhnkaiamaaLXs
namespace Go.Proofs.Ytepphdhnkaiamaa
open Go.ChangeShapes Go.WideShapes Go.ChangeAt Go.RowKit
set_option linter.unusedVariables false
set_option linter.unusedSimpArgs false
set_option maxRecDepth 100000
set_option maxHeartbeats 4000000
def pvJ (l : List Int) : Int × Cu := belowD l (belowD l (dictD l (curN l)).2 8).2 6
def pvD (l : List Int) : DictionaryD := (dictD l (curN l)).1
def pvi (l : List Int) : Int := (belowD l (dictD l (curN l)).2 8).1 - 1
def pvj (l : List Int) : Int := (pvJ l).1 - 1

abbrev k_d_piv (l : List Int) : AV × List (Nat × Rs) := (.tup [.agg [.own 0, .own 1, .own 2, .own 3, .own 4, vI (((pvD l).value).num), vI (((pvD l).value).den)], vI (pvi l), vI (pvj l)], [(0, .arr 3 1 true (((pvD l).basic).map intD)), (1, .arr 3 1 true (((pvD l).others).map intD)), (2, .arr 31 1 true (((pvD l).table).map eRationalS)), (3, .arr 30 2 true (((pvD l).limits).map eRational)), (4, .arr 30 2 true (((pvD l).costs).map eRational))])
abbrev K_d_piv (l : List Int) : Prop := Con Try.prog 27 [.one (.sl 5 1 (l.map byD))] (k_d_piv l).1 (k_d_piv l).2
theorem d_piv (l : List Int) (hl : l.length ≤ 1048576) : K_d_piv l := by
 refine con_y tbOk mixedW Try.func27 (by kernel_rfl) (callxsP (k_d_new l) [] <| .callxs [.ptr 0 0] [(0, .box 84 [.p none (.sl 5 1 (l.map byD)), vI (((curN l).i : Nat) : Int), vI ((curN l).h)])] [(0, 800)] (.agg [.own 1, .own 2, .own 3, .own 4, .own 5, vI ((((dictD l (curN l)).1).value).num), vI ((((dictD l (curN l)).1).value).den)]) [(0, .box 84 [.p none (.sl 5 1 (l.map byD)), vI (((dictD l (curN l)).2.i : Nat) : Int), vI ((dictD l (curN l)).2.h)]), (1, .arr 3 1 true ((((dictD l (curN l)).1).basic).map intD)), (2, .arr 3 1 true ((((dictD l (curN l)).1).others).map intD)), (3, .arr 31 1 true ((((dictD l (curN l)).1).table).map eRationalS)), (4, .arr 30 2 true ((((dictD l (curN l)).1).limits).map eRational)), (5, .arr 30 2 true ((((dictD l (curN l)).1).costs).map eRational))] <| .callxs [.ptr 0 0, vI (8 : Int)] [(0, .box 84 [.p none (.sl 5 1 (l.map byD)), vI ((((dictD l (curN l)).2).i : Nat) : Int), vI (((dictD l (curN l)).2).h)])] [(0, 800)] (vI ((belowD l ((dictD l (curN l)).2) (8 : Int)).1)) [(0, .box 84 [.p none (.sl 5 1 (l.map byD)), vI (((belowD l ((dictD l (curN l)).2) (8 : Int)).2.i : Nat) : Int), vI ((belowD l ((dictD l (curN l)).2) (8 : Int)).2.h)])] <| .callxs [.ptr 0 0, vI (6 : Int)] [(0, .box 84 [.p none (.sl 5 1 (l.map byD)), vI ((((belowD l ((dictD l (curN l)).2) (8 : Int)).2).i : Nat) : Int), vI (((belowD l ((dictD l (curN l)).2) (8 : Int)).2).h)])] [(0, 800)] (vI ((belowD l ((belowD l ((dictD l (curN l)).2) (8 : Int)).2) (6 : Int)).1)) [(0, .box 84 [.p none (.sl 5 1 (l.map byD)), vI (((belowD l ((belowD l ((dictD l (curN l)).2) (8 : Int)).2) (6 : Int)).2.i : Nat) : Int), vI ((belowD l ((belowD l ((dictD l (curN l)).2) (8 : Int)).2) (6 : Int)).2.h)])] <| .fin [(0, 1001), (1, 1002), (2, 1003), (3, 1004), (4, 1005)]) (p := (l.map byD).length ≤ 9223372036854775807 → K_d_new l ∧ l.map byD = l.map byD ∧ Con2 Try.prog 70 [.ptr 0 0] [(0, .box 84 [.p none (.sl 5 1 (l.map byD)), vI (((curN l).i : Nat) : Int), vI ((curN l).h)])] (.agg [.own 1, .own 2, .own 3, .own 4, .own 5, vI ((((dictD l (curN l)).1).value).num), vI ((((dictD l (curN l)).1).value).den)]) [(0, .box 84 [.p none (.sl 5 1 (l.map byD)), vI (((dictD l (curN l)).2.i : Nat) : Int), vI ((dictD l (curN l)).2.h)]), (1, .arr 3 1 true ((((dictD l (curN l)).1).basic).map intD)), (2, .arr 3 1 true ((((dictD l (curN l)).1).others).map intD)), (3, .arr 31 1 true ((((dictD l (curN l)).1).table).map eRationalS)), (4, .arr 30 2 true ((((dictD l (curN l)).1).limits).map eRational)), (5, .arr 30 2 true ((((dictD l (curN l)).1).costs).map eRational))] ∧ l.map byD = l.map byD ∧ (((curN l).i : Nat) : Int) = (((curN l).i : Nat) : Int) ∧ ((curN l).h) = ((curN l).h) ∧ Con2 Try.prog 61 [.ptr 0 0, vI (8 : Int)] [(0, .box 84 [.p none (.sl 5 1 (l.map byD)), vI ((((dictD l (curN l)).2).i : Nat) : Int), vI (((dictD l (curN l)).2).h)])] (vI ((belowD l ((dictD l (curN l)).2) (8 : Int)).1)) [(0, .box 84 [.p none (.sl 5 1 (l.map byD)), vI (((belowD l ((dictD l (curN l)).2) (8 : Int)).2.i : Nat) : Int), vI ((belowD l ((dictD l (curN l)).2) (8 : Int)).2.h)])] ∧ (8 : Int) = (8 : Int) ∧ l.map byD = l.map byD ∧ (((dictD l (curN l)).2.i : Nat) : Int) = ((((dictD l (curN l)).2).i : Nat) : Int) ∧ ((dictD l (curN l)).2.h) = (((dictD l (curN l)).2).h) ∧ inR (((belowD l ((dictD l (curN l)).2) (8 : Int)).1) - (1 : Int)) ∧ Con2 Try.prog 61 [.ptr 0 0, vI (6 : Int)] [(0, .box 84 [.p none (.sl 5 1 (l.map byD)), vI ((((belowD l ((dictD l (curN l)).2) (8 : Int)).2).i : Nat) : Int), vI (((belowD l ((dictD l (curN l)).2) (8 : Int)).2).h)])] (vI ((belowD l ((belowD l ((dictD l (curN l)).2) (8 : Int)).2) (6 : Int)).1)) [(0, .box 84 [.p none (.sl 5 1 (l.map byD)), vI (((belowD l ((belowD l ((dictD l (curN l)).2) (8 : Int)).2) (6 : Int)).2.i : Nat) : Int), vI ((belowD l ((belowD l ((dictD l (curN l)).2) (8 : Int)).2) (6 : Int)).2.h)])] ∧ (6 : Int) = (6 : Int) ∧ l.map byD = l.map byD ∧ (((belowD l ((dictD l (curN l)).2) (8 : Int)).2.i : Nat) : Int) = ((((belowD l ((dictD l (curN l)).2) (8 : Int)).2).i : Nat) : Int) ∧ ((belowD l ((dictD l (curN l)).2) (8 : Int)).2.h) = (((belowD l ((dictD l (curN l)).2) (8 : Int)).2).h) ∧ inR (((belowD l ((belowD l ((dictD l (curN l)).2) (8 : Int)).2) (6 : Int)).1) - (1 : Int)) ∧ ((((dictD l (curN l)).1).value).num) = (((pvD l).value).num) ∧ ((((dictD l (curN l)).1).value).den) = (((pvD l).value).den) ∧ (((belowD l ((dictD l (curN l)).2) (8 : Int)).1) - (1 : Int)) = (pvi l) ∧ (((belowD l ((belowD l ((dictD l (curN l)).2) (8 : Int)).2) (6 : Int)).1) - (1 : Int)) = (pvj l) ∧ (((dictD l (curN l)).1).basic).map intD = ((pvD l).basic).map intD ∧ (((dictD l (curN l)).1).others).map intD = ((pvD l).others).map intD ∧ (((dictD l (curN l)).1).table).map eRationalS = ((pvD l).table).map eRationalS ∧ (((dictD l (curN l)).1).limits).map eRational = ((pvD l).limits).map eRational ∧ (((dictD l (curN l)).1).costs).map eRational = ((pvD l).costs).map eRational ∧ True) (by kernel_rfl) ?_
 intro n0
 simp only [List.length_map] at n0
 have w1 := below_bnd l (dictD l (curN l)).2 (n := 8) (by omega)
 have w2 := below_bnd l (belowD l (dictD l (curN l)).2 8).2 (n := 6) (by omega)
 refine ⟨d_new l (by assumption), rfl, d_dict l (curN l) (by assumption), rfl, rfl, rfl, d_below l ((dictD l (curN l)).2) (by assumption) (8 : Int), rfl, rfl, rfl, rfl, ⟨by omega, by omega⟩, d_below l ((belowD l ((dictD l (curN l)).2) (8 : Int)).2) (by assumption) (6 : Int), rfl, rfl, rfl, rfl, ⟨by omega, by omega⟩, ?_, ?_, ?_, ?_, ?_, ?_, ?_, ?_, ?_, trivial⟩ <;> (rfl)

abbrev K_entW_impl (d : DictionaryD) : Prop := Con Try.prog 32 [.agg [.sl 3 1 (d.basic.map intD), .sl 3 1 (d.others.map intD), .sl 31 1 (d.table.map eRationalS), .sl 30 2 (d.limits.map eRational), .sl 30 2 (d.costs.map eRational), .int .i64 d.value.num, .int .i64 d.value.den]] (vI (entC d)) []
theorem entW_impl (d : DictionaryD) (h0 : d.basic.length ≤ 1048576) (h1 : d.others.length ≤ 1048576) : K_entW_impl d := by
 refine con_y tbOk mixedW Try.func32 (by kernel_rfl) (.call (vB (okDic d)) [] <| .br (.fin []) (.call (vI (entD d)) [] <| .fin [])) (p := (d.basic.map intD).length ≤ 9223372036854775807 → (d.others.map intD).length ≤ 9223372036854775807 → (d.table.map eRationalS).length ≤ 9223372036854775807 → (d.limits.map eRational).length ≤ 9223372036854775807 → (d.costs.map eRational).length ≤ 9223372036854775807 → K_dic_impl d ∧ (((!(okDic d)) = true → (-1 : Int) = (entC d) ∧ True) ∧ ((!(okDic d)) = false → K_enc_impl d ∧ (entD d) = (entC d) ∧ True))) (by kernel_rfl) ?_
 intro n0 n1 n2 n3 n4
 simp only [List.length_map] at n0 n1 n2 n3 n4
 refine ⟨dic_impl d (by omega) (by omega), fun c0 => ?_, fun c0 => ?_⟩
 ·replace c0 := nt c0
  refine ⟨?_, trivial⟩
  ·first | (rw [entC_no (by simpa using c0)]; done) | (rw [entC_yes hd]; done)
 ·replace c0 := nf c0
  have hd : okDic d = true := by simpa using c0
  refine ⟨enc_impl d (by assumption), ?_, trivial⟩
  ·first | (rw [entC_no (by simpa using c0)]; done) | (rw [entC_yes hd]; done)

abbrev K_levW_impl (d : DictionaryD) (j : Int) : Prop := Con Try.prog 34 [.agg [.sl 3 1 (d.basic.map intD), .sl 3 1 (d.others.map intD), .sl 31 1 (d.table.map eRationalS), .sl 30 2 (d.limits.map eRational), .sl 30 2 (d.costs.map eRational), .int .i64 d.value.num, .int .i64 d.value.den], .one (.int .i64 j)] (vI (levP d j)) []
theorem levW_impl (d : DictionaryD) (j : Int) (h0 : d.basic.length ≤ 1048576) (h1 : d.others.length ≤ 1048576) : K_levW_impl d j := by
 refine con_y tbOk mixedW Try.func34 (by kernel_rfl) (.len d.others.length <| .call (vB (decide ((0 : Int) ≤ j ∧ j ≤ (((d.others.length : Nat) : Int) - (1 : Int))))) [] <| .br (.fin []) (.call (vB (okDic d)) [] <| .lit <| .lit <| .br (.fin []) (.call (vI (levD d (j).toNat)) [] <| .fin []))) (p := (d.basic.map intD).length ≤ 9223372036854775807 → (d.others.map intD).length ≤ 9223372036854775807 → (d.table.map eRationalS).length ≤ 9223372036854775807 → (d.limits.map eRational).length ≤ 9223372036854775807 → (d.costs.map eRational).length ≤ 9223372036854775807 → Lm intD d.others ∧ (inR (((d.others.length : Nat) : Int) - (1 : Int)) ∧ (K_in_impl j (0 : Int) (((d.others.length : Nat) : Int) - (1 : Int)) ∧ (((!(decide ((0 : Int) ≤ j ∧ j ≤ (((d.others.length : Nat) : Int) - (1 : Int))))) = true → (-1 : Int) = (levP d j) ∧ True) ∧ ((!(decide ((0 : Int) ≤ j ∧ j ≤ (((d.others.length : Nat) : Int) - (1 : Int))))) = false → K_dic_impl d ∧ (((!(okDic d)) = true → (-1 : Int) = (levP d j) ∧ True) ∧ ((!(okDic d)) = false → K_lev_impl d j ∧ (levD d (j).toNat) = (levP d j) ∧ True))))))) (by kernel_rfl) ?_
 intro n0 n1 n2 n3 n4
 simp only [List.length_map] at n0 n1 n2 n3 n4
 refine ⟨List.length_map _, ⟨by omega, by omega⟩, in_impl _ _ _, fun g12 => ?_, fun g12 => ?_⟩
 ·replace g12 := nq (nt g12)
  refine ⟨?_, trivial⟩
  ·first | (rw [levP_no (by simpa using c0)]; done) | (rw [levP_out (by omega)]; done) | (rw [levP_yes hd hj]; done)
 ·replace g12 := yq (nf g12)
  refine ⟨dic_impl d (by omega) (by omega), fun c0 => ?_, fun c0 => ?_⟩
  ·replace c0 := nt c0
   refine ⟨?_, trivial⟩
   ·first | (rw [levP_no (by simpa using c0)]; done) | (rw [levP_out (by omega)]; done) | (rw [levP_yes hd hj]; done)
  ·replace c0 := nf c0
   have hd : okDic d = true := by simpa using c0
   have hj : 0 ≤ j ∧ j < d.others.length := by omega
   refine ⟨lev_impl d j (by assumption) (by omega), ?_, trivial⟩
   ·first | (rw [levP_no (by simpa using c0)]; done) | (rw [levP_out (by omega)]; done) | (rw [levP_yes hd hj]; done)

theorem take_diff {a b : List Int} {k : Nat} {x y : Int} (hx : a[k]? = some x) (hy : b[k]? = some y) (h : ¬ x = y) : ¬ a = b := by
  intro e; rw [e, hy] at hx; injection hx with hx; exact h hx.symm
theorem take_same {a b : List Int} {k : Nat} (hl : (a.length : Int) = (b.length : Int)) (hk : a.length ≤ k) (h : a.take k = b.take k) : a = b := by
  rwa [List.take_of_length_le hk, List.take_of_length_le (by omega)] at h

abbrev K_same_law (a : List Int) (b : List Int) : Prop := Con Try.prog 36 [.one (.sl 3 1 (a.map intD)), .one (.sl 3 1 (b.map intD))] (vB (decide (a = b))) []
theorem same_law (a b : List Int) : K_same_law a b := by
 refine con_y tbOk mixedW Try.func36 (by kernel_rfl) (.len a.length <| .len b.length <| .br (.fin []) (.loop Nat (Q1 Nat) [5, 11, 12, 13, 14, 15, 16, 17, 18, 19, 20, 21, 22, 23, 24, 25] [] (fun k => [(5, vI (k : Int))]) (fun k => []) (fun k => k ≤ a.length ∧ a.take k = b.take k) (fun k => a.length - k) (fun k => .len a.length <| .br (.elem _ intD a (fun e19 => .elem _ intD b (fun e23 => .br (.fin []) (.back [])))) (.fin [])))) (p := (a.map intD).length ≤ 9223372036854775807 → (b.map intD).length ≤ 9223372036854775807 → Lm intD a ∧ (Lm intD b ∧ (((!(decide (((a.length : Nat) : Int) = ((b.length : Nat) : Int)))) = true → (false) = (decide (a = b)) ∧ True) ∧ ((!(decide (((a.length : Nat) : Int) = ((b.length : Nat) : Int)))) = false → (∃ (k : Nat), (0 : Int) = (k : Int) ∧ k ≤ a.length ∧ a.take k = b.take k) ∧ ∀ (k : Nat), (k ≤ a.length ∧ a.take k = b.take k) → Lm intD a ∧ (((decide ((k : Int) < ((a.length : Nat) : Int))) = true → 0 ≤ (k : Int) ∧ Em intD a k fun e19 => 0 ≤ (k : Int) ∧ Em intD b k fun e23 => ((!(decide (e19 = e23))) = true → (false) = (decide (a = b)) ∧ True) ∧ ((!(decide (e19 = e23))) = false → inR ((k : Int) + (1 : Int)) ∧ ∃ (k' : Nat), ((k : Int) + (1 : Int)) = (k' : Int) ∧ (k' ≤ a.length ∧ a.take k' = b.take k') ∧ a.length - k' < a.length - k)) ∧ ((decide ((k : Int) < ((a.length : Nat) : Int))) = false → (true) = (decide (a = b)) ∧ True)))))) (by kernel_rfl) ?_
 intro n0 n1
 simp only [List.length_map] at n0 n1
 refine ⟨List.length_map _, List.length_map _, fun c0 => ?_, fun c0 => ?_⟩
 ·replace c0 := nq (nt c0)
  refine ⟨?_, trivial⟩
  ·first | (exact (decide_eq_false (fun e => by rw [e] at c0; exact c0 rfl)).symm) | (exact (decide_eq_false (take_diff h19 h23 (by omega))).symm) | (exact (decide_eq_true (take_same (by omega) (by omega) ht)).symm)
 ·replace c0 := yq (nf c0)
  refine ⟨⟨0, rfl, Nat.zero_le _, rfl⟩, fun k ⟨hk, ht⟩ => ?_⟩
  refine ⟨List.length_map _, fun c1 => ?_, fun c1 => ?_⟩
  ·replace c1 := yq c1
   refine ⟨by omega, rfl, by omega, fun e19 h19 => ?_⟩
   refine ⟨by omega, rfl, by omega, fun e23 h23 => ?_⟩
   refine ⟨fun c2 => ?_, fun c2 => ?_⟩
   ·replace c2 := nq (nt c2)
    refine ⟨?_, trivial⟩
    ·first | (exact (decide_eq_false (fun e => by rw [e] at c0; exact c0 rfl)).symm) | (exact (decide_eq_false (take_diff h19 h23 (by omega))).symm) | (exact (decide_eq_true (take_same (by omega) (by omega) ht)).symm)
   ·replace c2 := yq (nf c2)
    refine ⟨⟨by omega, by omega⟩, ?_⟩
    exact ⟨k + 1, rfl, ⟨by omega, by rw [take_snoc h19, take_snoc h23, ht, show e19 = e23 by omega]⟩, by omega⟩
  ·replace c1 := nq c1
   refine ⟨?_, trivial⟩
   ·first | (exact (decide_eq_false (fun e => by rw [e] at c0; exact c0 rfl)).symm) | (exact (decide_eq_false (take_diff h19 h23 (by omega))).symm) | (exact (decide_eq_true (take_same (by omega) (by omega) ht)).symm)
end Go.Proofs.Ytepphdhnkaiamaa
