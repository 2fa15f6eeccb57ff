/-
  The law on initial dictionaries.
-/
import Derived.Test.YtcgjlddpbkponaaXc
import Derived.Test.YtcgjlddpbkponaaXm
namespace Go.Proofs.Ytcgjlddpbkponaa
open Go.ChangeShapes Go.WideShapes Go.ChangeAt Go.RowKit
set_option linter.unusedVariables false
set_option linter.unusedSimpArgs false
theorem fits_small {x : Int} (h0 : 0 ≤ x) (h1 : x ≤ 1048576) : Fits x := by unfold Fits; omega
theorem fits_natL {a : Int} {k : Nat} (h0 : 0 ≤ a) (h1 : a + k ≤ 1048576) : ∀ x ∈ natL a k, Fits x := fun x hx => by
  unfold natL at hx
  obtain ⟨i, hi, rfl⟩ := List.mem_map.1 hx
  have := List.mem_range.1 hi
  exact fits_small (by omega) (by omega)
theorem fits_wholes {l : List Int} (h : ∀ x ∈ l, Fits x) : FitsQ (l.map wholeR) := fun x hx => by
  obtain ⟨n, hn, rfl⟩ := List.mem_map.1 hx
  exact ⟨h n hn, fits_small (by simp [wholeR]) (by simp [wholeR])⟩
theorem fitsQ_nil : FitsQ [] := fun x hx => by simp at hx
theorem initD_fits {p : ProgramD} (hf : FitsP p) : FitsD (initD p) := by
  unfold initD
  split
  · rename_i h
    obtain ⟨b1, b2, b3, b4, b5⟩ := okProg_bnd h
    refine ⟨fits_natL (by omega) (by omega), fits_natL (by omega) (by omega), fun r hr => ?_, fits_wholes hf.2.2, fits_wholes hf.1, fits_small (by simp) (by simp), fits_small (by simp) (by simp)⟩
    obtain ⟨q, hq, rfl⟩ := List.mem_map.1 hr
    exact fits_wholes (hf.2.1 q hq)
  · exact ⟨by simp [zeroDic], by simp [zeroDic], by simp [zeroDic], fitsQ_nil, fitsQ_nil, fits_small (by simp [zeroDic]) (by simp [zeroDic]), fits_small (by simp [zeroDic]) (by simp [zeroDic])⟩
theorem sumProg_le {p : ProgramD} (h : (p.count : Int) ≤ 1048576) : sumProg p ≤ 1048576 := by
  unfold ProgramD.count cntL at h
  unfold sumProg sumL
  omega
theorem sumL_bound {α : Type} {ct : α → Nat} {m : Nat} : ∀ {l : List α}, (∀ x ∈ l, ct x ≤ m) → sumL ct l ≤ l.length * m
  | [], _ => by simp [sumL]
  | a :: l, h => by
    have h1 := h a (by simp)
    have h2 := sumL_bound (l := l) fun x hx => h x (by simp [hx])
    simp only [sumL, List.map_cons, List.sum_cons, List.length_cons, Nat.add_mul, Nat.one_mul] at *
    omega
theorem sumDic_init (p : ProgramD) : sumDic (initD p) ≤ 1048576 := by
  unfold initD
  split
  · rename_i h
    obtain ⟨b1, b2, b3, b4, b5⟩ := okProg_bnd h
    have hs := sumL_bound (ct := len2) (m := 30) (l := p.rows.map fun r => r.map wholeR) fun x hx => by
      obtain ⟨q, hq, rfl⟩ := List.mem_map.1 hx
      have := b5 q hq
      simp only [len2, List.length_map]; omega
    simp only [sumDic, natL_len, List.length_map] at *
    omega
  · simp [sumDic, zeroDic, sumL]

set_option maxRecDepth 100000 in
set_option maxHeartbeats 4000000 in
theorem lawInitialDictionary (p : ProgramD) (hf : FitsP p) : Con Try.prog 6 [.agg [.sl 3 1 (p.objective.map intD), .sl 22 1 (p.rows.map rowD), .sl 3 1 (p.limits.map intD)]] (vB true) [] := by
  refine con_x tbOk mixedW Try.func6 (by kernel_rfl) (.call (vI (szStep p.count (1048576 : Int))) [] <| .br (.fin []) (.call (.agg [.own 0, .own 1, .own 2]) [(0, .arr 3 1 true (p.objective.map intD)), (1, .arr 22 1 true (p.rows.map rowD)), (2, .arr 3 1 true (p.limits.map intD))] <| .call (.tup [.agg [.own 0, .own 1, .own 2, .own 3, .own 4, vI ((initD p).value.num), vI ((initD p).value.den)], vB (okProg p)]) [(0, .arr 3 1 true (((initD p).basic).map intD)), (1, .arr 3 1 true (((initD p).others).map intD)), (2, .arr 38 1 true (((initD p).table).map ratsD)), (3, .arr 35 2 true (((initD p).consts).map ratD)), (4, .arr 35 2 true (((initD p).costs).map ratD))] <| .call (.agg [.own 0, .own 1, .own 2]) [(0, .arr 3 1 true (p.objective.map intD)), (1, .arr 22 1 true (p.rows.map rowD)), (2, .arr 3 1 true (p.limits.map intD))] <| .call (.tup [.agg [.own 0, .own 1, .own 2, .own 3, .own 4, vI ((initD p).value.num), vI ((initD p).value.den)], vB (okProg p)]) [(0, .arr 3 1 true (((initD p).basic).map intD)), (1, .arr 3 1 true (((initD p).others).map intD)), (2, .arr 38 1 true (((initD p).table).map ratsD)), (3, .arr 35 2 true (((initD p).consts).map ratD)), (4, .arr 35 2 true (((initD p).costs).map ratD))] <| .call (vB true) [] <| .lit <| .lit <| .lit <| .lit <| .no <| .call (.agg [.own 0, .own 1, .own 2]) [(0, .arr 3 1 true (p.objective.map intD)), (1, .arr 22 1 true (p.rows.map rowD)), (2, .arr 3 1 true (p.limits.map intD))] <| .call (vB true) [] <| .callx [.agg [.own 0, .own 1, .own 2], vI (1 : Int)] [(0, .arr 3 1 true (p.objective.map intD)), (1, .arr 22 1 true (p.rows.map rowD)), (2, .arr 3 1 true (p.limits.map intD))] [(0, 2600), (1, 2601), (2, 2602)] (vI (1 + ((sumProg p : Nat) : Int))) [(0, .arr 3 1 true (((markProg 1 p).objective).map intD)), (1, .arr 22 1 true (((markProg 1 p).rows).map rowD)), (2, .arr 3 1 true (((markProg 1 p).limits).map intD))] <| .no <| .call (vB true) [] <| .lit <| .lit <| .lit <| .lit <| .lit <| .lit <| .no <| .callx [.agg [.own 0, .own 1, .own 2, .own 3, .own 4, vI ((initD p).value.num), vI ((initD p).value.den)], vI (1 : Int)] [(0, .arr 3 1 true (((initD p).basic).map intD)), (1, .arr 3 1 true (((initD p).others).map intD)), (2, .arr 38 1 true (((initD p).table).map ratsD)), (3, .arr 35 2 true (((initD p).consts).map ratD)), (4, .arr 35 2 true (((initD p).costs).map ratD))] [(0, 2900), (1, 2901), (2, 2902), (3, 2903), (4, 2904)] (vI (1 + ((sumDic (initD p) : Nat) : Int))) [(0, .arr 3 1 true (((markDic 1 (initD p)).basic).map intD)), (1, .arr 3 1 true (((markDic 1 (initD p)).others).map intD)), (2, .arr 38 1 true (((markDic 1 (initD p)).table).map ratsD)), (3, .arr 35 2 true (((markDic 1 (initD p)).consts).map ratD)), (4, .arr 35 2 true (((markDic 1 (initD p)).costs).map ratD))] <| .call (vI (1 + ((sumDic (initD p) : Nat) : Int))) [] <| .no <| .no <| .call (.agg [.own 0, .own 1, .own 2]) [(0, .arr 3 1 true (p.objective.map intD)), (1, .arr 22 1 true (p.rows.map rowD)), (2, .arr 3 1 true (p.limits.map intD))] <| .call (.tup [.agg [.own 0, .own 1, .own 2, .own 3, .own 4, vI ((initD p).value.num), vI ((initD p).value.den)], vB (okProg p)]) [(0, .arr 3 1 true (((initD p).basic).map intD)), (1, .arr 3 1 true (((initD p).others).map intD)), (2, .arr 38 1 true (((initD p).table).map ratsD)), (3, .arr 35 2 true (((initD p).consts).map ratD)), (4, .arr 35 2 true (((initD p).costs).map ratD))] <| .call (vB true) [] <| .lit <| .lit <| .lit <| .lit <| .no <| .call (vI (1 + ((sumDic (initD p) : Nat) : Int))) [] <| .no <| .no <| .fin [])) ?_
  refine Eq.mpr (by kernel_rfl : _ = ((p.objective.map intD).length ≤ 9223372036854775807 → (p.rows.map rowD).length ≤ 9223372036854775807 → (p.limits.map intD).length ≤ 9223372036854775807 → Con Try.prog 15 [.agg [.sl 3 1 (p.objective.map intD), .sl 22 1 (p.rows.map rowD), .sl 3 1 (p.limits.map intD)], .one (.int .i64 (1048576 : Int))] (vI (szStep p.count (1048576 : Int))) [] ∧ (((decide ((szStep p.count (1048576 : Int)) < (0 : Int))) = true → (true) = true ∧ True) ∧ ((decide ((szStep p.count (1048576 : Int)) < (0 : Int))) = false → Con Try.prog 17 [.agg [.sl 3 1 (p.objective.map intD), .sl 22 1 (p.rows.map rowD), .sl 3 1 (p.limits.map intD)]] (.agg [.own 0, .own 1, .own 2]) [(0, .arr 3 1 true (p.objective.map intD)), (1, .arr 22 1 true (p.rows.map rowD)), (2, .arr 3 1 true (p.limits.map intD))] ∧ Con Try.prog 28 [.agg [.sl 3 1 (p.objective.map intD), .sl 22 1 (p.rows.map rowD), .sl 3 1 (p.limits.map intD)]] (.tup [.agg [.own 0, .own 1, .own 2, .own 3, .own 4, vI ((initD p).value.num), vI ((initD p).value.den)], vB (okProg p)]) [(0, .arr 3 1 true (((initD p).basic).map intD)), (1, .arr 3 1 true (((initD p).others).map intD)), (2, .arr 38 1 true (((initD p).table).map ratsD)), (3, .arr 35 2 true (((initD p).consts).map ratD)), (4, .arr 35 2 true (((initD p).costs).map ratD))] ∧ Con Try.prog 17 [.agg [.sl 3 1 (p.objective.map intD), .sl 22 1 (p.rows.map rowD), .sl 3 1 (p.limits.map intD)]] (.agg [.own 0, .own 1, .own 2]) [(0, .arr 3 1 true (p.objective.map intD)), (1, .arr 22 1 true (p.rows.map rowD)), (2, .arr 3 1 true (p.limits.map intD))] ∧ Con Try.prog 29 [.agg [.sl 3 1 (p.objective.map intD), .sl 22 1 (p.rows.map rowD), .sl 3 1 (p.limits.map intD)]] (.tup [.agg [.own 0, .own 1, .own 2, .own 3, .own 4, vI ((initD p).value.num), vI ((initD p).value.den)], vB (okProg p)]) [(0, .arr 3 1 true (((initD p).basic).map intD)), (1, .arr 3 1 true (((initD p).others).map intD)), (2, .arr 38 1 true (((initD p).table).map ratsD)), (3, .arr 35 2 true (((initD p).consts).map ratD)), (4, .arr 35 2 true (((initD p).costs).map ratD))] ∧ Con Try.prog 30 [.agg [.sl 3 1 (((initD p).basic).map intD), .sl 3 1 (((initD p).others).map intD), .sl 38 1 (((initD p).table).map ratsD), .sl 35 2 (((initD p).consts).map ratD), .sl 35 2 (((initD p).costs).map ratD), .int .i64 ((initD p).value.num), .int .i64 ((initD p).value.den)], .agg [.sl 3 1 (((initD p).basic).map intD), .sl 3 1 (((initD p).others).map intD), .sl 38 1 (((initD p).table).map ratsD), .sl 35 2 (((initD p).consts).map ratD), .sl 35 2 (((initD p).costs).map ratD), .int .i64 ((initD p).value.num), .int .i64 ((initD p).value.den)]] (vB true) [] ∧ (!((okProg p) == (okProg p))) = false ∧ Con Try.prog 17 [.agg [.sl 3 1 (p.objective.map intD), .sl 22 1 (p.rows.map rowD), .sl 3 1 (p.limits.map intD)]] (.agg [.own 0, .own 1, .own 2]) [(0, .arr 3 1 true (p.objective.map intD)), (1, .arr 22 1 true (p.rows.map rowD)), (2, .arr 3 1 true (p.limits.map intD))] ∧ Con Try.prog 19 [.agg [.sl 3 1 (p.objective.map intD), .sl 22 1 (p.rows.map rowD), .sl 3 1 (p.limits.map intD)], .agg [.sl 3 1 (p.objective.map intD), .sl 22 1 (p.rows.map rowD), .sl 3 1 (p.limits.map intD)]] (vB true) [] ∧ Con2 Try.prog 31 [.agg [.own 0, .own 1, .own 2], vI (1 : Int)] [(0, .arr 3 1 true (p.objective.map intD)), (1, .arr 22 1 true (p.rows.map rowD)), (2, .arr 3 1 true (p.limits.map intD))] (vI (1 + ((sumProg p : Nat) : Int))) [(0, .arr 3 1 true (((markProg 1 p).objective).map intD)), (1, .arr 22 1 true (((markProg 1 p).rows).map rowD)), (2, .arr 3 1 true (((markProg 1 p).limits).map intD))] ∧ (1 : Int) = (1 : Int) ∧ p.objective.map intD = p.objective.map intD ∧ p.rows.map rowD = p.rows.map rowD ∧ p.limits.map intD = p.limits.map intD ∧ (decide ((1 + ((sumProg p : Nat) : Int)) < (0 : Int))) = false ∧ Con Try.prog 30 [.agg [.sl 3 1 (((initD p).basic).map intD), .sl 3 1 (((initD p).others).map intD), .sl 38 1 (((initD p).table).map ratsD), .sl 35 2 (((initD p).consts).map ratD), .sl 35 2 (((initD p).costs).map ratD), .int .i64 ((initD p).value.num), .int .i64 ((initD p).value.den)], .agg [.sl 3 1 (((initD p).basic).map intD), .sl 3 1 (((initD p).others).map intD), .sl 38 1 (((initD p).table).map ratsD), .sl 35 2 (((initD p).consts).map ratD), .sl 35 2 (((initD p).costs).map ratD), .int .i64 ((initD p).value.num), .int .i64 ((initD p).value.den)]] (vB true) [] ∧ (!((okProg p) == (okProg p))) = false ∧ Con2 Try.prog 32 [.agg [.own 0, .own 1, .own 2, .own 3, .own 4, vI ((initD p).value.num), vI ((initD p).value.den)], vI (1 : Int)] [(0, .arr 3 1 true (((initD p).basic).map intD)), (1, .arr 3 1 true (((initD p).others).map intD)), (2, .arr 38 1 true (((initD p).table).map ratsD)), (3, .arr 35 2 true (((initD p).consts).map ratD)), (4, .arr 35 2 true (((initD p).costs).map ratD))] (vI (1 + ((sumDic (initD p) : Nat) : Int))) [(0, .arr 3 1 true (((markDic 1 (initD p)).basic).map intD)), (1, .arr 3 1 true (((markDic 1 (initD p)).others).map intD)), (2, .arr 38 1 true (((markDic 1 (initD p)).table).map ratsD)), (3, .arr 35 2 true (((markDic 1 (initD p)).consts).map ratD)), (4, .arr 35 2 true (((markDic 1 (initD p)).costs).map ratD))] ∧ ((initD p).value.num) = ((initD p).value.num) ∧ ((initD p).value.den) = ((initD p).value.den) ∧ (1 : Int) = (1 : Int) ∧ ((initD p).basic).map intD = ((initD p).basic).map intD ∧ ((initD p).others).map intD = ((initD p).others).map intD ∧ ((initD p).table).map ratsD = ((initD p).table).map ratsD ∧ ((initD p).consts).map ratD = ((initD p).consts).map ratD ∧ ((initD p).costs).map ratD = ((initD p).costs).map ratD ∧ Con Try.prog 33 [.agg [.sl 3 1 (((markDic 1 (initD p)).basic).map intD), .sl 3 1 (((markDic 1 (initD p)).others).map intD), .sl 38 1 (((markDic 1 (initD p)).table).map ratsD), .sl 35 2 (((markDic 1 (initD p)).consts).map ratD), .sl 35 2 (((markDic 1 (initD p)).costs).map ratD), .int .i64 ((initD p).value.num), .int .i64 ((initD p).value.den)], .one (.int .i64 (1 : Int))] (vI (1 + ((sumDic (initD p) : Nat) : Int))) [] ∧ (decide ((1 + ((sumDic (initD p) : Nat) : Int)) < (0 : Int))) = false ∧ (!(decide ((1 + ((sumDic (initD p) : Nat) : Int)) = (1 + ((sumDic (initD p) : Nat) : Int))))) = false ∧ Con Try.prog 17 [.agg [.sl 3 1 (p.objective.map intD), .sl 22 1 (p.rows.map rowD), .sl 3 1 (p.limits.map intD)]] (.agg [.own 0, .own 1, .own 2]) [(0, .arr 3 1 true (p.objective.map intD)), (1, .arr 22 1 true (p.rows.map rowD)), (2, .arr 3 1 true (p.limits.map intD))] ∧ Con Try.prog 29 [.agg [.sl 3 1 (p.objective.map intD), .sl 22 1 (p.rows.map rowD), .sl 3 1 (p.limits.map intD)]] (.tup [.agg [.own 0, .own 1, .own 2, .own 3, .own 4, vI ((initD p).value.num), vI ((initD p).value.den)], vB (okProg p)]) [(0, .arr 3 1 true (((initD p).basic).map intD)), (1, .arr 3 1 true (((initD p).others).map intD)), (2, .arr 38 1 true (((initD p).table).map ratsD)), (3, .arr 35 2 true (((initD p).consts).map ratD)), (4, .arr 35 2 true (((initD p).costs).map ratD))] ∧ Con Try.prog 30 [.agg [.sl 3 1 (((initD p).basic).map intD), .sl 3 1 (((initD p).others).map intD), .sl 38 1 (((initD p).table).map ratsD), .sl 35 2 (((initD p).consts).map ratD), .sl 35 2 (((initD p).costs).map ratD), .int .i64 ((initD p).value.num), .int .i64 ((initD p).value.den)], .agg [.sl 3 1 (((initD p).basic).map intD), .sl 3 1 (((initD p).others).map intD), .sl 38 1 (((initD p).table).map ratsD), .sl 35 2 (((initD p).consts).map ratD), .sl 35 2 (((initD p).costs).map ratD), .int .i64 ((initD p).value.num), .int .i64 ((initD p).value.den)]] (vB true) [] ∧ (!((okProg p) == (okProg p))) = false ∧ Con Try.prog 33 [.agg [.sl 3 1 (((markDic 1 (initD p)).basic).map intD), .sl 3 1 (((markDic 1 (initD p)).others).map intD), .sl 38 1 (((markDic 1 (initD p)).table).map ratsD), .sl 35 2 (((markDic 1 (initD p)).consts).map ratD), .sl 35 2 (((markDic 1 (initD p)).costs).map ratD), .int .i64 ((initD p).value.num), .int .i64 ((initD p).value.den)], .one (.int .i64 (1 : Int))] (vI (1 + ((sumDic (initD p) : Nat) : Int))) [] ∧ (decide ((1 + ((sumDic (initD p) : Nat) : Int)) < (0 : Int))) = false ∧ (!(decide ((1 + ((sumDic (initD p) : Nat) : Int)) = (1 + ((sumDic (initD p) : Nat) : Int))))) = false ∧ (true) = true ∧ True)))) ?_
  intro n0 n1 n2
  simp only [List.length_map] at n0 n1 n2
  refine ⟨c_szProgram hf (by omega) (by omega) rfl, ?_⟩
  refine ⟨fun c0 => ?_, fun c0 => ?_⟩
  · replace c0 := of_decide_eq_true c0
    refine ⟨?_, trivial⟩
    · rfl
  · replace c0 := of_decide_eq_false c0
    have hc := sz_ok c0
    have hD : FitsD (initD p) := initD_fits hf
    have hsp := sumProg_le hc
    have hsd := sumDic_init p
    refine ⟨c_toProgram hf (by omega), ?_⟩
    refine ⟨w_init_spec p hf, ?_⟩
    refine ⟨c_toProgram hf (by omega), ?_⟩
    refine ⟨w_init_impl p hf, ?_⟩
    refine ⟨c_eqDic (initD p) hD, ?_⟩
    refine ⟨by simp, ?_⟩
    refine ⟨c_toProgram hf (by omega), ?_⟩
    refine ⟨c_eqProgram hf, ?_⟩
    refine ⟨m_Prog p 1 hf (by omega) (by omega), rfl, rfl, rfl, rfl, ?_⟩
    refine ⟨by simp; omega, ?_⟩
    refine ⟨c_eqDic (initD p) hD, ?_⟩
    refine ⟨by simp, ?_⟩
    refine ⟨m_Dic (initD p) 1 hD (by omega) (by omega), rfl, rfl, rfl, rfl, rfl, rfl, rfl, rfl, ?_⟩
    refine ⟨h_Dic (initD p) 1 (by omega) (by omega), ?_⟩
    refine ⟨by simp; omega, ?_⟩
    refine ⟨by simp, ?_⟩
    refine ⟨c_toProgram hf (by omega), ?_⟩
    refine ⟨w_init_impl p hf, ?_⟩
    refine ⟨c_eqDic (initD p) hD, ?_⟩
    refine ⟨by simp, ?_⟩
    refine ⟨h_Dic (initD p) 1 (by omega) (by omega), ?_⟩
    refine ⟨by simp; omega, ?_⟩
    refine ⟨by simp, ?_⟩
    refine ⟨?_, trivial⟩
    · rfl
end Go.Proofs.Ytcgjlddpbkponaa
