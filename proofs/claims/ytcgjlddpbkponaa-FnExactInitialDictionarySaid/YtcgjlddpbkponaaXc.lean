/-
  Initial dictionaries.
-/
import Derived.Test.YtcgjlddpbkponaaXb
import Derived.Test.YtcgjlddpbkponaaWj
namespace Go.Proofs.Ytcgjlddpbkponaa
open Go.ChangeShapes Go.WideShapes Go.ChangeAt Go.RowKit
set_option linter.unusedVariables false
set_option linter.unusedSimpArgs false
def wholeR (n : Int) : RationalD := ⟨n, 1⟩
def natL (a : Int) (k : Nat) : List Int := (List.range k).map fun i => a + (i : Nat)
theorem natL_snoc (a : Int) (k : Nat) : natL a (k + 1) = natL a k ++ [a + (k : Nat)] := by simp [natL, List.range_succ]
theorem natL_len (a : Int) (k : Nat) : (natL a k).length = k := by simp [natL]
def zeroDic : DictionaryD := ⟨[], [], [], [], [], ⟨0, 0⟩⟩
def initD (p : ProgramD) : DictionaryD := if okProg p = true then ⟨natL p.objective.length p.rows.length, natL 0 p.objective.length, p.rows.map fun r => r.map wholeR, p.limits.map wholeR, p.objective.map wholeR, ⟨0, 1⟩⟩ else zeroDic

set_option maxRecDepth 100000 in
set_option maxHeartbeats 4000000 in
theorem w_wholes (l : List Int) (hl : l.length ≤ 1048576) : Con Try.prog 69 [.one (.sl 3 1 (l.map intD))] (.own 0) [(0, .arr 35 2 true ((l.map wholeR).map ratD))] := by
  refine con_x tbOk mixedW Try.func69 (by kernel_rfl) (.len l.length <| .loop (Nat × (List RationalD)) (Q2 Nat (List RationalD)) [3, 5, 6, 9, 10, 11, 12, 13, 14, 15, 16, 17, 18] [600, 1600, 1700] (fun yy0 => [(3, .own 600), (9, vI (yy0.1 : Int))]) (fun yy0 => [(600, some (.arr 35 2 true (yy0.2.map ratD)))]) (fun yy0 => yy0.1 ≤ l.length ∧ yy0.2 = (l.take yy0.1).map wholeR) (fun yy0 => l.length - yy0.1) (fun yy0 => .br (.elem Int intD l (fun e11 => .call (.agg [vI e11, vI (1 : Int)]) [] <| .app RationalD ratD yy0.2 ([(⟨e11, (1 : Int)⟩ : RationalD)] : List RationalD) <| .back [(600, 1700)])) (.fin [(0, 600)]))) ?_
  refine Eq.mpr (by kernel_rfl : _ = ((l.map intD).length ≤ 9223372036854775807 → (l.map intD).length = l.length ∧ ((∃ (k : Nat) (out : List RationalD), (0 : Int) = (k : Int) ∧ [] = out.map ratD ∧ k ≤ l.length ∧ out = (l.take k).map wholeR) ∧ ∀ (k : Nat) (out : List RationalD), (k ≤ l.length ∧ out = (l.take k).map wholeR) → ((decide ((k : Int) < ((l.length : Nat) : Int))) = true → 0 ≤ (k : Int) ∧ (l.map intD = l.map intD ∧ k < l.length ∧ ∀ e11, l[k]? = some e11 → Con Try.prog 70 [.one (.int .i64 e11)] (.agg [vI e11, vI (1 : Int)]) [] ∧ out.map ratD = out.map ratD ∧ [[.int .i64 e11, .int .i64 (1 : Int)]] = ([(⟨e11, (1 : Int)⟩ : RationalD)] : List RationalD).map ratD ∧ (∀ x, flatB (ratD x) = true) ∧ (out.length + ([(⟨e11, (1 : Int)⟩ : RationalD)] : List RationalD).length) * 16 ≤ 140737488355328 ∧ inR ((k : Int) + (1 : Int)) ∧ ∃ (k' : Nat) (out' : List RationalD), ((k : Int) + (1 : Int)) = (k' : Int) ∧ (out ++ [(⟨e11, (1 : Int)⟩ : RationalD)]).map ratD = out'.map ratD ∧ (k' ≤ l.length ∧ out' = (l.take k').map wholeR) ∧ l.length - k' < l.length - k)) ∧ ((decide ((k : Int) < ((l.length : Nat) : Int))) = false → out.map ratD = (l.map wholeR).map ratD ∧ True)))) ?_
  intro n0
  simp only [List.length_map] at n0
  refine ⟨List.length_map _, ?_⟩
  refine ⟨⟨0, ([] : List RationalD), rfl, rfl, Nat.zero_le _, rfl⟩, fun k out ⟨hk, ho⟩ => ?_⟩
  refine ⟨fun c0 => ?_, fun c0 => ?_⟩
  · replace c0 := of_decide_eq_true c0
    refine ⟨by omega, ?_⟩
    refine ⟨rfl, by omega, fun e11 h11 => ?_⟩
    refine ⟨c_whole _, ?_⟩
    refine ⟨rfl, rfl, fun _ => rfl, by simp [ho]; omega, ?_⟩
    refine ⟨⟨by omega, by omega⟩, ?_⟩
    exact ⟨k + 1, out ++ [(⟨e11, (1 : Int)⟩ : RationalD)], rfl, rfl, ⟨by omega, by rw [ho, take_snoc h11]; simp [wholeR]⟩, by omega⟩
  · replace c0 := of_decide_eq_false c0
    refine ⟨?_, trivial⟩
    · rw [ho, List.take_of_length_le (by omega)]

set_option maxRecDepth 100000 in
set_option maxHeartbeats 4000000 in
theorem w_init_impl (p : ProgramD) (hf : FitsP p) : Con Try.prog 29 [.agg [.sl 3 1 (p.objective.map intD), .sl 22 1 (p.rows.map rowD), .sl 3 1 (p.limits.map intD)]] (.tup [.agg [.own 0, .own 1, .own 2, .own 3, .own 4, vI ((initD p).value.num), vI ((initD p).value.den)], vB (okProg p)]) [(0, .arr 3 1 true (((initD p).basic).map intD)), (1, .arr 3 1 true (((initD p).others).map intD)), (2, .arr 38 1 true (((initD p).table).map ratsD)), (3, .arr 35 2 true (((initD p).consts).map ratD)), (4, .arr 35 2 true (((initD p).costs).map ratD))] := by
  refine con_x tbOk mixedW Try.func29 (by kernel_rfl) (.call (vB (okProg p)) [] <| .br (.fin []) (.call (.own 0) [(0, .arr 35 2 true ((p.limits.map wholeR).map ratD))] <| .call (.own 0) [(0, .arr 35 2 true ((p.objective.map wholeR).map ratD))] <| .call (.agg [vI (0 : Int), vI (1 : Int)]) [] <| .len p.objective.length <| .loop (Nat × (List Int)) (Q2 Nat (List Int)) [6, 24, 25, 26, 27, 28, 29, 30, 31, 32, 33, 34] [400, 3200, 3300, 9001] (fun yy0 => [(6, vI (yy0.1 : Int))]) (fun yy0 => [(400, some (.box 45 [.nil, .own 9001, .nil, .own 1500, .own 1800, vI (0 : Int), vI (1 : Int)])), (9001, some (.arr 3 1 true (yy0.2.map intD)))]) (fun yy0 => yy0.1 ≤ p.objective.length ∧ yy0.2 = natL 0 yy0.1) (fun yy0 => p.objective.length - yy0.1) (fun yy0 => .br (.app Int intD yy0.2 ([(yy0.1 : Int)] : List Int) <| .back [(400, 400), (9001, 3300)]) (.len p.rows.length <| .loop (Nat × (List Int) × (List (List RationalD))) (Q3 Nat (List Int) (List (List RationalD))) [7, 8, 38, 39, 40, 41, 42, 43, 44, 45, 46, 47, 48, 49, 50, 51, 52, 53, 54, 55, 56, 57, 58] [400, 4800, 4900, 5400, 5500, 5600, 9002, 9003] (fun yy1 => [(38, vI (yy1.1 : Int))]) (fun yy1 => [(400, some (.box 45 [.own 9002, .own 9001, .own 9003, .own 1500, .own 1800, vI (0 : Int), vI (1 : Int)])), (9002, some (.arr 3 1 true (yy1.2.1.map intD))), (9003, some (.arr 38 1 true (yy1.2.2.map ratsD)))]) (fun yy1 => yy1.1 ≤ p.rows.length ∧ yy1.2.1 = natL p.objective.length yy1.1 ∧ yy1.2.2 = (p.rows.take yy1.1).map fun r => r.map wholeR) (fun yy1 => p.rows.length - yy1.1) (fun yy1 => .br (.elem (List Int) rowD p.rows (fun e41 => .app Int intD yy1.2.1 ([((p.objective.length : Nat) : Int) + (yy1.1 : Int)] : List Int) <| .call (.own 0) [(0, .arr 35 2 true ((e41.map wholeR).map ratD))] <| .appx (List RationalD) ratsD yy1.2.2 (e41.map wholeR) <| .back [(400, 400), (9002, 4900), (9003, 5600)])) (.fin [(0, 9002), (1, 9001), (2, 9003), (3, 1500), (4, 1800)])))))) ?_
  refine Eq.mpr (by kernel_rfl : _ = ((p.objective.map intD).length ≤ 9223372036854775807 → (p.rows.map rowD).length ≤ 9223372036854775807 → (p.limits.map intD).length ≤ 9223372036854775807 → Con Try.prog 18 [.agg [.sl 3 1 (p.objective.map intD), .sl 22 1 (p.rows.map rowD), .sl 3 1 (p.limits.map intD)]] (vB (okProg p)) [] ∧ (((!(okProg p)) = true → (0 : Int) = ((initD p).value.num) ∧ (0 : Int) = ((initD p).value.den) ∧ (false) = (okProg p) ∧ [] = ((initD p).basic).map intD ∧ [] = ((initD p).others).map intD ∧ [] = ((initD p).table).map ratsD ∧ [] = ((initD p).consts).map ratD ∧ [] = ((initD p).costs).map ratD ∧ True) ∧ ((!(okProg p)) = false → Con Try.prog 69 [.one (.sl 3 1 (p.limits.map intD))] (.own 0) [(0, .arr 35 2 true ((p.limits.map wholeR).map ratD))] ∧ (Con Try.prog 69 [.one (.sl 3 1 (p.objective.map intD))] (.own 0) [(0, .arr 35 2 true ((p.objective.map wholeR).map ratD))] ∧ (Con Try.prog 70 [.one (.int .i64 (0 : Int))] (.agg [vI (0 : Int), vI (1 : Int)]) [] ∧ ((p.objective.map intD).length = p.objective.length ∧ ((∃ (k : Nat) (fr : List Int), (0 : Int) = (k : Int) ∧ (0 : Int) = (0 : Int) ∧ (1 : Int) = (1 : Int) ∧ [] = fr.map intD ∧ k ≤ p.objective.length ∧ fr = natL 0 k) ∧ ∀ (k : Nat) (fr : List Int), (k ≤ p.objective.length ∧ fr = natL 0 k) → ((decide ((k : Int) < ((p.objective.length : Nat) : Int))) = true → fr.map intD = fr.map intD ∧ [[.int .i64 (k : Int)]] = ([(k : Int)] : List Int).map intD ∧ (∀ x, flatB (intD x) = true) ∧ (fr.length + ([(k : Int)] : List Int).length) * 8 ≤ 140737488355328 ∧ inR ((k : Int) + (1 : Int)) ∧ ∃ (k' : Nat) (fr' : List Int), ((k : Int) + (1 : Int)) = (k' : Int) ∧ (0 : Int) = (0 : Int) ∧ (1 : Int) = (1 : Int) ∧ (fr ++ [(k : Int)]).map intD = fr'.map intD ∧ (k' ≤ p.objective.length ∧ fr' = natL 0 k') ∧ p.objective.length - k' < p.objective.length - k) ∧ ((decide ((k : Int) < ((p.objective.length : Nat) : Int))) = false → (p.rows.map rowD).length = p.rows.length ∧ ((∃ (i : Nat) (bs : List Int) (cl : List (List RationalD)), (0 : Int) = (i : Int) ∧ (0 : Int) = (0 : Int) ∧ (1 : Int) = (1 : Int) ∧ [] = bs.map intD ∧ [] = cl.map ratsD ∧ i ≤ p.rows.length ∧ bs = natL p.objective.length i ∧ cl = (p.rows.take i).map fun r => r.map wholeR) ∧ ∀ (i : Nat) (bs : List Int) (cl : List (List RationalD)), (i ≤ p.rows.length ∧ bs = natL p.objective.length i ∧ cl = (p.rows.take i).map fun r => r.map wholeR) → ((decide ((i : Int) < ((p.rows.length : Nat) : Int))) = true → 0 ≤ (i : Int) ∧ (p.rows.map rowD = p.rows.map rowD ∧ i < p.rows.length ∧ ∀ e41, p.rows[i]? = some e41 → inR (((p.objective.length : Nat) : Int) + (i : Int)) ∧ bs.map intD = bs.map intD ∧ [[.int .i64 (((p.objective.length : Nat) : Int) + (i : Int))]] = ([((p.objective.length : Nat) : Int) + (i : Int)] : List Int).map intD ∧ (∀ x, flatB (intD x) = true) ∧ (bs.length + ([((p.objective.length : Nat) : Int) + (i : Int)] : List Int).length) * 8 ≤ 140737488355328 ∧ Con Try.prog 69 [.one (.sl 3 1 (e41.map intD))] (.own 0) [(0, .arr 35 2 true ((e41.map wholeR).map ratD))] ∧ cl.map ratsD = cl.map ratsD ∧ (e41.map wholeR).map ratD = (e41.map wholeR).map ratD ∧ (cl.length + 1) * 24 ≤ 140737488355328 ∧ inR ((i : Int) + (1 : Int)) ∧ ∃ (i' : Nat) (bs' : List Int) (cl' : List (List RationalD)), ((i : Int) + (1 : Int)) = (i' : Int) ∧ (0 : Int) = (0 : Int) ∧ (1 : Int) = (1 : Int) ∧ (bs ++ [((p.objective.length : Nat) : Int) + (i : Int)]).map intD = bs'.map intD ∧ (cl ++ [e41.map wholeR]).map ratsD = cl'.map ratsD ∧ (i' ≤ p.rows.length ∧ bs' = natL p.objective.length i' ∧ cl' = (p.rows.take i').map fun r => r.map wholeR) ∧ p.rows.length - i' < p.rows.length - i)) ∧ ((decide ((i : Int) < ((p.rows.length : Nat) : Int))) = false → (0 : Int) = ((initD p).value.num) ∧ (1 : Int) = ((initD p).value.den) ∧ (true) = (okProg p) ∧ bs.map intD = ((initD p).basic).map intD ∧ fr.map intD = ((initD p).others).map intD ∧ cl.map ratsD = ((initD p).table).map ratsD ∧ (p.limits.map wholeR).map ratD = ((initD p).consts).map ratD ∧ (p.objective.map wholeR).map ratD = ((initD p).costs).map ratD ∧ True))))))))))) ?_
  intro n0 n1 n2
  simp only [List.length_map] at n0 n1 n2
  refine ⟨c_prog_impl hf rfl, ?_⟩
  refine ⟨fun c0 => ?_, fun c0 => ?_⟩
  · replace c0 := nt c0
    refine ⟨?_, ?_, ?_, ?_, ?_, ?_, ?_, ?_, trivial⟩
    · first | (simp [initD, c0, zeroDic]; done) | (simp [initD, c0, hfr, hbs, hcl]; done)
    · first | (simp [initD, c0, zeroDic]; done) | (simp [initD, c0, hfr, hbs, hcl]; done)
    · first | (simp [initD, c0, zeroDic]; done) | (simp [initD, c0, hfr, hbs, hcl]; done)
    · first | (simp [initD, c0, zeroDic]; done) | (simp [initD, c0, hfr, hbs, hcl]; done)
    · first | (simp [initD, c0, zeroDic]; done) | (simp [initD, c0, hfr, hbs, hcl]; done)
    · first | (simp [initD, c0, zeroDic]; done) | (simp [initD, c0, hfr, hbs, hcl]; done)
    · first | (simp [initD, c0, zeroDic]; done) | (simp [initD, c0, hfr, hbs, hcl]; done)
    · first | (simp [initD, c0, zeroDic]; done) | (simp [initD, c0, hfr, hbs, hcl]; done)
  · replace c0 := nf c0
    have hb := okProg_bnd c0
    obtain ⟨b1, b2, b3, b4, b5⟩ := hb
    refine ⟨w_wholes _ (by omega), ?_⟩
    refine ⟨w_wholes _ (by omega), ?_⟩
    refine ⟨c_whole _, ?_⟩
    refine ⟨List.length_map _, ?_⟩
    refine ⟨⟨0, ([] : List Int), rfl, rfl, rfl, rfl, Nat.zero_le _, rfl⟩, fun k fr ⟨hk, hfr⟩ => ?_⟩
    refine ⟨fun c1 => ?_, fun c1 => ?_⟩
    · replace c1 := of_decide_eq_true c1
      refine ⟨rfl, rfl, fun _ => rfl, by simp [*, natL_len]; omega, ?_⟩
      refine ⟨⟨by omega, by omega⟩, ?_⟩
      exact ⟨k + 1, fr ++ [(k : Int)], rfl, rfl, rfl, rfl, ⟨by omega, by rw [hfr, natL_snoc]; simp⟩, by omega⟩
    · replace c1 := of_decide_eq_false c1
      have hk' : k = p.objective.length := by omega
      subst hk'
      refine ⟨List.length_map _, ?_⟩
      refine ⟨⟨0, ([] : List Int), ([] : List (List RationalD)), rfl, rfl, rfl, rfl, rfl, Nat.zero_le _, rfl, rfl⟩, fun i bs cl ⟨hi, hbs, hcl⟩ => ?_⟩
      refine ⟨fun c2 => ?_, fun c2 => ?_⟩
      · replace c2 := of_decide_eq_true c2
        refine ⟨by omega, ?_⟩
        refine ⟨rfl, by omega, fun e41 h41 => ?_⟩
        have r41 := b5 e41 (List.mem_of_getElem? h41)
        refine ⟨⟨by omega, by omega⟩, ?_⟩
        refine ⟨rfl, rfl, fun _ => rfl, by simp [*, natL_len]; omega, ?_⟩
        refine ⟨w_wholes _ (by omega), ?_⟩
        refine ⟨rfl, rfl, by simp [*, natL_len]; omega, ?_⟩
        refine ⟨⟨by omega, by omega⟩, ?_⟩
        exact ⟨i + 1, bs ++ [((p.objective.length : Nat) : Int) + (i : Int)], cl ++ [e41.map wholeR], rfl, rfl, rfl, rfl, rfl, ⟨by omega, by rw [hbs, natL_snoc], by rw [hcl, take_snoc h41]; simp⟩, by omega⟩
      · replace c2 := of_decide_eq_false c2
        have hi' : i = p.rows.length := by omega
        subst hi'
        refine ⟨?_, ?_, ?_, ?_, ?_, ?_, ?_, ?_, trivial⟩
        · first | (simp [initD, c0, zeroDic]; done) | (simp [initD, c0, hfr, hbs, hcl]; done)
        · first | (simp [initD, c0, zeroDic]; done) | (simp [initD, c0, hfr, hbs, hcl]; done)
        · first | (simp [initD, c0, zeroDic]; done) | (simp [initD, c0, hfr, hbs, hcl]; done)
        · first | (simp [initD, c0, zeroDic]; done) | (simp [initD, c0, hfr, hbs, hcl]; done)
        · first | (simp [initD, c0, zeroDic]; done) | (simp [initD, c0, hfr, hbs, hcl]; done)
        · first | (simp [initD, c0, zeroDic]; done) | (simp [initD, c0, hfr, hbs, hcl]; done)
        · first | (simp [initD, c0, zeroDic]; done) | (simp [initD, c0, hfr, hbs, hcl]; done)
        · first | (simp [initD, c0, zeroDic]; done) | (simp [initD, c0, hfr, hbs, hcl]; done)

set_option maxRecDepth 100000 in
set_option maxHeartbeats 4000000 in
theorem w_init_spec (p : ProgramD) (hf : FitsP p) : Con Try.prog 28 [.agg [.sl 3 1 (p.objective.map intD), .sl 22 1 (p.rows.map rowD), .sl 3 1 (p.limits.map intD)]] (.tup [.agg [.own 0, .own 1, .own 2, .own 3, .own 4, vI ((initD p).value.num), vI ((initD p).value.den)], vB (okProg p)]) [(0, .arr 3 1 true (((initD p).basic).map intD)), (1, .arr 3 1 true (((initD p).others).map intD)), (2, .arr 38 1 true (((initD p).table).map ratsD)), (3, .arr 35 2 true (((initD p).consts).map ratD)), (4, .arr 35 2 true (((initD p).costs).map ratD))] := by
  refine con_x tbOk mixedW Try.func28 (by kernel_rfl) (.call (vB (okProg p)) [] <| .br (.fin []) (.len p.objective.length <| .call (.agg [vI (0 : Int), vI (1 : Int)]) [] <| .loop (Nat × (List Int) × (List RationalD)) (Q3 Nat (List Int) (List RationalD)) [6, 19, 20, 21, 22, 23, 24, 25, 26, 27, 28, 29, 30, 31, 32, 33, 34, 35, 36, 37, 38, 39, 40] [500, 2700, 2800, 3800, 3900, 9001, 9004] (fun yy0 => [(6, vI (yy0.1 : Int))]) (fun yy0 => [(500, some (.box 45 [.nil, .own 9001, .nil, .nil, .own 9004, vI (0 : Int), vI (1 : Int)])), (9001, some (.arr 3 1 true (yy0.2.1.map intD))), (9004, some (.arr 35 2 true (yy0.2.2.map ratD)))]) (fun yy0 => yy0.1 ≤ p.objective.length ∧ yy0.2.1 = natL 0 yy0.1 ∧ yy0.2.2 = (p.objective.take yy0.1).map wholeR) (fun yy0 => p.objective.length - yy0.1) (fun yy0 => .br (.app Int intD yy0.2.1 ([(yy0.1 : Int)] : List Int) <| .elem Int intD p.objective (fun e35 => .call (.agg [vI e35, vI (1 : Int)]) [] <| .app RationalD ratD yy0.2.2 ([(⟨e35, (1 : Int)⟩ : RationalD)] : List RationalD) <| .back [(500, 500), (9001, 2800), (9004, 3900)])) (.loop (Nat × (List Int) × (List (List RationalD)) × (List RationalD)) (Q4 Nat (List Int) (List (List RationalD)) (List RationalD)) [7, 8, 9, 41, 42, 43, 44, 45, 46, 47, 48, 49, 50, 51, 52, 53, 54, 55, 56, 57, 58, 59, 60, 61, 62, 63, 64, 65, 66, 67, 68, 69, 70, 71, 72, 73, 74, 75, 76, 77, 78, 79, 80, 81, 82, 83, 84, 85, 86, 87, 88, 89, 90] [500, 4800, 6400, 6500, 7100, 7200, 7700, 7800, 8800, 8900, 9002, 9003, 9005] (fun yy1 => [(7, vI (yy1.1 : Int))]) (fun yy1 => [(500, some (.box 45 [.own 9002, .own 9001, .own 9003, .own 9005, .own 9004, vI (0 : Int), vI (1 : Int)])), (9002, some (.arr 3 1 true (yy1.2.1.map intD))), (9003, some (.arr 38 1 true (yy1.2.2.1.map ratsD))), (9005, some (.arr 35 2 true (yy1.2.2.2.map ratD)))]) (fun yy1 => yy1.1 ≤ p.rows.length ∧ yy1.2.1 = natL p.objective.length yy1.1 ∧ yy1.2.2.1 = (p.rows.take yy1.1).map (fun r => r.map wholeR) ∧ yy1.2.2.2 = (p.limits.take yy1.1).map wholeR) (fun yy1 => p.rows.length - yy1.1) (fun yy1 => .len p.rows.length <| .br (.loop (Nat × (List RationalD)) (Q2 Nat (List RationalD)) [8, 9, 48, 49, 50, 51, 52, 53, 54, 55, 56, 57, 58, 59, 60, 61, 62, 63, 64, 65] [4800, 6400, 6500] (fun yy2 => [(9, vI (yy2.1 : Int)), (8, .own 4800)]) (fun yy2 => [(4800, some (.arr 35 2 true (yy2.2.map ratD)))]) (fun yy2 => yy2.1 ≤ p.objective.length ∧ yy2.2 = ((p.rows.getD yy1.1 []).take yy2.1).map wholeR) (fun yy2 => p.objective.length - yy2.1) (fun yy2 => .br (.elem (List Int) rowD p.rows (fun e58 => .elem Int intD e58 (fun e61 => .call (.agg [vI e61, vI (1 : Int)]) [] <| .app RationalD ratD yy2.2 ([(⟨e61, (1 : Int)⟩ : RationalD)] : List RationalD) <| .back [(4800, 6500)]))) (.app Int intD yy1.2.1 ([((p.objective.length : Nat) : Int) + (yy1.1 : Int)] : List Int) <| .appx (List RationalD) ratsD yy1.2.2.1 yy2.2 <| .elem Int intD p.limits (fun e85 => .call (.agg [vI e85, vI (1 : Int)]) [] <| .app RationalD ratD yy1.2.2.2 ([(⟨e85, (1 : Int)⟩ : RationalD)] : List RationalD) <| .back [(500, 500), (9002, 7200), (9003, 7800), (9005, 8900)])))) (.fin [(0, 9002), (1, 9001), (2, 9003), (3, 9005), (4, 9004)])))))) ?_
  refine Eq.mpr (by kernel_rfl : _ = ((p.objective.map intD).length ≤ 9223372036854775807 → (p.rows.map rowD).length ≤ 9223372036854775807 → (p.limits.map intD).length ≤ 9223372036854775807 → Con Try.prog 16 [.agg [.sl 3 1 (p.objective.map intD), .sl 22 1 (p.rows.map rowD), .sl 3 1 (p.limits.map intD)]] (vB (okProg p)) [] ∧ (((!(okProg p)) = true → (0 : Int) = ((initD p).value.num) ∧ (0 : Int) = ((initD p).value.den) ∧ (false) = (okProg p) ∧ [] = ((initD p).basic).map intD ∧ [] = ((initD p).others).map intD ∧ [] = ((initD p).table).map ratsD ∧ [] = ((initD p).consts).map ratD ∧ [] = ((initD p).costs).map ratD ∧ True) ∧ ((!(okProg p)) = false → (p.objective.map intD).length = p.objective.length ∧ (Con Try.prog 68 [.one (.int .i64 (0 : Int))] (.agg [vI (0 : Int), vI (1 : Int)]) [] ∧ ((∃ (k : Nat) (fr : List Int) (cs : List RationalD), (0 : Int) = (k : Int) ∧ (0 : Int) = (0 : Int) ∧ (1 : Int) = (1 : Int) ∧ [] = fr.map intD ∧ [] = cs.map ratD ∧ k ≤ p.objective.length ∧ fr = natL 0 k ∧ cs = (p.objective.take k).map wholeR) ∧ ∀ (k : Nat) (fr : List Int) (cs : List RationalD), (k ≤ p.objective.length ∧ fr = natL 0 k ∧ cs = (p.objective.take k).map wholeR) → ((decide ((k : Int) < ((p.objective.length : Nat) : Int))) = true → fr.map intD = fr.map intD ∧ [[.int .i64 (k : Int)]] = ([(k : Int)] : List Int).map intD ∧ (∀ x, flatB (intD x) = true) ∧ (fr.length + ([(k : Int)] : List Int).length) * 8 ≤ 140737488355328 ∧ (0 ≤ (k : Int) ∧ (p.objective.map intD = p.objective.map intD ∧ k < p.objective.length ∧ ∀ e35, p.objective[k]? = some e35 → Con Try.prog 68 [.one (.int .i64 e35)] (.agg [vI e35, vI (1 : Int)]) [] ∧ cs.map ratD = cs.map ratD ∧ [[.int .i64 e35, .int .i64 (1 : Int)]] = ([(⟨e35, (1 : Int)⟩ : RationalD)] : List RationalD).map ratD ∧ (∀ x, flatB (ratD x) = true) ∧ (cs.length + ([(⟨e35, (1 : Int)⟩ : RationalD)] : List RationalD).length) * 16 ≤ 140737488355328 ∧ inR ((k : Int) + (1 : Int)) ∧ ∃ (k' : Nat) (fr' : List Int) (cs' : List RationalD), ((k : Int) + (1 : Int)) = (k' : Int) ∧ (0 : Int) = (0 : Int) ∧ (1 : Int) = (1 : Int) ∧ (fr ++ [(k : Int)]).map intD = fr'.map intD ∧ (cs ++ [(⟨e35, (1 : Int)⟩ : RationalD)]).map ratD = cs'.map ratD ∧ (k' ≤ p.objective.length ∧ fr' = natL 0 k' ∧ cs' = (p.objective.take k').map wholeR) ∧ p.objective.length - k' < p.objective.length - k))) ∧ ((decide ((k : Int) < ((p.objective.length : Nat) : Int))) = false → (∃ (i : Nat) (bs : List Int) (cl : List (List RationalD)) (ls : List RationalD), (0 : Int) = (i : Int) ∧ (0 : Int) = (0 : Int) ∧ (1 : Int) = (1 : Int) ∧ [] = bs.map intD ∧ [] = cl.map ratsD ∧ [] = ls.map ratD ∧ i ≤ p.rows.length ∧ bs = natL p.objective.length i ∧ cl = (p.rows.take i).map (fun r => r.map wholeR) ∧ ls = (p.limits.take i).map wholeR) ∧ ∀ (i : Nat) (bs : List Int) (cl : List (List RationalD)) (ls : List RationalD), (i ≤ p.rows.length ∧ bs = natL p.objective.length i ∧ cl = (p.rows.take i).map (fun r => r.map wholeR) ∧ ls = (p.limits.take i).map wholeR) → (p.rows.map rowD).length = p.rows.length ∧ (((decide ((i : Int) < ((p.rows.length : Nat) : Int))) = true → (∃ (j : Nat) (rx : List RationalD), (0 : Int) = (j : Int) ∧ [] = rx.map ratD ∧ j ≤ p.objective.length ∧ rx = ((p.rows.getD i []).take j).map wholeR) ∧ ∀ (j : Nat) (rx : List RationalD), (j ≤ p.objective.length ∧ rx = ((p.rows.getD i []).take j).map wholeR) → ((decide ((j : Int) < ((p.objective.length : Nat) : Int))) = true → 0 ≤ (i : Int) ∧ (p.rows.map rowD = p.rows.map rowD ∧ i < p.rows.length ∧ ∀ e58, p.rows[i]? = some e58 → 0 ≤ (j : Int) ∧ (e58.map intD = e58.map intD ∧ j < e58.length ∧ ∀ e61, e58[j]? = some e61 → Con Try.prog 68 [.one (.int .i64 e61)] (.agg [vI e61, vI (1 : Int)]) [] ∧ rx.map ratD = rx.map ratD ∧ [[.int .i64 e61, .int .i64 (1 : Int)]] = ([(⟨e61, (1 : Int)⟩ : RationalD)] : List RationalD).map ratD ∧ (∀ x, flatB (ratD x) = true) ∧ (rx.length + ([(⟨e61, (1 : Int)⟩ : RationalD)] : List RationalD).length) * 16 ≤ 140737488355328 ∧ inR ((j : Int) + (1 : Int)) ∧ ∃ (j' : Nat) (rx' : List RationalD), ((j : Int) + (1 : Int)) = (j' : Int) ∧ (rx ++ [(⟨e61, (1 : Int)⟩ : RationalD)]).map ratD = rx'.map ratD ∧ (j' ≤ p.objective.length ∧ rx' = ((p.rows.getD i []).take j').map wholeR) ∧ p.objective.length - j' < p.objective.length - j))) ∧ ((decide ((j : Int) < ((p.objective.length : Nat) : Int))) = false → inR (((p.objective.length : Nat) : Int) + (i : Int)) ∧ (bs.map intD = bs.map intD ∧ [[.int .i64 (((p.objective.length : Nat) : Int) + (i : Int))]] = ([((p.objective.length : Nat) : Int) + (i : Int)] : List Int).map intD ∧ (∀ x, flatB (intD x) = true) ∧ (bs.length + ([((p.objective.length : Nat) : Int) + (i : Int)] : List Int).length) * 8 ≤ 140737488355328 ∧ (cl.map ratsD = cl.map ratsD ∧ rx.map ratD = rx.map ratD ∧ (cl.length + 1) * 24 ≤ 140737488355328 ∧ (0 ≤ (i : Int) ∧ (p.limits.map intD = p.limits.map intD ∧ i < p.limits.length ∧ ∀ e85, p.limits[i]? = some e85 → Con Try.prog 68 [.one (.int .i64 e85)] (.agg [vI e85, vI (1 : Int)]) [] ∧ ls.map ratD = ls.map ratD ∧ [[.int .i64 e85, .int .i64 (1 : Int)]] = ([(⟨e85, (1 : Int)⟩ : RationalD)] : List RationalD).map ratD ∧ (∀ x, flatB (ratD x) = true) ∧ (ls.length + ([(⟨e85, (1 : Int)⟩ : RationalD)] : List RationalD).length) * 16 ≤ 140737488355328 ∧ inR ((i : Int) + (1 : Int)) ∧ ∃ (i' : Nat) (bs' : List Int) (cl' : List (List RationalD)) (ls' : List RationalD), ((i : Int) + (1 : Int)) = (i' : Int) ∧ (0 : Int) = (0 : Int) ∧ (1 : Int) = (1 : Int) ∧ (bs ++ [((p.objective.length : Nat) : Int) + (i : Int)]).map intD = bs'.map intD ∧ (cl ++ [rx]).map ratsD = cl'.map ratsD ∧ (ls ++ [(⟨e85, (1 : Int)⟩ : RationalD)]).map ratD = ls'.map ratD ∧ (i' ≤ p.rows.length ∧ bs' = natL p.objective.length i' ∧ cl' = (p.rows.take i').map (fun r => r.map wholeR) ∧ ls' = (p.limits.take i').map wholeR) ∧ p.rows.length - i' < p.rows.length - i)))))) ∧ ((decide ((i : Int) < ((p.rows.length : Nat) : Int))) = false → (0 : Int) = ((initD p).value.num) ∧ (1 : Int) = ((initD p).value.den) ∧ (true) = (okProg p) ∧ bs.map intD = ((initD p).basic).map intD ∧ fr.map intD = ((initD p).others).map intD ∧ cl.map ratsD = ((initD p).table).map ratsD ∧ ls.map ratD = ((initD p).consts).map ratD ∧ cs.map ratD = ((initD p).costs).map ratD ∧ True))))))))) ?_
  intro n0 n1 n2
  simp only [List.length_map] at n0 n1 n2
  refine ⟨c_prog_spec hf rfl, ?_⟩
  refine ⟨fun c0 => ?_, fun c0 => ?_⟩
  · replace c0 := nt c0
    refine ⟨?_, ?_, ?_, ?_, ?_, ?_, ?_, ?_, trivial⟩
    · first | (simp [initD, c0, zeroDic]; done) | (simp [initD, c0, hfr, hbs, hcl]; done) | (simp [initD, c0, hfr, hbs, hcl, hcs, hls, ← b4]; done)
    · first | (simp [initD, c0, zeroDic]; done) | (simp [initD, c0, hfr, hbs, hcl]; done) | (simp [initD, c0, hfr, hbs, hcl, hcs, hls, ← b4]; done)
    · first | (simp [initD, c0, zeroDic]; done) | (simp [initD, c0, hfr, hbs, hcl]; done) | (simp [initD, c0, hfr, hbs, hcl, hcs, hls, ← b4]; done)
    · first | (simp [initD, c0, zeroDic]; done) | (simp [initD, c0, hfr, hbs, hcl]; done) | (simp [initD, c0, hfr, hbs, hcl, hcs, hls, ← b4]; done)
    · first | (simp [initD, c0, zeroDic]; done) | (simp [initD, c0, hfr, hbs, hcl]; done) | (simp [initD, c0, hfr, hbs, hcl, hcs, hls, ← b4]; done)
    · first | (simp [initD, c0, zeroDic]; done) | (simp [initD, c0, hfr, hbs, hcl]; done) | (simp [initD, c0, hfr, hbs, hcl, hcs, hls, ← b4]; done)
    · first | (simp [initD, c0, zeroDic]; done) | (simp [initD, c0, hfr, hbs, hcl]; done) | (simp [initD, c0, hfr, hbs, hcl, hcs, hls, ← b4]; done)
    · first | (simp [initD, c0, zeroDic]; done) | (simp [initD, c0, hfr, hbs, hcl]; done) | (simp [initD, c0, hfr, hbs, hcl, hcs, hls, ← b4]; done)
  · replace c0 := nf c0
    obtain ⟨b1, b2, b3, b4, b5⟩ := okProg_bnd c0
    refine ⟨List.length_map _, ?_⟩
    refine ⟨c_l15Int _, ?_⟩
    refine ⟨⟨0, ([] : List Int), ([] : List RationalD), rfl, rfl, rfl, rfl, rfl, Nat.zero_le _, rfl, rfl⟩, fun k fr cs ⟨hk, hfr, hcs⟩ => ?_⟩
    refine ⟨fun c1 => ?_, fun c1 => ?_⟩
    · replace c1 := of_decide_eq_true c1
      refine ⟨rfl, rfl, fun _ => rfl, by simp [*, natL_len]; omega, ?_⟩
      refine ⟨by omega, ?_⟩
      refine ⟨rfl, by omega, fun e35 h35 => ?_⟩
      refine ⟨c_l15Int _, ?_⟩
      refine ⟨rfl, rfl, fun _ => rfl, by simp [*, natL_len]; omega, ?_⟩
      refine ⟨⟨by omega, by omega⟩, ?_⟩
      exact ⟨k + 1, fr ++ [(k : Int)], cs ++ [(⟨e35, (1 : Int)⟩ : RationalD)], rfl, rfl, rfl, rfl, rfl, ⟨by omega, by rw [hfr, natL_snoc]; simp, by rw [hcs, take_snoc h35]; simp [wholeR]⟩, by omega⟩
    · replace c1 := of_decide_eq_false c1
      have hk' : k = p.objective.length := by omega
      subst hk'
      refine ⟨⟨0, ([] : List Int), ([] : List (List RationalD)), ([] : List RationalD), rfl, rfl, rfl, rfl, rfl, rfl, Nat.zero_le _, rfl, rfl, rfl⟩, fun i bs cl ls ⟨hi, hbs, hcl, hls⟩ => ?_⟩
      refine ⟨List.length_map _, ?_⟩
      refine ⟨fun c2 => ?_, fun c2 => ?_⟩
      · replace c2 := of_decide_eq_true c2
        obtain ⟨r, hr⟩ := at_some (l := p.rows) (k := i) (by omega)
        have hrl := b5 r (List.mem_of_getElem? hr)
        refine ⟨⟨0, ([] : List RationalD), rfl, rfl, Nat.zero_le _, rfl⟩, fun j rx ⟨hj, hrw⟩ => ?_⟩
        refine ⟨fun c3 => ?_, fun c3 => ?_⟩
        · replace c3 := of_decide_eq_true c3
          refine ⟨by omega, ?_⟩
          refine ⟨rfl, by omega, fun e58 h58 => ?_⟩
          have q58 := same_at hr h58
          rw [q58] at *
          refine ⟨by omega, ?_⟩
          refine ⟨rfl, by omega, fun e61 h61 => ?_⟩
          refine ⟨c_l15Int _, ?_⟩
          refine ⟨rfl, rfl, fun _ => rfl, by simp [*, natL_len]; omega, ?_⟩
          refine ⟨⟨by omega, by omega⟩, ?_⟩
          exact ⟨j + 1, rx ++ [(⟨e61, (1 : Int)⟩ : RationalD)], rfl, rfl, ⟨by omega, by rw [hrw, getD_at hr, take_snoc h61]; simp [wholeR]⟩, by omega⟩
        · replace c3 := of_decide_eq_false c3
          have hj' : j = p.objective.length := by omega
          subst hj'
          have hrw' : rx = r.map wholeR := by rw [hrw, getD_at hr, List.take_of_length_le (by omega)]
          refine ⟨⟨by omega, by omega⟩, ?_⟩
          refine ⟨rfl, rfl, fun _ => rfl, by simp [*, natL_len]; omega, ?_⟩
          refine ⟨rfl, rfl, by simp [*, natL_len]; omega, ?_⟩
          refine ⟨by omega, ?_⟩
          refine ⟨rfl, by omega, fun e85 h85 => ?_⟩
          refine ⟨c_l15Int _, ?_⟩
          refine ⟨rfl, rfl, fun _ => rfl, by simp [*, natL_len]; omega, ?_⟩
          refine ⟨⟨by omega, by omega⟩, ?_⟩
          exact ⟨i + 1, bs ++ [((p.objective.length : Nat) : Int) + (i : Int)], cl ++ [rx], ls ++ [(⟨e85, (1 : Int)⟩ : RationalD)], rfl, rfl, rfl, rfl, rfl, rfl, ⟨by omega, by rw [hbs, natL_snoc], by rw [hcl, hrw', take_snoc hr]; simp, by rw [hls, take_snoc h85]; simp [wholeR]⟩, by omega⟩
      · replace c2 := of_decide_eq_false c2
        have hi' : i = p.rows.length := by omega
        subst hi'
        refine ⟨?_, ?_, ?_, ?_, ?_, ?_, ?_, ?_, trivial⟩
        · first | (simp [initD, c0, zeroDic]; done) | (simp [initD, c0, hfr, hbs, hcl]; done) | (simp [initD, c0, hfr, hbs, hcl, hcs, hls, ← b4]; done)
        · first | (simp [initD, c0, zeroDic]; done) | (simp [initD, c0, hfr, hbs, hcl]; done) | (simp [initD, c0, hfr, hbs, hcl, hcs, hls, ← b4]; done)
        · first | (simp [initD, c0, zeroDic]; done) | (simp [initD, c0, hfr, hbs, hcl]; done) | (simp [initD, c0, hfr, hbs, hcl, hcs, hls, ← b4]; done)
        · first | (simp [initD, c0, zeroDic]; done) | (simp [initD, c0, hfr, hbs, hcl]; done) | (simp [initD, c0, hfr, hbs, hcl, hcs, hls, ← b4]; done)
        · first | (simp [initD, c0, zeroDic]; done) | (simp [initD, c0, hfr, hbs, hcl]; done) | (simp [initD, c0, hfr, hbs, hcl, hcs, hls, ← b4]; done)
        · first | (simp [initD, c0, zeroDic]; done) | (simp [initD, c0, hfr, hbs, hcl]; done) | (simp [initD, c0, hfr, hbs, hcl, hcs, hls, ← b4]; done)
        · first | (simp [initD, c0, zeroDic]; done) | (simp [initD, c0, hfr, hbs, hcl]; done) | (simp [initD, c0, hfr, hbs, hcl, hcs, hls, ← b4]; done)
        · first | (simp [initD, c0, zeroDic]; done) | (simp [initD, c0, hfr, hbs, hcl]; done) | (simp [initD, c0, hfr, hbs, hcl, hcs, hls, ← b4]; done)
end Go.Proofs.Ytcgjlddpbkponaa
