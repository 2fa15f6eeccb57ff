/-
  Constraints out of statistics, both sides.
-/
import Derived.Test.YtjlagjhmlmfjeaaGreatLa
namespace Go.Proofs.YtjlagjhmlmfjeaaGreat
open Go.ChangeShapes Go.WideShapes Go.ChangeAt Go.RowKit
set_option linter.unusedVariables false
set_option linter.unusedSimpArgs false
set_option maxRecDepth 100000 in
set_option maxHeartbeats 4000000 in
theorem vss_spec (a : AtomD) (m : Int) : Con Tryz.prog 80 [.agg [.str a.name, .sl 3 1 (a.vars.map intD)], .one (.int .i64 m)] (vI (vsS m a.vars (min a.vars.length 3))) [] := by
  refine con_x tbOk mixedW Tryz.func80 (by kernel_rfl) (.loop (Nat × Int) (Q2 Nat Int) [5, 6, 7, 8, 9, 10, 11, 12, 13, 14, 15, 16, 17, 18, 19, 20, 21, 22, 23, 24, 25, 26, 27, 28, 29, 30, 31, 32, 33, 34, 35, 36, 37, 38] [] (fun yy0 => [(6, vI (yy0.1 : Int)), (5, vI yy0.2)]) (fun yy0 => []) (fun yy0 => (yy0.1 ≤ a.vars.length ∧ yy0.1 ≤ 3) ∧ yy0.2 = vsS m a.vars yy0.1) (fun yy0 => a.vars.length - yy0.1) (fun yy0 => .len a.vars.length <| .br (.lit <| .lit <| .br (.br (.elem Int intD a.vars (fun e27 => .call (vB (inB e27 (0 : Int) (3 : Int))) [] <| .lit <| .br (.elem Int intD a.vars (fun e35 => .back [])) (.back []))) (.back [])) (.fin [])) (.fin []))) ?_
  refine Eq.mpr (by kernel_rfl : _ = ((a.vars.map intD).length ≤ 9223372036854775807 → (∃ (k : Nat) (o : Int), (0 : Int) = (k : Int) ∧ (0 : Int) = o ∧ (k ≤ a.vars.length ∧ k ≤ 3) ∧ o = vsS m a.vars k) ∧ ∀ (k : Nat) (o : Int), ((k ≤ a.vars.length ∧ k ≤ 3) ∧ o = vsS m a.vars k) → (a.vars.map intD).length = a.vars.length ∧ (((decide ((k : Int) < ((a.vars.length : Nat) : Int))) = true → ((decide ((k : Int) < (3 : Int))) = true → (0 ≤ (k : Int) ∧ (k : Int) ≤ 64) ∧ (((decide ((bitI .and .i64 (m / 2 ^ k) (1 : Int)) = (1 : Int))) = true → 0 ≤ (k : Int) ∧ (a.vars.map intD = a.vars.map intD ∧ k < a.vars.length ∧ ∀ e27, a.vars[k]? = some e27 → Con Tryz.prog 148 [.one (.int .i64 e27), .one (.int .i64 (0 : Int)), .one (.int .i64 (3 : Int))] (vB (inB e27 (0 : Int) (3 : Int))) [] ∧ (((inB e27 (0 : Int) (3 : Int)) = true → 0 ≤ (k : Int) ∧ (a.vars.map intD = a.vars.map intD ∧ k < a.vars.length ∧ ∀ e35, a.vars[k]? = some e35 → (0 ≤ e35 ∧ e35 ≤ 64) ∧ inR ((1 : Int) * 2 ^ (Int.toNat e35)) ∧ inR ((k : Int) + (1 : Int)) ∧ ∃ (k' : Nat) (o' : Int), ((k : Int) + (1 : Int)) = (k' : Int) ∧ (bitI .or .i64 o ((1 : Int) * 2 ^ (Int.toNat e35))) = o' ∧ ((k' ≤ a.vars.length ∧ k' ≤ 3) ∧ o' = vsS m a.vars k') ∧ a.vars.length - k' < a.vars.length - k)) ∧ ((inB e27 (0 : Int) (3 : Int)) = false → inR ((k : Int) + (1 : Int)) ∧ ∃ (k' : Nat) (o' : Int), ((k : Int) + (1 : Int)) = (k' : Int) ∧ o = o' ∧ ((k' ≤ a.vars.length ∧ k' ≤ 3) ∧ o' = vsS m a.vars k') ∧ a.vars.length - k' < a.vars.length - k)))) ∧ ((decide ((bitI .and .i64 (m / 2 ^ k) (1 : Int)) = (1 : Int))) = false → inR ((k : Int) + (1 : Int)) ∧ ∃ (k' : Nat) (o' : Int), ((k : Int) + (1 : Int)) = (k' : Int) ∧ o = o' ∧ ((k' ≤ a.vars.length ∧ k' ≤ 3) ∧ o' = vsS m a.vars k') ∧ a.vars.length - k' < a.vars.length - k))) ∧ ((decide ((k : Int) < (3 : Int))) = false → o = (vsS m a.vars (min a.vars.length 3)) ∧ True)) ∧ ((decide ((k : Int) < ((a.vars.length : Nat) : Int))) = false → o = (vsS m a.vars (min a.vars.length 3)) ∧ True)))) ?_
  intro n0
  simp only [List.length_map] at n0
  refine ⟨⟨0, 0, rfl, rfl, ⟨Nat.zero_le _, by omega⟩, rfl⟩, fun k o ⟨hk, hv⟩ => ?_⟩
  refine ⟨List.length_map _, ?_⟩
  refine ⟨fun g12 => ?_, fun g12 => ?_⟩
  · replace g12 := of_decide_eq_true g12
    refine ⟨fun c0 => ?_, fun c0 => ?_⟩
    · replace c0 := of_decide_eq_true c0
      refine ⟨⟨by omega, by omega⟩, ?_⟩
      refine ⟨fun g23 => ?_, fun g23 => ?_⟩
      · replace g23 := of_decide_eq_true g23
        refine ⟨by omega, ?_⟩
        refine ⟨rfl, by omega, fun e27 h27 => ?_⟩
        try (obtain rfl := (same_at h27 h27).symm)
        refine ⟨in_spec _ _ _, ?_⟩
        refine ⟨fun c1 => ?_, fun c1 => ?_⟩
        · obtain ⟨w1, w2, w3⟩ := two_in c1
          refine ⟨by omega, ?_⟩
          refine ⟨rfl, by omega, fun e35 h35 => ?_⟩
          try (obtain rfl := (same_at h27 h35).symm)
          refine ⟨⟨by omega, by omega⟩, ?_⟩
          refine ⟨by first | exact w1 | exact ⟨by omega, by omega⟩, ?_⟩
          refine ⟨by first | exact w1 | exact ⟨by omega, by omega⟩, ?_⟩
          exact ⟨k + 1, _, rfl, rfl, ⟨by omega, by first | (rw [vsS_yes h27 g23 c1, hv]; done) | (rw [vsS_no h27 (by simp [g23, c1]), hv]; done) | (obtain ⟨y, hy⟩ := at_some (l := a.vars) (k := k) (by omega); rw [vsS_no hy (by simp [g23]), hv])⟩, by omega⟩
        · refine ⟨by first | exact w1 | exact ⟨by omega, by omega⟩, ?_⟩
          exact ⟨k + 1, _, rfl, rfl, ⟨by omega, by first | (rw [vsS_yes h27 g23 c1, hv]; done) | (rw [vsS_no h27 (by simp [g23, c1]), hv]; done) | (obtain ⟨y, hy⟩ := at_some (l := a.vars) (k := k) (by omega); rw [vsS_no hy (by simp [g23]), hv])⟩, by omega⟩
      · replace g23 := of_decide_eq_false g23
        refine ⟨by first | exact w1 | exact ⟨by omega, by omega⟩, ?_⟩
        exact ⟨k + 1, _, rfl, rfl, ⟨by omega, by first | (rw [vsS_yes h27 g23 c1, hv]; done) | (rw [vsS_no h27 (by simp [g23, c1]), hv]; done) | (obtain ⟨y, hy⟩ := at_some (l := a.vars) (k := k) (by omega); rw [vsS_no hy (by simp [g23]), hv])⟩, by omega⟩
    · replace c0 := of_decide_eq_false c0
      refine ⟨?_, trivial⟩
      · (rw [hv]; congr 1; omega)
  · replace g12 := of_decide_eq_false g12
    refine ⟨?_, trivial⟩
    · (rw [hv]; congr 1; omega)

set_option maxRecDepth 100000 in
set_option maxHeartbeats 4000000 in
theorem tabC_impl (x : TableStatsD) (a : AtomD) (hc : cTableStats x ≤ 1048576) (ha : cAtom a ≤ 1048576) : Con Tryz.prog 32 [.agg [.str x.name, .int .i64 x.arity, .int .i64 x.rowCount, .sl 157 3 (x.groups.map eGroupStats)], .agg [.str a.name, .sl 3 1 (a.vars.map intD)]] (.own 0) [(0, .arr 122 3 true ((tabC x a).map eSizeConstraint))] := by
  refine con_x tbOk mixedW Tryz.func32 (by kernel_rfl) (.call (vB (okStats x)) [] <| .br (.fin []) (.lit <| .lit <| .lit <| .br (.fin []) (.len a.vars.length <| .lit <| .lit <| .lit <| .lit <| .br (.fin []) (.loop (Nat × (List SizeConstraintD)) (Q2 Nat (List SizeConstraintD)) [5, 6, 7, 8, 9, 26, 27, 28, 29, 30, 31, 32, 33, 34, 35, 36, 37, 38, 39, 40, 41, 42, 43, 44, 45, 46, 47, 48, 49, 50, 51, 52, 53, 54, 55, 56] [2600, 3600, 4100, 5500, 5600] (fun yy0 => [(6, vI (yy0.1 : Int)), (5, .own 2600)]) (fun yy0 => [(2600, some (.arr 122 3 true (yy0.2.map eSizeConstraint)))]) (fun yy0 => yy0.1 ≤ ((2 : Int) ^ x.arity.toNat - 1).toNat ∧ yy0.2 = (List.range yy0.1).map (tcC x a)) (fun yy0 => ((2 : Int) ^ x.arity.toNat - 1).toNat - yy0.1) (fun yy0 => .br (.call (.own 0) [(0, .arr 3 1 true ((bitsZ (yy0.1 : Int)).map intD))] <| .call (.tup [.own 0, vB ((selR a.vars (bitsZ (yy0.1 : Int))).2)]) [(0, .arr 3 1 true (((selR a.vars (bitsZ (yy0.1 : Int))).1).map intD))] <| .call (vI (vsetI ((selR a.vars (bitsZ (yy0.1 : Int))).1))) [] <| .call (vI (vsetI a.vars)) [] <| .call (vI ((seqS x (bitsZ (yy0.1 : Int))).getD 0 0)) [] <| .call (vI (clog ((seqS x (bitsZ (yy0.1 : Int))).getD 0 0))) [] <| .app SizeConstraintD eSizeConstraint yy0.2 ([(⟨vsetI ((selR a.vars (bitsZ (yy0.1 : Int))).1), vsetI a.vars, clog ((seqS x (bitsZ (yy0.1 : Int))).getD 0 0)⟩ : SizeConstraintD)] : List SizeConstraintD) <| .back [(2600, 5600)]) (.fin [(0, 2600)])))))) ?_
  refine Eq.mpr (by kernel_rfl : _ = ((x.groups.map eGroupStats).length ≤ 9223372036854775807 → (a.vars.map intD).length ≤ 9223372036854775807 → Con Tryz.prog 84 [.agg [.str x.name, .int .i64 x.arity, .int .i64 x.rowCount, .sl 157 3 (x.groups.map eGroupStats)]] (vB (okStats x)) [] ∧ (((!(okStats x)) = true → [] = (tabC x a).map eSizeConstraint ∧ True) ∧ ((!(okStats x)) = false → ((decide (x.rowCount = (0 : Int))) = true → [] = (tabC x a).map eSizeConstraint ∧ True) ∧ ((decide (x.rowCount = (0 : Int))) = false → (a.vars.map intD).length = a.vars.length ∧ (((!(decide (((a.vars.length : Nat) : Int) = x.arity))) = true → [] = (tabC x a).map eSizeConstraint ∧ True) ∧ ((!(decide (((a.vars.length : Nat) : Int) = x.arity))) = false → (∃ (m : Nat) (out : List SizeConstraintD), (0 : Int) = (m : Int) ∧ [] = out.map eSizeConstraint ∧ m ≤ ((2 : Int) ^ x.arity.toNat - 1).toNat ∧ out = (List.range m).map (tcC x a)) ∧ ∀ (m : Nat) (out : List SizeConstraintD), (m ≤ ((2 : Int) ^ x.arity.toNat - 1).toNat ∧ out = (List.range m).map (tcC x a)) → (0 ≤ x.arity ∧ x.arity ≤ 64) ∧ (inR ((1 : Int) * 2 ^ (Int.toNat x.arity)) ∧ (inR (((1 : Int) * 2 ^ (Int.toNat x.arity)) - (1 : Int)) ∧ (((decide ((m : Int) < (((1 : Int) * 2 ^ (Int.toNat x.arity)) - (1 : Int)))) = true → Con Tryz.prog 85 [.one (.int .i64 (m : Int))] (.own 0) [(0, .arr 3 1 true ((bitsZ (m : Int)).map intD))] ∧ Con Tryz.prog 86 [.one (.sl 3 1 (a.vars.map intD)), .one (.sl 3 1 ((bitsZ (m : Int)).map intD))] (.tup [.own 0, vB ((selR a.vars (bitsZ (m : Int))).2)]) [(0, .arr 3 1 true (((selR a.vars (bitsZ (m : Int))).1).map intD))] ∧ Con Tryz.prog 87 [.one (.sl 3 1 (((selR a.vars (bitsZ (m : Int))).1).map intD))] (vI (vsetI ((selR a.vars (bitsZ (m : Int))).1))) [] ∧ Con Tryz.prog 87 [.one (.sl 3 1 (a.vars.map intD))] (vI (vsetI a.vars)) [] ∧ Con Tryz.prog 23 [.agg [.str x.name, .int .i64 x.arity, .int .i64 x.rowCount, .sl 157 3 (x.groups.map eGroupStats)], .one (.sl 3 1 ((bitsZ (m : Int)).map intD))] (vI ((seqS x (bitsZ (m : Int))).getD 0 0)) [] ∧ Con Tryz.prog 88 [.one (.int .i64 ((seqS x (bitsZ (m : Int))).getD 0 0))] (vI (clog ((seqS x (bitsZ (m : Int))).getD 0 0))) [] ∧ out.map eSizeConstraint = out.map eSizeConstraint ∧ [[.int .i64 (vsetI ((selR a.vars (bitsZ (m : Int))).1)), .int .i64 (vsetI a.vars), .int .i64 (clog ((seqS x (bitsZ (m : Int))).getD 0 0))]] = ([(⟨vsetI ((selR a.vars (bitsZ (m : Int))).1), vsetI a.vars, clog ((seqS x (bitsZ (m : Int))).getD 0 0)⟩ : SizeConstraintD)] : List SizeConstraintD).map eSizeConstraint ∧ (∀ x, flatB (eSizeConstraint x) = true) ∧ (out.length + ([(⟨vsetI ((selR a.vars (bitsZ (m : Int))).1), vsetI a.vars, clog ((seqS x (bitsZ (m : Int))).getD 0 0)⟩ : SizeConstraintD)] : List SizeConstraintD).length) * 24 ≤ 140737488355328 ∧ inR ((m : Int) + (1 : Int)) ∧ ∃ (m' : Nat) (out' : List SizeConstraintD), ((m : Int) + (1 : Int)) = (m' : Int) ∧ (out ++ [(⟨vsetI ((selR a.vars (bitsZ (m : Int))).1), vsetI a.vars, clog ((seqS x (bitsZ (m : Int))).getD 0 0)⟩ : SizeConstraintD)]).map eSizeConstraint = out'.map eSizeConstraint ∧ (m' ≤ ((2 : Int) ^ x.arity.toNat - 1).toNat ∧ out' = (List.range m').map (tcC x a)) ∧ ((2 : Int) ^ x.arity.toNat - 1).toNat - m' < ((2 : Int) ^ x.arity.toNat - 1).toNat - m) ∧ ((decide ((m : Int) < (((1 : Int) * 2 ^ (Int.toNat x.arity)) - (1 : Int)))) = false → out.map eSizeConstraint = (tabC x a).map eSizeConstraint ∧ True))))))))))) ?_
  intro n0 n1
  simp only [List.length_map] at n0 n1
  have q3 : cAtom a = a.name.size + cIntS a.vars := rfl
  have q4 : cIntS a.vars = a.vars.length := rfl
  refine ⟨okS_impl _ (by omega), ?_⟩
  refine ⟨fun g13 => ?_, fun g13 => ?_⟩
  · replace g13 := nt g13
    have hbad : tcOk x a = false := by first | (simp [tcOk, *]; done) | (simp [tcOk, *] at *; omega)
    refine ⟨?_, trivial⟩
    · first | (rw [tabC_no hbad] <;> rfl) | (rw [tabC_yes hok, ho, show ((2 : Int) ^ x.arity.toNat - 1).toNat = m by omega])
  · replace g13 := nf g13
    refine ⟨fun g18 => ?_, fun g18 => ?_⟩
    · replace g18 := of_decide_eq_true g18
      have hbad : tcOk x a = false := by first | (simp [tcOk, *]; done) | (simp [tcOk, *] at *; omega)
      refine ⟨?_, trivial⟩
      · first | (rw [tabC_no hbad] <;> rfl) | (rw [tabC_yes hok, ho, show ((2 : Int) ^ x.arity.toNat - 1).toNat = m by omega])
    · replace g18 := of_decide_eq_false g18
      refine ⟨List.length_map _, ?_⟩
      refine ⟨fun c0 => ?_, fun c0 => ?_⟩
      · replace c0 := of_decide_eq_false (nt c0)
        have hbad : tcOk x a = false := by first | (simp [tcOk, *]; done) | (simp [tcOk, *] at *; omega)
        refine ⟨?_, trivial⟩
        · first | (rw [tabC_no hbad] <;> rfl) | (rw [tabC_yes hok, ho, show ((2 : Int) ^ x.arity.toNat - 1).toNat = m by omega])
      · replace c0 := of_decide_eq_true (nf c0)
        have hok : tcOk x a = true := by first | (simp [tcOk, *]; done) | (simp [tcOk, *] at *; omega)
        obtain ⟨hS, hA⟩ := tcOk_parts hok
        have hn := okS_arity hS
        have hp := pow_small hn
        refine ⟨⟨0, ([] : List SizeConstraintD), rfl, rfl, Nat.zero_le _, rfl⟩, fun m out ⟨hm, ho⟩ => ?_⟩
        refine ⟨⟨by omega, by omega⟩, ?_⟩
        refine ⟨⟨by omega, by omega⟩, ?_⟩
        refine ⟨⟨by omega, by omega⟩, ?_⟩
        refine ⟨fun c1 => ?_, fun c1 => ?_⟩
        · replace c1 := of_decide_eq_true c1
          have hbl : (bitsZ (m : Int)).length ≤ 3 := bitsN_len _ 3
          have hE := sel_bits (m := (m : Int)) hn hA (by omega) (by omega)
          have hE2 := vsS_three (m := (m : Int)) hn hA (by omega) (by omega)
          refine ⟨bits_impl (m : Int) (by omega), ?_⟩
          refine ⟨sel_impl _ _ (by omega), ?_⟩
          refine ⟨vset_impl _, ?_⟩
          refine ⟨vset_impl _, ?_⟩
          refine ⟨sdeg_impl _ (bitsZ (m : Int)) (by omega) (by omega), ?_⟩
          refine ⟨clog_impl _, ?_⟩
          refine ⟨rfl, rfl, fun _ => rfl, by first | omega | (simp [ho]; omega), ?_⟩
          refine ⟨⟨by omega, by omega⟩, ?_⟩
          exact ⟨m + 1, _, rfl, rfl, ⟨by omega, by rw [ho, List.range_succ, List.map_append, List.map_cons, List.map_nil, tcC]; first | (rw [hE]; done) | (rw [hE2]; done)⟩, by omega⟩
        · replace c1 := of_decide_eq_false c1
          refine ⟨?_, trivial⟩
          · first | (rw [tabC_no hbad] <;> rfl) | (rw [tabC_yes hok, ho, show ((2 : Int) ^ x.arity.toNat - 1).toNat = m by omega])

set_option maxRecDepth 100000 in
set_option maxHeartbeats 4000000 in
theorem tabC_spec (x : TableStatsD) (a : AtomD) (hc : cTableStats x ≤ 1048576) (ha : cAtom a ≤ 1048576) : Con Tryz.prog 30 [.agg [.str x.name, .int .i64 x.arity, .int .i64 x.rowCount, .sl 157 3 (x.groups.map eGroupStats)], .agg [.str a.name, .sl 3 1 (a.vars.map intD)]] (.own 0) [(0, .arr 122 3 true ((tabC x a).map eSizeConstraint))] := by
  refine con_x tbOk mixedW Tryz.func30 (by kernel_rfl) (.call (vB (okStats x)) [] <| .br (.fin [(0, 700)]) (.lit <| .lit <| .lit <| .br (.fin [(0, 700)]) (.len a.vars.length <| .lit <| .lit <| .lit <| .lit <| .br (.fin [(0, 700)]) (.loop (Nat × (List SizeConstraintD)) (Q2 Nat (List SizeConstraintD)) [5, 6, 7, 25, 26, 27, 28, 29, 30, 31, 32, 33, 34, 35, 36, 37, 38, 39, 40, 41, 42, 43, 44, 45, 46, 47] [700, 4200, 4600, 4700] (fun yy0 => [(6, vI (yy0.1 : Int)), (5, .own 700)]) (fun yy0 => [(700, some (.arr 122 3 true (yy0.2.map eSizeConstraint)))]) (fun yy0 => yy0.1 ≤ ((2 : Int) ^ x.arity.toNat - 1).toNat ∧ yy0.2 = (List.range yy0.1).map (tcC x a)) (fun yy0 => ((2 : Int) ^ x.arity.toNat - 1).toNat - yy0.1) (fun yy0 => .br (.call (vI (vsS (yy0.1 : Int) a.vars (min a.vars.length 3))) [] <| .call (vI (vsetI a.vars)) [] <| .call (.own 0) [(0, .arr 3 1 true ((bitsZ (yy0.1 : Int)).map intD))] <| .call (vI ((seqS x (bitsZ (yy0.1 : Int))).getD 0 0)) [] <| .call (vI (clog ((seqS x (bitsZ (yy0.1 : Int))).getD 0 0))) [] <| .app SizeConstraintD eSizeConstraint yy0.2 ([(⟨vsS (yy0.1 : Int) a.vars (min a.vars.length 3), vsetI a.vars, clog ((seqS x (bitsZ (yy0.1 : Int))).getD 0 0)⟩ : SizeConstraintD)] : List SizeConstraintD) <| .back [(700, 4700)]) (.fin [(0, 700)])))))) ?_
  refine Eq.mpr (by kernel_rfl : _ = ((x.groups.map eGroupStats).length ≤ 9223372036854775807 → (a.vars.map intD).length ≤ 9223372036854775807 → Con Tryz.prog 64 [.agg [.str x.name, .int .i64 x.arity, .int .i64 x.rowCount, .sl 157 3 (x.groups.map eGroupStats)]] (vB (okStats x)) [] ∧ (((!(okStats x)) = true → [] = (tabC x a).map eSizeConstraint ∧ True) ∧ ((!(okStats x)) = false → ((decide (x.rowCount = (0 : Int))) = true → [] = (tabC x a).map eSizeConstraint ∧ True) ∧ ((decide (x.rowCount = (0 : Int))) = false → (a.vars.map intD).length = a.vars.length ∧ (((!(decide (((a.vars.length : Nat) : Int) = x.arity))) = true → [] = (tabC x a).map eSizeConstraint ∧ True) ∧ ((!(decide (((a.vars.length : Nat) : Int) = x.arity))) = false → (∃ (m : Nat) (out : List SizeConstraintD), (0 : Int) = (m : Int) ∧ [] = out.map eSizeConstraint ∧ m ≤ ((2 : Int) ^ x.arity.toNat - 1).toNat ∧ out = (List.range m).map (tcC x a)) ∧ ∀ (m : Nat) (out : List SizeConstraintD), (m ≤ ((2 : Int) ^ x.arity.toNat - 1).toNat ∧ out = (List.range m).map (tcC x a)) → (0 ≤ x.arity ∧ x.arity ≤ 64) ∧ (inR ((1 : Int) * 2 ^ (Int.toNat x.arity)) ∧ (inR (((1 : Int) * 2 ^ (Int.toNat x.arity)) - (1 : Int)) ∧ (((decide ((m : Int) < (((1 : Int) * 2 ^ (Int.toNat x.arity)) - (1 : Int)))) = true → Con Tryz.prog 80 [.agg [.str a.name, .sl 3 1 (a.vars.map intD)], .one (.int .i64 (m : Int))] (vI (vsS (m : Int) a.vars (min a.vars.length 3))) [] ∧ Con Tryz.prog 81 [.one (.sl 3 1 (a.vars.map intD))] (vI (vsetI a.vars)) [] ∧ Con Tryz.prog 83 [.one (.int .i64 (m : Int))] (.own 0) [(0, .arr 3 1 true ((bitsZ (m : Int)).map intD))] ∧ Con Tryz.prog 21 [.agg [.str x.name, .int .i64 x.arity, .int .i64 x.rowCount, .sl 157 3 (x.groups.map eGroupStats)], .one (.sl 3 1 ((bitsZ (m : Int)).map intD))] (vI ((seqS x (bitsZ (m : Int))).getD 0 0)) [] ∧ Con Tryz.prog 82 [.one (.int .i64 ((seqS x (bitsZ (m : Int))).getD 0 0))] (vI (clog ((seqS x (bitsZ (m : Int))).getD 0 0))) [] ∧ out.map eSizeConstraint = out.map eSizeConstraint ∧ [[.int .i64 (vsS (m : Int) a.vars (min a.vars.length 3)), .int .i64 (vsetI a.vars), .int .i64 (clog ((seqS x (bitsZ (m : Int))).getD 0 0))]] = ([(⟨vsS (m : Int) a.vars (min a.vars.length 3), vsetI a.vars, clog ((seqS x (bitsZ (m : Int))).getD 0 0)⟩ : SizeConstraintD)] : List SizeConstraintD).map eSizeConstraint ∧ (∀ x, flatB (eSizeConstraint x) = true) ∧ (out.length + ([(⟨vsS (m : Int) a.vars (min a.vars.length 3), vsetI a.vars, clog ((seqS x (bitsZ (m : Int))).getD 0 0)⟩ : SizeConstraintD)] : List SizeConstraintD).length) * 24 ≤ 140737488355328 ∧ inR ((m : Int) + (1 : Int)) ∧ ∃ (m' : Nat) (out' : List SizeConstraintD), ((m : Int) + (1 : Int)) = (m' : Int) ∧ (out ++ [(⟨vsS (m : Int) a.vars (min a.vars.length 3), vsetI a.vars, clog ((seqS x (bitsZ (m : Int))).getD 0 0)⟩ : SizeConstraintD)]).map eSizeConstraint = out'.map eSizeConstraint ∧ (m' ≤ ((2 : Int) ^ x.arity.toNat - 1).toNat ∧ out' = (List.range m').map (tcC x a)) ∧ ((2 : Int) ^ x.arity.toNat - 1).toNat - m' < ((2 : Int) ^ x.arity.toNat - 1).toNat - m) ∧ ((decide ((m : Int) < (((1 : Int) * 2 ^ (Int.toNat x.arity)) - (1 : Int)))) = false → out.map eSizeConstraint = (tabC x a).map eSizeConstraint ∧ True))))))))))) ?_
  intro n0 n1
  simp only [List.length_map] at n0 n1
  have q3 : cAtom a = a.name.size + cIntS a.vars := rfl
  have q4 : cIntS a.vars = a.vars.length := rfl
  refine ⟨okS_spec _ (by omega), ?_⟩
  refine ⟨fun g11 => ?_, fun g11 => ?_⟩
  · replace g11 := nt g11
    have hbad : tcOk x a = false := by first | (simp [tcOk, *]; done) | (simp [tcOk, *] at *; omega)
    refine ⟨?_, trivial⟩
    · first | (rw [tabC_no hbad] <;> rfl) | (rw [tabC_yes hok, ho, show ((2 : Int) ^ x.arity.toNat - 1).toNat = m by omega])
  · replace g11 := nf g11
    refine ⟨fun g16 => ?_, fun g16 => ?_⟩
    · replace g16 := of_decide_eq_true g16
      have hbad : tcOk x a = false := by first | (simp [tcOk, *]; done) | (simp [tcOk, *] at *; omega)
      refine ⟨?_, trivial⟩
      · first | (rw [tabC_no hbad] <;> rfl) | (rw [tabC_yes hok, ho, show ((2 : Int) ^ x.arity.toNat - 1).toNat = m by omega])
    · replace g16 := of_decide_eq_false g16
      refine ⟨List.length_map _, ?_⟩
      refine ⟨fun c0 => ?_, fun c0 => ?_⟩
      · replace c0 := of_decide_eq_false (nt c0)
        have hbad : tcOk x a = false := by first | (simp [tcOk, *]; done) | (simp [tcOk, *] at *; omega)
        refine ⟨?_, trivial⟩
        · first | (rw [tabC_no hbad] <;> rfl) | (rw [tabC_yes hok, ho, show ((2 : Int) ^ x.arity.toNat - 1).toNat = m by omega])
      · replace c0 := of_decide_eq_true (nf c0)
        have hok : tcOk x a = true := by first | (simp [tcOk, *]; done) | (simp [tcOk, *] at *; omega)
        obtain ⟨hS, hA⟩ := tcOk_parts hok
        have hn := okS_arity hS
        have hp := pow_small hn
        refine ⟨⟨0, ([] : List SizeConstraintD), rfl, rfl, Nat.zero_le _, rfl⟩, fun m out ⟨hm, ho⟩ => ?_⟩
        refine ⟨⟨by omega, by omega⟩, ?_⟩
        refine ⟨⟨by omega, by omega⟩, ?_⟩
        refine ⟨⟨by omega, by omega⟩, ?_⟩
        refine ⟨fun c1 => ?_, fun c1 => ?_⟩
        · replace c1 := of_decide_eq_true c1
          have hbl : (bitsZ (m : Int)).length ≤ 3 := bitsN_len _ 3
          have hE := sel_bits (m := (m : Int)) hn hA (by omega) (by omega)
          have hE2 := vsS_three (m := (m : Int)) hn hA (by omega) (by omega)
          refine ⟨vss_spec _ _, ?_⟩
          refine ⟨vset_spec _, ?_⟩
          refine ⟨bits_spec (m : Int) (by omega), ?_⟩
          refine ⟨sdeg_spec _ (bitsZ (m : Int)) (by omega) (by omega), ?_⟩
          refine ⟨clog_spec _, ?_⟩
          refine ⟨rfl, rfl, fun _ => rfl, by first | omega | (simp [ho]; omega), ?_⟩
          refine ⟨⟨by omega, by omega⟩, ?_⟩
          exact ⟨m + 1, _, rfl, rfl, ⟨by omega, by rw [ho, List.range_succ, List.map_append, List.map_cons, List.map_nil, tcC]; first | (rw [hE]; done) | (rw [hE2]; done)⟩, by omega⟩
        · replace c1 := of_decide_eq_false c1
          refine ⟨?_, trivial⟩
          · first | (rw [tabC_no hbad] <;> rfl) | (rw [tabC_yes hok, ho, show ((2 : Int) ^ x.arity.toNat - 1).toNat = m by omega])
end Go.Proofs.YtjlagjhmlmfjeaaGreat
