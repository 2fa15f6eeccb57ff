/-
  Valid dictionaries, both sides.
-/
import Derived.Test.YtepphdhnkaiamaaLXc
import Derived.Test.YtepphdhnkaiamaaLWc
namespace Go.Proofs.Ytepphdhnkaiamaa
open Go.ChangeShapes Go.WideShapes Go.ChangeAt Go.RowKit
set_option linter.unusedVariables false
set_option linter.unusedSimpArgs false
set_option maxRecDepth 100000
set_option maxHeartbeats 4000000
theorem okDic_head2 {d : DictionaryD} (h : ¬ ((d.basic.length : Int) ≤ 64 ∧ (1 ≤ (d.others.length : Int) ∧ (d.others.length : Int) ≤ 15) ∧ (d.table.length : Int) = d.basic.length ∧ (d.limits.length : Int) = d.basic.length ∧ (d.costs.length : Int) = d.others.length)) : okDic d = false := by
  cases e : okDic d with
  | false => rfl
  | true =>
    obtain ⟨b1, b2, b3, _, _, b6, b7, _⟩ := okDic_bnd e
    exact absurd ⟨by omega, by omega, by omega, by omega, by omega⟩ h
theorem okDic_end {d : DictionaryD} (h : (d.basic.length : Int) ≤ 64 ∧ (1 ≤ (d.others.length : Int) ∧ (d.others.length : Int) ≤ 15) ∧ (d.table.length : Int) = d.basic.length) (h1 : okPerm (d.basic ++ d.others) = true) (h2 : d.table.all (fun r => okRats r d.others.length) = true) (h3 : okRats d.limits d.basic.length = true) (h4 : okRats d.costs d.others.length = true) : okDic d = validR d.value := by
  simp only [okDic, h1, h2, h3, h4, decide_eq_true h.1, decide_eq_true h.2.1, decide_eq_true h.2.2, Bool.true_and]

abbrev K_dic_impl (d : DictionaryD) : Prop := Con Try.prog 30 [.agg [.sl 3 1 (d.basic.map intD), .sl 3 1 (d.others.map intD), .sl 31 1 (d.table.map eRationalS), .sl 30 2 (d.limits.map eRational), .sl 30 2 (d.costs.map eRational), .int .i64 d.value.num, .int .i64 d.value.den]] (vB (okDic d)) []
theorem dic_impl (d : DictionaryD) (h0 : d.basic.length ≤ 1048576) (h1 : d.others.length ≤ 1048576) : K_dic_impl d := by
 refine con_y tbOk mixedW Try.func30 (by kernel_rfl) (.len d.basic.length <| .len d.others.length <| .br (.fin []) (.call (vB (decide ((1 : Int) ≤ ((d.others.length : Nat) : Int) ∧ ((d.others.length : Nat) : Int) ≤ (15 : Int)))) [] <| .lit <| .lit <| .br (.fin []) (.len d.table.length <| .lit <| .lit <| .lit <| .br (.fin []) (callP (k_cpI d.basic) <| .app Int intD d.basic d.others <| .callx [.own 0] [(0, .arr 3 1 true ((d.basic ++ d.others).map intD))] [(0, 3500)] (.tup []) [(0, .arr 3 1 true ((sortI (d.basic ++ d.others)).map intD))] <| .len ((sortI (d.basic ++ d.others)).length) <| .loop Nat (Q1 Nat) [6, 7, 40, 41, 42, 43, 44, 45, 46, 47, 48] [] (fun k => [(40, vI (k : Int))]) (fun k => []) (fun k => k ≤ (sortI (d.basic ++ d.others)).length ∧ (∀ i, i < k → (sortI (d.basic ++ d.others))[i]? = some ((i : Nat) : Int))) (fun k => (sortI (d.basic ++ d.others)).length - k) (fun k => .br (.len ((sortI (d.basic ++ d.others)).length) <| .elem _ intD (sortI (d.basic ++ d.others)) (fun e44 => .br (.fin []) (.back []))) (.len d.table.length <| .loop Nat (Q1 Nat) [9, 52, 53, 54, 55, 56, 57, 58, 59, 60] [] (fun j => [(52, vI (j : Int))]) (fun j => []) (fun j => j ≤ d.table.length ∧ (d.table.take j).all (fun r => okRats r d.others.length) = true) (fun j => d.table.length - j) (fun j => .br (.elem _ eRationalS d.table (fun e54 => .call (vB (decide ((e54.length : Int) = ((d.others.length : Nat) : Int)) && e54.all validR)) [] <| .br (.fin []) (.back []))) (.call (vB (decide ((d.limits.length : Int) = ((d.basic.length : Nat) : Int)) && d.limits.all validR)) [] <| .br (.call (vB (decide ((d.costs.length : Int) = ((d.others.length : Nat) : Int)) && d.costs.all validR)) [] <| .lit <| .br (.call (vB (validR d.value)) [] <| .fin []) (.fin [])) (.fin []))))))))) (p := (d.basic.map intD).length ≤ 9223372036854775807 → (d.others.map intD).length ≤ 9223372036854775807 → (d.table.map eRationalS).length ≤ 9223372036854775807 → (d.limits.map eRational).length ≤ 9223372036854775807 → (d.costs.map eRational).length ≤ 9223372036854775807 → Lm intD d.basic ∧ (Lm intD d.others ∧ (((decide ((64 : Int) < ((d.basic.length : Nat) : Int))) = true → (false) = (okDic d) ∧ True) ∧ ((decide ((64 : Int) < ((d.basic.length : Nat) : Int))) = false → K_in_impl ((d.others.length : Nat) : Int) (1 : Int) (15 : Int) ∧ (((!(decide ((1 : Int) ≤ ((d.others.length : Nat) : Int) ∧ ((d.others.length : Nat) : Int) ≤ (15 : Int)))) = true → (false) = (okDic d) ∧ True) ∧ ((!(decide ((1 : Int) ≤ ((d.others.length : Nat) : Int) ∧ ((d.others.length : Nat) : Int) ≤ (15 : Int)))) = false → Lm eRationalS d.table ∧ (((!(decide (((d.table.length : Nat) : Int) = ((d.basic.length : Nat) : Int)))) = true → (false) = (okDic d) ∧ True) ∧ ((!(decide (((d.table.length : Nat) : Int) = ((d.basic.length : Nat) : Int)))) = false → K_cpI d.basic ∧ (d.basic.map intD = d.basic.map intD ∧ d.others.map intD = d.others.map intD ∧ (∀ x, flatB (intD x) = true) ∧ (d.basic.length + d.others.length) * 8 ≤ 140737488355328 ∧ (Con2 Try.prog 76 [.own 0] [(0, .arr 3 1 true ((d.basic ++ d.others).map intD))] (.tup []) [(0, .arr 3 1 true ((sortI (d.basic ++ d.others)).map intD))] ∧ (d.basic ++ d.others).map intD = (d.basic ++ d.others).map intD ∧ (Lm intD (sortI (d.basic ++ d.others)) ∧ ((∃ (k : Nat), (0 : Int) = (k : Int) ∧ k ≤ (sortI (d.basic ++ d.others)).length ∧ (∀ i, i < k → (sortI (d.basic ++ d.others))[i]? = some ((i : Nat) : Int))) ∧ ∀ (k : Nat), (k ≤ (sortI (d.basic ++ d.others)).length ∧ (∀ i, i < k → (sortI (d.basic ++ d.others))[i]? = some ((i : Nat) : Int))) → ((decide ((k : Int) < (((sortI (d.basic ++ d.others)).length : Nat) : Int))) = true → 0 ≤ (k : Int) ∧ Lm intD (sortI (d.basic ++ d.others)) ∧ (k : Int) < (((sortI (d.basic ++ d.others)).length : Nat) : Int) ∧ Em intD (sortI (d.basic ++ d.others)) k fun e44 => ((!(decide (e44 = (k : Int)))) = true → (false) = (okDic d) ∧ True) ∧ ((!(decide (e44 = (k : Int)))) = false → inR ((k : Int) + (1 : Int)) ∧ ∃ (k' : Nat), ((k : Int) + (1 : Int)) = (k' : Int) ∧ (k' ≤ (sortI (d.basic ++ d.others)).length ∧ (∀ i, i < k' → (sortI (d.basic ++ d.others))[i]? = some ((i : Nat) : Int))) ∧ (sortI (d.basic ++ d.others)).length - k' < (sortI (d.basic ++ d.others)).length - k)) ∧ ((decide ((k : Int) < (((sortI (d.basic ++ d.others)).length : Nat) : Int))) = false → Lm eRationalS d.table ∧ ((∃ (j : Nat), (0 : Int) = (j : Int) ∧ j ≤ d.table.length ∧ (d.table.take j).all (fun r => okRats r d.others.length) = true) ∧ ∀ (j : Nat), (j ≤ d.table.length ∧ (d.table.take j).all (fun r => okRats r d.others.length) = true) → ((decide ((j : Int) < ((d.table.length : Nat) : Int))) = true → 0 ≤ (j : Int) ∧ Em eRationalS d.table j fun e54 => K_vrs_impl e54 ((d.others.length : Nat) : Int) ∧ (((!(decide ((e54.length : Int) = ((d.others.length : Nat) : Int)) && e54.all validR)) = true → (false) = (okDic d) ∧ True) ∧ ((!(decide ((e54.length : Int) = ((d.others.length : Nat) : Int)) && e54.all validR)) = false → inR ((j : Int) + (1 : Int)) ∧ ∃ (j' : Nat), ((j : Int) + (1 : Int)) = (j' : Int) ∧ (j' ≤ d.table.length ∧ (d.table.take j').all (fun r => okRats r d.others.length) = true) ∧ d.table.length - j' < d.table.length - j))) ∧ ((decide ((j : Int) < ((d.table.length : Nat) : Int))) = false → K_vrs_impl d.limits ((d.basic.length : Nat) : Int) ∧ (((decide ((d.limits.length : Int) = ((d.basic.length : Nat) : Int)) && d.limits.all validR) = true → K_vrs_impl d.costs ((d.others.length : Nat) : Int) ∧ (((decide ((d.costs.length : Int) = ((d.others.length : Nat) : Int)) && d.costs.all validR) = true → K_val_impl d.value ∧ (validR d.value) = (okDic d) ∧ True) ∧ ((decide ((d.costs.length : Int) = ((d.others.length : Nat) : Int)) && d.costs.all validR) = false → (false) = (okDic d) ∧ True))) ∧ ((decide ((d.limits.length : Int) = ((d.basic.length : Nat) : Int)) && d.limits.all validR) = false → (false) = (okDic d) ∧ True))))))))))))))))) (by kernel_rfl) ?_
 intro n0 n1 n2 n3 n4
 simp only [List.length_map] at n0 n1 n2 n3 n4
 refine ⟨List.length_map _, List.length_map _, fun g18 => ?_, fun g18 => ?_⟩
 ·replace g18 := yq g18
  refine ⟨?_, trivial⟩
  ·first | (exact (okDic_head2 (by omega)).symm) | (exact (okDic_perm (sort_no h44 (by omega))).symm) | (exact (okDic_cell h54 c4).symm) | (exact (okDic_lims g65).symm) | (exact (okDic_costs g71).symm) | (exact (okDic_end (by omega) hp hcl g65 g71).symm)
 ·replace g18 := nq g18
  refine ⟨in_impl _ _ _, fun g23 => ?_, fun g23 => ?_⟩
  ·replace g23 := nq (nt g23)
   refine ⟨?_, trivial⟩
   ·first | (exact (okDic_head2 (by omega)).symm) | (exact (okDic_perm (sort_no h44 (by omega))).symm) | (exact (okDic_cell h54 c4).symm) | (exact (okDic_lims g65).symm) | (exact (okDic_costs g71).symm) | (exact (okDic_end (by omega) hp hcl g65 g71).symm)
  ·replace g23 := yq (nf g23)
   refine ⟨List.length_map _, fun c0 => ?_, fun c0 => ?_⟩
   ·replace c0 := nq (nt c0)
    refine ⟨?_, trivial⟩
    ·first | (exact (okDic_head2 (by omega)).symm) | (exact (okDic_perm (sort_no h44 (by omega))).symm) | (exact (okDic_cell h54 c4).symm) | (exact (okDic_lims g65).symm) | (exact (okDic_costs g71).symm) | (exact (okDic_end (by omega) hp hcl g65 g71).symm)
   ·replace c0 := yq (nf c0)
    have hsl := sortI_len (d.basic ++ d.others)
    have hll : (d.basic ++ d.others).length = d.basic.length + d.others.length := List.length_append
    refine ⟨cpI _ (by omega), rfl, rfl, fun _ => rfl, by first | omega | (simp; omega), ?_⟩
    refine ⟨con_sortI (d.basic ++ d.others) (by first | omega | (simp; omega)), rfl, List.length_map _, ⟨0, rfl, Nat.zero_le _, fun i h => absurd h (Nat.not_lt_zero _)⟩, fun k ⟨hk, ha⟩ => ?_⟩
    refine ⟨fun c1 => ?_, fun c1 => ?_⟩
    ·replace c1 := yq c1
     refine ⟨by omega, List.length_map _, by omega, rfl, by omega, fun e44 h44 => ?_⟩
     refine ⟨fun c2 => ?_, fun c2 => ?_⟩
     ·replace c2 := nq (nt c2)
      refine ⟨?_, trivial⟩
      ·first | (exact (okDic_head2 (by omega)).symm) | (exact (okDic_perm (sort_no h44 (by omega))).symm) | (exact (okDic_cell h54 c4).symm) | (exact (okDic_lims g65).symm) | (exact (okDic_costs g71).symm) | (exact (okDic_end (by omega) hp hcl g65 g71).symm)
     ·replace c2 := yq (nf c2)
      refine ⟨⟨by omega, by omega⟩, ?_⟩
      exact ⟨k + 1, rfl, ⟨by omega, upN (p := fun i => (sortI (d.basic ++ d.others))[i]? = some ((i : Nat) : Int)) ha (by rw [h44, c2])⟩, by omega⟩
    ·replace c1 := nq c1
     have hp : okPerm (d.basic ++ d.others) = true := sort_okPerm fun i hi => ha i (by omega)
     refine ⟨List.length_map _, ⟨0, rfl, Nat.zero_le _, rfl⟩, fun j ⟨hj, hb⟩ => ?_⟩
     refine ⟨fun c3 => ?_, fun c3 => ?_⟩
     ·replace c3 := yq c3
      refine ⟨by omega, rfl, by omega, fun e54 h54 => ?_⟩
      refine ⟨vrs_impl e54 ((d.others.length : Nat) : Int), fun c4 => ?_, fun c4 => ?_⟩
      ·replace c4 := nt c4
       refine ⟨?_, trivial⟩
       ·first | (exact (okDic_head2 (by omega)).symm) | (exact (okDic_perm (sort_no h44 (by omega))).symm) | (exact (okDic_cell h54 c4).symm) | (exact (okDic_lims g65).symm) | (exact (okDic_costs g71).symm) | (exact (okDic_end (by omega) hp hcl g65 g71).symm)
      ·replace c4 := nf c4
       refine ⟨⟨by omega, by omega⟩, ?_⟩
       exact ⟨j + 1, rfl, ⟨by omega, all_snoc h54 hb c4⟩, by omega⟩
     ·replace c3 := nq c3
      have hcl := all_done (by omega) hb
      refine ⟨vrs_impl d.limits ((d.basic.length : Nat) : Int), fun g65 => ?_, fun g65 => ?_⟩
      ·refine ⟨vrs_impl d.costs ((d.others.length : Nat) : Int), fun g71 => ?_, fun g71 => ?_⟩
       ·refine ⟨val_impl d.value, ?_, trivial⟩
        ·first | (exact (okDic_head2 (by omega)).symm) | (exact (okDic_perm (sort_no h44 (by omega))).symm) | (exact (okDic_cell h54 c4).symm) | (exact (okDic_lims g65).symm) | (exact (okDic_costs g71).symm) | (exact (okDic_end (by omega) hp hcl g65 g71).symm)
       ·refine ⟨?_, trivial⟩
        ·first | (exact (okDic_head2 (by omega)).symm) | (exact (okDic_perm (sort_no h44 (by omega))).symm) | (exact (okDic_cell h54 c4).symm) | (exact (okDic_lims g65).symm) | (exact (okDic_costs g71).symm) | (exact (okDic_end (by omega) hp hcl g65 g71).symm)
      ·refine ⟨?_, trivial⟩
       ·first | (exact (okDic_head2 (by omega)).symm) | (exact (okDic_perm (sort_no h44 (by omega))).symm) | (exact (okDic_cell h54 c4).symm) | (exact (okDic_lims g65).symm) | (exact (okDic_costs g71).symm) | (exact (okDic_end (by omega) hp hcl g65 g71).symm)

abbrev K_dic_spec (d : DictionaryD) : Prop := Con Try.prog 31 [.agg [.sl 3 1 (d.basic.map intD), .sl 3 1 (d.others.map intD), .sl 31 1 (d.table.map eRationalS), .sl 30 2 (d.limits.map eRational), .sl 30 2 (d.costs.map eRational), .int .i64 d.value.num, .int .i64 d.value.den]] (vB (okDic d)) []
theorem dic_spec (d : DictionaryD) (h0 : d.basic.length ≤ 1048576) (h1 : d.others.length ≤ 1048576) : K_dic_spec d := by
 refine con_y tbOk mixedW Try.func31 (by kernel_rfl) (.len d.basic.length <| .len d.others.length <| .br (.fin []) (.call (vB (decide ((1 : Int) ≤ ((d.others.length : Nat) : Int) ∧ ((d.others.length : Nat) : Int) ≤ (15 : Int)))) [] <| .lit <| .lit <| .br (.fin []) (.len d.table.length <| .lit <| .lit <| .lit <| .br (.fin []) (.len d.limits.length <| .lit <| .lit <| .lit <| .br (.fin []) (.len d.costs.length <| .lit <| .lit <| .lit <| .br (.fin []) (.app Int intD ([] : List Int) d.basic <| .app Int intD (([] : List Int) ++ d.basic) d.others <| .loop Nat (Q1 Nat) [6, 49, 50, 51, 52, 53, 54, 55, 56, 57, 58, 59] [] (fun k => [(6, vI (k : Int))]) (fun k => []) (fun k => k ≤ d.basic.length + d.others.length ∧ (∀ i, i < k → ((([] : List Int) ++ d.basic) ++ d.others).any (isD (i : Nat)) = true)) (fun k => d.basic.length + d.others.length - k) (fun k => .br (.call (vB (((([] : List Int) ++ d.basic) ++ d.others).any (isD (k : Int)))) [] <| .br (.fin []) (.back [])) (.loop Nat (Q1 Nat) [7, 60, 61, 62, 63, 64, 65, 66, 67, 68, 69, 70, 71, 72, 73, 74, 75, 76, 77, 78, 79, 80, 81] [] (fun j => [(7, vI (j : Int))]) (fun j => []) (fun j => j ≤ d.basic.length ∧ (d.table.take j).all (fun r => okRats r d.others.length) = true) (fun j => d.basic.length - j) (fun j => .br (.elem _ eRationalS d.table (fun e68 => .len e68.length <| .br (.fin []) (.elem _ eRationalS d.table (fun e77 => .call (vB (e77.all validR)) [] <| .lit <| .lit <| .br (.fin []) (.back []))))) (.call (vB (d.limits.all validR)) [] <| .br (.call (vB (d.costs.all validR)) [] <| .lit <| .br (.call (vB (validR d.value)) [] <| .fin []) (.fin [])) (.fin []))))))))))) (p := (d.basic.map intD).length ≤ 9223372036854775807 → (d.others.map intD).length ≤ 9223372036854775807 → (d.table.map eRationalS).length ≤ 9223372036854775807 → (d.limits.map eRational).length ≤ 9223372036854775807 → (d.costs.map eRational).length ≤ 9223372036854775807 → Lm intD d.basic ∧ (Lm intD d.others ∧ (((decide ((64 : Int) < ((d.basic.length : Nat) : Int))) = true → (false) = (okDic d) ∧ True) ∧ ((decide ((64 : Int) < ((d.basic.length : Nat) : Int))) = false → K_in_spec ((d.others.length : Nat) : Int) (1 : Int) (15 : Int) ∧ (((!(decide ((1 : Int) ≤ ((d.others.length : Nat) : Int) ∧ ((d.others.length : Nat) : Int) ≤ (15 : Int)))) = true → (false) = (okDic d) ∧ True) ∧ ((!(decide ((1 : Int) ≤ ((d.others.length : Nat) : Int) ∧ ((d.others.length : Nat) : Int) ≤ (15 : Int)))) = false → Lm eRationalS d.table ∧ (((!(decide (((d.table.length : Nat) : Int) = ((d.basic.length : Nat) : Int)))) = true → (false) = (okDic d) ∧ True) ∧ ((!(decide (((d.table.length : Nat) : Int) = ((d.basic.length : Nat) : Int)))) = false → Lm eRational d.limits ∧ (((!(decide (((d.limits.length : Nat) : Int) = ((d.basic.length : Nat) : Int)))) = true → (false) = (okDic d) ∧ True) ∧ ((!(decide (((d.limits.length : Nat) : Int) = ((d.basic.length : Nat) : Int)))) = false → Lm eRational d.costs ∧ (((!(decide (((d.costs.length : Nat) : Int) = ((d.others.length : Nat) : Int)))) = true → (false) = (okDic d) ∧ True) ∧ ((!(decide (((d.costs.length : Nat) : Int) = ((d.others.length : Nat) : Int)))) = false → [] = ([] : List Int).map intD ∧ d.basic.map intD = d.basic.map intD ∧ (∀ x, flatB (intD x) = true) ∧ (([] : List Int).length + d.basic.length) * 8 ≤ 140737488355328 ∧ ((([] : List Int) ++ d.basic).map intD = (([] : List Int) ++ d.basic).map intD ∧ d.others.map intD = d.others.map intD ∧ (∀ x, flatB (intD x) = true) ∧ ((([] : List Int) ++ d.basic).length + d.others.length) * 8 ≤ 140737488355328 ∧ ((∃ (k : Nat), (0 : Int) = (k : Int) ∧ k ≤ d.basic.length + d.others.length ∧ (∀ i, i < k → ((([] : List Int) ++ d.basic) ++ d.others).any (isD (i : Nat)) = true)) ∧ ∀ (k : Nat), (k ≤ d.basic.length + d.others.length ∧ (∀ i, i < k → ((([] : List Int) ++ d.basic) ++ d.others).any (isD (i : Nat)) = true)) → inR (((d.basic.length : Nat) : Int) + ((d.others.length : Nat) : Int)) ∧ (((decide ((k : Int) < (((d.basic.length : Nat) : Int) + ((d.others.length : Nat) : Int)))) = true → K_hasD_spec ((([] : List Int) ++ d.basic) ++ d.others) (k : Int) ∧ (((!(((([] : List Int) ++ d.basic) ++ d.others).any (isD (k : Int)))) = true → (false) = (okDic d) ∧ True) ∧ ((!(((([] : List Int) ++ d.basic) ++ d.others).any (isD (k : Int)))) = false → inR ((k : Int) + (1 : Int)) ∧ ∃ (k' : Nat), ((k : Int) + (1 : Int)) = (k' : Int) ∧ (k' ≤ d.basic.length + d.others.length ∧ (∀ i, i < k' → ((([] : List Int) ++ d.basic) ++ d.others).any (isD (i : Nat)) = true)) ∧ d.basic.length + d.others.length - k' < d.basic.length + d.others.length - k))) ∧ ((decide ((k : Int) < (((d.basic.length : Nat) : Int) + ((d.others.length : Nat) : Int)))) = false → (∃ (j : Nat), (0 : Int) = (j : Int) ∧ j ≤ d.basic.length ∧ (d.table.take j).all (fun r => okRats r d.others.length) = true) ∧ ∀ (j : Nat), (j ≤ d.basic.length ∧ (d.table.take j).all (fun r => okRats r d.others.length) = true) → ((decide ((j : Int) < ((d.basic.length : Nat) : Int))) = true → 0 ≤ (j : Int) ∧ Em eRationalS d.table j fun e68 => Lm eRational e68 ∧ (((!(decide (((e68.length : Nat) : Int) = ((d.others.length : Nat) : Int)))) = true → (false) = (okDic d) ∧ True) ∧ ((!(decide (((e68.length : Nat) : Int) = ((d.others.length : Nat) : Int)))) = false → 0 ≤ (j : Int) ∧ Em eRationalS d.table j fun e77 => K_allR_spec e77 ∧ (((!(e77.all validR)) = true → (false) = (okDic d) ∧ True) ∧ ((!(e77.all validR)) = false → inR ((j : Int) + (1 : Int)) ∧ ∃ (j' : Nat), ((j : Int) + (1 : Int)) = (j' : Int) ∧ (j' ≤ d.basic.length ∧ (d.table.take j').all (fun r => okRats r d.others.length) = true) ∧ d.basic.length - j' < d.basic.length - j))))) ∧ ((decide ((j : Int) < ((d.basic.length : Nat) : Int))) = false → K_allR_spec d.limits ∧ (((d.limits.all validR) = true → K_allR_spec d.costs ∧ (((d.costs.all validR) = true → K_val_spec d.value ∧ (validR d.value) = (okDic d) ∧ True) ∧ ((d.costs.all validR) = false → (false) = (okDic d) ∧ True))) ∧ ((d.limits.all validR) = false → (false) = (okDic d) ∧ True))))))))))))))))))) (by kernel_rfl) ?_
 intro n0 n1 n2 n3 n4
 simp only [List.length_map] at n0 n1 n2 n3 n4
 refine ⟨List.length_map _, List.length_map _, fun g16 => ?_, fun g16 => ?_⟩
 ·replace g16 := yq g16
  refine ⟨?_, trivial⟩
  ·first | (exact (okDic_head2 (by omega)).symm) | (exact (okDic_perm (hasI_no (k := k) (by simp; omega) c2)).symm) | (exact (okDic_cell h68 (okRats_len (by omega))).symm) | (exact (okDic_cell h68 (okRats_all c4)).symm) | (exact (okDic_lims (okRats_all g85)).symm) | (exact (okDic_costs (okRats_all g90)).symm) | (exact (okDic_end (by omega) hp hcl (okRats_mk (by omega) g85) (okRats_mk (by omega) g90)).symm)
 ·replace g16 := nq g16
  refine ⟨in_spec _ _ _, fun g21 => ?_, fun g21 => ?_⟩
  ·replace g21 := nq (nt g21)
   refine ⟨?_, trivial⟩
   ·first | (exact (okDic_head2 (by omega)).symm) | (exact (okDic_perm (hasI_no (k := k) (by simp; omega) c2)).symm) | (exact (okDic_cell h68 (okRats_len (by omega))).symm) | (exact (okDic_cell h68 (okRats_all c4)).symm) | (exact (okDic_lims (okRats_all g85)).symm) | (exact (okDic_costs (okRats_all g90)).symm) | (exact (okDic_end (by omega) hp hcl (okRats_mk (by omega) g85) (okRats_mk (by omega) g90)).symm)
  ·replace g21 := yq (nf g21)
   refine ⟨List.length_map _, fun g28 => ?_, fun g28 => ?_⟩
   ·replace g28 := nq (nt g28)
    refine ⟨?_, trivial⟩
    ·first | (exact (okDic_head2 (by omega)).symm) | (exact (okDic_perm (hasI_no (k := k) (by simp; omega) c2)).symm) | (exact (okDic_cell h68 (okRats_len (by omega))).symm) | (exact (okDic_cell h68 (okRats_all c4)).symm) | (exact (okDic_lims (okRats_all g85)).symm) | (exact (okDic_costs (okRats_all g90)).symm) | (exact (okDic_end (by omega) hp hcl (okRats_mk (by omega) g85) (okRats_mk (by omega) g90)).symm)
   ·replace g28 := yq (nf g28)
    refine ⟨List.length_map _, fun g35 => ?_, fun g35 => ?_⟩
    ·replace g35 := nq (nt g35)
     refine ⟨?_, trivial⟩
     ·first | (exact (okDic_head2 (by omega)).symm) | (exact (okDic_perm (hasI_no (k := k) (by simp; omega) c2)).symm) | (exact (okDic_cell h68 (okRats_len (by omega))).symm) | (exact (okDic_cell h68 (okRats_all c4)).symm) | (exact (okDic_lims (okRats_all g85)).symm) | (exact (okDic_costs (okRats_all g90)).symm) | (exact (okDic_end (by omega) hp hcl (okRats_mk (by omega) g85) (okRats_mk (by omega) g90)).symm)
    ·replace g35 := yq (nf g35)
     refine ⟨List.length_map _, fun c0 => ?_, fun c0 => ?_⟩
     ·replace c0 := nq (nt c0)
      refine ⟨?_, trivial⟩
      ·first | (exact (okDic_head2 (by omega)).symm) | (exact (okDic_perm (hasI_no (k := k) (by simp; omega) c2)).symm) | (exact (okDic_cell h68 (okRats_len (by omega))).symm) | (exact (okDic_cell h68 (okRats_all c4)).symm) | (exact (okDic_lims (okRats_all g85)).symm) | (exact (okDic_costs (okRats_all g90)).symm) | (exact (okDic_end (by omega) hp hcl (okRats_mk (by omega) g85) (okRats_mk (by omega) g90)).symm)
     ·replace c0 := yq (nf c0)
      refine ⟨rfl, rfl, fun _ => rfl, by first | omega | (simp; omega), ?_⟩
      refine ⟨rfl, rfl, fun _ => rfl, by first | omega | (simp; omega), ?_⟩
      refine ⟨⟨0, rfl, Nat.zero_le _, fun i h => absurd h (Nat.not_lt_zero _)⟩, fun k ⟨hk, ha⟩ => ?_⟩
      refine ⟨⟨by omega, by omega⟩, fun c1 => ?_, fun c1 => ?_⟩
      ·replace c1 := yq c1
       refine ⟨hasD_spec ((([] : List Int) ++ d.basic) ++ d.others) (k : Int), fun c2 => ?_, fun c2 => ?_⟩
       ·replace c2 := nt c2
        refine ⟨?_, trivial⟩
        ·first | (exact (okDic_head2 (by omega)).symm) | (exact (okDic_perm (hasI_no (k := k) (by simp; omega) c2)).symm) | (exact (okDic_cell h68 (okRats_len (by omega))).symm) | (exact (okDic_cell h68 (okRats_all c4)).symm) | (exact (okDic_lims (okRats_all g85)).symm) | (exact (okDic_costs (okRats_all g90)).symm) | (exact (okDic_end (by omega) hp hcl (okRats_mk (by omega) g85) (okRats_mk (by omega) g90)).symm)
       ·replace c2 := nf c2
        refine ⟨⟨by omega, by omega⟩, ?_⟩
        exact ⟨k + 1, rfl, ⟨by omega, upN (p := fun i => ((([] : List Int) ++ d.basic) ++ d.others).any (isD (i : Nat)) = true) ha c2⟩, by omega⟩
      ·replace c1 := nq c1
       have hp : okPerm (d.basic ++ d.others) = true := hasI_ok (n := k) (by simp; omega) ha
       refine ⟨⟨0, rfl, Nat.zero_le _, rfl⟩, fun j ⟨hj, hb⟩ => ?_⟩
       refine ⟨fun c3 => ?_, fun c3 => ?_⟩
       ·replace c3 := yq c3
        refine ⟨by omega, rfl, by omega, fun e68 h68 => ?_⟩
        refine ⟨List.length_map _, fun g73 => ?_, fun g73 => ?_⟩
        ·replace g73 := nq (nt g73)
         refine ⟨?_, trivial⟩
         ·first | (exact (okDic_head2 (by omega)).symm) | (exact (okDic_perm (hasI_no (k := k) (by simp; omega) c2)).symm) | (exact (okDic_cell h68 (okRats_len (by omega))).symm) | (exact (okDic_cell h68 (okRats_all c4)).symm) | (exact (okDic_lims (okRats_all g85)).symm) | (exact (okDic_costs (okRats_all g90)).symm) | (exact (okDic_end (by omega) hp hcl (okRats_mk (by omega) g85) (okRats_mk (by omega) g90)).symm)
        ·replace g73 := yq (nf g73)
         refine ⟨by omega, rfl, by omega, fun e77 h77 => ?_⟩
         obtain rfl := (same_at h68 h77).symm
         refine ⟨allR_spec _, fun c4 => ?_, fun c4 => ?_⟩
         ·replace c4 := nt c4
          refine ⟨?_, trivial⟩
          ·first | (exact (okDic_head2 (by omega)).symm) | (exact (okDic_perm (hasI_no (k := k) (by simp; omega) c2)).symm) | (exact (okDic_cell h68 (okRats_len (by omega))).symm) | (exact (okDic_cell h68 (okRats_all c4)).symm) | (exact (okDic_lims (okRats_all g85)).symm) | (exact (okDic_costs (okRats_all g90)).symm) | (exact (okDic_end (by omega) hp hcl (okRats_mk (by omega) g85) (okRats_mk (by omega) g90)).symm)
         ·replace c4 := nf c4
          refine ⟨⟨by omega, by omega⟩, ?_⟩
          exact ⟨j + 1, rfl, ⟨by omega, all_snoc h68 hb (okRats_mk g73 c4)⟩, by omega⟩
       ·replace c3 := nq c3
        have hcl := all_done (by omega) hb
        refine ⟨allR_spec _, fun g85 => ?_, fun g85 => ?_⟩
        ·refine ⟨allR_spec _, fun g90 => ?_, fun g90 => ?_⟩
         ·refine ⟨val_spec d.value, ?_, trivial⟩
          ·first | (exact (okDic_head2 (by omega)).symm) | (exact (okDic_perm (hasI_no (k := k) (by simp; omega) c2)).symm) | (exact (okDic_cell h68 (okRats_len (by omega))).symm) | (exact (okDic_cell h68 (okRats_all c4)).symm) | (exact (okDic_lims (okRats_all g85)).symm) | (exact (okDic_costs (okRats_all g90)).symm) | (exact (okDic_end (by omega) hp hcl (okRats_mk (by omega) g85) (okRats_mk (by omega) g90)).symm)
         ·refine ⟨?_, trivial⟩
          ·first | (exact (okDic_head2 (by omega)).symm) | (exact (okDic_perm (hasI_no (k := k) (by simp; omega) c2)).symm) | (exact (okDic_cell h68 (okRats_len (by omega))).symm) | (exact (okDic_cell h68 (okRats_all c4)).symm) | (exact (okDic_lims (okRats_all g85)).symm) | (exact (okDic_costs (okRats_all g90)).symm) | (exact (okDic_end (by omega) hp hcl (okRats_mk (by omega) g85) (okRats_mk (by omega) g90)).symm)
        ·refine ⟨?_, trivial⟩
         ·first | (exact (okDic_head2 (by omega)).symm) | (exact (okDic_perm (hasI_no (k := k) (by simp; omega) c2)).symm) | (exact (okDic_cell h68 (okRats_len (by omega))).symm) | (exact (okDic_cell h68 (okRats_all c4)).symm) | (exact (okDic_lims (okRats_all g85)).symm) | (exact (okDic_costs (okRats_all g90)).symm) | (exact (okDic_end (by omega) hp hcl (okRats_mk (by omega) g85) (okRats_mk (by omega) g90)).symm)
end Go.Proofs.Ytepphdhnkaiamaa
