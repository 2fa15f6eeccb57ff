/-
  Entering columns, both sides.
-/
import Derived.Test.YtepphdhnkaiamaaLXd
namespace Go.Proofs.Ytepphdhnkaiamaa
open Go.ChangeShapes Go.WideShapes Go.ChangeAt Go.RowKit
set_option linter.unusedVariables false
set_option linter.unusedSimpArgs false
set_option maxRecDepth 100000
set_option maxHeartbeats 4000000
theorem entB_low {d : DictionaryD} {k : Nat} {b : Int} {x : RationalD} (hb : b = entB d k) (hx : d.costs[k]? = some x) (h : ¬ 0 < x.num) : b = entB d (k + 1) := entB_no hb (by rw [entBet, getD_atP hx, decide_eq_false h]; rfl)
theorem entB_new {d : DictionaryD} {k : Nat} {b : Int} {x : RationalD} (hb : b = entB d k) (hx : d.costs[k]? = some x) (h : 0 < x.num) (h2 : b < 0) : (k : Int) = entB d (k + 1) := entB_yes hb (by rw [entBet, getD_atP hx, decide_eq_true h, decide_eq_true h2]; rfl)
theorem entB_less {d : DictionaryD} {k : Nat} {b y z : Int} {x : RationalD} (hb : b = entB d k) (hx : d.costs[k]? = some x) (h : 0 < x.num) (hy : d.others[k]? = some y) (hz : d.others[b.toNat]? = some z) (h2 : y < z) : (k : Int) = entB d (k + 1) := entB_yes hb (by rw [entBet, getD_atP hx, getD_atP hy, getD_atP hz, decide_eq_true h, decide_eq_true h2, Bool.or_true]; rfl)
theorem entB_geq {d : DictionaryD} {k : Nat} {b y z : Int} {x : RationalD} (hb : b = entB d k) (hx : d.costs[k]? = some x) (h1 : ¬ b < 0) (hy : d.others[k]? = some y) (hz : d.others[b.toNat]? = some z) (h2 : ¬ y < z) : b = entB d (k + 1) := entB_no hb (by rw [entBet, getD_atP hx, getD_atP hy, getD_atP hz, decide_eq_false h1, decide_eq_false h2, Bool.or_false, Bool.and_false])
theorem entC_no {d : DictionaryD} (h : okDic d = false) : entC d = -1 := by rw [entC, if_neg (by rw [h]; decide)]
theorem entC_yes {d : DictionaryD} (h : okDic d = true) : entC d = entD d := by rw [entC, if_pos h]
theorem entD_at {d : DictionaryD} {k : Nat} {b : Int} (hb : b = entB d k) (h : d.others.length = k) : entD d = b := by rw [entD, h, hb]

abbrev K_enc_impl (d : DictionaryD) : Prop := Con Try.prog 40 [.agg [.sl 3 1 (d.basic.map intD), .sl 3 1 (d.others.map intD), .sl 31 1 (d.table.map eRationalS), .sl 30 2 (d.limits.map eRational), .sl 30 2 (d.costs.map eRational), .int .i64 d.value.num, .int .i64 d.value.den]] (vI (entD d)) []
theorem enc_impl (d : DictionaryD) (hd : okDic d = true) : K_enc_impl d := by
 refine con_y tbOk mixedW Try.func40 (by kernel_rfl) (.len d.costs.length <| .loop (Nat × Int) (Q2 Nat Int) [3, 4, 5, 9, 10, 11, 12, 13, 14, 15, 16, 17, 18, 19, 20, 21, 22, 23, 24, 25, 26, 27, 28, 29, 30, 31, 32, 33, 34, 35] [500] (fun yy0 => [(9, vI (yy0.1 : Int)), (3, vI yy0.2)]) (fun yy0 => []) (fun yy0 => yy0.1 ≤ d.others.length ∧ yy0.2 = entB d yy0.1) (fun yy0 => d.others.length - yy0.1) (fun yy0 => .br (.elem _ eRational d.costs (fun e12 => .br (.lit <| .lit <| .br (.back []) (.elem _ intD d.others (fun e24 => .elem _ intD d.others (fun e29 => .lit <| .lit <| .lit <| .lit <| .lit <| .br (.back []) (.back []))))) (.back []))) (.fin []))) (p := (d.basic.map intD).length ≤ 9223372036854775807 → (d.others.map intD).length ≤ 9223372036854775807 → (d.table.map eRationalS).length ≤ 9223372036854775807 → (d.limits.map eRational).length ≤ 9223372036854775807 → (d.costs.map eRational).length ≤ 9223372036854775807 → Lm eRational d.costs ∧ ((∃ (k : Nat) (b : Int), (0 : Int) = (k : Int) ∧ (-1 : Int) = b ∧ k ≤ d.others.length ∧ b = entB d k) ∧ ∀ (k : Nat) (b : Int), (k ≤ d.others.length ∧ b = entB d k) → ((decide ((k : Int) < ((d.costs.length : Nat) : Int))) = true → 0 ≤ (k : Int) ∧ Em eRational d.costs k fun e12 => ((decide ((0 : Int) < e12.num)) = true → ((decide (b < (0 : Int))) = true → inR ((k : Int) + (1 : Int)) ∧ ∃ (k' : Nat) (b' : Int), ((k : Int) + (1 : Int)) = (k' : Int) ∧ (k : Int) = b' ∧ (k' ≤ d.others.length ∧ b' = entB d k') ∧ d.others.length - k' < d.others.length - k) ∧ ((decide (b < (0 : Int))) = false → 0 ≤ (k : Int) ∧ Em intD d.others k fun e24 => 0 ≤ b ∧ Em intD d.others ((b).toNat) fun e29 => ((decide (e24 < e29)) = true → inR ((k : Int) + (1 : Int)) ∧ ∃ (k' : Nat) (b' : Int), ((k : Int) + (1 : Int)) = (k' : Int) ∧ (k : Int) = b' ∧ (k' ≤ d.others.length ∧ b' = entB d k') ∧ d.others.length - k' < d.others.length - k) ∧ ((decide (e24 < e29)) = false → inR ((k : Int) + (1 : Int)) ∧ ∃ (k' : Nat) (b' : Int), ((k : Int) + (1 : Int)) = (k' : Int) ∧ b = b' ∧ (k' ≤ d.others.length ∧ b' = entB d k') ∧ d.others.length - k' < d.others.length - k))) ∧ ((decide ((0 : Int) < e12.num)) = false → inR ((k : Int) + (1 : Int)) ∧ ∃ (k' : Nat) (b' : Int), ((k : Int) + (1 : Int)) = (k' : Int) ∧ b = b' ∧ (k' ≤ d.others.length ∧ b' = entB d k') ∧ d.others.length - k' < d.others.length - k)) ∧ ((decide ((k : Int) < ((d.costs.length : Nat) : Int))) = false → b = (entD d) ∧ True))) (by kernel_rfl) ?_
 intro n0 n1 n2 n3 n4
 simp only [List.length_map] at n0 n1 n2 n3 n4
 obtain ⟨b1, b2, b3, b4, b5, b6, b7, b8⟩ := okDic_bnd hd
 refine ⟨List.length_map _, ⟨0, -1, rfl, rfl, Nat.zero_le _, rfl⟩, fun k b ⟨hk, hb⟩ => ?_⟩
 refine ⟨fun c0 => ?_, fun c0 => ?_⟩
 ·replace c0 := yq c0
  have eb := entB_bnd d k
  refine ⟨by omega, rfl, by omega, fun e12 h12 => ?_⟩
  refine ⟨fun g17 => ?_, fun g17 => ?_⟩
  ·replace g17 := yq g17
   refine ⟨fun g20 => ?_, fun g20 => ?_⟩
   ·replace g20 := yq g20
    refine ⟨⟨by omega, by omega⟩, ?_⟩
    exact ⟨k + 1, (k : Int), rfl, rfl, ⟨by omega, by first | exact entB_low hb h12 g17 | exact entB_new hb h12 g17 g20 | exact entB_less hb h12 g17 h24 h29 c1 | exact entB_geq hb h12 g20 h24 h29 c1⟩, by omega⟩
   ·replace g20 := nq g20
    refine ⟨by omega, rfl, by omega, fun e24 h24 => ?_⟩
    refine ⟨by omega, rfl, by omega, fun e29 h29 => ?_⟩
    refine ⟨fun c1 => ?_, fun c1 => ?_⟩
    ·replace c1 := yq c1
     refine ⟨⟨by omega, by omega⟩, ?_⟩
     exact ⟨k + 1, (k : Int), rfl, rfl, ⟨by omega, by first | exact entB_low hb h12 g17 | exact entB_new hb h12 g17 g20 | exact entB_less hb h12 g17 h24 h29 c1 | exact entB_geq hb h12 g20 h24 h29 c1⟩, by omega⟩
    ·replace c1 := nq c1
     refine ⟨⟨by omega, by omega⟩, ?_⟩
     exact ⟨k + 1, b, rfl, rfl, ⟨by omega, by first | exact entB_low hb h12 g17 | exact entB_new hb h12 g17 g20 | exact entB_less hb h12 g17 h24 h29 c1 | exact entB_geq hb h12 g20 h24 h29 c1⟩, by omega⟩
  ·replace g17 := nq g17
   refine ⟨⟨by omega, by omega⟩, ?_⟩
   exact ⟨k + 1, b, rfl, rfl, ⟨by omega, by first | exact entB_low hb h12 g17 | exact entB_new hb h12 g17 g20 | exact entB_less hb h12 g17 h24 h29 c1 | exact entB_geq hb h12 g20 h24 h29 c1⟩, by omega⟩
 ·replace c0 := nq c0
  refine ⟨?_, trivial⟩
  ·first | (rw [entC_no c0]; done) | (rw [entD_at hb (by omega)]; done) | (rw [entC_yes c0, entD_at hb (by omega)]; done)

abbrev K_enc_spec (d : DictionaryD) : Prop := Con Try.prog 33 [.agg [.sl 3 1 (d.basic.map intD), .sl 3 1 (d.others.map intD), .sl 31 1 (d.table.map eRationalS), .sl 30 2 (d.limits.map eRational), .sl 30 2 (d.costs.map eRational), .int .i64 d.value.num, .int .i64 d.value.den]] (vI (entC d)) []
theorem enc_spec (d : DictionaryD) (h0 : d.basic.length ≤ 1048576) (h1 : d.others.length ≤ 1048576) : K_enc_spec d := by
 refine con_y tbOk mixedW Try.func33 (by kernel_rfl) (.call (vB (okDic d)) [] <| .br (.fin []) (.loop (Nat × Int) (Q2 Nat Int) [3, 4, 8, 9, 10, 11, 12, 13, 14, 15, 16, 17, 18, 19, 20, 21, 22, 23, 24, 25, 26, 27, 28, 29, 30, 31, 32, 33, 34, 35, 36, 37, 38, 39] [] (fun yy0 => [(4, vI (yy0.1 : Int)), (3, vI yy0.2)]) (fun yy0 => []) (fun yy0 => yy0.1 ≤ d.others.length ∧ yy0.2 = entB d yy0.1) (fun yy0 => d.others.length - yy0.1) (fun yy0 => .len d.others.length <| .br (.elem _ eRational d.costs (fun e18 => .br (.lit <| .lit <| .br (.back []) (.elem _ intD d.others (fun e29 => .elem _ intD d.others (fun e34 => .lit <| .lit <| .lit <| .lit <| .lit <| .br (.back []) (.back []))))) (.back []))) (.fin [])))) (p := (d.basic.map intD).length ≤ 9223372036854775807 → (d.others.map intD).length ≤ 9223372036854775807 → (d.table.map eRationalS).length ≤ 9223372036854775807 → (d.limits.map eRational).length ≤ 9223372036854775807 → (d.costs.map eRational).length ≤ 9223372036854775807 → K_dic_spec d ∧ (((!(okDic d)) = true → (-1 : Int) = (entC d) ∧ True) ∧ ((!(okDic d)) = false → (∃ (k : Nat) (b : Int), (0 : Int) = (k : Int) ∧ (-1 : Int) = b ∧ k ≤ d.others.length ∧ b = entB d k) ∧ ∀ (k : Nat) (b : Int), (k ≤ d.others.length ∧ b = entB d k) → Lm intD d.others ∧ (((decide ((k : Int) < ((d.others.length : Nat) : Int))) = true → 0 ≤ (k : Int) ∧ Em eRational d.costs k fun e18 => ((decide ((0 : Int) < e18.num)) = true → ((decide (b < (0 : Int))) = true → inR ((k : Int) + (1 : Int)) ∧ ∃ (k' : Nat) (b' : Int), ((k : Int) + (1 : Int)) = (k' : Int) ∧ (k : Int) = b' ∧ (k' ≤ d.others.length ∧ b' = entB d k') ∧ d.others.length - k' < d.others.length - k) ∧ ((decide (b < (0 : Int))) = false → 0 ≤ (k : Int) ∧ Em intD d.others k fun e29 => 0 ≤ b ∧ Em intD d.others ((b).toNat) fun e34 => ((decide (e29 < e34)) = true → inR ((k : Int) + (1 : Int)) ∧ ∃ (k' : Nat) (b' : Int), ((k : Int) + (1 : Int)) = (k' : Int) ∧ (k : Int) = b' ∧ (k' ≤ d.others.length ∧ b' = entB d k') ∧ d.others.length - k' < d.others.length - k) ∧ ((decide (e29 < e34)) = false → inR ((k : Int) + (1 : Int)) ∧ ∃ (k' : Nat) (b' : Int), ((k : Int) + (1 : Int)) = (k' : Int) ∧ b = b' ∧ (k' ≤ d.others.length ∧ b' = entB d k') ∧ d.others.length - k' < d.others.length - k))) ∧ ((decide ((0 : Int) < e18.num)) = false → inR ((k : Int) + (1 : Int)) ∧ ∃ (k' : Nat) (b' : Int), ((k : Int) + (1 : Int)) = (k' : Int) ∧ b = b' ∧ (k' ≤ d.others.length ∧ b' = entB d k') ∧ d.others.length - k' < d.others.length - k)) ∧ ((decide ((k : Int) < ((d.others.length : Nat) : Int))) = false → b = (entC d) ∧ True))))) (by kernel_rfl) ?_
 intro n0 n1 n2 n3 n4
 simp only [List.length_map] at n0 n1 n2 n3 n4
 refine ⟨dic_spec d (by omega) (by omega), fun c0 => ?_, fun c0 => ?_⟩
 ·replace c0 := nt c0
  refine ⟨?_, trivial⟩
  ·first | (rw [entC_no c0]; done) | (rw [entD_at hb (by omega)]; done) | (rw [entC_yes c0, entD_at hb (by omega)]; done)
 ·replace c0 := nf c0
  have hd : okDic d = true := c0
  obtain ⟨b1, b2, b3, b4, b5, b6, b7, b8⟩ := okDic_bnd hd
  refine ⟨⟨0, -1, rfl, rfl, Nat.zero_le _, rfl⟩, fun k b ⟨hk, hb⟩ => ?_⟩
  refine ⟨List.length_map _, fun c1 => ?_, fun c1 => ?_⟩
  ·replace c1 := yq c1
   have eb := entB_bnd d k
   refine ⟨by omega, rfl, by omega, fun e18 h18 => ?_⟩
   refine ⟨fun g22 => ?_, fun g22 => ?_⟩
   ·replace g22 := yq g22
    refine ⟨fun g25 => ?_, fun g25 => ?_⟩
    ·replace g25 := yq g25
     refine ⟨⟨by omega, by omega⟩, ?_⟩
     exact ⟨k + 1, (k : Int), rfl, rfl, ⟨by omega, by first | exact entB_low hb h18 g22 | exact entB_new hb h18 g22 g25 | exact entB_less hb h18 g22 h29 h34 c2 | exact entB_geq hb h18 g25 h29 h34 c2⟩, by omega⟩
    ·replace g25 := nq g25
     refine ⟨by omega, rfl, by omega, fun e29 h29 => ?_⟩
     refine ⟨by omega, rfl, by omega, fun e34 h34 => ?_⟩
     refine ⟨fun c2 => ?_, fun c2 => ?_⟩
     ·replace c2 := yq c2
      refine ⟨⟨by omega, by omega⟩, ?_⟩
      exact ⟨k + 1, (k : Int), rfl, rfl, ⟨by omega, by first | exact entB_low hb h18 g22 | exact entB_new hb h18 g22 g25 | exact entB_less hb h18 g22 h29 h34 c2 | exact entB_geq hb h18 g25 h29 h34 c2⟩, by omega⟩
     ·replace c2 := nq c2
      refine ⟨⟨by omega, by omega⟩, ?_⟩
      exact ⟨k + 1, b, rfl, rfl, ⟨by omega, by first | exact entB_low hb h18 g22 | exact entB_new hb h18 g22 g25 | exact entB_less hb h18 g22 h29 h34 c2 | exact entB_geq hb h18 g25 h29 h34 c2⟩, by omega⟩
   ·replace g22 := nq g22
    refine ⟨⟨by omega, by omega⟩, ?_⟩
    exact ⟨k + 1, b, rfl, rfl, ⟨by omega, by first | exact entB_low hb h18 g22 | exact entB_new hb h18 g22 g25 | exact entB_less hb h18 g22 h29 h34 c2 | exact entB_geq hb h18 g25 h29 h34 c2⟩, by omega⟩
  ·replace c1 := nq c1
   refine ⟨?_, trivial⟩
   ·first | (rw [entC_no c0]; done) | (rw [entD_at hb (by omega)]; done) | (rw [entC_yes c0, entD_at hb (by omega)]; done)
end Go.Proofs.Ytepphdhnkaiamaa
