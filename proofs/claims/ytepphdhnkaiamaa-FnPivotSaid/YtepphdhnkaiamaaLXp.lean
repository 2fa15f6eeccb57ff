/-
  Pivots, the program's: all arguments.
-/
import Derived.Test.YtepphdhnkaiamaaLXo
import Derived.Test.YtepphdhnkaiamaaLXh
namespace Go.Proofs.Ytepphdhnkaiamaa
open Go.ChangeShapes Go.WideShapes Go.ChangeAt Go.RowKit
set_option linter.unusedVariables false
set_option linter.unusedSimpArgs false
set_option maxRecDepth 100000
set_option maxHeartbeats 4000000
theorem pivP_m {d : DictionaryD} {i j : Int} (h : okDic d = true) (hi : 0 ≤ i ∧ i < d.basic.length) (hj : 0 ≤ j ∧ j < d.others.length) : pivP d i j = pivM d i.toNat j.toNat := by rw [pivP, if_pos ⟨h, hi, hj⟩]

abbrev k_piv_impl (d : DictionaryD) (i : Int) (j : Int) : AV × List (Nat × Rs) := (.tup [.agg [.own 0, .own 1, .own 2, .own 3, .own 4, vI ((((pivP d i j).1).value).num), vI ((((pivP d i j).1).value).den)], vB ((pivP d i j).2)], [(0, .arr 3 1 true ((((pivP d i j).1).basic).map intD)), (1, .arr 3 1 true ((((pivP d i j).1).others).map intD)), (2, .arr 31 1 true ((((pivP d i j).1).table).map eRationalS)), (3, .arr 30 2 true ((((pivP d i j).1).limits).map eRational)), (4, .arr 30 2 true ((((pivP d i j).1).costs).map eRational))])
abbrev K_piv_impl (d : DictionaryD) (i : Int) (j : Int) : Prop := Con Try.prog 28 [.agg [.sl 3 1 (d.basic.map intD), .sl 3 1 (d.others.map intD), .sl 31 1 (d.table.map eRationalS), .sl 30 2 (d.limits.map eRational), .sl 30 2 (d.costs.map eRational), .int .i64 d.value.num, .int .i64 d.value.den], .one (.int .i64 i), .one (.int .i64 j)] (k_piv_impl d i j).1 (k_piv_impl d i j).2
theorem piv_impl (d : DictionaryD) (i j : Int) (h0 : d.basic.length ≤ 1048576) (h1 : d.others.length ≤ 1048576) : K_piv_impl d i j := by
 refine con_y tbOk mixedW Try.func28 (by kernel_rfl) (.len d.basic.length <| .call (vB (decide ((0 : Int) ≤ i ∧ i ≤ (((d.basic.length : Nat) : Int) - (1 : Int))))) [] <| .br (.fin []) (.len d.others.length <| .call (vB (decide ((0 : Int) ≤ j ∧ j ≤ (((d.others.length : Nat) : Int) - (1 : Int))))) [] <| .lit <| .lit <| .br (.fin []) (.call (vB (okDic d)) [] <| .lit <| .lit <| .br (.fin []) (callP (k_pivi d i j) <| .fin [(0, 3300), (1, 3301), (2, 3302), (3, 3303), (4, 3304)])))) (p := (d.basic.map intD).length ≤ 9223372036854775807 → (d.others.map intD).length ≤ 9223372036854775807 → (d.table.map eRationalS).length ≤ 9223372036854775807 → (d.limits.map eRational).length ≤ 9223372036854775807 → (d.costs.map eRational).length ≤ 9223372036854775807 → Lm intD d.basic ∧ (inR (((d.basic.length : Nat) : Int) - (1 : Int)) ∧ (K_in_impl i (0 : Int) (((d.basic.length : Nat) : Int) - (1 : Int)) ∧ (((!(decide ((0 : Int) ≤ i ∧ i ≤ (((d.basic.length : Nat) : Int) - (1 : Int))))) = true → (0 : Int) = ((((pivP d i j).1).value).num) ∧ (0 : Int) = ((((pivP d i j).1).value).den) ∧ (false) = ((pivP d i j).2) ∧ [] = (((pivP d i j).1).basic).map intD ∧ [] = (((pivP d i j).1).others).map intD ∧ [] = (((pivP d i j).1).table).map eRationalS ∧ [] = (((pivP d i j).1).limits).map eRational ∧ [] = (((pivP d i j).1).costs).map eRational ∧ True) ∧ ((!(decide ((0 : Int) ≤ i ∧ i ≤ (((d.basic.length : Nat) : Int) - (1 : Int))))) = false → Lm intD d.others ∧ (inR (((d.others.length : Nat) : Int) - (1 : Int)) ∧ (K_in_impl j (0 : Int) (((d.others.length : Nat) : Int) - (1 : Int)) ∧ (((!(decide ((0 : Int) ≤ j ∧ j ≤ (((d.others.length : Nat) : Int) - (1 : Int))))) = true → (0 : Int) = ((((pivP d i j).1).value).num) ∧ (0 : Int) = ((((pivP d i j).1).value).den) ∧ (false) = ((pivP d i j).2) ∧ [] = (((pivP d i j).1).basic).map intD ∧ [] = (((pivP d i j).1).others).map intD ∧ [] = (((pivP d i j).1).table).map eRationalS ∧ [] = (((pivP d i j).1).limits).map eRational ∧ [] = (((pivP d i j).1).costs).map eRational ∧ True) ∧ ((!(decide ((0 : Int) ≤ j ∧ j ≤ (((d.others.length : Nat) : Int) - (1 : Int))))) = false → K_dic_impl d ∧ (((!(okDic d)) = true → (0 : Int) = ((((pivP d i j).1).value).num) ∧ (0 : Int) = ((((pivP d i j).1).value).den) ∧ (false) = ((pivP d i j).2) ∧ [] = (((pivP d i j).1).basic).map intD ∧ [] = (((pivP d i j).1).others).map intD ∧ [] = (((pivP d i j).1).table).map eRationalS ∧ [] = (((pivP d i j).1).limits).map eRational ∧ [] = (((pivP d i j).1).costs).map eRational ∧ True) ∧ ((!(okDic d)) = false → K_pivi d i j ∧ ((((pivM d (i).toNat (j).toNat).1).value).num) = ((((pivP d i j).1).value).num) ∧ ((((pivM d (i).toNat (j).toNat).1).value).den) = ((((pivP d i j).1).value).den) ∧ ((pivM d (i).toNat (j).toNat).2) = ((pivP d i j).2) ∧ (((pivM d (i).toNat (j).toNat).1).basic).map intD = (((pivP d i j).1).basic).map intD ∧ (((pivM d (i).toNat (j).toNat).1).others).map intD = (((pivP d i j).1).others).map intD ∧ (((pivM d (i).toNat (j).toNat).1).table).map eRationalS = (((pivP d i j).1).table).map eRationalS ∧ (((pivM d (i).toNat (j).toNat).1).limits).map eRational = (((pivP d i j).1).limits).map eRational ∧ (((pivM d (i).toNat (j).toNat).1).costs).map eRational = (((pivP d i j).1).costs).map eRational ∧ True))))))))))) (by kernel_rfl) ?_
 intro n0 n1 n2 n3 n4
 simp only [List.length_map] at n0 n1 n2 n3 n4
 refine ⟨List.length_map _, ⟨by omega, by omega⟩, in_impl _ _ _, fun g15 => ?_, fun g15 => ?_⟩
 ·replace g15 := nq (nt g15)
  refine ⟨?_, ?_, ?_, ?_, ?_, ?_, ?_, ?_, trivial⟩ <;> (first | (rw [pivP_no c0] <;> rfl) | (rw [pivP_out (by omega)] <;> rfl) | (rw [pivP_m hd hi hj] <;> rfl))
 ·replace g15 := yq (nf g15)
  refine ⟨List.length_map _, ⟨by omega, by omega⟩, in_impl _ _ _, fun g24 => ?_, fun g24 => ?_⟩
  ·replace g24 := nq (nt g24)
   refine ⟨?_, ?_, ?_, ?_, ?_, ?_, ?_, ?_, trivial⟩ <;> (first | (rw [pivP_no c0] <;> rfl) | (rw [pivP_out (by omega)] <;> rfl) | (rw [pivP_m hd hi hj] <;> rfl))
  ·replace g24 := yq (nf g24)
   refine ⟨dic_impl d (by omega) (by omega), fun c0 => ?_, fun c0 => ?_⟩
   ·replace c0 := nt c0
    refine ⟨?_, ?_, ?_, ?_, ?_, ?_, ?_, ?_, trivial⟩ <;> (first | (rw [pivP_no c0] <;> rfl) | (rw [pivP_out (by omega)] <;> rfl) | (rw [pivP_m hd hi hj] <;> rfl))
   ·replace c0 := nf c0
    have hd : okDic d = true := c0
    obtain ⟨b1, b2, b3, b4, b5, b6, b7, b8⟩ := okDic_bnd hd
    have hi : 0 ≤ i ∧ i < d.basic.length := by omega
    have hj : 0 ≤ j ∧ j < d.others.length := by omega
    refine ⟨pivi d i j (by assumption) (by omega) (by omega), ?_, ?_, ?_, ?_, ?_, ?_, ?_, ?_, trivial⟩ <;> (first | (rw [pivP_no c0] <;> rfl) | (rw [pivP_out (by omega)] <;> rfl) | (rw [pivP_m hd hi hj] <;> rfl))
end Go.Proofs.Ytepphdhnkaiamaa
