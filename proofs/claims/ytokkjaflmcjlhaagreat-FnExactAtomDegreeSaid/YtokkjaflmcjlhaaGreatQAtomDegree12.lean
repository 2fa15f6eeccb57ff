/-
  Contracts and plain laws, joined: part 13.
-/
import Derived.Test.YtokkjaflmcjlhaaGreatQAtomDegree9
import Derived.Test.YtokkjaflmcjlhaaGreatQAtomDegree10
namespace Go.Proofs.YtokkjaflmcjlhaaGreat
open Go.ChangeShapes Go.WideShapes Go.ChangeAt Go.RowKit
set_option linter.unusedVariables false
set_option linter.unusedSimpArgs false
set_option maxRecDepth 100000
set_option maxHeartbeats 4000000
abbrev k_viol_impl (d : DatabaseD) (f : DependencyD) : AV × List (Nat × Rs) := (.own 0, [(0, .arr 3 1 true ((violL d f).map intD))])
abbrev K_viol_impl (d : DatabaseD) (f : DependencyD) : Prop := Con Tryz.prog 232 [.agg [.sl 162 3 (d.tables.map eTable)], .agg [.str f.name, .sl 3 1 (f.src.map intD), .int .i64 f.dst]] (k_viol_impl d f).1 (k_viol_impl d f).2
theorem viol_impl (d : DatabaseD) (f : DependencyD) (hc : cDatabase d ≤ 1048576) : K_viol_impl d f := by
 refine con_x tbOk mixedW Tryz.func232 (by kernel_rfl) (.call (vB (okDep d f)) [] <| .br (.fin []) (.call (.tup [.agg [.p none (.str (((lookT d f.name).1).name)), vI (((lookT d f.name).1).arity), .p none (.sl 32 1 ((((lookT d f.name).1).rows).map eIntS))], vB ((lookT d f.name).2)]) [] <| .len ((((lookT d f.name).1).rows).length) <| .loop Nat (Q1 Nat) [7, 8, 9, 10, 11, 12, 13, 14, 29, 30, 31, 32, 33, 34, 35, 36, 37, 38, 39, 40, 41, 42, 43, 44, 45, 46, 47, 48, 49, 50, 51, 52, 53, 54, 55, 56, 57, 58, 59, 60, 61, 62, 63, 64, 65, 66, 67, 68, 69, 70, 71, 72, 73, 77, 78] [4800, 5500] (fun k => [(29, vI (k : Int))]) (fun k => []) (fun k => k ≤ (lookT d f.name).1.rows.length ∧ violK (lookT d f.name).1.rows f.src f.dst k = []) (fun k => (lookT d f.name).1.rows.length - k) (fun k => .br (.elem _ eIntS (((lookT d f.name).1).rows) (fun e32 => .sub (List Int) eIntS (((lookT d f.name).1).rows) <| .len (((((lookT d f.name).1).rows).take k).length) <| .loop Nat (Q1 Nat) [9, 10, 11, 12, 13, 14, 39, 40, 41, 42, 43, 44, 45, 46, 47, 48, 49, 50, 51, 52, 53, 54, 55, 56, 57, 58, 59, 60, 61, 62, 63, 64, 65, 66, 67, 68, 69, 70, 71, 72, 73, 77] [4800, 5500] (fun i => [(39, vI (i : Int))]) (fun i => []) (fun i => i ≤ k ∧ violI (lookT d f.name).1.rows f.src f.dst k i = []) (fun i => k - i) (fun i => .br (.elem _ eIntS ((((lookT d f.name).1).rows).take k) (fun e42 => callP (k_sel_impl e42 f.src) <| callP (k_sel_impl e32 f.src) <| .call (vB (decide (((selR e42 f.src).1) = ((selR e32 f.src).1)))) [] <| .br (.elem _ intD e42 (fun e65 => .elem _ intD e32 (fun e70 => .lit <| .lit <| .lit <| .br (.fin [(0, 7600)]) (.back [])))) (.back []))) (.back [])))) (.fin [])))) ?_
 refine Eq.mpr (by kernel_rfl : _ = ((d.tables.map eTable).length ≤ 9223372036854775807 → (f.src.map intD).length ≤ 9223372036854775807 → K_okDep_impl d f ∧ (((!(okDep d f)) = true → [] = (violL d f).map intD ∧ True) ∧ ((!(okDep d f)) = false → Con Tryz.prog 148 [.agg [.sl 162 3 (d.tables.map eTable)], .one (.str f.name)] (.tup [.agg [.p none (.str (((lookT d f.name).1).name)), vI (((lookT d f.name).1).arity), .p none (.sl 32 1 ((((lookT d f.name).1).rows).map eIntS))], vB ((lookT d f.name).2)]) [] ∧ (Lm eIntS (((lookT d f.name).1).rows) ∧ ((∃ (k : Nat), (0 : Int) = (k : Int) ∧ k ≤ (lookT d f.name).1.rows.length ∧ violK (lookT d f.name).1.rows f.src f.dst k = []) ∧ ∀ (k : Nat), (k ≤ (lookT d f.name).1.rows.length ∧ violK (lookT d f.name).1.rows f.src f.dst k = []) → ((decide ((k : Int) < (((((lookT d f.name).1).rows).length : Nat) : Int))) = true → 0 ≤ (k : Int) ∧ Em eIntS (((lookT d f.name).1).rows) k fun e32 => (((lookT d f.name).1).rows).map eIntS = (((lookT d f.name).1).rows).map eIntS ∧ 0 ≤ (k : Int) ∧ (k : Int) ≤ (((((lookT d f.name).1).rows).length : Nat) : Int) ∧ (Lm eIntS ((((lookT d f.name).1).rows).take k) ∧ ((∃ (i : Nat), (0 : Int) = (i : Int) ∧ i ≤ k ∧ violI (lookT d f.name).1.rows f.src f.dst k i = []) ∧ ∀ (i : Nat), (i ≤ k ∧ violI (lookT d f.name).1.rows f.src f.dst k i = []) → ((decide ((i : Int) < ((((((lookT d f.name).1).rows).take k).length : Nat) : Int))) = true → 0 ≤ (i : Int) ∧ Em eIntS ((((lookT d f.name).1).rows).take k) i fun e42 => K_sel_impl e42 f.src ∧ (K_sel_impl e32 f.src ∧ (K_eqs_Int ((selR e42 f.src).1) ((selR e32 f.src).1) ∧ (((decide (((selR e42 f.src).1) = ((selR e32 f.src).1))) = true → 0 ≤ f.dst ∧ Em intD e42 ((f.dst).toNat) fun e65 => 0 ≤ f.dst ∧ Em intD e32 ((f.dst).toNat) fun e70 => ((!(decide (e65 = e70))) = true → [[.int .i64 (i : Int)], [.int .i64 (k : Int)]] = (violL d f).map intD ∧ True) ∧ ((!(decide (e65 = e70))) = false → inR ((i : Int) + (1 : Int)) ∧ ∃ (i' : Nat), ((i : Int) + (1 : Int)) = (i' : Int) ∧ (i' ≤ k ∧ violI (lookT d f.name).1.rows f.src f.dst k i' = []) ∧ k - i' < k - i)) ∧ ((decide (((selR e42 f.src).1) = ((selR e32 f.src).1))) = false → inR ((i : Int) + (1 : Int)) ∧ ∃ (i' : Nat), ((i : Int) + (1 : Int)) = (i' : Int) ∧ (i' ≤ k ∧ violI (lookT d f.name).1.rows f.src f.dst k i' = []) ∧ k - i' < k - i))))) ∧ ((decide ((i : Int) < ((((((lookT d f.name).1).rows).take k).length : Nat) : Int))) = false → inR ((k : Int) + (1 : Int)) ∧ ∃ (k' : Nat), ((k : Int) + (1 : Int)) = (k' : Int) ∧ (k' ≤ (lookT d f.name).1.rows.length ∧ violK (lookT d f.name).1.rows f.src f.dst k' = []) ∧ (lookT d f.name).1.rows.length - k' < (lookT d f.name).1.rows.length - k)))) ∧ ((decide ((k : Int) < (((((lookT d f.name).1).rows).length : Nat) : Int))) = false → [] = (violL d f).map intD ∧ True))))))) ?_
 intro n0 n1
 simp only [List.length_map] at n0 n1
 refine ⟨okDep_impl _ _ (by omega), fun c0 => ?_, fun c0 => ?_⟩
 ·replace c0 := nt c0
  have hbad : violL d f = [] := by rw [violL, if_neg (by simpa using c0)]
  refine ⟨?_, trivial⟩
  ·first | (rw [hbad] <;> rfl) | (rw [hE] <;> rfl) | (rw [hV, hE] <;> rfl)
 ·replace c0 := nf c0
  have hok : okDep d f = true := by simpa using c0
  obtain ⟨hT, hd0, hd1, hsl⟩ := okDep_parts hok
  have hT8 := okTable_arity hT
  have hV : violL d f = violK (lookT d f.name).1.rows f.src f.dst (lookT d f.name).1.rows.length := by rw [violL, if_pos hok]
  refine ⟨con_stl (lkT_impl _ f.name (by omega)) rfl, List.length_map _, ⟨0, rfl, Nat.zero_le _, rfl⟩, fun k ⟨hk, hv⟩ => ?_⟩
  refine ⟨fun c1 => ?_, fun c1 => ?_⟩
  ·replace c1 := yq c1
   refine ⟨by omega, rfl, by first | omega | (simp only [List.length_take]; omega), fun e32 h32 => ?_⟩
   have hl32 := row_len hT (List.mem_of_getElem? h32)
   refine ⟨rfl, by omega, by first | omega | (simp only [List.length_take]; omega), List.length_map _, ⟨0, rfl, Nat.zero_le _, rfl⟩, fun i ⟨hi, hw⟩ => ?_⟩
   have htl : ((lookT d f.name).1.rows.take k).length = k := by rw [List.length_take]; omega
   refine ⟨fun c2 => ?_, fun c2 => ?_⟩
   ·replace c2 := yq c2
    refine ⟨by omega, rfl, by first | omega | (simp only [List.length_take]; omega), fun e42 h42 => ?_⟩
    have hx : (lookT d f.name).1.rows[i]? = some e42 := by rw [List.getElem?_take_of_lt (by omega)] at h42; exact h42
    have hl42 := row_len hT (List.mem_of_getElem? hx)
    have hb := badP_at (cols := f.src) (c := f.dst) hx h32
    refine ⟨sel_impl _ _ (by omega), sel_impl _ _ (by omega), eqs_Int _ _, fun g61 => ?_, fun g61 => ?_⟩
    ·replace g61 := yq g61
     refine ⟨by omega, rfl, by first | omega | (simp only [List.length_take]; omega), fun e65 h65 => ?_⟩
     refine ⟨by omega, rfl, by first | omega | (simp only [List.length_take]; omega), fun e70 h70 => ?_⟩
     refine ⟨fun c3 => ?_, fun c3 => ?_⟩
     ·replace c3 := nq (nt c3)
      have hB : badP (lookT d f.name).1.rows f.src f.dst i k = true := by rw [hb, getD_at h65, getD_at h70]; simp [*]
      have hE := viol_found hv hw hB (by omega) (by omega : k < (lookT d f.name).1.rows.length)
      refine ⟨?_, trivial⟩
      ·first | (rw [hbad] <;> rfl) | (rw [hE] <;> rfl) | (rw [hV, hE] <;> rfl)
     ·replace c3 := yq (nf c3)
      refine ⟨⟨by omega, by omega⟩, ?_⟩
      exact ⟨i + 1, rfl, ⟨by omega, violI_no hw (by rw [hb]; first | (simp [g61]; done) | (rw [getD_at h65, getD_at h70]; simp [*]; done))⟩, by omega⟩
    ·replace g61 := nq g61
     refine ⟨⟨by omega, by omega⟩, ?_⟩
     exact ⟨i + 1, rfl, ⟨by omega, violI_no hw (by rw [hb]; first | (simp [g61]; done) | (rw [getD_at h65, getD_at h70]; simp [*]; done))⟩, by omega⟩
   ·replace c2 := nq c2
    refine ⟨⟨by omega, by omega⟩, ?_⟩
    exact ⟨k + 1, rfl, ⟨by omega, violK_next hv (by obtain rfl : i = k := (by omega); exact hw)⟩, by omega⟩
  ·replace c1 := nq c1
   have hE : violL d f = [] := by rw [hV, show (lookT d f.name).1.rows.length = k by omega, hv]
   refine ⟨?_, trivial⟩
   ·first | (rw [hbad] <;> rfl) | (rw [hE] <;> rfl) | (rw [hV, hE] <;> rfl)
abbrev k_viol_spec (d : DatabaseD) (f : DependencyD) : AV × List (Nat × Rs) := (.own 0, [(0, .arr 3 1 true ((violL d f).map intD))])
abbrev K_viol_spec (d : DatabaseD) (f : DependencyD) : Prop := Con Tryz.prog 213 [.agg [.sl 162 3 (d.tables.map eTable)], .agg [.str f.name, .sl 3 1 (f.src.map intD), .int .i64 f.dst]] (k_viol_spec d f).1 (k_viol_spec d f).2
theorem viol_spec (d : DatabaseD) (f : DependencyD) (hc : cDatabase d ≤ 1048576) : K_viol_spec d f := by
 refine con_x tbOk mixedW Tryz.func213 (by kernel_rfl) (.call (.tup [.agg [.p none (.str (((lookT d f.name).1).name)), vI (((lookT d f.name).1).arity), .p none (.sl 32 1 ((((lookT d f.name).1).rows).map eIntS))], vB ((lookT d f.name).2)]) [] <| .loop Nat (Q1 Nat) [7, 8, 9, 10, 11, 12, 20, 21, 22, 23, 24, 25, 26, 27, 28, 29, 30, 31, 32, 33, 34, 35, 36, 37, 38, 39, 40, 41, 42, 43, 44, 45, 46, 47, 48, 49, 50, 51, 52, 53, 54, 55, 56, 57, 58, 59, 60, 61, 62, 63, 64, 65, 66, 67, 68, 69, 70, 71, 72, 73, 74, 75, 76, 77, 78, 79, 80, 81, 82, 83] [4000, 5600] (fun k => [(7, vI (k : Int))]) (fun k => []) (fun k => k ≤ (lookT d f.name).1.rows.length ∧ violK (lookT d f.name).1.rows f.src f.dst k = []) (fun k => (lookT d f.name).1.rows.length - k) (fun k => .len ((((lookT d f.name).1).rows).length) <| .br (.call (vB (okDep d f)) [] <| .lit <| .br (.elem _ eIntS (((lookT d f.name).1).rows) (fun e36 => callP (k_sel_spec e36 f.src) <| .loop Nat (Q1 Nat) [10, 11, 12, 43, 44, 45, 46, 47, 48, 49, 50, 51, 52, 53, 54, 55, 56, 57, 58, 59, 60, 61, 62, 63, 64, 65, 66, 67, 68, 69, 70, 71, 72, 73, 74, 75, 76, 77, 78, 79, 80, 81, 82, 83] [5600] (fun i => [(10, vI (i : Int))]) (fun i => []) (fun i => i ≤ k ∧ violI (lookT d f.name).1.rows f.src f.dst k i = []) (fun i => k - i) (fun i => .br (.elem _ eIntS (((lookT d f.name).1).rows) (fun e52 => callP (k_sel_spec e52 f.src) <| .call (vI (cmpR ((selR e52 f.src).1) ((selR e36 f.src).1))) [] <| .br (.elem _ eIntS (((lookT d f.name).1).rows) (fun e67 => .elem _ intD e67 (fun e71 => .elem _ eIntS (((lookT d f.name).1).rows) (fun e76 => .elem _ intD e76 (fun e80 => .lit <| .lit <| .lit <| .br (.fin [(0, 8600)]) (.back [])))))) (.back []))) (.back [])))) (.fin [(0, 8700)])) (.fin [(0, 8700)]))) ?_
 refine Eq.mpr (by kernel_rfl : _ = ((d.tables.map eTable).length ≤ 9223372036854775807 → (f.src.map intD).length ≤ 9223372036854775807 → Con Tryz.prog 132 [.agg [.sl 162 3 (d.tables.map eTable)], .one (.str f.name)] (.tup [.agg [.p none (.str (((lookT d f.name).1).name)), vI (((lookT d f.name).1).arity), .p none (.sl 32 1 ((((lookT d f.name).1).rows).map eIntS))], vB ((lookT d f.name).2)]) [] ∧ ((∃ (k : Nat), (0 : Int) = (k : Int) ∧ k ≤ (lookT d f.name).1.rows.length ∧ violK (lookT d f.name).1.rows f.src f.dst k = []) ∧ ∀ (k : Nat), (k ≤ (lookT d f.name).1.rows.length ∧ violK (lookT d f.name).1.rows f.src f.dst k = []) → Lm eIntS (((lookT d f.name).1).rows) ∧ (((decide ((k : Int) < (((((lookT d f.name).1).rows).length : Nat) : Int))) = true → K_okDep_spec d f ∧ (((okDep d f) = true → 0 ≤ (k : Int) ∧ Em eIntS (((lookT d f.name).1).rows) k fun e36 => K_sel_spec e36 f.src ∧ ((∃ (i : Nat), (0 : Int) = (i : Int) ∧ i ≤ k ∧ violI (lookT d f.name).1.rows f.src f.dst k i = []) ∧ ∀ (i : Nat), (i ≤ k ∧ violI (lookT d f.name).1.rows f.src f.dst k i = []) → ((decide ((i : Int) < (k : Int))) = true → 0 ≤ (i : Int) ∧ Em eIntS (((lookT d f.name).1).rows) i fun e52 => K_sel_spec e52 f.src ∧ (K_cmpRows_spec ((selR e52 f.src).1) ((selR e36 f.src).1) ∧ (((decide ((cmpR ((selR e52 f.src).1) ((selR e36 f.src).1)) = (0 : Int))) = true → 0 ≤ (i : Int) ∧ Em eIntS (((lookT d f.name).1).rows) i fun e67 => 0 ≤ f.dst ∧ Em intD e67 ((f.dst).toNat) fun e71 => 0 ≤ (k : Int) ∧ Em eIntS (((lookT d f.name).1).rows) k fun e76 => 0 ≤ f.dst ∧ Em intD e76 ((f.dst).toNat) fun e80 => ((!(decide (e71 = e80))) = true → [[.int .i64 (i : Int)], [.int .i64 (k : Int)]] = (violL d f).map intD ∧ True) ∧ ((!(decide (e71 = e80))) = false → inR ((i : Int) + (1 : Int)) ∧ ∃ (i' : Nat), ((i : Int) + (1 : Int)) = (i' : Int) ∧ (i' ≤ k ∧ violI (lookT d f.name).1.rows f.src f.dst k i' = []) ∧ k - i' < k - i)) ∧ ((decide ((cmpR ((selR e52 f.src).1) ((selR e36 f.src).1)) = (0 : Int))) = false → inR ((i : Int) + (1 : Int)) ∧ ∃ (i' : Nat), ((i : Int) + (1 : Int)) = (i' : Int) ∧ (i' ≤ k ∧ violI (lookT d f.name).1.rows f.src f.dst k i' = []) ∧ k - i' < k - i)))) ∧ ((decide ((i : Int) < (k : Int))) = false → inR ((k : Int) + (1 : Int)) ∧ ∃ (k' : Nat), ((k : Int) + (1 : Int)) = (k' : Int) ∧ (k' ≤ (lookT d f.name).1.rows.length ∧ violK (lookT d f.name).1.rows f.src f.dst k' = []) ∧ (lookT d f.name).1.rows.length - k' < (lookT d f.name).1.rows.length - k))) ∧ ((okDep d f) = false → [] = (violL d f).map intD ∧ True))) ∧ ((decide ((k : Int) < (((((lookT d f.name).1).rows).length : Nat) : Int))) = false → [] = (violL d f).map intD ∧ True))))) ?_
 intro n0 n1
 simp only [List.length_map] at n0 n1
 refine ⟨con_stl (lkT_spec _ f.name (by omega)) rfl, ⟨0, rfl, Nat.zero_le _, rfl⟩, fun k ⟨hk, hv⟩ => ?_⟩
 refine ⟨List.length_map _, fun g25 => ?_, fun g25 => ?_⟩
 ·replace g25 := yq g25
  refine ⟨okDep_spec _ _ (by omega), fun c0 => ?_, fun c0 => ?_⟩
  ·have hok : okDep d f = true := c0
   obtain ⟨hT, hd0, hd1, hsl⟩ := okDep_parts hok
   have hT8 := okTable_arity hT
   have hV : violL d f = violK (lookT d f.name).1.rows f.src f.dst (lookT d f.name).1.rows.length := by rw [violL, if_pos hok]
   refine ⟨by omega, rfl, by omega, fun e36 h36 => ?_⟩
   have hl36 := row_len hT (List.mem_of_getElem? h36)
   refine ⟨sel_spec _ _ (by omega), ⟨0, rfl, Nat.zero_le _, rfl⟩, fun i ⟨hi, hw⟩ => ?_⟩
   refine ⟨fun c1 => ?_, fun c1 => ?_⟩
   ·replace c1 := yq c1
    refine ⟨by omega, rfl, by omega, fun e52 h52 => ?_⟩
    have hl52 := row_len hT (List.mem_of_getElem? h52)
    have hb := badP_at (cols := f.src) (c := f.dst) h52 h36
    refine ⟨sel_spec _ _ (by omega), cmpRows_spec _ _, fun g63 => ?_, fun g63 => ?_⟩
    ·replace g63 := yq g63
     refine ⟨by omega, rfl, by omega, fun e67 h67 => ?_⟩
     obtain rfl := (same_at h52 h67).symm
     refine ⟨by omega, rfl, by omega, fun e71 h71 => ?_⟩
     refine ⟨by omega, rfl, by omega, fun e76 h76 => ?_⟩
     obtain rfl := (same_at h36 h76).symm
     refine ⟨by omega, rfl, by omega, fun e80 h80 => ?_⟩
     refine ⟨fun c2 => ?_, fun c2 => ?_⟩
     ·replace c2 := nq (nt c2)
      have hB : badP (lookT d f.name).1.rows f.src f.dst i k = true := by rw [hb, getD_at h71, getD_at h80, cmpR_zero.1 g63]; simp [c2]
      have hE := viol_found hv hw hB (by omega) (by omega : k < (lookT d f.name).1.rows.length)
      refine ⟨?_, trivial⟩
      ·first | (rw [hE] <;> rfl) | (rw [hV, hE] <;> rfl)
     ·replace c2 := yq (nf c2)
      refine ⟨⟨by omega, by omega⟩, ?_⟩
      exact ⟨i + 1, rfl, ⟨by omega, violI_no hw (by rw [hb]; first | (simp [show ¬ (selR e52 f.src).1 = (selR e36 f.src).1 from fun q => g63 (cmpR_zero.2 q)]; done) | (rw [getD_at h71, getD_at h80]; simp [c2]; done))⟩, by omega⟩
    ·replace g63 := nq g63
     refine ⟨⟨by omega, by omega⟩, ?_⟩
     exact ⟨i + 1, rfl, ⟨by omega, violI_no hw (by rw [hb]; first | (simp [show ¬ (selR e52 f.src).1 = (selR e36 f.src).1 from fun q => g63 (cmpR_zero.2 q)]; done) | (rw [getD_at h71, getD_at h80]; simp [c2]; done))⟩, by omega⟩
   ·replace c1 := nq c1
    refine ⟨⟨by omega, by omega⟩, ?_⟩
    exact ⟨k + 1, rfl, ⟨by omega, violK_next hv (by obtain rfl : i = k := (by omega); exact hw)⟩, by omega⟩
  ·have hE : violL d f = [] := by first | (rw [violL, if_neg (by rw [c0]; decide)]; done) | (rw [violL]; split <;> first | (rw [show (lookT d f.name).1.rows.length = k by omega, hv]; done) | rfl)
   refine ⟨?_, trivial⟩
   ·first | (rw [hE] <;> rfl) | (rw [hV, hE] <;> rfl)
 ·replace g25 := nq g25
  have hE : violL d f = [] := by first | (rw [violL, if_neg (by rw [c0]; decide)]; done) | (rw [violL]; split <;> first | (rw [show (lookT d f.name).1.rows.length = k by omega, hv]; done) | rfl)
  refine ⟨?_, trivial⟩
  ·first | (rw [hE] <;> rfl) | (rw [hV, hE] <;> rfl)
abbrev K_depOk_impl (d : DatabaseD) (f : DependencyD) : Prop := Con Tryz.prog 152 [.agg [.sl 162 3 (d.tables.map eTable)], .agg [.str f.name, .sl 3 1 (f.src.map intD), .int .i64 f.dst]] (vB (depOk d f)) []
theorem depOk_impl (d : DatabaseD) (f : DependencyD) (hc : cDatabase d ≤ 1048576) : K_depOk_impl d f := by
 refine con_x tbOk mixedW Tryz.func152 (by kernel_rfl) (.call (vB (okDep d f)) [] <| .br (callP (k_viol_impl d f) <| .len ((violL d f).length) <| .fin []) (.fin [])) ?_
 refine Eq.mpr (by kernel_rfl : _ = ((d.tables.map eTable).length ≤ 9223372036854775807 → (f.src.map intD).length ≤ 9223372036854775807 → K_okDep_impl d f ∧ (((okDep d f) = true → K_viol_impl d f ∧ Lm intD (violL d f) ∧ (decide ((((violL d f).length : Nat) : Int) = (0 : Int))) = (depOk d f) ∧ True) ∧ ((okDep d f) = false → (false) = (depOk d f) ∧ True)))) ?_
 intro n0 n1
 simp only [List.length_map] at n0 n1
 refine ⟨okDep_impl _ _ (by omega), fun g8 => ?_, fun g8 => ?_⟩
 ·refine ⟨viol_impl _ _ (by omega), List.length_map _, ?_, trivial⟩
  ·first | (simp [depOk, *]; done) | (rw [depOk, g8, len_zero]; rfl)
 ·refine ⟨?_, trivial⟩
  ·first | (simp [depOk, *]; done) | (rw [depOk, g8, len_zero]; rfl)
abbrev K_depOk_spec (d : DatabaseD) (f : DependencyD) : Prop := Con Tryz.prog 136 [.agg [.sl 162 3 (d.tables.map eTable)], .agg [.str f.name, .sl 3 1 (f.src.map intD), .int .i64 f.dst]] (vB (depOk d f)) []
theorem depOk_spec (d : DatabaseD) (f : DependencyD) (hc : cDatabase d ≤ 1048576) : K_depOk_spec d f := by
 refine con_x tbOk mixedW Tryz.func136 (by kernel_rfl) (.call (vB (okDep d f)) [] <| .br (callP (k_viol_spec d f) <| .len ((violL d f).length) <| .fin []) (.fin [])) ?_
 refine Eq.mpr (by kernel_rfl : _ = ((d.tables.map eTable).length ≤ 9223372036854775807 → (f.src.map intD).length ≤ 9223372036854775807 → K_okDep_spec d f ∧ (((okDep d f) = true → K_viol_spec d f ∧ Lm intD (violL d f) ∧ (decide ((((violL d f).length : Nat) : Int) = (0 : Int))) = (depOk d f) ∧ True) ∧ ((okDep d f) = false → (false) = (depOk d f) ∧ True)))) ?_
 intro n0 n1
 simp only [List.length_map] at n0 n1
 refine ⟨okDep_spec _ _ (by omega), fun g8 => ?_, fun g8 => ?_⟩
 ·refine ⟨viol_spec _ _ (by omega), List.length_map _, ?_, trivial⟩
  ·first | (simp [depOk, *]; done) | (rw [depOk, g8, len_zero]; rfl)
 ·refine ⟨?_, trivial⟩
  ·first | (simp [depOk, *]; done) | (rw [depOk, g8, len_zero]; rfl)
abbrev k_miss_impl (d : DatabaseD) (x : InclusionD) : AV × List (Nat × Rs) := (.own 0, [(0, .arr 3 1 true ((missI d x).map intD))])
abbrev K_miss_impl (d : DatabaseD) (x : InclusionD) : Prop := Con Tryz.prog 234 [.agg [.sl 162 3 (d.tables.map eTable)], .agg [.str x.name, .int .i64 x.column, .str x.into, .int .i64 x.intoColumn]] (k_miss_impl d x).1 (k_miss_impl d x).2
theorem miss_impl (d : DatabaseD) (x : InclusionD) (hc : cDatabase d ≤ 1048576) : K_miss_impl d x := by
 refine con_x tbOk mixedW Tryz.func234 (by kernel_rfl) (.call (vB (okInc d x)) [] <| .br (.fin []) (.call (.tup [.agg [.p none (.str (((lookT d x.name).1).name)), vI (((lookT d x.name).1).arity), .p none (.sl 32 1 ((((lookT d x.name).1).rows).map eIntS))], vB ((lookT d x.name).2)]) [] <| .call (.tup [.agg [.p none (.str (((lookT d x.into).1).name)), vI (((lookT d x.into).1).arity), .p none (.sl 32 1 ((((lookT d x.into).1).rows).map eIntS))], vB ((lookT d x.into).2)]) [] <| .len ((((lookT d x.into).1).rows).length) <| .loop (Nat × (List Int)) (Q2 Nat (List Int)) [9, 11, 34, 38, 39, 40, 41, 42, 43, 44, 45, 46, 47, 48, 49, 50] [3400, 4800, 4900] (fun yy0 => [(38, vI (yy0.1 : Int)), (9, .own 3400)]) (fun yy0 => [(3400, some (.arr 3 1 true (yy0.2.map intD)))]) (fun yy0 => yy0.1 ≤ (lookT d x.into).1.rows.length ∧ yy0.2 = colOf ((lookT d x.into).1.rows.take yy0.1) x.intoColumn) (fun yy0 => (lookT d x.into).1.rows.length - yy0.1) (fun yy0 => .br (.elem _ eIntS (((lookT d x.into).1).rows) (fun e40 => .elem _ intD e40 (fun e46 => .app Int intD yy0.2 ([e46] : List Int) <| .back [(3400, 4900)]))) (.len ((((lookT d x.name).1).rows).length) <| .loop (Nat × (List Int)) (Q2 Nat (List Int)) [12, 14, 15, 51, 55, 56, 57, 58, 59, 60, 61, 62, 63, 64, 65, 66, 67, 68, 69, 70, 71, 72] [5100, 7000, 7100] (fun yy1 => [(55, vI (yy1.1 : Int)), (12, .own 5100)]) (fun yy1 => [(5100, some (.arr 3 1 true (yy1.2.map intD)))]) (fun yy1 => yy1.1 ≤ (lookT d x.name).1.rows.length ∧ yy1.2 = (colOf ((lookT d x.name).1.rows.take yy1.1) x.column).filter fun v => !decide (v ∈ yy0.2)) (fun yy1 => (lookT d x.name).1.rows.length - yy1.1) (fun yy1 => .br (.elem _ eIntS (((lookT d x.name).1).rows) (fun e57 => .elem _ intD e57 (fun e62 => .call (vB (decide (e62 ∈ yy0.2))) [] <| .br (.app Int intD yy1.2 ([e62] : List Int) <| .back [(5100, 7100)]) (.back [(5100, 5100)])))) (.callx [.own 0] [(0, .arr 3 1 true (yy1.2.map intD))] [(0, 5100)] (.tup []) [(0, .arr 3 1 true ((sortI yy1.2).map intD))] <| .callx [.own 0] [(0, .arr 3 1 true ((sortI yy1.2).map intD))] [(0, 5100)] (.own 1) [(1, .arr 3 1 true ((compI (sortI yy1.2)).map intD))] <| .fin [(0, 7601)])))))) ?_
 refine Eq.mpr (by kernel_rfl : _ = ((d.tables.map eTable).length ≤ 9223372036854775807 → K_okInc_impl d x ∧ (((!(okInc d x)) = true → [] = (missI d x).map intD ∧ True) ∧ ((!(okInc d x)) = false → Con Tryz.prog 148 [.agg [.sl 162 3 (d.tables.map eTable)], .one (.str x.name)] (.tup [.agg [.p none (.str (((lookT d x.name).1).name)), vI (((lookT d x.name).1).arity), .p none (.sl 32 1 ((((lookT d x.name).1).rows).map eIntS))], vB ((lookT d x.name).2)]) [] ∧ (Con Tryz.prog 148 [.agg [.sl 162 3 (d.tables.map eTable)], .one (.str x.into)] (.tup [.agg [.p none (.str (((lookT d x.into).1).name)), vI (((lookT d x.into).1).arity), .p none (.sl 32 1 ((((lookT d x.into).1).rows).map eIntS))], vB ((lookT d x.into).2)]) [] ∧ (Lm eIntS (((lookT d x.into).1).rows) ∧ ((∃ (k : Nat) (there : List Int), (0 : Int) = (k : Int) ∧ [] = there.map intD ∧ k ≤ (lookT d x.into).1.rows.length ∧ there = colOf ((lookT d x.into).1.rows.take k) x.intoColumn) ∧ ∀ (k : Nat) (there : List Int), (k ≤ (lookT d x.into).1.rows.length ∧ there = colOf ((lookT d x.into).1.rows.take k) x.intoColumn) → ((decide ((k : Int) < (((((lookT d x.into).1).rows).length : Nat) : Int))) = true → 0 ≤ (k : Int) ∧ Em eIntS (((lookT d x.into).1).rows) k fun e40 => 0 ≤ x.intoColumn ∧ Em intD e40 ((x.intoColumn).toNat) fun e46 => there.map intD = there.map intD ∧ [[.int .i64 e46]] = ([e46] : List Int).map intD ∧ (∀ x, flatB (intD x) = true) ∧ (there.length + ([e46] : List Int).length) * 8 ≤ 140737488355328 ∧ inR ((k : Int) + (1 : Int)) ∧ ∃ (k' : Nat) (there' : List Int), ((k : Int) + (1 : Int)) = (k' : Int) ∧ (there ++ [e46]).map intD = there'.map intD ∧ (k' ≤ (lookT d x.into).1.rows.length ∧ there' = colOf ((lookT d x.into).1.rows.take k') x.intoColumn) ∧ (lookT d x.into).1.rows.length - k' < (lookT d x.into).1.rows.length - k) ∧ ((decide ((k : Int) < (((((lookT d x.into).1).rows).length : Nat) : Int))) = false → Lm eIntS (((lookT d x.name).1).rows) ∧ ((∃ (j : Nat) (out : List Int), (0 : Int) = (j : Int) ∧ [] = out.map intD ∧ j ≤ (lookT d x.name).1.rows.length ∧ out = (colOf ((lookT d x.name).1.rows.take j) x.column).filter fun v => !decide (v ∈ there)) ∧ ∀ (j : Nat) (out : List Int), (j ≤ (lookT d x.name).1.rows.length ∧ out = (colOf ((lookT d x.name).1.rows.take j) x.column).filter fun v => !decide (v ∈ there)) → ((decide ((j : Int) < (((((lookT d x.name).1).rows).length : Nat) : Int))) = true → 0 ≤ (j : Int) ∧ Em eIntS (((lookT d x.name).1).rows) j fun e57 => 0 ≤ x.column ∧ Em intD e57 ((x.column).toNat) fun e62 => K_ctI there e62 ∧ (((!(decide (e62 ∈ there))) = true → out.map intD = out.map intD ∧ [[.int .i64 e62]] = ([e62] : List Int).map intD ∧ (∀ x, flatB (intD x) = true) ∧ (out.length + ([e62] : List Int).length) * 8 ≤ 140737488355328 ∧ inR ((j : Int) + (1 : Int)) ∧ ∃ (j' : Nat) (out' : List Int), ((j : Int) + (1 : Int)) = (j' : Int) ∧ (out ++ [e62]).map intD = out'.map intD ∧ (j' ≤ (lookT d x.name).1.rows.length ∧ out' = (colOf ((lookT d x.name).1.rows.take j') x.column).filter fun v => !decide (v ∈ there)) ∧ (lookT d x.name).1.rows.length - j' < (lookT d x.name).1.rows.length - j) ∧ ((!(decide (e62 ∈ there))) = false → inR ((j : Int) + (1 : Int)) ∧ ∃ (j' : Nat) (out' : List Int), ((j : Int) + (1 : Int)) = (j' : Int) ∧ out.map intD = out'.map intD ∧ (j' ≤ (lookT d x.name).1.rows.length ∧ out' = (colOf ((lookT d x.name).1.rows.take j') x.column).filter fun v => !decide (v ∈ there)) ∧ (lookT d x.name).1.rows.length - j' < (lookT d x.name).1.rows.length - j))) ∧ ((decide ((j : Int) < (((((lookT d x.name).1).rows).length : Nat) : Int))) = false → Con2 Tryz.prog 248 [.own 0] [(0, .arr 3 1 true (out.map intD))] (.tup []) [(0, .arr 3 1 true ((sortI out).map intD))] ∧ out.map intD = out.map intD ∧ Con2 Tryz.prog 273 [.own 0] [(0, .arr 3 1 true ((sortI out).map intD))] (.own 1) [(1, .arr 3 1 true ((compI (sortI out)).map intD))] ∧ (sortI out).map intD = (sortI out).map intD ∧ (compI (sortI out)).map intD = (missI d x).map intD ∧ True)))))))))) ?_
 intro n0
 simp only [List.length_map] at n0
 refine ⟨okInc_impl _ _ (by omega), fun c0 => ?_, fun c0 => ?_⟩
 ·replace c0 := nt c0
  have hbad : missI d x = [] := by rw [missI, if_neg (by simpa using c0)]
  refine ⟨?_, trivial⟩
  ·first | (rw [hbad] <;> rfl) | (rw [hE] <;> rfl)
 ·replace c0 := nf c0
  have hok : okInc d x = true := by simpa using c0
  obtain ⟨hTa, hTb, hca, hcb⟩ := okInc_parts hok
  have hA8 := okTable_arity hTa
  have hB8 := okTable_arity hTb
  refine ⟨con_stl (lkT_impl _ x.name (by omega)) rfl, con_stl (lkT_impl _ x.into (by omega)) rfl, List.length_map _, ⟨0, ([] : List Int), rfl, rfl, Nat.zero_le _, rfl⟩, fun k there ⟨hk, hth⟩ => ?_⟩
  have htl : there.length = k := by rw [hth, colOf, List.length_map, List.length_take]; omega
  refine ⟨fun c1 => ?_, fun c1 => ?_⟩
  ·replace c1 := yq c1
   refine ⟨by omega, rfl, by omega, fun e40 h40 => ?_⟩
   have hl40 := row_len hTb (List.mem_of_getElem? h40)
   refine ⟨by omega, rfl, by omega, fun e46 h46 => ?_⟩
   refine ⟨rfl, rfl, fun _ => rfl, by first | omega | (simp [hth]; omega) | (simp; omega), ?_⟩
   refine ⟨⟨by omega, by omega⟩, ?_⟩
   exact ⟨k + 1, _, rfl, rfl, ⟨by omega, by rw [colOf_snoc _ _ h40, ← hth, getD_at h46]⟩, by omega⟩
  ·replace c1 := nq c1
   have hTH : there = colOf (lookT d x.into).1.rows x.intoColumn := by rw [hth, List.take_of_length_le (by omega)]
   refine ⟨List.length_map _, ⟨0, ([] : List Int), rfl, rfl, Nat.zero_le _, rfl⟩, fun j out ⟨hj, ho⟩ => ?_⟩
   have hol : out.length ≤ j := by rw [ho]; refine Nat.le_trans (List.length_filter_le _ _) ?_; simp [colOf]; omega
   refine ⟨fun c2 => ?_, fun c2 => ?_⟩
   ·replace c2 := yq c2
    refine ⟨by omega, rfl, by omega, fun e57 h57 => ?_⟩
    have hl57 := row_len hTa (List.mem_of_getElem? h57)
    refine ⟨by omega, rfl, by omega, fun e62 h62 => ?_⟩
    refine ⟨ctI _ _, fun c3 => ?_, fun c3 => ?_⟩
    ·replace c3 := nt c3
     refine ⟨rfl, rfl, fun _ => rfl, by first | omega | (simp [hth]; omega) | (simp; omega), ?_⟩
     refine ⟨⟨by omega, by omega⟩, ?_⟩
     exact ⟨j + 1, _, rfl, rfl, ⟨by omega, by rw [colOf_snoc _ _ h57, List.filter_append, ← ho, getD_at h62, List.filter_cons_of_pos (by simpa using c3)]; rfl⟩, by omega⟩
    ·replace c3 := nf c3
     refine ⟨⟨by omega, by omega⟩, ?_⟩
     exact ⟨j + 1, _, rfl, rfl, ⟨by omega, by rw [colOf_snoc _ _ h57, List.filter_append, ← ho, getD_at h62, List.filter_cons_of_neg (by simpa using c3)]; simp⟩, by omega⟩
   ·replace c2 := nq c2
    have hE : missI d x = compI (sortI out) := by rw [missI, if_pos hok, missL, ho, hTH, List.take_of_length_le (by omega)]
    refine ⟨con_sortI out (by omega), rfl, con_compI (sortI out) (by first | omega | (rw [sortI_len]; omega)), rfl, ?_, trivial⟩
    ·first | (rw [hbad] <;> rfl) | (rw [hE] <;> rfl)
abbrev K_incOk_impl (d : DatabaseD) (x : InclusionD) : Prop := Con Tryz.prog 153 [.agg [.sl 162 3 (d.tables.map eTable)], .agg [.str x.name, .int .i64 x.column, .str x.into, .int .i64 x.intoColumn]] (vB (incOk d x)) []
theorem incOk_impl (d : DatabaseD) (x : InclusionD) (hc : cDatabase d ≤ 1048576) : K_incOk_impl d x := by
 refine con_x tbOk mixedW Tryz.func153 (by kernel_rfl) (.call (vB (okInc d x)) [] <| .br (callP (k_miss_impl d x) <| .len ((missI d x).length) <| .fin []) (.fin [])) ?_
 refine Eq.mpr (by kernel_rfl : _ = ((d.tables.map eTable).length ≤ 9223372036854775807 → K_okInc_impl d x ∧ (((okInc d x) = true → K_miss_impl d x ∧ Lm intD (missI d x) ∧ (decide ((((missI d x).length : Nat) : Int) = (0 : Int))) = (incOk d x) ∧ True) ∧ ((okInc d x) = false → (false) = (incOk d x) ∧ True)))) ?_
 intro n0
 simp only [List.length_map] at n0
 refine ⟨okInc_impl _ _ (by omega), fun g8 => ?_, fun g8 => ?_⟩
 ·refine ⟨miss_impl _ _ (by omega), List.length_map _, ?_, trivial⟩
  ·first | (simp [incOk, *]; done) | (rw [incOk, g8, len_zero, missI_nil g8]; rfl)
 ·refine ⟨?_, trivial⟩
  ·first | (simp [incOk, *]; done) | (rw [incOk, g8, len_zero, missI_nil g8]; rfl)
abbrev k_miss_spec (d : DatabaseD) (x : InclusionD) : AV × List (Nat × Rs) := (.own 0, [(0, .arr 3 1 true ((missS d x).map intD))])
abbrev K_miss_spec (d : DatabaseD) (x : InclusionD) : Prop := Con Tryz.prog 215 [.agg [.sl 162 3 (d.tables.map eTable)], .agg [.str x.name, .int .i64 x.column, .str x.into, .int .i64 x.intoColumn]] (k_miss_spec d x).1 (k_miss_spec d x).2
theorem miss_spec (d : DatabaseD) (x : InclusionD) (hc : cDatabase d ≤ 1048576) : K_miss_spec d x := by
 refine con_x tbOk mixedW Tryz.func215 (by kernel_rfl) (.call (vB (okInc d x)) [] <| .br (.fin [(0, 1500)]) (.call (.tup [.agg [.p none (.str (((lookT d x.name).1).name)), vI (((lookT d x.name).1).arity), .p none (.sl 32 1 ((((lookT d x.name).1).rows).map eIntS))], vB ((lookT d x.name).2)]) [] <| .call (.tup [.agg [.p none (.str (((lookT d x.into).1).name)), vI (((lookT d x.into).1).arity), .p none (.sl 32 1 ((((lookT d x.into).1).rows).map eIntS))], vB ((lookT d x.into).2)]) [] <| .loop (Nat × (List Int)) (Q2 Nat (List Int)) [5, 10, 11, 12, 13, 14, 15, 35, 36, 37, 38, 39, 40, 41, 42, 43, 44, 45, 46, 47, 48, 49, 50, 51, 52, 53, 54, 55, 56, 57, 58, 59, 60, 61, 62, 63, 64, 65, 66, 67, 68, 69, 70, 71, 72, 73, 74, 75, 76, 77, 78, 79, 80, 81, 82, 83, 84, 85, 86, 87, 88, 89] [1500, 8800, 8900] (fun yy0 => [(10, vI (yy0.1 : Int)), (5, .own 1500)]) (fun yy0 => [(1500, some (.arr 3 1 true (yy0.2.map intD)))]) (fun yy0 => yy0.1 ≤ 10 ∧ yy0.2 = missN d x yy0.1) (fun yy0 => 10 - yy0.1) (fun yy0 => .br (.loop (Nat × Bool) (Q2 Nat Bool) [11, 13, 39, 40, 41, 42, 43, 44, 45, 46, 47, 48, 49, 50, 51, 52, 53, 54, 55, 56, 57, 58, 59] [] (fun yy1 => [(13, vI (yy1.1 : Int)), (11, vB yy1.2)]) (fun yy1 => []) (fun yy1 => yy1.1 ≤ (lookT d x.name).1.rows.length ∧ yy1.2 = decide ((yy0.1 : Int) ∈ colOf ((lookT d x.name).1.rows.take yy1.1) x.column)) (fun yy1 => (lookT d x.name).1.rows.length - yy1.1) (fun yy1 => .len ((((lookT d x.name).1).rows).length) <| .br (.br (.back []) (.elem _ eIntS (((lookT d x.name).1).rows) (fun e51 => .elem _ intD e51 (fun e55 => .back [])))) (.loop (Nat × Bool) (Q2 Nat Bool) [12, 14, 60, 61, 62, 63, 64, 65, 66, 67, 68, 69, 70, 71, 72, 73, 74, 75, 76, 77, 78, 79, 80] [] (fun yy2 => [(14, vI (yy2.1 : Int)), (12, vB yy2.2)]) (fun yy2 => []) (fun yy2 => yy2.1 ≤ (lookT d x.into).1.rows.length ∧ yy2.2 = decide ((yy0.1 : Int) ∈ colOf ((lookT d x.into).1.rows.take yy2.1) x.intoColumn)) (fun yy2 => (lookT d x.into).1.rows.length - yy2.1) (fun yy2 => .len ((((lookT d x.into).1).rows).length) <| .br (.br (.back []) (.elem _ eIntS (((lookT d x.into).1).rows) (fun e72 => .elem _ intD e72 (fun e76 => .back [])))) (.br (.lit <| .lit <| .br (.app Int intD yy0.2 ([(yy0.1 : Int)] : List Int) <| .back [(1500, 8900)]) (.back [(1500, 1500)])) (.back [(1500, 1500)])))))) (.fin [(0, 1500)])))) ?_
 refine Eq.mpr (by kernel_rfl : _ = ((d.tables.map eTable).length ≤ 9223372036854775807 → K_okInc_spec d x ∧ (((!(okInc d x)) = true → [] = (missS d x).map intD ∧ True) ∧ ((!(okInc d x)) = false → Con Tryz.prog 132 [.agg [.sl 162 3 (d.tables.map eTable)], .one (.str x.name)] (.tup [.agg [.p none (.str (((lookT d x.name).1).name)), vI (((lookT d x.name).1).arity), .p none (.sl 32 1 ((((lookT d x.name).1).rows).map eIntS))], vB ((lookT d x.name).2)]) [] ∧ (Con Tryz.prog 132 [.agg [.sl 162 3 (d.tables.map eTable)], .one (.str x.into)] (.tup [.agg [.p none (.str (((lookT d x.into).1).name)), vI (((lookT d x.into).1).arity), .p none (.sl 32 1 ((((lookT d x.into).1).rows).map eIntS))], vB ((lookT d x.into).2)]) [] ∧ ((∃ (v : Nat) (out : List Int), (0 : Int) = (v : Int) ∧ [] = out.map intD ∧ v ≤ 10 ∧ out = missN d x v) ∧ ∀ (v : Nat) (out : List Int), (v ≤ 10 ∧ out = missN d x v) → ((decide ((v : Int) ≤ (9 : Int))) = true → (∃ (k : Nat) (p : Bool), (0 : Int) = (k : Int) ∧ (false) = p ∧ k ≤ (lookT d x.name).1.rows.length ∧ p = decide ((v : Int) ∈ colOf ((lookT d x.name).1.rows.take k) x.column)) ∧ ∀ (k : Nat) (p : Bool), (k ≤ (lookT d x.name).1.rows.length ∧ p = decide ((v : Int) ∈ colOf ((lookT d x.name).1.rows.take k) x.column)) → Lm eIntS (((lookT d x.name).1).rows) ∧ (((decide ((k : Int) < (((((lookT d x.name).1).rows).length : Nat) : Int))) = true → ((p) = true → inR ((k : Int) + (1 : Int)) ∧ ∃ (k' : Nat) (p' : Bool), ((k : Int) + (1 : Int)) = (k' : Int) ∧ (true) = p' ∧ (k' ≤ (lookT d x.name).1.rows.length ∧ p' = decide ((v : Int) ∈ colOf ((lookT d x.name).1.rows.take k') x.column)) ∧ (lookT d x.name).1.rows.length - k' < (lookT d x.name).1.rows.length - k) ∧ ((p) = false → 0 ≤ (k : Int) ∧ Em eIntS (((lookT d x.name).1).rows) k fun e51 => 0 ≤ x.column ∧ Em intD e51 ((x.column).toNat) fun e55 => inR ((k : Int) + (1 : Int)) ∧ ∃ (k' : Nat) (p' : Bool), ((k : Int) + (1 : Int)) = (k' : Int) ∧ (decide (e55 = (v : Int))) = p' ∧ (k' ≤ (lookT d x.name).1.rows.length ∧ p' = decide ((v : Int) ∈ colOf ((lookT d x.name).1.rows.take k') x.column)) ∧ (lookT d x.name).1.rows.length - k' < (lookT d x.name).1.rows.length - k)) ∧ ((decide ((k : Int) < (((((lookT d x.name).1).rows).length : Nat) : Int))) = false → (∃ (j : Nat) (q : Bool), (0 : Int) = (j : Int) ∧ (false) = q ∧ j ≤ (lookT d x.into).1.rows.length ∧ q = decide ((v : Int) ∈ colOf ((lookT d x.into).1.rows.take j) x.intoColumn)) ∧ ∀ (j : Nat) (q : Bool), (j ≤ (lookT d x.into).1.rows.length ∧ q = decide ((v : Int) ∈ colOf ((lookT d x.into).1.rows.take j) x.intoColumn)) → Lm eIntS (((lookT d x.into).1).rows) ∧ (((decide ((j : Int) < (((((lookT d x.into).1).rows).length : Nat) : Int))) = true → ((q) = true → inR ((j : Int) + (1 : Int)) ∧ ∃ (j' : Nat) (q' : Bool), ((j : Int) + (1 : Int)) = (j' : Int) ∧ (true) = q' ∧ (j' ≤ (lookT d x.into).1.rows.length ∧ q' = decide ((v : Int) ∈ colOf ((lookT d x.into).1.rows.take j') x.intoColumn)) ∧ (lookT d x.into).1.rows.length - j' < (lookT d x.into).1.rows.length - j) ∧ ((q) = false → 0 ≤ (j : Int) ∧ Em eIntS (((lookT d x.into).1).rows) j fun e72 => 0 ≤ x.intoColumn ∧ Em intD e72 ((x.intoColumn).toNat) fun e76 => inR ((j : Int) + (1 : Int)) ∧ ∃ (j' : Nat) (q' : Bool), ((j : Int) + (1 : Int)) = (j' : Int) ∧ (decide (e76 = (v : Int))) = q' ∧ (j' ≤ (lookT d x.into).1.rows.length ∧ q' = decide ((v : Int) ∈ colOf ((lookT d x.into).1.rows.take j') x.intoColumn)) ∧ (lookT d x.into).1.rows.length - j' < (lookT d x.into).1.rows.length - j)) ∧ ((decide ((j : Int) < (((((lookT d x.into).1).rows).length : Nat) : Int))) = false → ((p) = true → ((!q) = true → out.map intD = out.map intD ∧ [[.int .i64 (v : Int)]] = ([(v : Int)] : List Int).map intD ∧ (∀ x, flatB (intD x) = true) ∧ (out.length + ([(v : Int)] : List Int).length) * 8 ≤ 140737488355328 ∧ inR ((v : Int) + (1 : Int)) ∧ ∃ (v' : Nat) (out' : List Int), ((v : Int) + (1 : Int)) = (v' : Int) ∧ (out ++ [(v : Int)]).map intD = out'.map intD ∧ (v' ≤ 10 ∧ out' = missN d x v') ∧ 10 - v' < 10 - v) ∧ ((!q) = false → inR ((v : Int) + (1 : Int)) ∧ ∃ (v' : Nat) (out' : List Int), ((v : Int) + (1 : Int)) = (v' : Int) ∧ out.map intD = out'.map intD ∧ (v' ≤ 10 ∧ out' = missN d x v') ∧ 10 - v' < 10 - v)) ∧ ((p) = false → inR ((v : Int) + (1 : Int)) ∧ ∃ (v' : Nat) (out' : List Int), ((v : Int) + (1 : Int)) = (v' : Int) ∧ out.map intD = out'.map intD ∧ (v' ≤ 10 ∧ out' = missN d x v') ∧ 10 - v' < 10 - v)))))) ∧ ((decide ((v : Int) ≤ (9 : Int))) = false → out.map intD = (missS d x).map intD ∧ True))))))) ?_
 intro n0
 simp only [List.length_map] at n0
 refine ⟨okInc_spec _ _ (by omega), fun c0 => ?_, fun c0 => ?_⟩
 ·replace c0 := nt c0
  have hbad : missS d x = [] := by rw [missS, if_neg (by simpa using c0)]
  refine ⟨?_, trivial⟩
  ·first | (rw [hbad] <;> rfl) | (rw [hE] <;> rfl)
 ·replace c0 := nf c0
  have hok : okInc d x = true := by simpa using c0
  obtain ⟨hTa, hTb, hca, hcb⟩ := okInc_parts hok
  have hA8 := okTable_arity hTa
  have hB8 := okTable_arity hTb
  refine ⟨con_stl (lkT_spec _ x.name (by omega)) rfl, con_stl (lkT_spec _ x.into (by omega)) rfl, ⟨0, ([] : List Int), rfl, rfl, by omega, rfl⟩, fun v out ⟨hvv, ho⟩ => ?_⟩
  have hol := missN_len d x v
  rw [← ho] at hol
  refine ⟨fun c1 => ?_, fun c1 => ?_⟩
  ·replace c1 := yq c1
   refine ⟨⟨0, false, rfl, rfl, Nat.zero_le _, rfl⟩, fun k p ⟨hk, hp⟩ => ?_⟩
   refine ⟨List.length_map _, fun c2 => ?_, fun c2 => ?_⟩
   ·replace c2 := yq c2
    obtain ⟨ra, hra⟩ := at_some (l := (lookT d x.name).1.rows) (k := k) (by omega)
    refine ⟨fun g47 => ?_, fun g47 => ?_⟩
    ·refine ⟨⟨by omega, by omega⟩, ?_⟩
     exact ⟨k + 1, _, rfl, rfl, ⟨by omega, by rw [colOf_snoc _ _ hra, mem_snoc, ← hp, g47]; rfl⟩, by omega⟩
    ·refine ⟨by omega, rfl, by omega, fun e51 h51 => ?_⟩
     have hl51 := row_len hTa (List.mem_of_getElem? h51)
     refine ⟨by omega, rfl, by omega, fun e55 h55 => ?_⟩
     refine ⟨⟨by omega, by omega⟩, ?_⟩
     exact ⟨k + 1, _, rfl, rfl, ⟨by omega, by obtain rfl := same_at h51 hra; rw [colOf_snoc _ _ hra, mem_snoc, ← hp, g47, getD_at h55, Bool.false_or]; exact decide_eq_decide.2 ⟨Eq.symm, Eq.symm⟩⟩, by omega⟩
   ·replace c2 := nq c2
    have hP : p = decide ((v : Int) ∈ colOf (lookT d x.name).1.rows x.column) := by rw [hp, List.take_of_length_le (by omega)]
    refine ⟨⟨0, false, rfl, rfl, Nat.zero_le _, rfl⟩, fun j q ⟨hj, hq⟩ => ?_⟩
    refine ⟨List.length_map _, fun c3 => ?_, fun c3 => ?_⟩
    ·replace c3 := yq c3
     obtain ⟨rb, hrb⟩ := at_some (l := (lookT d x.into).1.rows) (k := j) (by omega)
     refine ⟨fun g68 => ?_, fun g68 => ?_⟩
     ·refine ⟨⟨by omega, by omega⟩, ?_⟩
      exact ⟨j + 1, _, rfl, rfl, ⟨by omega, by rw [colOf_snoc _ _ hrb, mem_snoc, ← hq, g68]; rfl⟩, by omega⟩
     ·refine ⟨by omega, rfl, by omega, fun e72 h72 => ?_⟩
      have hl72 := row_len hTb (List.mem_of_getElem? h72)
      refine ⟨by omega, rfl, by omega, fun e76 h76 => ?_⟩
      refine ⟨⟨by omega, by omega⟩, ?_⟩
      exact ⟨j + 1, _, rfl, rfl, ⟨by omega, by obtain rfl := same_at h72 hrb; rw [colOf_snoc _ _ hrb, mem_snoc, ← hq, g68, getD_at h76, Bool.false_or]; exact decide_eq_decide.2 ⟨Eq.symm, Eq.symm⟩⟩, by omega⟩
    ·replace c3 := nq c3
     have hQ : q = decide ((v : Int) ∈ colOf (lookT d x.into).1.rows x.intoColumn) := by rw [hq, List.take_of_length_le (by omega)]
     refine ⟨fun g82 => ?_, fun g82 => ?_⟩
     ·refine ⟨fun c4 => ?_, fun c4 => ?_⟩
      ·replace c4 := nt c4
       refine ⟨rfl, rfl, fun _ => rfl, by first | omega | (simp [ho]; omega) | (simp; omega), ?_⟩
       refine ⟨⟨by omega, by omega⟩, ?_⟩
       exact ⟨v + 1, _, rfl, rfl, ⟨by omega, by rw [ho, missN_yes (by rw [missB, ← hP, ← hQ, g82, c4]; rfl)]⟩, by omega⟩
      ·replace c4 := nf c4
       refine ⟨⟨by omega, by omega⟩, ?_⟩
       exact ⟨v + 1, _, rfl, rfl, ⟨by omega, by rw [ho, missN_no (by rw [missB, ← hP, ← hQ, g82, c4]; rfl)]⟩, by omega⟩
     ·refine ⟨⟨by omega, by omega⟩, ?_⟩
      exact ⟨v + 1, _, rfl, rfl, ⟨by omega, by rw [ho, missN_no (by rw [missB, ← hP, ← hQ, g82]; rfl)]⟩, by omega⟩
  ·replace c1 := nq c1
   have hE : missS d x = out := by rw [missS, if_pos hok, ho, show v = 10 by omega]
   refine ⟨?_, trivial⟩
   ·first | (rw [hbad] <;> rfl) | (rw [hE] <;> rfl)
abbrev K_incOk_spec (d : DatabaseD) (x : InclusionD) : Prop := Con Tryz.prog 137 [.agg [.sl 162 3 (d.tables.map eTable)], .agg [.str x.name, .int .i64 x.column, .str x.into, .int .i64 x.intoColumn]] (vB (incOk d x)) []
theorem incOk_spec (d : DatabaseD) (x : InclusionD) (hc : cDatabase d ≤ 1048576) : K_incOk_spec d x := by
 refine con_x tbOk mixedW Tryz.func137 (by kernel_rfl) (.call (vB (okInc d x)) [] <| .br (callP (k_miss_spec d x) <| .len ((missS d x).length) <| .fin []) (.fin [])) ?_
 refine Eq.mpr (by kernel_rfl : _ = ((d.tables.map eTable).length ≤ 9223372036854775807 → K_okInc_spec d x ∧ (((okInc d x) = true → K_miss_spec d x ∧ Lm intD (missS d x) ∧ (decide ((((missS d x).length : Nat) : Int) = (0 : Int))) = (incOk d x) ∧ True) ∧ ((okInc d x) = false → (false) = (incOk d x) ∧ True)))) ?_
 intro n0
 simp only [List.length_map] at n0
 refine ⟨okInc_spec _ _ (by omega), fun g8 => ?_, fun g8 => ?_⟩
 ·refine ⟨miss_spec _ _ (by omega), List.length_map _, ?_, trivial⟩
  ·first | (simp [incOk, *]; done) | (rw [incOk, g8, len_zero, missS_nil g8]; rfl)
 ·refine ⟨?_, trivial⟩
  ·first | (simp [incOk, *]; done) | (rw [incOk, g8, len_zero, missS_nil g8]; rfl)
def fineC (d : DatabaseD) (l : List DependencyD) (m : List InclusionD) : Bool := l.all (depOk d) && (m.all (incOk d) && (decide ((l.length : Int) ≤ 8) && decide ((m.length : Int) ≤ 8)))
abbrev K_fine_impl (d : DatabaseD) (l : List DependencyD) (m : List InclusionD) : Prop := Con Tryz.prog 75 [.agg [.sl 162 3 (d.tables.map eTable)], .one (.sl 168 3 (l.map eDependency)), .one (.sl 170 4 (m.map eInclusion))] (vB (fineC d l m)) []
theorem fine_impl (d : DatabaseD) (l : List DependencyD) (m : List InclusionD) (hc : cDatabase d ≤ 1048576) : K_fine_impl d l m := by
 refine con_x tbOk mixedW Tryz.func75 (by kernel_rfl) (.len l.length <| .loop Nat (Q1 Nat) [8, 13, 14, 15, 16, 17, 18, 19, 20, 21] [800] (fun k => [(13, vI (k : Int))]) (fun k => []) (fun k => k ≤ l.length ∧ (l.take k).all (depOk d) = true) (fun k => l.length - k) (fun k => .br (.elem _ eDependency l (fun e15 => .call (vB (depOk d e15)) [] <| .br (.fin []) (.back []))) (.len m.length <| .loop Nat (Q1 Nat) [10, 24, 25, 26, 27, 28, 29, 30, 31, 32] [1000] (fun j => [(24, vI (j : Int))]) (fun j => []) (fun j => j ≤ m.length ∧ (m.take j).all (incOk d) = true) (fun j => m.length - j) (fun j => .br (.elem _ eInclusion m (fun e26 => .call (vB (incOk d e26)) [] <| .br (.fin []) (.back []))) (.len l.length <| .br (.len m.length <| .fin []) (.fin [])))))) ?_
 refine Eq.mpr (by kernel_rfl : _ = ((d.tables.map eTable).length ≤ 9223372036854775807 → (l.map eDependency).length ≤ 9223372036854775807 → (m.map eInclusion).length ≤ 9223372036854775807 → Lm eDependency l ∧ ((∃ (k : Nat), (0 : Int) = (k : Int) ∧ k ≤ l.length ∧ (l.take k).all (depOk d) = true) ∧ ∀ (k : Nat), (k ≤ l.length ∧ (l.take k).all (depOk d) = true) → ((decide ((k : Int) < ((l.length : Nat) : Int))) = true → 0 ≤ (k : Int) ∧ Em eDependency l k fun e15 => K_depOk_impl d e15 ∧ (((!(depOk d e15)) = true → (false) = (fineC d l m) ∧ True) ∧ ((!(depOk d e15)) = false → inR ((k : Int) + (1 : Int)) ∧ ∃ (k' : Nat), ((k : Int) + (1 : Int)) = (k' : Int) ∧ (k' ≤ l.length ∧ (l.take k').all (depOk d) = true) ∧ l.length - k' < l.length - k))) ∧ ((decide ((k : Int) < ((l.length : Nat) : Int))) = false → Lm eInclusion m ∧ ((∃ (j : Nat), (0 : Int) = (j : Int) ∧ j ≤ m.length ∧ (m.take j).all (incOk d) = true) ∧ ∀ (j : Nat), (j ≤ m.length ∧ (m.take j).all (incOk d) = true) → ((decide ((j : Int) < ((m.length : Nat) : Int))) = true → 0 ≤ (j : Int) ∧ Em eInclusion m j fun e26 => K_incOk_impl d e26 ∧ (((!(incOk d e26)) = true → (false) = (fineC d l m) ∧ True) ∧ ((!(incOk d e26)) = false → inR ((j : Int) + (1 : Int)) ∧ ∃ (j' : Nat), ((j : Int) + (1 : Int)) = (j' : Int) ∧ (j' ≤ m.length ∧ (m.take j').all (incOk d) = true) ∧ m.length - j' < m.length - j))) ∧ ((decide ((j : Int) < ((m.length : Nat) : Int))) = false → Lm eDependency l ∧ (((decide (((l.length : Nat) : Int) ≤ (8 : Int))) = true → Lm eInclusion m ∧ (decide (((m.length : Nat) : Int) ≤ (8 : Int))) = (fineC d l m) ∧ True) ∧ ((decide (((l.length : Nat) : Int) ≤ (8 : Int))) = false → (false) = (fineC d l m) ∧ True)))))))) ?_
 intro n0 n1 n2
 simp only [List.length_map] at n0 n1 n2
 refine ⟨List.length_map _, ⟨0, rfl, Nat.zero_le _, rfl⟩, fun k ⟨hk, ha⟩ => ?_⟩
 refine ⟨fun c0 => ?_, fun c0 => ?_⟩
 ·replace c0 := yq c0
  refine ⟨by omega, rfl, by omega, fun e15 h15 => ?_⟩
  refine ⟨depOk_impl _ _ (by omega), fun c1 => ?_, fun c1 => ?_⟩
  ·replace c1 := nt c1
   have hL : l.all (depOk d) = false := all_stop h15 (by simpa using c1)
   refine ⟨?_, trivial⟩
   ·first | (simp [fineC, hL]; done) | (simp [fineC, hL, hM]; done) | (simp [fineC, hL, hM, *]; done)
  ·replace c1 := nf c1
   refine ⟨⟨by omega, by omega⟩, ?_⟩
   exact ⟨k + 1, rfl, ⟨by omega, all_snoc h15 ha (by simpa using c1)⟩, by omega⟩
 ·replace c0 := nq c0
  have hL := all_done (by omega) ha
  refine ⟨List.length_map _, ⟨0, rfl, Nat.zero_le _, rfl⟩, fun j ⟨hj, hb⟩ => ?_⟩
  refine ⟨fun c2 => ?_, fun c2 => ?_⟩
  ·replace c2 := yq c2
   refine ⟨by omega, rfl, by omega, fun e26 h26 => ?_⟩
   refine ⟨incOk_impl _ _ (by omega), fun c3 => ?_, fun c3 => ?_⟩
   ·replace c3 := nt c3
    have hM : m.all (incOk d) = false := all_stop h26 (by simpa using c3)
    refine ⟨?_, trivial⟩
    ·first | (simp [fineC, hL]; done) | (simp [fineC, hL, hM]; done) | (simp [fineC, hL, hM, *]; done)
   ·replace c3 := nf c3
    refine ⟨⟨by omega, by omega⟩, ?_⟩
    exact ⟨j + 1, rfl, ⟨by omega, all_snoc h26 hb (by simpa using c3)⟩, by omega⟩
  ·replace c2 := nq c2
   have hM := all_done (by omega) hb
   refine ⟨List.length_map _, fun g36 => ?_, fun g36 => ?_⟩
   ·replace g36 := yq g36
    refine ⟨List.length_map _, ?_, trivial⟩
    ·first | (simp [fineC, hL]; done) | (simp [fineC, hL, hM]; done) | (simp [fineC, hL, hM, *]; done)
   ·replace g36 := nq g36
    refine ⟨?_, trivial⟩
    ·first | (simp [fineC, hL]; done) | (simp [fineC, hL, hM]; done) | (simp [fineC, hL, hM, *]; done)
abbrev K_fine_spec (d : DatabaseD) (l : List DependencyD) (m : List InclusionD) : Prop := Con Tryz.prog 65 [.agg [.sl 162 3 (d.tables.map eTable)], .one (.sl 168 3 (l.map eDependency)), .one (.sl 170 4 (m.map eInclusion))] (vB (fineC d l m)) []
theorem fine_spec (d : DatabaseD) (l : List DependencyD) (m : List InclusionD) (hc : cDatabase d ≤ 1048576) : K_fine_spec d l m := by
 refine con_x tbOk mixedW Tryz.func65 (by kernel_rfl) (.len l.length <| .br (.fin []) (.len m.length <| .lit <| .lit <| .br (.fin []) (.loop Nat (Q1 Nat) [7, 17, 18, 19, 20, 21, 22, 23, 24, 25, 26, 27, 28, 29] [] (fun k => [(7, vI (k : Int))]) (fun k => []) (fun k => k ≤ l.length ∧ (l.take k).all (depOk d) = true) (fun k => l.length - k) (fun k => .len l.length <| .br (.elem _ eDependency l (fun e26 => .call (vB (depOk d e26)) [] <| .br (.fin []) (.back []))) (.loop Nat (Q1 Nat) [8, 30, 31, 32, 33, 34, 35, 36, 37, 38, 39, 40, 41, 42] [] (fun j => [(8, vI (j : Int))]) (fun j => []) (fun j => j ≤ m.length ∧ (m.take j).all (incOk d) = true) (fun j => m.length - j) (fun j => .len m.length <| .br (.elem _ eInclusion m (fun e39 => .call (vB (incOk d e39)) [] <| .br (.fin []) (.back []))) (.fin []))))))) ?_
 refine Eq.mpr (by kernel_rfl : _ = ((d.tables.map eTable).length ≤ 9223372036854775807 → (l.map eDependency).length ≤ 9223372036854775807 → (m.map eInclusion).length ≤ 9223372036854775807 → Lm eDependency l ∧ (((decide ((8 : Int) < ((l.length : Nat) : Int))) = true → (false) = (fineC d l m) ∧ True) ∧ ((decide ((8 : Int) < ((l.length : Nat) : Int))) = false → Lm eInclusion m ∧ (((decide ((8 : Int) < ((m.length : Nat) : Int))) = true → (false) = (fineC d l m) ∧ True) ∧ ((decide ((8 : Int) < ((m.length : Nat) : Int))) = false → (∃ (k : Nat), (0 : Int) = (k : Int) ∧ k ≤ l.length ∧ (l.take k).all (depOk d) = true) ∧ ∀ (k : Nat), (k ≤ l.length ∧ (l.take k).all (depOk d) = true) → Lm eDependency l ∧ (((decide ((k : Int) < ((l.length : Nat) : Int))) = true → 0 ≤ (k : Int) ∧ Em eDependency l k fun e26 => K_depOk_spec d e26 ∧ (((!(depOk d e26)) = true → (false) = (fineC d l m) ∧ True) ∧ ((!(depOk d e26)) = false → inR ((k : Int) + (1 : Int)) ∧ ∃ (k' : Nat), ((k : Int) + (1 : Int)) = (k' : Int) ∧ (k' ≤ l.length ∧ (l.take k').all (depOk d) = true) ∧ l.length - k' < l.length - k))) ∧ ((decide ((k : Int) < ((l.length : Nat) : Int))) = false → (∃ (j : Nat), (0 : Int) = (j : Int) ∧ j ≤ m.length ∧ (m.take j).all (incOk d) = true) ∧ ∀ (j : Nat), (j ≤ m.length ∧ (m.take j).all (incOk d) = true) → Lm eInclusion m ∧ (((decide ((j : Int) < ((m.length : Nat) : Int))) = true → 0 ≤ (j : Int) ∧ Em eInclusion m j fun e39 => K_incOk_spec d e39 ∧ (((!(incOk d e39)) = true → (false) = (fineC d l m) ∧ True) ∧ ((!(incOk d e39)) = false → inR ((j : Int) + (1 : Int)) ∧ ∃ (j' : Nat), ((j : Int) + (1 : Int)) = (j' : Int) ∧ (j' ≤ m.length ∧ (m.take j').all (incOk d) = true) ∧ m.length - j' < m.length - j))) ∧ ((decide ((j : Int) < ((m.length : Nat) : Int))) = false → (true) = (fineC d l m) ∧ True)))))))))) ?_
 intro n0 n1 n2
 simp only [List.length_map] at n0 n1 n2
 refine ⟨List.length_map _, fun g12 => ?_, fun g12 => ?_⟩
 ·replace g12 := yq g12
  have hbad : (decide ((l.length : Int) ≤ 8) && decide ((m.length : Int) ≤ 8)) = false := by first | (simp; omega) | (simp [*]; omega)
  refine ⟨?_, trivial⟩
  ·first | (rw [fineC, hbad]; simp; done) | (rw [fineC, hL, hM, hz]; rfl) | (rw [fineC, hL]; rfl) | (rw [fineC, hL, hM]; rfl)
 ·replace g12 := nq g12
  refine ⟨List.length_map _, fun c0 => ?_, fun c0 => ?_⟩
  ·replace c0 := yq c0
   have hbad : (decide ((l.length : Int) ≤ 8) && decide ((m.length : Int) ≤ 8)) = false := by first | (simp; omega) | (simp [*]; omega)
   refine ⟨?_, trivial⟩
   ·first | (rw [fineC, hbad]; simp; done) | (rw [fineC, hL, hM, hz]; rfl) | (rw [fineC, hL]; rfl) | (rw [fineC, hL, hM]; rfl)
  ·replace c0 := nq c0
   have hz : (decide ((l.length : Int) ≤ 8) && decide ((m.length : Int) ≤ 8)) = true := by simp; omega
   refine ⟨⟨0, rfl, Nat.zero_le _, rfl⟩, fun k ⟨hk, ha⟩ => ?_⟩
   refine ⟨List.length_map _, fun c1 => ?_, fun c1 => ?_⟩
   ·replace c1 := yq c1
    refine ⟨by omega, rfl, by omega, fun e26 h26 => ?_⟩
    refine ⟨depOk_spec _ _ (by omega), fun c2 => ?_, fun c2 => ?_⟩
    ·replace c2 := nt c2
     have hL : l.all (depOk d) = false := all_stop h26 (by simpa using c2)
     refine ⟨?_, trivial⟩
     ·first | (rw [fineC, hbad]; simp; done) | (rw [fineC, hL, hM, hz]; rfl) | (rw [fineC, hL]; rfl) | (rw [fineC, hL, hM]; rfl)
    ·replace c2 := nf c2
     refine ⟨⟨by omega, by omega⟩, ?_⟩
     exact ⟨k + 1, rfl, ⟨by omega, all_snoc h26 ha (by simpa using c2)⟩, by omega⟩
   ·replace c1 := nq c1
    have hL := all_done (by omega) ha
    refine ⟨⟨0, rfl, Nat.zero_le _, rfl⟩, fun j ⟨hj, hb⟩ => ?_⟩
    refine ⟨List.length_map _, fun c3 => ?_, fun c3 => ?_⟩
    ·replace c3 := yq c3
     refine ⟨by omega, rfl, by omega, fun e39 h39 => ?_⟩
     refine ⟨incOk_spec _ _ (by omega), fun c4 => ?_, fun c4 => ?_⟩
     ·replace c4 := nt c4
      have hM : m.all (incOk d) = false := all_stop h39 (by simpa using c4)
      refine ⟨?_, trivial⟩
      ·first | (rw [fineC, hbad]; simp; done) | (rw [fineC, hL, hM, hz]; rfl) | (rw [fineC, hL]; rfl) | (rw [fineC, hL, hM]; rfl)
     ·replace c4 := nf c4
      refine ⟨⟨by omega, by omega⟩, ?_⟩
      exact ⟨j + 1, rfl, ⟨by omega, all_snoc h39 hb (by simpa using c4)⟩, by omega⟩
    ·replace c3 := nq c3
     have hM := all_done (by omega) hb
     refine ⟨?_, trivial⟩
     ·first | (rw [fineC, hbad]; simp; done) | (rw [fineC, hL, hM, hz]; rfl) | (rw [fineC, hL]; rfl) | (rw [fineC, hL, hM]; rfl)
def okStore (s : StoreD) : Bool := (catOf s.database s.catalogue.version).2 && (decide ((catOf s.database s.catalogue.version).1 = s.catalogue) && fineC s.database s.dependencies s.inclusions)
abbrev K_okSt_impl (s : StoreD) : Prop := Con Tryz.prog 73 [.agg [.sl 162 3 (s.database.tables.map eTable), .int .i64 s.catalogue.version, .sl 121 4 (s.catalogue.tables.map eTableStats), .sl 168 3 (s.dependencies.map eDependency), .sl 170 4 (s.inclusions.map eInclusion)]] (vB (okStore s)) []
theorem okSt_impl (s : StoreD) (hc : cStore s ≤ 1048576) : K_okSt_impl s := by
 refine con_x tbOk mixedW Tryz.func73 (by kernel_rfl) (callP (k_cat_impl s.database s.catalogue.version) <| .br (.call (vB (decide (((catOf s.database s.catalogue.version).1) = s.catalogue))) [] <| .lit <| .br (.call (vB (fineC s.database s.dependencies s.inclusions)) [] <| .fin []) (.fin [])) (.fin [])) ?_
 refine Eq.mpr (by kernel_rfl : _ = ((s.database.tables.map eTable).length ≤ 9223372036854775807 → (s.catalogue.tables.map eTableStats).length ≤ 9223372036854775807 → (s.dependencies.map eDependency).length ≤ 9223372036854775807 → (s.inclusions.map eInclusion).length ≤ 9223372036854775807 → K_cat_impl s.database s.catalogue.version ∧ ((((catOf s.database s.catalogue.version).2) = true → K_eqCat_impl ((catOf s.database s.catalogue.version).1) s.catalogue ∧ (((decide (((catOf s.database s.catalogue.version).1) = s.catalogue)) = true → K_fine_impl s.database s.dependencies s.inclusions ∧ (fineC s.database s.dependencies s.inclusions) = (okStore s) ∧ True) ∧ ((decide (((catOf s.database s.catalogue.version).1) = s.catalogue)) = false → (false) = (okStore s) ∧ True))) ∧ (((catOf s.database s.catalogue.version).2) = false → (false) = (okStore s) ∧ True)))) ?_
 intro n0 n1 n2 n3
 simp only [List.length_map] at n0 n1 n2 n3
 have hS : cStore s = cDatabase s.database + cCatalogue s.catalogue + cDependencyS s.dependencies + cInclusionS s.inclusions := rfl
 have hsm := cat_small s.database s.catalogue.version
 refine ⟨cat_impl s.database s.catalogue.version, fun g15 => ?_, fun g15 => ?_⟩
 ·refine ⟨eqCat_impl _ _, fun g21 => ?_, fun g21 => ?_⟩
  ·replace g21 := yq g21
   refine ⟨fine_impl s.database _ _ (by omega), ?_, trivial⟩
   ·first | (simp [okStore, *]; done) | (simp_all [okStore]; done)
  ·replace g21 := nq g21
   refine ⟨?_, trivial⟩
   ·first | (simp [okStore, *]; done) | (simp_all [okStore]; done)
 ·refine ⟨?_, trivial⟩
  ·first | (simp [okStore, *]; done) | (simp_all [okStore]; done)
abbrev K_okSt_spec (s : StoreD) : Prop := Con Tryz.prog 62 [.agg [.sl 162 3 (s.database.tables.map eTable), .int .i64 s.catalogue.version, .sl 121 4 (s.catalogue.tables.map eTableStats), .sl 168 3 (s.dependencies.map eDependency), .sl 170 4 (s.inclusions.map eInclusion)]] (vB (okStore s)) []
theorem okSt_spec (s : StoreD) (hc : cStore s ≤ 1048576) : K_okSt_spec s := by
 refine con_x tbOk mixedW Tryz.func62 (by kernel_rfl) (callP (k_cat_spec s.database s.catalogue.version) <| .br (.call (vB (decide (((catOf s.database s.catalogue.version).1) = s.catalogue))) [] <| .lit <| .br (.call (vB (fineC s.database s.dependencies s.inclusions)) [] <| .fin []) (.fin [])) (.fin [])) ?_
 refine Eq.mpr (by kernel_rfl : _ = ((s.database.tables.map eTable).length ≤ 9223372036854775807 → (s.catalogue.tables.map eTableStats).length ≤ 9223372036854775807 → (s.dependencies.map eDependency).length ≤ 9223372036854775807 → (s.inclusions.map eInclusion).length ≤ 9223372036854775807 → K_cat_spec s.database s.catalogue.version ∧ ((((catOf s.database s.catalogue.version).2) = true → K_eqCat_spec ((catOf s.database s.catalogue.version).1) s.catalogue ∧ (((decide (((catOf s.database s.catalogue.version).1) = s.catalogue)) = true → K_fine_spec s.database s.dependencies s.inclusions ∧ (fineC s.database s.dependencies s.inclusions) = (okStore s) ∧ True) ∧ ((decide (((catOf s.database s.catalogue.version).1) = s.catalogue)) = false → (false) = (okStore s) ∧ True))) ∧ (((catOf s.database s.catalogue.version).2) = false → (false) = (okStore s) ∧ True)))) ?_
 intro n0 n1 n2 n3
 simp only [List.length_map] at n0 n1 n2 n3
 have hS : cStore s = cDatabase s.database + cCatalogue s.catalogue + cDependencyS s.dependencies + cInclusionS s.inclusions := rfl
 have hsm := cat_small s.database s.catalogue.version
 refine ⟨cat_spec s.database s.catalogue.version, fun g15 => ?_, fun g15 => ?_⟩
 ·refine ⟨eqCat_spec _ _ (by omega), fun g21 => ?_, fun g21 => ?_⟩
  ·replace g21 := yq g21
   refine ⟨fine_spec s.database _ _ (by omega), ?_, trivial⟩
   ·first | (simp [okStore, *]; done) | (simp_all [okStore]; done)
  ·replace g21 := nq g21
   refine ⟨?_, trivial⟩
   ·first | (simp [okStore, *]; done) | (simp_all [okStore]; done)
 ·refine ⟨?_, trivial⟩
  ·first | (simp [okStore, *]; done) | (simp_all [okStore]; done)
end Go.Proofs.YtokkjaflmcjlhaaGreat
