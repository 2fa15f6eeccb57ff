/-
  Dependencies that hold, both sides.
-/
import Derived.Test.YtjlagjhmlmfjeaaGreatMb
namespace Go.Proofs.YtjlagjhmlmfjeaaGreat
open Go.ChangeShapes Go.WideShapes Go.ChangeAt Go.RowKit
set_option linter.unusedVariables false
set_option linter.unusedSimpArgs false
set_option maxRecDepth 100000 in
set_option maxHeartbeats 4000000 in
theorem viol_impl (d : DatabaseD) (f : DependencyD) (hc : cDatabase d ≤ 1048576) : Con Tryz.prog 194 [.agg [.sl 107 3 (d.tables.map eTable)], .agg [.str f.name, .sl 3 1 (f.src.map intD), .int .i64 f.dst]] (.own 0) [(0, .arr 3 1 true ((violL d f).map intD))] := by
  refine con_x tbOk mixedW Tryz.func194 (by kernel_rfl) (.call (vB (okDep d f)) [] <| .br (.fin []) (.call (.tup [.agg [.p none (.str (((lookT d f.name).1).name)), vI (((lookT d f.name).1).arity), .p none (.sl 25 1 ((((lookT d f.name).1).rows).map eIntS))], vB ((lookT d f.name).2)]) [] <| .len ((((lookT d f.name).1).rows).length) <| .loop Nat (Q1 Nat) [7, 8, 9, 10, 11, 12, 13, 14, 29, 30, 31, 32, 33, 34, 35, 36, 37, 38, 39, 40, 41, 42, 43, 44, 45, 46, 47, 48, 49, 50, 51, 52, 53, 54, 55, 56, 57, 58, 59, 60, 61, 62, 63, 64, 65, 66, 67, 68, 69, 70, 71, 72, 73, 77, 78] [4800, 5500] (fun k => [(29, vI (k : Int))]) (fun k => []) (fun k => k ≤ (lookT d f.name).1.rows.length ∧ violK (lookT d f.name).1.rows f.src f.dst k = []) (fun k => (lookT d f.name).1.rows.length - k) (fun k => .br (.elem (List Int) eIntS (((lookT d f.name).1).rows) (fun e32 => .sub (List Int) eIntS (((lookT d f.name).1).rows) <| .len (((((lookT d f.name).1).rows).take k).length) <| .loop Nat (Q1 Nat) [9, 10, 11, 12, 13, 14, 39, 40, 41, 42, 43, 44, 45, 46, 47, 48, 49, 50, 51, 52, 53, 54, 55, 56, 57, 58, 59, 60, 61, 62, 63, 64, 65, 66, 67, 68, 69, 70, 71, 72, 73, 77] [4800, 5500] (fun i => [(39, vI (i : Int))]) (fun i => []) (fun i => i ≤ k ∧ violI (lookT d f.name).1.rows f.src f.dst k i = []) (fun i => k - i) (fun i => .br (.elem (List Int) eIntS ((((lookT d f.name).1).rows).take k) (fun e42 => .call (.tup [.own 0, vB ((selR e42 f.src).2)]) [(0, .arr 3 1 true (((selR e42 f.src).1).map intD))] <| .call (.tup [.own 0, vB ((selR e32 f.src).2)]) [(0, .arr 3 1 true (((selR e32 f.src).1).map intD))] <| .call (vB (decide (((selR e42 f.src).1) = ((selR e32 f.src).1)))) [] <| .br (.elem Int intD e42 (fun e65 => .elem Int intD e32 (fun e70 => .lit <| .lit <| .lit <| .br (.fin [(0, 7600)]) (.back [])))) (.back []))) (.back [])))) (.fin [])))) ?_
  refine Eq.mpr (by kernel_rfl : _ = ((d.tables.map eTable).length ≤ 9223372036854775807 → (f.src.map intD).length ≤ 9223372036854775807 → Con Tryz.prog 193 [.agg [.sl 107 3 (d.tables.map eTable)], .agg [.str f.name, .sl 3 1 (f.src.map intD), .int .i64 f.dst]] (vB (okDep d f)) [] ∧ (((!(okDep d f)) = true → [] = (violL d f).map intD ∧ True) ∧ ((!(okDep d f)) = false → Con Tryz.prog 213 [.agg [.sl 107 3 (d.tables.map eTable)], .one (.str f.name)] (.tup [.agg [.p none (.str (((lookT d f.name).1).name)), vI (((lookT d f.name).1).arity), .p none (.sl 25 1 ((((lookT d f.name).1).rows).map eIntS))], vB ((lookT d f.name).2)]) [] ∧ (((((lookT d f.name).1).rows).map eIntS).length = (((lookT d f.name).1).rows).length ∧ ((∃ (k : Nat), (0 : Int) = (k : Int) ∧ k ≤ (lookT d f.name).1.rows.length ∧ violK (lookT d f.name).1.rows f.src f.dst k = []) ∧ ∀ (k : Nat), (k ≤ (lookT d f.name).1.rows.length ∧ violK (lookT d f.name).1.rows f.src f.dst k = []) → ((decide ((k : Int) < (((((lookT d f.name).1).rows).length : Nat) : Int))) = true → 0 ≤ (k : Int) ∧ ((((lookT d f.name).1).rows).map eIntS = (((lookT d f.name).1).rows).map eIntS ∧ k < (((lookT d f.name).1).rows).length ∧ ∀ e32, (((lookT d f.name).1).rows)[k]? = some e32 → (((lookT d f.name).1).rows).map eIntS = (((lookT d f.name).1).rows).map eIntS ∧ 0 ≤ (k : Int) ∧ (k : Int) ≤ (((((lookT d f.name).1).rows).length : Nat) : Int) ∧ ((((((lookT d f.name).1).rows).take k).map eIntS).length = ((((lookT d f.name).1).rows).take k).length ∧ ((∃ (i : Nat), (0 : Int) = (i : Int) ∧ i ≤ k ∧ violI (lookT d f.name).1.rows f.src f.dst k i = []) ∧ ∀ (i : Nat), (i ≤ k ∧ violI (lookT d f.name).1.rows f.src f.dst k i = []) → ((decide ((i : Int) < ((((((lookT d f.name).1).rows).take k).length : Nat) : Int))) = true → 0 ≤ (i : Int) ∧ (((((lookT d f.name).1).rows).take k).map eIntS = ((((lookT d f.name).1).rows).take k).map eIntS ∧ i < ((((lookT d f.name).1).rows).take k).length ∧ ∀ e42, ((((lookT d f.name).1).rows).take k)[i]? = some e42 → Con Tryz.prog 86 [.one (.sl 3 1 (e42.map intD)), .one (.sl 3 1 (f.src.map intD))] (.tup [.own 0, vB ((selR e42 f.src).2)]) [(0, .arr 3 1 true (((selR e42 f.src).1).map intD))] ∧ (Con Tryz.prog 86 [.one (.sl 3 1 (e32.map intD)), .one (.sl 3 1 (f.src.map intD))] (.tup [.own 0, vB ((selR e32 f.src).2)]) [(0, .arr 3 1 true (((selR e32 f.src).1).map intD))] ∧ (Con Tryz.prog 180 [.one (.sl 3 1 (((selR e42 f.src).1).map intD)), .one (.sl 3 1 (((selR e32 f.src).1).map intD))] (vB (decide (((selR e42 f.src).1) = ((selR e32 f.src).1)))) [] ∧ (((decide (((selR e42 f.src).1) = ((selR e32 f.src).1))) = true → 0 ≤ f.dst ∧ (e42.map intD = e42.map intD ∧ (f.dst).toNat < e42.length ∧ ∀ e65, e42[(f.dst).toNat]? = some e65 → 0 ≤ f.dst ∧ (e32.map intD = e32.map intD ∧ (f.dst).toNat < e32.length ∧ ∀ e70, e32[(f.dst).toNat]? = some e70 → ((!(decide (e65 = e70))) = true → [[.int .i64 (i : Int)], [.int .i64 (k : Int)]] = (violL d f).map intD ∧ True) ∧ ((!(decide (e65 = e70))) = false → inR ((i : Int) + (1 : Int)) ∧ ∃ (i' : Nat), ((i : Int) + (1 : Int)) = (i' : Int) ∧ (i' ≤ k ∧ violI (lookT d f.name).1.rows f.src f.dst k i' = []) ∧ k - i' < k - i)))) ∧ ((decide (((selR e42 f.src).1) = ((selR e32 f.src).1))) = false → inR ((i : Int) + (1 : Int)) ∧ ∃ (i' : Nat), ((i : Int) + (1 : Int)) = (i' : Int) ∧ (i' ≤ k ∧ violI (lookT d f.name).1.rows f.src f.dst k i' = []) ∧ k - i' < k - i)))))) ∧ ((decide ((i : Int) < ((((((lookT d f.name).1).rows).take k).length : Nat) : Int))) = false → inR ((k : Int) + (1 : Int)) ∧ ∃ (k' : Nat), ((k : Int) + (1 : Int)) = (k' : Int) ∧ (k' ≤ (lookT d f.name).1.rows.length ∧ violK (lookT d f.name).1.rows f.src f.dst k' = []) ∧ (lookT d f.name).1.rows.length - k' < (lookT d f.name).1.rows.length - k))))) ∧ ((decide ((k : Int) < (((((lookT d f.name).1).rows).length : Nat) : Int))) = false → [] = (violL d f).map intD ∧ True))))))) ?_
  intro n0 n1
  simp only [List.length_map] at n0 n1
  refine ⟨okDep_impl _ _ (by omega), ?_⟩
  refine ⟨fun c0 => ?_, fun c0 => ?_⟩
  · replace c0 := nt c0
    have hbad : violL d f = [] := by rw [violL, if_neg (by simpa using c0)]
    refine ⟨?_, trivial⟩
    · first | (rw [hbad] <;> rfl) | (rw [hE] <;> rfl) | (rw [hV, hE] <;> rfl)
  · replace c0 := nf c0
    have hok : okDep d f = true := by simpa using c0
    obtain ⟨hT, hd0, hd1, hsl⟩ := okDep_parts hok
    have hT8 := okTable_arity hT
    have hV : violL d f = violK (lookT d f.name).1.rows f.src f.dst (lookT d f.name).1.rows.length := by rw [violL, if_pos hok]
    refine ⟨con_stl (lkT_impl _ f.name (by omega)) rfl, ?_⟩
    refine ⟨List.length_map _, ?_⟩
    refine ⟨⟨0, rfl, Nat.zero_le _, rfl⟩, fun k ⟨hk, hv⟩ => ?_⟩
    refine ⟨fun c1 => ?_, fun c1 => ?_⟩
    · replace c1 := of_decide_eq_true c1
      refine ⟨by omega, ?_⟩
      refine ⟨rfl, by first | omega | (simp only [List.length_take]; omega), fun e32 h32 => ?_⟩
      have hl32 := row_len hT (List.mem_of_getElem? h32)
      refine ⟨rfl, by omega, by first | omega | (simp only [List.length_take]; omega), ?_⟩
      refine ⟨List.length_map _, ?_⟩
      refine ⟨⟨0, rfl, Nat.zero_le _, rfl⟩, fun i ⟨hi, hw⟩ => ?_⟩
      have htl : ((lookT d f.name).1.rows.take k).length = k := by rw [List.length_take]; omega
      refine ⟨fun c2 => ?_, fun c2 => ?_⟩
      · replace c2 := of_decide_eq_true c2
        refine ⟨by omega, ?_⟩
        refine ⟨rfl, by first | omega | (simp only [List.length_take]; omega), fun e42 h42 => ?_⟩
        have hx : (lookT d f.name).1.rows[i]? = some e42 := by rw [List.getElem?_take_of_lt (by omega)] at h42; exact h42
        have hl42 := row_len hT (List.mem_of_getElem? hx)
        have hb := badP_at (cols := f.src) (c := f.dst) hx h32
        refine ⟨sel_impl _ _ (by omega), ?_⟩
        refine ⟨sel_impl _ _ (by omega), ?_⟩
        refine ⟨eqs_Int _ _, ?_⟩
        refine ⟨fun g61 => ?_, fun g61 => ?_⟩
        · replace g61 := of_decide_eq_true g61
          refine ⟨by omega, ?_⟩
          refine ⟨rfl, by first | omega | (simp only [List.length_take]; omega), fun e65 h65 => ?_⟩
          refine ⟨by omega, ?_⟩
          refine ⟨rfl, by first | omega | (simp only [List.length_take]; omega), fun e70 h70 => ?_⟩
          refine ⟨fun c3 => ?_, fun c3 => ?_⟩
          · replace c3 := of_decide_eq_false (nt c3)
            have hB : badP (lookT d f.name).1.rows f.src f.dst i k = true := by rw [hb, getD_at h65, getD_at h70]; simp [*]
            have hE := viol_found hv hw hB (by omega) (by omega : k < (lookT d f.name).1.rows.length)
            refine ⟨?_, trivial⟩
            · first | (rw [hbad] <;> rfl) | (rw [hE] <;> rfl) | (rw [hV, hE] <;> rfl)
          · replace c3 := of_decide_eq_true (nf c3)
            refine ⟨⟨by omega, by omega⟩, ?_⟩
            exact ⟨i + 1, rfl, ⟨by omega, violI_no hw (by rw [hb]; first | (simp [g61]; done) | (rw [getD_at h65, getD_at h70]; simp [*]; done))⟩, by omega⟩
        · replace g61 := of_decide_eq_false g61
          refine ⟨⟨by omega, by omega⟩, ?_⟩
          exact ⟨i + 1, rfl, ⟨by omega, violI_no hw (by rw [hb]; first | (simp [g61]; done) | (rw [getD_at h65, getD_at h70]; simp [*]; done))⟩, by omega⟩
      · replace c2 := of_decide_eq_false c2
        refine ⟨⟨by omega, by omega⟩, ?_⟩
        exact ⟨k + 1, rfl, ⟨by omega, violK_next hv (by obtain rfl : i = k := (by omega); exact hw)⟩, by omega⟩
    · replace c1 := of_decide_eq_false c1
      have hE : violL d f = [] := by rw [hV, show (lookT d f.name).1.rows.length = k by omega, hv]
      refine ⟨?_, trivial⟩
      · first | (rw [hbad] <;> rfl) | (rw [hE] <;> rfl) | (rw [hV, hE] <;> rfl)

set_option maxRecDepth 100000 in
set_option maxHeartbeats 4000000 in
theorem viol_spec (d : DatabaseD) (f : DependencyD) (hc : cDatabase d ≤ 1048576) : Con Tryz.prog 190 [.agg [.sl 107 3 (d.tables.map eTable)], .agg [.str f.name, .sl 3 1 (f.src.map intD), .int .i64 f.dst]] (.own 0) [(0, .arr 3 1 true ((violL d f).map intD))] := by
  refine con_x tbOk mixedW Tryz.func190 (by kernel_rfl) (.call (.tup [.agg [.p none (.str (((lookT d f.name).1).name)), vI (((lookT d f.name).1).arity), .p none (.sl 25 1 ((((lookT d f.name).1).rows).map eIntS))], vB ((lookT d f.name).2)]) [] <| .loop Nat (Q1 Nat) [7, 8, 9, 10, 11, 12, 20, 21, 22, 23, 24, 25, 26, 27, 28, 29, 30, 31, 32, 33, 34, 35, 36, 37, 38, 39, 40, 41, 42, 43, 44, 45, 46, 47, 48, 49, 50, 51, 52, 53, 54, 55, 56, 57, 58, 59, 60, 61, 62, 63, 64, 65, 66, 67, 68, 69, 70, 71, 72, 73, 74, 75, 76, 77, 78, 79, 80, 81, 82, 83] [4000, 5600] (fun k => [(7, vI (k : Int))]) (fun k => []) (fun k => k ≤ (lookT d f.name).1.rows.length ∧ violK (lookT d f.name).1.rows f.src f.dst k = []) (fun k => (lookT d f.name).1.rows.length - k) (fun k => .len ((((lookT d f.name).1).rows).length) <| .br (.call (vB (okDep d f)) [] <| .lit <| .br (.elem (List Int) eIntS (((lookT d f.name).1).rows) (fun e36 => .call (.tup [.own 0, vB ((selR e36 f.src).2)]) [(0, .arr 3 1 true (((selR e36 f.src).1).map intD))] <| .loop Nat (Q1 Nat) [10, 11, 12, 43, 44, 45, 46, 47, 48, 49, 50, 51, 52, 53, 54, 55, 56, 57, 58, 59, 60, 61, 62, 63, 64, 65, 66, 67, 68, 69, 70, 71, 72, 73, 74, 75, 76, 77, 78, 79, 80, 81, 82, 83] [5600] (fun i => [(10, vI (i : Int))]) (fun i => []) (fun i => i ≤ k ∧ violI (lookT d f.name).1.rows f.src f.dst k i = []) (fun i => k - i) (fun i => .br (.elem (List Int) eIntS (((lookT d f.name).1).rows) (fun e52 => .call (.tup [.own 0, vB ((selR e52 f.src).2)]) [(0, .arr 3 1 true (((selR e52 f.src).1).map intD))] <| .call (vI (cmpR ((selR e52 f.src).1) ((selR e36 f.src).1))) [] <| .br (.elem (List Int) eIntS (((lookT d f.name).1).rows) (fun e67 => .elem Int intD e67 (fun e71 => .elem (List Int) eIntS (((lookT d f.name).1).rows) (fun e76 => .elem Int intD e76 (fun e80 => .lit <| .lit <| .lit <| .br (.fin [(0, 8600)]) (.back [])))))) (.back []))) (.back [])))) (.fin [(0, 8700)])) (.fin [(0, 8700)]))) ?_
  refine Eq.mpr (by kernel_rfl : _ = ((d.tables.map eTable).length ≤ 9223372036854775807 → (f.src.map intD).length ≤ 9223372036854775807 → Con Tryz.prog 211 [.agg [.sl 107 3 (d.tables.map eTable)], .one (.str f.name)] (.tup [.agg [.p none (.str (((lookT d f.name).1).name)), vI (((lookT d f.name).1).arity), .p none (.sl 25 1 ((((lookT d f.name).1).rows).map eIntS))], vB ((lookT d f.name).2)]) [] ∧ ((∃ (k : Nat), (0 : Int) = (k : Int) ∧ k ≤ (lookT d f.name).1.rows.length ∧ violK (lookT d f.name).1.rows f.src f.dst k = []) ∧ ∀ (k : Nat), (k ≤ (lookT d f.name).1.rows.length ∧ violK (lookT d f.name).1.rows f.src f.dst k = []) → ((((lookT d f.name).1).rows).map eIntS).length = (((lookT d f.name).1).rows).length ∧ (((decide ((k : Int) < (((((lookT d f.name).1).rows).length : Nat) : Int))) = true → Con Tryz.prog 189 [.agg [.sl 107 3 (d.tables.map eTable)], .agg [.str f.name, .sl 3 1 (f.src.map intD), .int .i64 f.dst]] (vB (okDep d f)) [] ∧ (((okDep d f) = true → 0 ≤ (k : Int) ∧ ((((lookT d f.name).1).rows).map eIntS = (((lookT d f.name).1).rows).map eIntS ∧ k < (((lookT d f.name).1).rows).length ∧ ∀ e36, (((lookT d f.name).1).rows)[k]? = some e36 → Con Tryz.prog 172 [.one (.sl 3 1 (e36.map intD)), .one (.sl 3 1 (f.src.map intD))] (.tup [.own 0, vB ((selR e36 f.src).2)]) [(0, .arr 3 1 true (((selR e36 f.src).1).map intD))] ∧ ((∃ (i : Nat), (0 : Int) = (i : Int) ∧ i ≤ k ∧ violI (lookT d f.name).1.rows f.src f.dst k i = []) ∧ ∀ (i : Nat), (i ≤ k ∧ violI (lookT d f.name).1.rows f.src f.dst k i = []) → ((decide ((i : Int) < (k : Int))) = true → 0 ≤ (i : Int) ∧ ((((lookT d f.name).1).rows).map eIntS = (((lookT d f.name).1).rows).map eIntS ∧ i < (((lookT d f.name).1).rows).length ∧ ∀ e52, (((lookT d f.name).1).rows)[i]? = some e52 → Con Tryz.prog 172 [.one (.sl 3 1 (e52.map intD)), .one (.sl 3 1 (f.src.map intD))] (.tup [.own 0, vB ((selR e52 f.src).2)]) [(0, .arr 3 1 true (((selR e52 f.src).1).map intD))] ∧ (Con Tryz.prog 126 [.one (.sl 3 1 (((selR e52 f.src).1).map intD)), .one (.sl 3 1 (((selR e36 f.src).1).map intD))] (vI (cmpR ((selR e52 f.src).1) ((selR e36 f.src).1))) [] ∧ (((decide ((cmpR ((selR e52 f.src).1) ((selR e36 f.src).1)) = (0 : Int))) = true → 0 ≤ (i : Int) ∧ ((((lookT d f.name).1).rows).map eIntS = (((lookT d f.name).1).rows).map eIntS ∧ i < (((lookT d f.name).1).rows).length ∧ ∀ e67, (((lookT d f.name).1).rows)[i]? = some e67 → 0 ≤ f.dst ∧ (e67.map intD = e67.map intD ∧ (f.dst).toNat < e67.length ∧ ∀ e71, e67[(f.dst).toNat]? = some e71 → 0 ≤ (k : Int) ∧ ((((lookT d f.name).1).rows).map eIntS = (((lookT d f.name).1).rows).map eIntS ∧ k < (((lookT d f.name).1).rows).length ∧ ∀ e76, (((lookT d f.name).1).rows)[k]? = some e76 → 0 ≤ f.dst ∧ (e76.map intD = e76.map intD ∧ (f.dst).toNat < e76.length ∧ ∀ e80, e76[(f.dst).toNat]? = some e80 → ((!(decide (e71 = e80))) = true → [[.int .i64 (i : Int)], [.int .i64 (k : Int)]] = (violL d f).map intD ∧ True) ∧ ((!(decide (e71 = e80))) = false → inR ((i : Int) + (1 : Int)) ∧ ∃ (i' : Nat), ((i : Int) + (1 : Int)) = (i' : Int) ∧ (i' ≤ k ∧ violI (lookT d f.name).1.rows f.src f.dst k i' = []) ∧ k - i' < k - i)))))) ∧ ((decide ((cmpR ((selR e52 f.src).1) ((selR e36 f.src).1)) = (0 : Int))) = false → inR ((i : Int) + (1 : Int)) ∧ ∃ (i' : Nat), ((i : Int) + (1 : Int)) = (i' : Int) ∧ (i' ≤ k ∧ violI (lookT d f.name).1.rows f.src f.dst k i' = []) ∧ k - i' < k - i))))) ∧ ((decide ((i : Int) < (k : Int))) = false → inR ((k : Int) + (1 : Int)) ∧ ∃ (k' : Nat), ((k : Int) + (1 : Int)) = (k' : Int) ∧ (k' ≤ (lookT d f.name).1.rows.length ∧ violK (lookT d f.name).1.rows f.src f.dst k' = []) ∧ (lookT d f.name).1.rows.length - k' < (lookT d f.name).1.rows.length - k)))) ∧ ((okDep d f) = false → [] = (violL d f).map intD ∧ True))) ∧ ((decide ((k : Int) < (((((lookT d f.name).1).rows).length : Nat) : Int))) = false → [] = (violL d f).map intD ∧ True))))) ?_
  intro n0 n1
  simp only [List.length_map] at n0 n1
  refine ⟨con_stl (lkT_spec _ f.name (by omega)) rfl, ?_⟩
  refine ⟨⟨0, rfl, Nat.zero_le _, rfl⟩, fun k ⟨hk, hv⟩ => ?_⟩
  refine ⟨List.length_map _, ?_⟩
  refine ⟨fun g25 => ?_, fun g25 => ?_⟩
  · replace g25 := of_decide_eq_true g25
    refine ⟨okDep_spec _ _ (by omega), ?_⟩
    refine ⟨fun c0 => ?_, fun c0 => ?_⟩
    · have hok : okDep d f = true := c0
      obtain ⟨hT, hd0, hd1, hsl⟩ := okDep_parts hok
      have hT8 := okTable_arity hT
      have hV : violL d f = violK (lookT d f.name).1.rows f.src f.dst (lookT d f.name).1.rows.length := by rw [violL, if_pos hok]
      refine ⟨by omega, ?_⟩
      refine ⟨rfl, by omega, fun e36 h36 => ?_⟩
      have hl36 := row_len hT (List.mem_of_getElem? h36)
      refine ⟨sel_spec _ _ (by omega), ?_⟩
      refine ⟨⟨0, rfl, Nat.zero_le _, rfl⟩, fun i ⟨hi, hw⟩ => ?_⟩
      refine ⟨fun c1 => ?_, fun c1 => ?_⟩
      · replace c1 := of_decide_eq_true c1
        refine ⟨by omega, ?_⟩
        refine ⟨rfl, by omega, fun e52 h52 => ?_⟩
        have hl52 := row_len hT (List.mem_of_getElem? h52)
        have hb := badP_at (cols := f.src) (c := f.dst) h52 h36
        refine ⟨sel_spec _ _ (by omega), ?_⟩
        refine ⟨cmpRows_spec _ _, ?_⟩
        refine ⟨fun g63 => ?_, fun g63 => ?_⟩
        · replace g63 := of_decide_eq_true g63
          refine ⟨by omega, ?_⟩
          refine ⟨rfl, by omega, fun e67 h67 => ?_⟩
          obtain rfl := (same_at h52 h67).symm
          refine ⟨by omega, ?_⟩
          refine ⟨rfl, by omega, fun e71 h71 => ?_⟩
          refine ⟨by omega, ?_⟩
          refine ⟨rfl, by omega, fun e76 h76 => ?_⟩
          obtain rfl := (same_at h36 h76).symm
          refine ⟨by omega, ?_⟩
          refine ⟨rfl, by omega, fun e80 h80 => ?_⟩
          refine ⟨fun c2 => ?_, fun c2 => ?_⟩
          · replace c2 := of_decide_eq_false (nt c2)
            have hB : badP (lookT d f.name).1.rows f.src f.dst i k = true := by rw [hb, getD_at h71, getD_at h80, cmpR_zero.1 g63]; simp [c2]
            have hE := viol_found hv hw hB (by omega) (by omega : k < (lookT d f.name).1.rows.length)
            refine ⟨?_, trivial⟩
            · first | (rw [hE] <;> rfl) | (rw [hV, hE] <;> rfl)
          · replace c2 := of_decide_eq_true (nf c2)
            refine ⟨⟨by omega, by omega⟩, ?_⟩
            exact ⟨i + 1, rfl, ⟨by omega, violI_no hw (by rw [hb]; first | (simp [show ¬ (selR e52 f.src).1 = (selR e36 f.src).1 from fun q => g63 (cmpR_zero.2 q)]; done) | (rw [getD_at h71, getD_at h80]; simp [c2]; done))⟩, by omega⟩
        · replace g63 := of_decide_eq_false g63
          refine ⟨⟨by omega, by omega⟩, ?_⟩
          exact ⟨i + 1, rfl, ⟨by omega, violI_no hw (by rw [hb]; first | (simp [show ¬ (selR e52 f.src).1 = (selR e36 f.src).1 from fun q => g63 (cmpR_zero.2 q)]; done) | (rw [getD_at h71, getD_at h80]; simp [c2]; done))⟩, by omega⟩
      · replace c1 := of_decide_eq_false c1
        refine ⟨⟨by omega, by omega⟩, ?_⟩
        exact ⟨k + 1, rfl, ⟨by omega, violK_next hv (by obtain rfl : i = k := (by omega); exact hw)⟩, by omega⟩
    · have hE : violL d f = [] := by first | (rw [violL, if_neg (by rw [c0]; decide)]; done) | (rw [violL]; split <;> first | (rw [show (lookT d f.name).1.rows.length = k by omega, hv]; done) | rfl)
      refine ⟨?_, trivial⟩
      · first | (rw [hE] <;> rfl) | (rw [hV, hE] <;> rfl)
  · replace g25 := of_decide_eq_false g25
    have hE : violL d f = [] := by first | (rw [violL, if_neg (by rw [c0]; decide)]; done) | (rw [violL]; split <;> first | (rw [show (lookT d f.name).1.rows.length = k by omega, hv]; done) | rfl)
    refine ⟨?_, trivial⟩
    · first | (rw [hE] <;> rfl) | (rw [hV, hE] <;> rfl)

set_option maxRecDepth 100000 in
set_option maxHeartbeats 4000000 in
theorem depOk_impl (d : DatabaseD) (f : DependencyD) (hc : cDatabase d ≤ 1048576) : Con Tryz.prog 157 [.agg [.sl 107 3 (d.tables.map eTable)], .agg [.str f.name, .sl 3 1 (f.src.map intD), .int .i64 f.dst]] (vB (depOk d f)) [] := by
  refine con_x tbOk mixedW Tryz.func157 (by kernel_rfl) (.call (vB (okDep d f)) [] <| .br (.call (.own 0) [(0, .arr 3 1 true ((violL d f).map intD))] <| .len ((violL d f).length) <| .fin []) (.fin [])) ?_
  refine Eq.mpr (by kernel_rfl : _ = ((d.tables.map eTable).length ≤ 9223372036854775807 → (f.src.map intD).length ≤ 9223372036854775807 → Con Tryz.prog 193 [.agg [.sl 107 3 (d.tables.map eTable)], .agg [.str f.name, .sl 3 1 (f.src.map intD), .int .i64 f.dst]] (vB (okDep d f)) [] ∧ (((okDep d f) = true → Con Tryz.prog 194 [.agg [.sl 107 3 (d.tables.map eTable)], .agg [.str f.name, .sl 3 1 (f.src.map intD), .int .i64 f.dst]] (.own 0) [(0, .arr 3 1 true ((violL d f).map intD))] ∧ ((violL d f).map intD).length = (violL d f).length ∧ (decide ((((violL d f).length : Nat) : Int) = (0 : Int))) = (depOk d f) ∧ True) ∧ ((okDep d f) = false → (false) = (depOk d f) ∧ True)))) ?_
  intro n0 n1
  simp only [List.length_map] at n0 n1
  refine ⟨okDep_impl _ _ (by omega), ?_⟩
  refine ⟨fun g8 => ?_, fun g8 => ?_⟩
  · refine ⟨viol_impl _ _ (by omega), ?_⟩
    refine ⟨List.length_map _, ?_⟩
    refine ⟨?_, trivial⟩
    · first | (simp [depOk, *]; done) | (rw [depOk, g8, len_zero]; rfl)
  · refine ⟨?_, trivial⟩
    · first | (simp [depOk, *]; done) | (rw [depOk, g8, len_zero]; rfl)

set_option maxRecDepth 100000 in
set_option maxHeartbeats 4000000 in
theorem depOk_spec (d : DatabaseD) (f : DependencyD) (hc : cDatabase d ≤ 1048576) : Con Tryz.prog 152 [.agg [.sl 107 3 (d.tables.map eTable)], .agg [.str f.name, .sl 3 1 (f.src.map intD), .int .i64 f.dst]] (vB (depOk d f)) [] := by
  refine con_x tbOk mixedW Tryz.func152 (by kernel_rfl) (.call (vB (okDep d f)) [] <| .br (.call (.own 0) [(0, .arr 3 1 true ((violL d f).map intD))] <| .len ((violL d f).length) <| .fin []) (.fin [])) ?_
  refine Eq.mpr (by kernel_rfl : _ = ((d.tables.map eTable).length ≤ 9223372036854775807 → (f.src.map intD).length ≤ 9223372036854775807 → Con Tryz.prog 189 [.agg [.sl 107 3 (d.tables.map eTable)], .agg [.str f.name, .sl 3 1 (f.src.map intD), .int .i64 f.dst]] (vB (okDep d f)) [] ∧ (((okDep d f) = true → Con Tryz.prog 190 [.agg [.sl 107 3 (d.tables.map eTable)], .agg [.str f.name, .sl 3 1 (f.src.map intD), .int .i64 f.dst]] (.own 0) [(0, .arr 3 1 true ((violL d f).map intD))] ∧ ((violL d f).map intD).length = (violL d f).length ∧ (decide ((((violL d f).length : Nat) : Int) = (0 : Int))) = (depOk d f) ∧ True) ∧ ((okDep d f) = false → (false) = (depOk d f) ∧ True)))) ?_
  intro n0 n1
  simp only [List.length_map] at n0 n1
  refine ⟨okDep_spec _ _ (by omega), ?_⟩
  refine ⟨fun g8 => ?_, fun g8 => ?_⟩
  · refine ⟨viol_spec _ _ (by omega), ?_⟩
    refine ⟨List.length_map _, ?_⟩
    refine ⟨?_, trivial⟩
    · first | (simp [depOk, *]; done) | (rw [depOk, g8, len_zero]; rfl)
  · refine ⟨?_, trivial⟩
    · first | (simp [depOk, *]; done) | (rw [depOk, g8, len_zero]; rfl)
end Go.Proofs.YtjlagjhmlmfjeaaGreat
