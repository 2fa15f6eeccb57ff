/-
  Subsets of columns, both sides.
-/
import Derived.Test.YtjlagjhmlmfjeaaGreatGe
namespace Go.Proofs.YtjlagjhmlmfjeaaGreat
open Go.ChangeShapes Go.WideShapes Go.ChangeAt Go.RowKit
set_option linter.unusedVariables false
set_option linter.unusedSimpArgs false
def bitV (s : Int) (v : Nat) : Bool := decide (bitI .and .i64 (s / 2 ^ v) 1 = 1)
def bitsN (s : Int) (k : Nat) : List Int := ((List.range k).filter (bitV s)).map fun v : Nat => (v : Int)
def bitsZ (s : Int) : List Int := bitsN s 3
theorem bitsN_yes {s : Int} {k : Nat} (h : bitI .and .i64 (s / 2 ^ k) 1 = 1) : bitsN s (k + 1) = bitsN s k ++ [(k : Int)] := by
  rw [bitsN, List.range_succ, List.filter_append, List.map_append]
  simp [bitsN, bitV, h]
theorem bitsN_no {s : Int} {k : Nat} (h : ¬ bitI .and .i64 (s / 2 ^ k) 1 = 1) : bitsN s (k + 1) = bitsN s k := by
  rw [bitsN, List.range_succ, List.filter_append, List.map_append]
  simp [bitsN, bitV, h]
theorem bits_done {s : Int} {k : Nat} (hs : 0 ≤ s ∧ s ≤ 7) (hk : k ≤ 3) (h : s / 2 ^ k = 0) : bitsN s k = bitsZ s := by
  have h1 : s = 0 ∨ s = 1 ∨ s = 2 ∨ s = 3 ∨ s = 4 ∨ s = 5 ∨ s = 6 ∨ s = 7 := by omega
  have h2 : k = 0 ∨ k = 1 ∨ k = 2 ∨ k = 3 := by omega
  rcases h2 with rfl | rfl | rfl | rfl <;> rcases h1 with rfl | rfl | rfl | rfl | rfl | rfl | rfl | rfl <;> first | rfl | (revert h; decide)
theorem bits_lt {s : Int} {k : Nat} (hs : 0 ≤ s ∧ s ≤ 7) (hk : k ≤ 3) (h : ¬ s / 2 ^ k = 0) : k < 3 := by
  by_cases q : k = 3
  · subst q; omega
  · omega
theorem bitsN_len (s : Int) (k : Nat) : (bitsN s k).length ≤ k := by
  rw [bitsN, List.length_map]
  have := (List.filter_sublist (l := List.range k) (p := bitV s)).length_le
  rw [List.length_range] at this
  exact this
theorem pow_small {n : Int} (h : 1 ≤ n ∧ n ≤ 3) : 2 ≤ (2 : Int) ^ n.toNat ∧ (2 : Int) ^ n.toNat ≤ 8 := by
  have : n = 1 ∨ n = 2 ∨ n = 3 := by omega
  rcases this with rfl | rfl | rfl <;> decide
def subsN (k : Nat) : List (List Int) := (List.range k).map fun i => bitsZ ((i + 1 : Nat) : Int)
def colSubs (n : Int) : List (List Int) := subsN ((2 : Int) ^ n.toNat - 1).toNat
theorem subsN_snoc (k : Nat) : subsN (k + 1) = subsN k ++ [bitsZ ((k + 1 : Nat) : Int)] := by rw [subsN, List.range_succ, List.map_append]; rfl

set_option maxRecDepth 100000 in
set_option maxHeartbeats 4000000 in
theorem bits_impl (s : Int) (hs : 0 ≤ s ∧ s ≤ 7) : Con Tryz.prog 85 [.one (.int .i64 s)] (.own 0) [(0, .arr 3 1 true ((bitsZ s).map intD))] := by
  refine con_x tbOk mixedW Tryz.func85 (by kernel_rfl) (.loop (Nat × (List Int)) (Q2 Nat (List Int)) [3, 4, 5, 6, 7, 8, 9, 10, 11, 12, 13, 14, 15, 16, 17, 18, 19, 20] [500, 1900, 2000] (fun yy0 => [(4, vI (yy0.1 : Int)), (3, .own 500)]) (fun yy0 => [(500, some (.arr 3 1 true (yy0.2.map intD)))]) (fun yy0 => yy0.1 ≤ 3 ∧ yy0.2 = bitsN s yy0.1) (fun yy0 => 3 - yy0.1) (fun yy0 => .br (.br (.app Int intD yy0.2 ([(yy0.1 : Int)] : List Int) <| .back [(500, 2000)]) (.back [(500, 500)])) (.fin [(0, 500)]))) ?_
  refine Eq.mpr (by kernel_rfl : _ = ((∃ (k : Nat) (out : List Int), (0 : Int) = (k : Int) ∧ [] = out.map intD ∧ k ≤ 3 ∧ out = bitsN s k) ∧ ∀ (k : Nat) (out : List Int), (k ≤ 3 ∧ out = bitsN s k) → (0 ≤ (k : Int) ∧ (k : Int) ≤ 64) ∧ (((!(decide ((s / 2 ^ k) = (0 : Int)))) = true → (0 ≤ (k : Int) ∧ (k : Int) ≤ 64) ∧ (((decide ((bitI .and .i64 (s / 2 ^ k) (1 : Int)) = (1 : Int))) = true → out.map intD = out.map intD ∧ [[.int .i64 (k : Int)]] = ([(k : Int)] : List Int).map intD ∧ (∀ x, flatB (intD x) = true) ∧ (out.length + ([(k : Int)] : List Int).length) * 8 ≤ 140737488355328 ∧ inR ((k : Int) + (1 : Int)) ∧ ∃ (k' : Nat) (out' : List Int), ((k : Int) + (1 : Int)) = (k' : Int) ∧ (out ++ [(k : Int)]).map intD = out'.map intD ∧ (k' ≤ 3 ∧ out' = bitsN s k') ∧ 3 - k' < 3 - k) ∧ ((decide ((bitI .and .i64 (s / 2 ^ k) (1 : Int)) = (1 : Int))) = false → inR ((k : Int) + (1 : Int)) ∧ ∃ (k' : Nat) (out' : List Int), ((k : Int) + (1 : Int)) = (k' : Int) ∧ out.map intD = out'.map intD ∧ (k' ≤ 3 ∧ out' = bitsN s k') ∧ 3 - k' < 3 - k))) ∧ ((!(decide ((s / 2 ^ k) = (0 : Int)))) = false → out.map intD = (bitsZ s).map intD ∧ True)))) ?_
  refine ⟨⟨0, ([] : List Int), rfl, rfl, by omega, rfl⟩, fun k out ⟨hk, ho⟩ => ?_⟩
  refine ⟨⟨by omega, by omega⟩, ?_⟩
  refine ⟨fun c0 => ?_, fun c0 => ?_⟩
  · replace c0 := of_decide_eq_false (nt c0)
    have hk3 := bits_lt hs hk c0
    have hln := bitsN_len s k
    refine ⟨⟨by omega, by omega⟩, ?_⟩
    refine ⟨fun c1 => ?_, fun c1 => ?_⟩
    · replace c1 := of_decide_eq_true c1
      refine ⟨rfl, rfl, fun _ => rfl, by first | omega | (simp [ho]; omega), ?_⟩
      refine ⟨⟨by omega, by omega⟩, ?_⟩
      exact ⟨k + 1, _, rfl, rfl, ⟨by omega, by first | (rw [ho, bitsN_yes c1]; done) | (rw [ho, bitsN_no c1]; done)⟩, by omega⟩
    · replace c1 := of_decide_eq_false c1
      refine ⟨⟨by omega, by omega⟩, ?_⟩
      exact ⟨k + 1, _, rfl, rfl, ⟨by omega, by first | (rw [ho, bitsN_yes c1]; done) | (rw [ho, bitsN_no c1]; done)⟩, by omega⟩
  · replace c0 := of_decide_eq_true (nf c0)
    refine ⟨?_, trivial⟩
    · (rw [ho]; exact congrArg _ (bits_done hs hk c0))

set_option maxRecDepth 100000 in
set_option maxHeartbeats 4000000 in
theorem bits_spec (s : Int) (hs : 0 ≤ s ∧ s ≤ 7) : Con Tryz.prog 83 [.one (.int .i64 s)] (.own 0) [(0, .arr 3 1 true ((bitsZ s).map intD))] := by
  refine con_x tbOk mixedW Tryz.func83 (by kernel_rfl) (.loop (Nat × (List Int)) (Q2 Nat (List Int)) [3, 4, 5, 6, 7, 8, 9, 10, 11, 12, 13, 14, 15, 16, 17, 18] [500, 1700, 1800] (fun yy0 => [(4, vI (yy0.1 : Int)), (3, .own 500)]) (fun yy0 => [(500, some (.arr 3 1 true (yy0.2.map intD)))]) (fun yy0 => yy0.1 ≤ 3 ∧ yy0.2 = bitsN s yy0.1) (fun yy0 => 3 - yy0.1) (fun yy0 => .br (.br (.app Int intD yy0.2 ([(yy0.1 : Int)] : List Int) <| .back [(500, 1800)]) (.back [(500, 500)])) (.fin [(0, 500)]))) ?_
  refine Eq.mpr (by kernel_rfl : _ = ((∃ (k : Nat) (out : List Int), (0 : Int) = (k : Int) ∧ [] = out.map intD ∧ k ≤ 3 ∧ out = bitsN s k) ∧ ∀ (k : Nat) (out : List Int), (k ≤ 3 ∧ out = bitsN s k) → ((decide ((k : Int) < (3 : Int))) = true → (0 ≤ (k : Int) ∧ (k : Int) ≤ 64) ∧ (((decide ((bitI .and .i64 (s / 2 ^ k) (1 : Int)) = (1 : Int))) = true → out.map intD = out.map intD ∧ [[.int .i64 (k : Int)]] = ([(k : Int)] : List Int).map intD ∧ (∀ x, flatB (intD x) = true) ∧ (out.length + ([(k : Int)] : List Int).length) * 8 ≤ 140737488355328 ∧ inR ((k : Int) + (1 : Int)) ∧ ∃ (k' : Nat) (out' : List Int), ((k : Int) + (1 : Int)) = (k' : Int) ∧ (out ++ [(k : Int)]).map intD = out'.map intD ∧ (k' ≤ 3 ∧ out' = bitsN s k') ∧ 3 - k' < 3 - k) ∧ ((decide ((bitI .and .i64 (s / 2 ^ k) (1 : Int)) = (1 : Int))) = false → inR ((k : Int) + (1 : Int)) ∧ ∃ (k' : Nat) (out' : List Int), ((k : Int) + (1 : Int)) = (k' : Int) ∧ out.map intD = out'.map intD ∧ (k' ≤ 3 ∧ out' = bitsN s k') ∧ 3 - k' < 3 - k))) ∧ ((decide ((k : Int) < (3 : Int))) = false → out.map intD = (bitsZ s).map intD ∧ True))) ?_
  refine ⟨⟨0, ([] : List Int), rfl, rfl, by omega, rfl⟩, fun k out ⟨hk, ho⟩ => ?_⟩
  refine ⟨fun c0 => ?_, fun c0 => ?_⟩
  · replace c0 := of_decide_eq_true c0
    skip
    have hln := bitsN_len s k
    refine ⟨⟨by omega, by omega⟩, ?_⟩
    refine ⟨fun c1 => ?_, fun c1 => ?_⟩
    · replace c1 := of_decide_eq_true c1
      refine ⟨rfl, rfl, fun _ => rfl, by first | omega | (simp [ho]; omega), ?_⟩
      refine ⟨⟨by omega, by omega⟩, ?_⟩
      exact ⟨k + 1, _, rfl, rfl, ⟨by omega, by first | (rw [ho, bitsN_yes c1]; done) | (rw [ho, bitsN_no c1]; done)⟩, by omega⟩
    · replace c1 := of_decide_eq_false c1
      refine ⟨⟨by omega, by omega⟩, ?_⟩
      exact ⟨k + 1, _, rfl, rfl, ⟨by omega, by first | (rw [ho, bitsN_yes c1]; done) | (rw [ho, bitsN_no c1]; done)⟩, by omega⟩
  · replace c0 := of_decide_eq_false c0
    refine ⟨?_, trivial⟩
    · (rw [ho]; exact congrArg _ (by rw [bitsZ, show 3 = k by omega]))

set_option maxRecDepth 100000 in
set_option maxHeartbeats 4000000 in
theorem subs_impl (n : Int) (hn : 1 ≤ n ∧ n ≤ 3) : Con Tryz.prog 140 [.one (.int .i64 n)] (.own 0) [(0, .arr 25 1 true ((colSubs n).map eIntS))] := by
  refine con_x tbOk mixedW Tryz.func140 (by kernel_rfl) (.call (vB (inB n (1 : Int) (3 : Int))) [] <| .br (.fin []) (.loop (Nat × (List (List Int))) (Q2 Nat (List (List Int))) [3, 4, 8, 9, 10, 11, 12, 13, 14, 15, 16, 17, 18, 19] [800, 1700, 1800, 1900] (fun yy0 => [(4, vI ((yy0.1 + 1 : Nat) : Int)), (3, .own 800)]) (fun yy0 => [(800, some (.arr 25 1 true (yy0.2.map eIntS)))]) (fun yy0 => yy0.1 ≤ ((2 : Int) ^ n.toNat - 1).toNat ∧ yy0.2 = subsN yy0.1) (fun yy0 => ((2 : Int) ^ n.toNat - 1).toNat - yy0.1) (fun yy0 => .br (.call (.own 0) [(0, .arr 3 1 true ((bitsZ ((yy0.1 + 1 : Nat) : Int)).map intD))] <| .appx (List Int) eIntS yy0.2 (bitsZ ((yy0.1 + 1 : Nat) : Int)) <| .back [(800, 1900)]) (.fin [(0, 800)])))) ?_
  refine Eq.mpr (by kernel_rfl : _ = (Con Tryz.prog 149 [.one (.int .i64 n), .one (.int .i64 (1 : Int)), .one (.int .i64 (3 : Int))] (vB (inB n (1 : Int) (3 : Int))) [] ∧ (((!(inB n (1 : Int) (3 : Int))) = true → [] = (colSubs n).map eIntS ∧ True) ∧ ((!(inB n (1 : Int) (3 : Int))) = false → (∃ (k : Nat) (out : List (List Int)), (1 : Int) = ((k + 1 : Nat) : Int) ∧ [] = out.map eIntS ∧ k ≤ ((2 : Int) ^ n.toNat - 1).toNat ∧ out = subsN k) ∧ ∀ (k : Nat) (out : List (List Int)), (k ≤ ((2 : Int) ^ n.toNat - 1).toNat ∧ out = subsN k) → (0 ≤ n ∧ n ≤ 64) ∧ (inR ((1 : Int) * 2 ^ (Int.toNat n)) ∧ (((decide (((k + 1 : Nat) : Int) < ((1 : Int) * 2 ^ (Int.toNat n)))) = true → Con Tryz.prog 85 [.one (.int .i64 ((k + 1 : Nat) : Int))] (.own 0) [(0, .arr 3 1 true ((bitsZ ((k + 1 : Nat) : Int)).map intD))] ∧ out.map eIntS = out.map eIntS ∧ (bitsZ ((k + 1 : Nat) : Int)).map intD = (bitsZ ((k + 1 : Nat) : Int)).map intD ∧ (out.length + 1) * 24 ≤ 140737488355328 ∧ inR (((k + 1 : Nat) : Int) + (1 : Int)) ∧ ∃ (k' : Nat) (out' : List (List Int)), (((k + 1 : Nat) : Int) + (1 : Int)) = ((k' + 1 : Nat) : Int) ∧ (out ++ [bitsZ ((k + 1 : Nat) : Int)]).map eIntS = out'.map eIntS ∧ (k' ≤ ((2 : Int) ^ n.toNat - 1).toNat ∧ out' = subsN k') ∧ ((2 : Int) ^ n.toNat - 1).toNat - k' < ((2 : Int) ^ n.toNat - 1).toNat - k) ∧ ((decide (((k + 1 : Nat) : Int) < ((1 : Int) * 2 ^ (Int.toNat n)))) = false → out.map eIntS = (colSubs n).map eIntS ∧ True))))))) ?_
  have hb := pow_small hn
  have hin : inB n 1 3 = true := inB_mk hn.1 hn.2
  refine ⟨in_impl _ _ _, ?_⟩
  refine ⟨fun c0 => ?_, fun c0 => ?_⟩
  · replace c0 := nt c0
    refine ⟨?_, trivial⟩
    · first | (rw [ho, colSubs]; congr 2; omega) | (exfalso; simp [hin] at c0; done) | (exfalso; simp [hin] at *; done)
  · replace c0 := nf c0
    refine ⟨⟨0, ([] : List (List Int)), rfl, rfl, Nat.zero_le _, rfl⟩, fun k out ⟨hk, ho⟩ => ?_⟩
    refine ⟨⟨by omega, by omega⟩, ?_⟩
    refine ⟨⟨by omega, by omega⟩, ?_⟩
    refine ⟨fun c1 => ?_, fun c1 => ?_⟩
    · replace c1 := of_decide_eq_true c1
      refine ⟨bits_impl ((k + 1 : Nat) : Int) (by omega), ?_⟩
      refine ⟨rfl, rfl, by first | omega | (simp [ho, subsN]; omega), ?_⟩
      refine ⟨⟨by omega, by omega⟩, ?_⟩
      exact ⟨(k + 1), _, rfl, rfl, ⟨by omega, by rw [ho, subsN_snoc]⟩, by omega⟩
    · replace c1 := of_decide_eq_false c1
      refine ⟨?_, trivial⟩
      · first | (rw [ho, colSubs]; congr 2; omega) | (exfalso; simp [hin] at c0; done) | (exfalso; simp [hin] at *; done)

set_option maxRecDepth 100000 in
set_option maxHeartbeats 4000000 in
theorem subs_spec (n : Int) (hn : 1 ≤ n ∧ n ≤ 3) : Con Tryz.prog 127 [.one (.int .i64 n)] (.own 0) [(0, .arr 25 1 true ((colSubs n).map eIntS))] := by
  refine con_x tbOk mixedW Tryz.func127 (by kernel_rfl) (.loop (Nat × (List (List Int))) (Q2 Nat (List (List Int))) [3, 4, 5, 6, 7, 8, 9, 10, 11, 12, 13, 14, 15, 16, 17, 18, 19, 20] [500, 1800, 1900, 2000] (fun yy0 => [(4, vI ((yy0.1 + 1 : Nat) : Int)), (3, .own 500)]) (fun yy0 => [(500, some (.arr 25 1 true (yy0.2.map eIntS)))]) (fun yy0 => yy0.1 ≤ ((2 : Int) ^ n.toNat - 1).toNat ∧ yy0.2 = subsN yy0.1) (fun yy0 => ((2 : Int) ^ n.toNat - 1).toNat - yy0.1) (fun yy0 => .call (vB (inB n (1 : Int) (3 : Int))) [] <| .br (.lit <| .lit <| .lit <| .lit <| .br (.call (.own 0) [(0, .arr 3 1 true ((bitsZ ((yy0.1 + 1 : Nat) : Int)).map intD))] <| .appx (List Int) eIntS yy0.2 (bitsZ ((yy0.1 + 1 : Nat) : Int)) <| .back [(500, 2000)]) (.fin [(0, 500)])) (.fin [(0, 500)]))) ?_
  refine Eq.mpr (by kernel_rfl : _ = ((∃ (k : Nat) (out : List (List Int)), (1 : Int) = ((k + 1 : Nat) : Int) ∧ [] = out.map eIntS ∧ k ≤ ((2 : Int) ^ n.toNat - 1).toNat ∧ out = subsN k) ∧ ∀ (k : Nat) (out : List (List Int)), (k ≤ ((2 : Int) ^ n.toNat - 1).toNat ∧ out = subsN k) → Con Tryz.prog 148 [.one (.int .i64 n), .one (.int .i64 (1 : Int)), .one (.int .i64 (3 : Int))] (vB (inB n (1 : Int) (3 : Int))) [] ∧ (((inB n (1 : Int) (3 : Int)) = true → (0 ≤ n ∧ n ≤ 64) ∧ (inR ((1 : Int) * 2 ^ (Int.toNat n)) ∧ (((decide (((k + 1 : Nat) : Int) < ((1 : Int) * 2 ^ (Int.toNat n)))) = true → Con Tryz.prog 83 [.one (.int .i64 ((k + 1 : Nat) : Int))] (.own 0) [(0, .arr 3 1 true ((bitsZ ((k + 1 : Nat) : Int)).map intD))] ∧ out.map eIntS = out.map eIntS ∧ (bitsZ ((k + 1 : Nat) : Int)).map intD = (bitsZ ((k + 1 : Nat) : Int)).map intD ∧ (out.length + 1) * 24 ≤ 140737488355328 ∧ inR (((k + 1 : Nat) : Int) + (1 : Int)) ∧ ∃ (k' : Nat) (out' : List (List Int)), (((k + 1 : Nat) : Int) + (1 : Int)) = ((k' + 1 : Nat) : Int) ∧ (out ++ [bitsZ ((k + 1 : Nat) : Int)]).map eIntS = out'.map eIntS ∧ (k' ≤ ((2 : Int) ^ n.toNat - 1).toNat ∧ out' = subsN k') ∧ ((2 : Int) ^ n.toNat - 1).toNat - k' < ((2 : Int) ^ n.toNat - 1).toNat - k) ∧ ((decide (((k + 1 : Nat) : Int) < ((1 : Int) * 2 ^ (Int.toNat n)))) = false → out.map eIntS = (colSubs n).map eIntS ∧ True)))) ∧ ((inB n (1 : Int) (3 : Int)) = false → out.map eIntS = (colSubs n).map eIntS ∧ True)))) ?_
  have hb := pow_small hn
  have hin : inB n 1 3 = true := inB_mk hn.1 hn.2
  refine ⟨⟨0, ([] : List (List Int)), rfl, rfl, Nat.zero_le _, rfl⟩, fun k out ⟨hk, ho⟩ => ?_⟩
  refine ⟨in_spec _ _ _, ?_⟩
  refine ⟨fun g8 => ?_, fun g8 => ?_⟩
  · refine ⟨⟨by omega, by omega⟩, ?_⟩
    refine ⟨⟨by omega, by omega⟩, ?_⟩
    refine ⟨fun c0 => ?_, fun c0 => ?_⟩
    · replace c0 := of_decide_eq_true c0
      refine ⟨bits_spec ((k + 1 : Nat) : Int) (by omega), ?_⟩
      refine ⟨rfl, rfl, by first | omega | (simp [ho, subsN]; omega), ?_⟩
      refine ⟨⟨by omega, by omega⟩, ?_⟩
      exact ⟨(k + 1), _, rfl, rfl, ⟨by omega, by rw [ho, subsN_snoc]⟩, by omega⟩
    · replace c0 := of_decide_eq_false c0
      refine ⟨?_, trivial⟩
      · first | (rw [ho, colSubs]; congr 2; omega) | (exfalso; simp [hin] at c0; done) | (exfalso; simp [hin] at *; done)
  · refine ⟨?_, trivial⟩
    · first | (rw [ho, colSubs]; congr 2; omega) | (exfalso; simp [hin] at c0; done) | (exfalso; simp [hin] at *; done)
end Go.Proofs.YtjlagjhmlmfjeaaGreat
