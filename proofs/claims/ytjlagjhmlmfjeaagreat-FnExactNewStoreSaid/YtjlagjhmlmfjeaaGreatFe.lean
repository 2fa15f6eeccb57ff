/-
  Copies.
-/
import Derived.Test.YtjlagjhmlmfjeaaGreatDa
namespace Go.Proofs.YtjlagjhmlmfjeaaGreat
open Go.ChangeShapes Go.WideShapes Go.ChangeAt Go.RowKit
set_option linter.unusedVariables false
set_option linter.unusedSimpArgs false
set_option maxRecDepth 100000 in
set_option maxHeartbeats 4000000 in
theorem cpI (l : List Int) (hl : l.length ≤ 1048576) : Con Tryz.prog 133 [.one (.sl 3 1 (l.map intD))] (.own 0) [(0, .arr 3 1 true (l.map intD))] := by
  refine con_x tbOk mixedW Tryz.func133 (by kernel_rfl) (.app Int intD ([] : List Int) l <| .fin [(0, 500)]) ?_
  refine Eq.mpr (by kernel_rfl : _ = ((l.map intD).length ≤ 9223372036854775807 → [] = ([] : List Int).map intD ∧ l.map intD = l.map intD ∧ (∀ x, flatB (intD x) = true) ∧ (([] : List Int).length + l.length) * 8 ≤ 140737488355328 ∧ (([] : List Int) ++ l).map intD = l.map intD ∧ True)) ?_
  intro n0
  simp only [List.length_map] at n0
  refine ⟨rfl, rfl, fun _ => rfl, by simp; omega, ?_⟩
  refine ⟨?_, trivial⟩
  · simp

set_option maxRecDepth 100000 in
set_option maxHeartbeats 4000000 in
theorem cpR (l : List (List Int)) (hc : cIntSS l ≤ 1048576) : Con Tryz.prog 130 [.one (.sl 25 1 (l.map eIntS))] (.own 0) [(0, .arr 25 1 true (l.map eIntS))] := by
  refine con_x tbOk mixedW Tryz.func130 (by kernel_rfl) (.len l.length <| .loop (Nat × (List (List Int))) (Q2 Nat (List (List Int))) [3, 5, 6, 9, 10, 11, 12, 13, 14, 15, 16, 17, 18] [600, 1500, 1600, 1700] (fun yy0 => [(3, .own 600), (9, vI (yy0.1 : Int))]) (fun yy0 => [(600, some (.arr 25 1 true (yy0.2.map eIntS)))]) (fun yy0 => yy0.1 ≤ l.length ∧ yy0.2 = l.take yy0.1) (fun yy0 => l.length - yy0.1) (fun yy0 => .br (.elem (List Int) eIntS l (fun e11 => .call (.own 0) [(0, .arr 3 1 true (e11.map intD))] <| .appx (List Int) eIntS yy0.2 e11 <| .back [(600, 1700)])) (.fin [(0, 600)]))) ?_
  refine Eq.mpr (by kernel_rfl : _ = ((l.map eIntS).length ≤ 9223372036854775807 → (l.map eIntS).length = l.length ∧ ((∃ (k : Nat) (out : List (List Int)), (0 : Int) = (k : Int) ∧ [] = out.map eIntS ∧ k ≤ l.length ∧ out = l.take k) ∧ ∀ (k : Nat) (out : List (List Int)), (k ≤ l.length ∧ out = l.take k) → ((decide ((k : Int) < ((l.length : Nat) : Int))) = true → 0 ≤ (k : Int) ∧ (l.map eIntS = l.map eIntS ∧ k < l.length ∧ ∀ e11, l[k]? = some e11 → Con Tryz.prog 133 [.one (.sl 3 1 (e11.map intD))] (.own 0) [(0, .arr 3 1 true (e11.map intD))] ∧ out.map eIntS = out.map eIntS ∧ e11.map intD = e11.map intD ∧ (out.length + 1) * 24 ≤ 140737488355328 ∧ inR ((k : Int) + (1 : Int)) ∧ ∃ (k' : Nat) (out' : List (List Int)), ((k : Int) + (1 : Int)) = (k' : Int) ∧ (out ++ [e11]).map eIntS = out'.map eIntS ∧ (k' ≤ l.length ∧ out' = l.take k') ∧ l.length - k' < l.length - k)) ∧ ((decide ((k : Int) < ((l.length : Nat) : Int))) = false → out.map eIntS = l.map eIntS ∧ True)))) ?_
  intro n0
  simp only [List.length_map] at n0
  have hlen := cIntSS_len l
  refine ⟨List.length_map _, ?_⟩
  refine ⟨⟨0, ([] : List (List Int)), rfl, rfl, Nat.zero_le _, rfl⟩, fun k out ⟨hk, ho⟩ => ?_⟩
  refine ⟨fun c0 => ?_, fun c0 => ?_⟩
  · replace c0 := of_decide_eq_true c0
    refine ⟨by omega, ?_⟩
    refine ⟨rfl, by omega, fun e11 h11 => ?_⟩
    have h5 : e11.length ≤ 1048576 := by have := cIntSS_el h11; have : cIntS e11 = e11.length := rfl; omega
    refine ⟨cpI _ (by omega), ?_⟩
    refine ⟨rfl, rfl, by simp [ho]; have := cIntSS_len l; omega, ?_⟩
    refine ⟨⟨by omega, by omega⟩, ?_⟩
    exact ⟨k + 1, out ++ [e11], rfl, rfl, ⟨by omega, by rw [ho, take_snoc h11]⟩, by omega⟩
  · replace c0 := of_decide_eq_false c0
    refine ⟨?_, trivial⟩
    · rw [ho, List.take_of_length_le (by omega)]
end Go.Proofs.YtjlagjhmlmfjeaaGreat
