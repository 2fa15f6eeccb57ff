/-
  Sequences of degrees, the reference's order.
-/
import Derived.Test.YtjlagjhmlmfjeaaGreatHb
import Derived.Test.YtjlagjhmlmfjeaaGreatSi
import Derived.Test.YtjlagjhmlmfjeaaGreatIa
namespace Go.Proofs.YtjlagjhmlmfjeaaGreat
open Go.ChangeShapes Go.WideShapes Go.ChangeAt Go.RowKit
set_option linter.unusedVariables false
set_option linter.unusedSimpArgs false
set_option maxRecDepth 100000 in
set_option maxHeartbeats 4000000 in
theorem down_spec (l : List Int) (hc : l.length ≤ 1048576) : Con Tryz.prog 145 [.one (.sl 3 1 (l.map intD))] (.p none (.sl 3 1 ((downL l).map intD))) [] := by
  refine con_x tbOk mixedW Tryz.func145 (by kernel_rfl) (.stl 3 <| .loop (Nat × (List Int)) (Q2 Nat (List Int)) [3, 4, 5, 7, 8, 9, 10, 11, 12, 13, 14, 15, 16, 17, 18, 19, 20, 21, 22, 23, 24, 25, 26, 27, 28, 29, 30, 31, 32, 33, 34, 35, 36, 37, 38, 39, 40, 41, 42, 43, 44, 45] [3100, 3500, 4000, 4100, 4500] (fun yy0 => [(4, vI (yy0.1 : Int)), (3, .p none (.sl 3 1 (yy0.2.map intD)))]) (fun yy0 => []) (fun yy0 => yy0.1 ≤ l.length ∧ yy0.2.Perm (l.take yy0.1) ∧ DescL yy0.2) (fun yy0 => l.length - yy0.1) (fun yy0 => .len l.length <| .br (.len yy0.2.length <| .loop Nat (Q1 Nat) [5, 15, 16, 17, 18, 19, 20, 21, 22, 23, 24, 25, 26, 27, 28, 29, 30] [] (fun j => [(5, vI (j : Int))]) (fun j => []) (fun j => j ≤ yy0.2.length ∧ (∀ i, j ≤ i → i < yy0.2.length → yy0.2.getD i 0 < l.getD yy0.1 0)) (fun j => j) (fun j => .br (.elem Int intD yy0.2 (fun e21 => .elem Int intD l (fun e25 => .lit <| .lit <| .lit <| .br (.back []) (.sub Int intD yy0.2 <| .app Int intD ([] : List Int) (yy0.2.take j) <| .elem Int intD l (fun e38 => .app Int intD (([] : List Int) ++ (yy0.2.take j)) ([e38] : List Int) <| .sub Int intD yy0.2 <| .app Int intD ((([] : List Int) ++ (yy0.2.take j)) ++ [e38]) (yy0.2.drop j) <| .stl 3 <| .back []))))) (.sub Int intD yy0.2 <| .app Int intD ([] : List Int) (yy0.2.take j) <| .elem Int intD l (fun e38 => .app Int intD (([] : List Int) ++ (yy0.2.take j)) ([e38] : List Int) <| .sub Int intD yy0.2 <| .app Int intD ((([] : List Int) ++ (yy0.2.take j)) ++ [e38]) (yy0.2.drop j) <| .stl 3 <| .back [])))) (.fin []))) ?_
  refine Eq.mpr (by kernel_rfl : _ = ((l.map intD).length ≤ 9223372036854775807 → (∃ (k : Nat) (out : List Int), (0 : Int) = (k : Int) ∧ [] = out.map intD ∧ k ≤ l.length ∧ out.Perm (l.take k) ∧ DescL out) ∧ ∀ (k : Nat) (out : List Int), (k ≤ l.length ∧ out.Perm (l.take k) ∧ DescL out) → (l.map intD).length = l.length ∧ (((decide ((k : Int) < ((l.length : Nat) : Int))) = true → (out.map intD).length = out.length ∧ ((∃ (j : Nat), ((out.length : Nat) : Int) = (j : Int) ∧ j ≤ out.length ∧ (∀ i, j ≤ i → i < out.length → out.getD i 0 < l.getD k 0)) ∧ ∀ (j : Nat), (j ≤ out.length ∧ (∀ i, j ≤ i → i < out.length → out.getD i 0 < l.getD k 0)) → ((decide ((0 : Int) < (j : Int))) = true → inR ((j : Int) - (1 : Int)) ∧ (0 ≤ ((j : Int) - (1 : Int)) ∧ (out.map intD = out.map intD ∧ ((j : Int) - (1 : Int)).toNat < out.length ∧ ∀ e21, out[((j : Int) - (1 : Int)).toNat]? = some e21 → 0 ≤ (k : Int) ∧ (l.map intD = l.map intD ∧ k < l.length ∧ ∀ e25, l[k]? = some e25 → ((decide (e21 < e25)) = true → inR ((j : Int) - (1 : Int)) ∧ ∃ (j' : Nat), ((j : Int) - (1 : Int)) = (j' : Int) ∧ (j' ≤ out.length ∧ (∀ i, j' ≤ i → i < out.length → out.getD i 0 < l.getD k 0)) ∧ j' < j) ∧ ((decide (e21 < e25)) = false → out.map intD = out.map intD ∧ 0 ≤ (j : Int) ∧ (j : Int) ≤ ((out.length : Nat) : Int) ∧ ([] = ([] : List Int).map intD ∧ (out.take j).map intD = (out.take j).map intD ∧ (∀ x, flatB (intD x) = true) ∧ (([] : List Int).length + (out.take j).length) * 8 ≤ 140737488355328 ∧ (0 ≤ (k : Int) ∧ (l.map intD = l.map intD ∧ k < l.length ∧ ∀ e38, l[k]? = some e38 → (([] : List Int) ++ (out.take j)).map intD = (([] : List Int) ++ (out.take j)).map intD ∧ [[.int .i64 e38]] = ([e38] : List Int).map intD ∧ (∀ x, flatB (intD x) = true) ∧ ((([] : List Int) ++ (out.take j)).length + ([e38] : List Int).length) * 8 ≤ 140737488355328 ∧ out.map intD = out.map intD ∧ 0 ≤ (j : Int) ∧ (j : Int) ≤ ((out.length : Nat) : Int) ∧ ((([] : List Int) ++ (out.take j)) ++ [e38]).map intD = ((([] : List Int) ++ (out.take j)) ++ [e38]).map intD ∧ (out.drop j).map intD = (out.drop j).map intD ∧ (∀ x, flatB (intD x) = true) ∧ (((([] : List Int) ++ (out.take j)) ++ [e38]).length + (out.drop j).length) * 8 ≤ 140737488355328 ∧ inR ((k : Int) + (1 : Int)) ∧ ∃ (k' : Nat) (out' : List Int), ((k : Int) + (1 : Int)) = (k' : Int) ∧ (((([] : List Int) ++ (out.take j)) ++ [e38]) ++ (out.drop j)).map intD = out'.map intD ∧ (k' ≤ l.length ∧ out'.Perm (l.take k') ∧ DescL out') ∧ l.length - k' < l.length - k)))))))) ∧ ((decide ((0 : Int) < (j : Int))) = false → out.map intD = out.map intD ∧ 0 ≤ (j : Int) ∧ (j : Int) ≤ ((out.length : Nat) : Int) ∧ ([] = ([] : List Int).map intD ∧ (out.take j).map intD = (out.take j).map intD ∧ (∀ x, flatB (intD x) = true) ∧ (([] : List Int).length + (out.take j).length) * 8 ≤ 140737488355328 ∧ (0 ≤ (k : Int) ∧ (l.map intD = l.map intD ∧ k < l.length ∧ ∀ e38, l[k]? = some e38 → (([] : List Int) ++ (out.take j)).map intD = (([] : List Int) ++ (out.take j)).map intD ∧ [[.int .i64 e38]] = ([e38] : List Int).map intD ∧ (∀ x, flatB (intD x) = true) ∧ ((([] : List Int) ++ (out.take j)).length + ([e38] : List Int).length) * 8 ≤ 140737488355328 ∧ out.map intD = out.map intD ∧ 0 ≤ (j : Int) ∧ (j : Int) ≤ ((out.length : Nat) : Int) ∧ ((([] : List Int) ++ (out.take j)) ++ [e38]).map intD = ((([] : List Int) ++ (out.take j)) ++ [e38]).map intD ∧ (out.drop j).map intD = (out.drop j).map intD ∧ (∀ x, flatB (intD x) = true) ∧ (((([] : List Int) ++ (out.take j)) ++ [e38]).length + (out.drop j).length) * 8 ≤ 140737488355328 ∧ inR ((k : Int) + (1 : Int)) ∧ ∃ (k' : Nat) (out' : List Int), ((k : Int) + (1 : Int)) = (k' : Int) ∧ (((([] : List Int) ++ (out.take j)) ++ [e38]) ++ (out.drop j)).map intD = out'.map intD ∧ (k' ≤ l.length ∧ out'.Perm (l.take k') ∧ DescL out') ∧ l.length - k' < l.length - k)))))) ∧ ((decide ((k : Int) < ((l.length : Nat) : Int))) = false → out.map intD = (downL l).map intD ∧ True)))) ?_
  intro n0
  simp only [List.length_map] at n0
  refine ⟨⟨0, ([] : List Int), rfl, rfl, Nat.zero_le _, List.Perm.refl _, List.Pairwise.nil⟩, fun k out ⟨hk, hp, hd⟩ => ?_⟩
  have hpl := hp.length_eq
  rw [List.length_take] at hpl
  refine ⟨List.length_map _, ?_⟩
  refine ⟨fun c0 => ?_, fun c0 => ?_⟩
  · replace c0 := of_decide_eq_true c0
    refine ⟨List.length_map _, ?_⟩
    refine ⟨⟨out.length, (by first | rfl | omega), Nat.le_refl _, fun i h1 h2 => by omega⟩, fun j ⟨hj, hs⟩ => ?_⟩
    refine ⟨fun g17 => ?_, fun g17 => ?_⟩
    · replace g17 := of_decide_eq_true g17
      refine ⟨⟨by omega, by omega⟩, ?_⟩
      refine ⟨by omega, ?_⟩
      refine ⟨rfl, by omega, fun e21 h21 => ?_⟩
      have i21 : out[j - 1]? = some e21 := by rw [← h21]; congr 1; omega
      refine ⟨by omega, ?_⟩
      refine ⟨rfl, by omega, fun e25 h25 => ?_⟩
      refine ⟨fun c1 => ?_, fun c1 => ?_⟩
      · replace c1 := of_decide_eq_true c1
        have hlt := desc_down i21 (by rw [getD_at h25]; exact c1 : e21 < l.getD k 0) hs
        refine ⟨⟨by omega, by omega⟩, ?_⟩
        exact ⟨j - 1, (by first | rfl | omega), ⟨by omega, hlt⟩, by omega⟩
      · replace c1 := of_decide_eq_false c1
        have hx : j = 0 ∨ ¬ out.getD (j - 1) 0 < l.getD k 0 := by first | (left; omega) | (right; rw [getD_at i21, getD_at h25]; exact c1)
        refine ⟨rfl, by omega, by omega, ?_⟩
        refine ⟨rfl, rfl, fun _ => rfl, by first | omega | (simp; omega), ?_⟩
        refine ⟨by omega, ?_⟩
        refine ⟨rfl, by omega, fun e38 h38 => ?_⟩
        rw [getD_at h38] at hx hs
        refine ⟨rfl, rfl, fun _ => rfl, by first | omega | (simp; omega), ?_⟩
        refine ⟨rfl, by omega, by omega, ?_⟩
        refine ⟨rfl, rfl, fun _ => rfl, by first | omega | (simp; omega), ?_⟩
        refine ⟨⟨by omega, by omega⟩, ?_⟩
        exact ⟨k + 1, ((([] : List Int) ++ (out.take j)) ++ [e38]) ++ (out.drop j), rfl, rfl, ⟨by omega, ins_perm hp h38, ins_desc hd hj hs hx⟩, by omega⟩
    · replace g17 := of_decide_eq_false g17
      have hx : j = 0 ∨ ¬ out.getD (j - 1) 0 < l.getD k 0 := by first | (left; omega) | (right; rw [getD_at i21, getD_at h25]; exact c1)
      refine ⟨rfl, by omega, by omega, ?_⟩
      refine ⟨rfl, rfl, fun _ => rfl, by first | omega | (simp; omega), ?_⟩
      refine ⟨by omega, ?_⟩
      refine ⟨rfl, by omega, fun e38 h38 => ?_⟩
      rw [getD_at h38] at hx hs
      refine ⟨rfl, rfl, fun _ => rfl, by first | omega | (simp; omega), ?_⟩
      refine ⟨rfl, by omega, by omega, ?_⟩
      refine ⟨rfl, rfl, fun _ => rfl, by first | omega | (simp; omega), ?_⟩
      refine ⟨⟨by omega, by omega⟩, ?_⟩
      exact ⟨k + 1, ((([] : List Int) ++ (out.take j)) ++ [e38]) ++ (out.drop j), rfl, rfl, ⟨by omega, ins_perm hp h38, ins_desc hd hj hs hx⟩, by omega⟩
  · replace c0 := of_decide_eq_false c0
    have hE : out = downL l := desc_unique ((by rw [List.take_of_length_le (by omega)] at hp; exact hp : out.Perm l).trans (downL_perm l).symm) hd (downL_desc l)
    refine ⟨?_, trivial⟩
    · rw [hE]
end Go.Proofs.YtjlagjhmlmfjeaaGreat
