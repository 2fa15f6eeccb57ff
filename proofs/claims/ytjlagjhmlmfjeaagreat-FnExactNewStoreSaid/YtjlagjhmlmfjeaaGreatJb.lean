/-
  Copies of tables, both sides.
-/
import Derived.Test.YtjlagjhmlmfjeaaGreatGd
import Derived.Test.YtjlagjhmlmfjeaaGreatFe
namespace Go.Proofs.YtjlagjhmlmfjeaaGreat
open Go.ChangeShapes Go.WideShapes Go.ChangeAt Go.RowKit
set_option linter.unusedVariables false
set_option linter.unusedSimpArgs false
set_option maxRecDepth 100000 in
set_option maxHeartbeats 4000000 in
theorem cpT_impl (t : TableD) (hc : cTable t ≤ 1048576) : Con Tryz.prog 134 [.agg [.str t.name, .int .i64 t.arity, .sl 25 1 (t.rows.map eIntS)]] (.agg [.p none (.str t.name), vI t.arity, .own 0]) [(0, .arr 25 1 true (t.rows.map eIntS))] := by
  refine con_x tbOk mixedW Tryz.func134 (by kernel_rfl) (.call (.own 0) [(0, .arr 25 1 true (t.rows.map eIntS))] <| .fin [(0, 500)]) ?_
  refine Eq.mpr (by kernel_rfl : _ = ((t.rows.map eIntS).length ≤ 9223372036854775807 → Con Tryz.prog 130 [.one (.sl 25 1 (t.rows.map eIntS))] (.own 0) [(0, .arr 25 1 true (t.rows.map eIntS))] ∧ t.name = t.name ∧ t.arity = t.arity ∧ t.rows.map eIntS = t.rows.map eIntS ∧ True)) ?_
  intro n0
  simp only [List.length_map] at n0
  have q1 : cTable t = t.name.size + cIntSS t.rows := rfl
  have q2 := cIntSS_len t.rows
  refine ⟨cpR _ (by omega), ?_⟩
  exact ⟨rfl, rfl, rfl, trivial⟩

set_option maxRecDepth 100000 in
set_option maxHeartbeats 4000000 in
theorem cpT_spec (t : TableD) (hc : cTable t ≤ 1048576) : Con Tryz.prog 121 [.agg [.str t.name, .int .i64 t.arity, .sl 25 1 (t.rows.map eIntS)]] (.agg [.p none (.str t.name), vI t.arity, .own 0]) [(0, .arr 25 1 true (t.rows.map eIntS))] := by
  refine con_x tbOk mixedW Tryz.func121 (by kernel_rfl) (.loop (Nat × (List (List Int))) (Q2 Nat (List (List Int))) [4, 10, 11, 12, 13, 14, 15, 16, 17, 18, 19, 20, 21, 22, 23, 24, 25, 26, 27, 28] [300, 1900, 2500, 2600, 2700, 9000] (fun yy0 => [(4, vI (yy0.1 : Int))]) (fun yy0 => [(300, some (.box 107 [.p none (.str t.name), vI t.arity, .own 9000])), (9000, some (.arr 25 1 true (yy0.2.map eIntS)))]) (fun yy0 => yy0.1 ≤ t.rows.length ∧ yy0.2 = t.rows.take yy0.1) (fun yy0 => t.rows.length - yy0.1) (fun yy0 => .len t.rows.length <| .br (.elem (List Int) eIntS t.rows (fun e23 => .app Int intD ([] : List Int) e23 <| .appx (List Int) eIntS yy0.2 (([] : List Int) ++ e23) <| .back [(300, 300), (9000, 2700)])) (.fin [(0, 9000)]))) ?_
  refine Eq.mpr (by kernel_rfl : _ = ((t.rows.map eIntS).length ≤ 9223372036854775807 → (∃ (k : Nat) (out : List (List Int)), (0 : Int) = (k : Int) ∧ t.name = t.name ∧ t.arity = t.arity ∧ [] = out.map eIntS ∧ k ≤ t.rows.length ∧ out = t.rows.take k) ∧ ∀ (k : Nat) (out : List (List Int)), (k ≤ t.rows.length ∧ out = t.rows.take k) → (t.rows.map eIntS).length = t.rows.length ∧ (((decide ((k : Int) < ((t.rows.length : Nat) : Int))) = true → 0 ≤ (k : Int) ∧ (t.rows.map eIntS = t.rows.map eIntS ∧ k < t.rows.length ∧ ∀ e23, t.rows[k]? = some e23 → [] = ([] : List Int).map intD ∧ e23.map intD = e23.map intD ∧ (∀ x, flatB (intD x) = true) ∧ (([] : List Int).length + e23.length) * 8 ≤ 140737488355328 ∧ out.map eIntS = out.map eIntS ∧ (([] : List Int) ++ e23).map intD = (([] : List Int) ++ e23).map intD ∧ (out.length + 1) * 24 ≤ 140737488355328 ∧ inR ((k : Int) + (1 : Int)) ∧ ∃ (k' : Nat) (out' : List (List Int)), ((k : Int) + (1 : Int)) = (k' : Int) ∧ t.name = t.name ∧ t.arity = t.arity ∧ (out ++ [([] : List Int) ++ e23]).map eIntS = out'.map eIntS ∧ (k' ≤ t.rows.length ∧ out' = t.rows.take k') ∧ t.rows.length - k' < t.rows.length - k)) ∧ ((decide ((k : Int) < ((t.rows.length : Nat) : Int))) = false → t.name = t.name ∧ t.arity = t.arity ∧ out.map eIntS = t.rows.map eIntS ∧ True)))) ?_
  intro n0
  simp only [List.length_map] at n0
  have q1 : cTable t = t.name.size + cIntSS t.rows := rfl
  have q2 := cIntSS_len t.rows
  refine ⟨⟨0, ([] : List (List Int)), rfl, rfl, rfl, rfl, Nat.zero_le _, rfl⟩, fun k out ⟨hk, ho⟩ => ?_⟩
  refine ⟨List.length_map _, ?_⟩
  refine ⟨fun c0 => ?_, fun c0 => ?_⟩
  · replace c0 := of_decide_eq_true c0
    refine ⟨by omega, ?_⟩
    refine ⟨rfl, by omega, fun e23 h23 => ?_⟩
    have hp3 := cIntSS_at h23
    refine ⟨rfl, rfl, fun _ => rfl, by first | omega | (simp; omega) | (simp [ho]; omega), ?_⟩
    refine ⟨rfl, rfl, by first | omega | (simp; omega) | (simp [ho]; omega), ?_⟩
    refine ⟨⟨by omega, by omega⟩, ?_⟩
    exact ⟨k + 1, _, rfl, rfl, rfl, rfl, ⟨by omega, by rw [ho, take_snoc h23]; rfl⟩, by omega⟩
  · replace c0 := of_decide_eq_false c0
    refine ⟨rfl, rfl, ?_, trivial⟩
    · first | rfl | (rw [ho, List.take_of_length_le (by omega)])
end Go.Proofs.YtjlagjhmlmfjeaaGreat
