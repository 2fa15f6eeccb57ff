/-
  Copies of stores, both sides.
-/
import Derived.Test.YtjlagjhmlmfjeaaGreatJb
import Derived.Test.YtjlagjhmlmfjeaaGreatFf
import Derived.Test.YtjlagjhmlmfjeaaGreatMg
namespace Go.Proofs.YtjlagjhmlmfjeaaGreat
open Go.ChangeShapes Go.WideShapes Go.ChangeAt Go.RowKit
set_option linter.unusedVariables false
set_option linter.unusedSimpArgs false
set_option maxRecDepth 100000 in
set_option maxHeartbeats 4000000 in
theorem cpD_impl (d : DatabaseD) (hc : cDatabase d ≤ 1048576) : Con Tryz.prog 162 [.agg [.sl 107 3 (d.tables.map eTable)]] (.agg [.own 0]) [(0, .arr 107 3 true (d.tables.map eTable))] := by
  refine con_x tbOk mixedW Tryz.func162 (by kernel_rfl) (.len d.tables.length <| .loop (Nat × (List TableD)) (Q2 Nat (List TableD)) [5, 10, 11, 12, 13, 14, 15, 16, 17, 18, 19, 20, 21] [300, 500, 1700, 1800, 1900, 9000] (fun yy0 => [(10, vI (yy0.1 : Int))]) (fun yy0 => [(300, some (.box 75 [.own 9000])), (9000, some (.arr 107 3 true (yy0.2.map eTable)))]) (fun yy0 => yy0.1 ≤ d.tables.length ∧ yy0.2 = d.tables.take yy0.1) (fun yy0 => d.tables.length - yy0.1) (fun yy0 => .br (.elem TableD eTable d.tables (fun e12 => .call (.agg [.p none (.str e12.name), vI e12.arity, .own 0]) [(0, .arr 25 1 true (e12.rows.map eIntS))] <| .appx TableD eTable yy0.2 e12 <| .back [(300, 300), (9000, 1900)])) (.fin [(0, 9000)]))) ?_
  refine Eq.mpr (by kernel_rfl : _ = ((d.tables.map eTable).length ≤ 9223372036854775807 → (d.tables.map eTable).length = d.tables.length ∧ ((∃ (k : Nat) (out : List TableD), (0 : Int) = (k : Int) ∧ [] = out.map eTable ∧ k ≤ d.tables.length ∧ out = d.tables.take k) ∧ ∀ (k : Nat) (out : List TableD), (k ≤ d.tables.length ∧ out = d.tables.take k) → ((decide ((k : Int) < ((d.tables.length : Nat) : Int))) = true → 0 ≤ (k : Int) ∧ (d.tables.map eTable = d.tables.map eTable ∧ k < d.tables.length ∧ ∀ e12, d.tables[k]? = some e12 → Con Tryz.prog 134 [.agg [.str e12.name, .int .i64 e12.arity, .sl 25 1 (e12.rows.map eIntS)]] (.agg [.p none (.str e12.name), vI e12.arity, .own 0]) [(0, .arr 25 1 true (e12.rows.map eIntS))] ∧ out.map eTable = out.map eTable ∧ e12.name = e12.name ∧ e12.arity = e12.arity ∧ e12.rows.map eIntS = e12.rows.map eIntS ∧ (out.length + 1) * 48 ≤ 140737488355328 ∧ inR ((k : Int) + (1 : Int)) ∧ ∃ (k' : Nat) (out' : List TableD), ((k : Int) + (1 : Int)) = (k' : Int) ∧ (out ++ [e12]).map eTable = out'.map eTable ∧ (k' ≤ d.tables.length ∧ out' = d.tables.take k') ∧ d.tables.length - k' < d.tables.length - k)) ∧ ((decide ((k : Int) < ((d.tables.length : Nat) : Int))) = false → out.map eTable = d.tables.map eTable ∧ True)))) ?_
  intro n0
  simp only [List.length_map] at n0
  have q1 : cDatabase d = cTableS d.tables := rfl
  have q2 := cTableS_len d.tables
  refine ⟨List.length_map _, ?_⟩
  refine ⟨⟨0, ([] : List TableD), rfl, rfl, Nat.zero_le _, rfl⟩, fun k out ⟨hk, ho⟩ => ?_⟩
  refine ⟨fun c0 => ?_, fun c0 => ?_⟩
  · replace c0 := of_decide_eq_true c0
    refine ⟨by omega, ?_⟩
    refine ⟨rfl, by omega, fun e12 h12 => ?_⟩
    have q3 := cTableS_el h12
    refine ⟨cpT_impl _ (by omega), ?_⟩
    refine ⟨rfl, rfl, rfl, rfl, by first | omega | (simp; omega) | (simp [ho]; omega), ?_⟩
    refine ⟨⟨by omega, by omega⟩, ?_⟩
    exact ⟨k + 1, _, rfl, rfl, ⟨by omega, by rw [ho, take_snoc h12]⟩, by omega⟩
  · replace c0 := of_decide_eq_false c0
    refine ⟨?_, trivial⟩
    · first | rfl | (rw [ho, List.take_of_length_le (by omega)])

set_option maxRecDepth 100000 in
set_option maxHeartbeats 4000000 in
theorem cpD_spec (d : DatabaseD) (hc : cDatabase d ≤ 1048576) : Con Tryz.prog 102 [.agg [.sl 107 3 (d.tables.map eTable)]] (.agg [.own 0]) [(0, .arr 107 3 true (d.tables.map eTable))] := by
  refine con_x tbOk mixedW Tryz.func102 (by kernel_rfl) (.loop (Nat × (List TableD)) (Q2 Nat (List TableD)) [4, 5, 7, 8, 9, 10, 11, 12, 13, 14, 15, 16, 17, 18, 19, 20, 21, 22, 23, 24, 25] [300, 500, 1900, 2300, 2400, 9000] (fun yy0 => [(4, vI (yy0.1 : Int))]) (fun yy0 => [(300, some (.box 75 [.own 9000])), (9000, some (.arr 107 3 true (yy0.2.map eTable)))]) (fun yy0 => yy0.1 ≤ d.tables.length ∧ yy0.2 = d.tables.take yy0.1) (fun yy0 => d.tables.length - yy0.1) (fun yy0 => .len d.tables.length <| .br (.elem TableD eTable d.tables (fun e17 => .call (.agg [.p none (.str e17.name), vI e17.arity, .own 0]) [(0, .arr 25 1 true (e17.rows.map eIntS))] <| .appx TableD eTable yy0.2 e17 <| .back [(300, 300), (9000, 2400)])) (.fin [(0, 9000)]))) ?_
  refine Eq.mpr (by kernel_rfl : _ = ((d.tables.map eTable).length ≤ 9223372036854775807 → (∃ (k : Nat) (out : List TableD), (0 : Int) = (k : Int) ∧ [] = out.map eTable ∧ k ≤ d.tables.length ∧ out = d.tables.take k) ∧ ∀ (k : Nat) (out : List TableD), (k ≤ d.tables.length ∧ out = d.tables.take k) → (d.tables.map eTable).length = d.tables.length ∧ (((decide ((k : Int) < ((d.tables.length : Nat) : Int))) = true → 0 ≤ (k : Int) ∧ (d.tables.map eTable = d.tables.map eTable ∧ k < d.tables.length ∧ ∀ e17, d.tables[k]? = some e17 → Con Tryz.prog 121 [.agg [.str e17.name, .int .i64 e17.arity, .sl 25 1 (e17.rows.map eIntS)]] (.agg [.p none (.str e17.name), vI e17.arity, .own 0]) [(0, .arr 25 1 true (e17.rows.map eIntS))] ∧ out.map eTable = out.map eTable ∧ e17.name = e17.name ∧ e17.arity = e17.arity ∧ e17.rows.map eIntS = e17.rows.map eIntS ∧ (out.length + 1) * 48 ≤ 140737488355328 ∧ inR ((k : Int) + (1 : Int)) ∧ ∃ (k' : Nat) (out' : List TableD), ((k : Int) + (1 : Int)) = (k' : Int) ∧ (out ++ [e17]).map eTable = out'.map eTable ∧ (k' ≤ d.tables.length ∧ out' = d.tables.take k') ∧ d.tables.length - k' < d.tables.length - k)) ∧ ((decide ((k : Int) < ((d.tables.length : Nat) : Int))) = false → out.map eTable = d.tables.map eTable ∧ True)))) ?_
  intro n0
  simp only [List.length_map] at n0
  have q1 : cDatabase d = cTableS d.tables := rfl
  have q2 := cTableS_len d.tables
  refine ⟨⟨0, ([] : List TableD), rfl, rfl, Nat.zero_le _, rfl⟩, fun k out ⟨hk, ho⟩ => ?_⟩
  refine ⟨List.length_map _, ?_⟩
  refine ⟨fun c0 => ?_, fun c0 => ?_⟩
  · replace c0 := of_decide_eq_true c0
    refine ⟨by omega, ?_⟩
    refine ⟨rfl, by omega, fun e17 h17 => ?_⟩
    have q3 := cTableS_el h17
    refine ⟨cpT_spec _ (by omega), ?_⟩
    refine ⟨rfl, rfl, rfl, rfl, by first | omega | (simp; omega) | (simp [ho]; omega), ?_⟩
    refine ⟨⟨by omega, by omega⟩, ?_⟩
    exact ⟨k + 1, _, rfl, rfl, ⟨by omega, by rw [ho, take_snoc h17]⟩, by omega⟩
  · replace c0 := of_decide_eq_false c0
    refine ⟨?_, trivial⟩
    · first | rfl | (rw [ho, List.take_of_length_le (by omega)])

set_option maxRecDepth 100000 in
set_option maxHeartbeats 4000000 in
theorem cpC_impl (c : CatalogueD) (hc : cCatalogue c ≤ 1048576) : Con Tryz.prog 163 [.agg [.int .i64 c.version, .sl 32 4 (c.tables.map eTableStats)]] (.agg [vI c.version, .own 0]) [(0, .arr 32 4 true (c.tables.map eTableStats))] := by
  refine con_x tbOk mixedW Tryz.func163 (by kernel_rfl) (.len c.tables.length <| .loop (Nat × (List TableStatsD)) (Q2 Nat (List TableStatsD)) [5, 12, 13, 14, 15, 16, 17, 18, 19, 20, 21, 22, 23] [300, 500, 1900, 2000, 2100, 9000] (fun yy0 => [(12, vI (yy0.1 : Int))]) (fun yy0 => [(300, some (.box 78 [vI c.version, .own 9000])), (9000, some (.arr 32 4 true (yy0.2.map eTableStats)))]) (fun yy0 => yy0.1 ≤ c.tables.length ∧ yy0.2 = c.tables.take yy0.1) (fun yy0 => c.tables.length - yy0.1) (fun yy0 => .br (.elem TableStatsD eTableStats c.tables (fun e14 => .call (.agg [.p none (.str e14.name), vI e14.arity, vI e14.rowCount, .own 0]) [(0, .arr 157 3 true (e14.groups.map eGroupStats))] <| .appx TableStatsD eTableStats yy0.2 e14 <| .back [(300, 300), (9000, 2100)])) (.fin [(0, 9000)]))) ?_
  refine Eq.mpr (by kernel_rfl : _ = ((c.tables.map eTableStats).length ≤ 9223372036854775807 → (c.tables.map eTableStats).length = c.tables.length ∧ ((∃ (k : Nat) (out : List TableStatsD), (0 : Int) = (k : Int) ∧ c.version = c.version ∧ [] = out.map eTableStats ∧ k ≤ c.tables.length ∧ out = c.tables.take k) ∧ ∀ (k : Nat) (out : List TableStatsD), (k ≤ c.tables.length ∧ out = c.tables.take k) → ((decide ((k : Int) < ((c.tables.length : Nat) : Int))) = true → 0 ≤ (k : Int) ∧ (c.tables.map eTableStats = c.tables.map eTableStats ∧ k < c.tables.length ∧ ∀ e14, c.tables[k]? = some e14 → Con Tryz.prog 71 [.agg [.str e14.name, .int .i64 e14.arity, .int .i64 e14.rowCount, .sl 157 3 (e14.groups.map eGroupStats)]] (.agg [.p none (.str e14.name), vI e14.arity, vI e14.rowCount, .own 0]) [(0, .arr 157 3 true (e14.groups.map eGroupStats))] ∧ out.map eTableStats = out.map eTableStats ∧ e14.name = e14.name ∧ e14.arity = e14.arity ∧ e14.rowCount = e14.rowCount ∧ e14.groups.map eGroupStats = e14.groups.map eGroupStats ∧ (out.length + 1) * 56 ≤ 140737488355328 ∧ inR ((k : Int) + (1 : Int)) ∧ ∃ (k' : Nat) (out' : List TableStatsD), ((k : Int) + (1 : Int)) = (k' : Int) ∧ c.version = c.version ∧ (out ++ [e14]).map eTableStats = out'.map eTableStats ∧ (k' ≤ c.tables.length ∧ out' = c.tables.take k') ∧ c.tables.length - k' < c.tables.length - k)) ∧ ((decide ((k : Int) < ((c.tables.length : Nat) : Int))) = false → c.version = c.version ∧ out.map eTableStats = c.tables.map eTableStats ∧ True)))) ?_
  intro n0
  simp only [List.length_map] at n0
  have q1 : cCatalogue c = cTableStatsS c.tables := rfl
  have q2 := cTableStatsS_len c.tables
  refine ⟨List.length_map _, ?_⟩
  refine ⟨⟨0, ([] : List TableStatsD), rfl, rfl, rfl, Nat.zero_le _, rfl⟩, fun k out ⟨hk, ho⟩ => ?_⟩
  refine ⟨fun c0 => ?_, fun c0 => ?_⟩
  · replace c0 := of_decide_eq_true c0
    refine ⟨by omega, ?_⟩
    refine ⟨rfl, by omega, fun e14 h14 => ?_⟩
    have q3 := cTableStatsS_el h14
    refine ⟨cpS_impl _ (by omega), ?_⟩
    refine ⟨rfl, rfl, rfl, rfl, rfl, by first | omega | (simp; omega) | (simp [ho]; omega), ?_⟩
    refine ⟨⟨by omega, by omega⟩, ?_⟩
    exact ⟨k + 1, _, rfl, rfl, rfl, ⟨by omega, by rw [ho, take_snoc h14]⟩, by omega⟩
  · replace c0 := of_decide_eq_false c0
    refine ⟨rfl, ?_, trivial⟩
    · first | rfl | (rw [ho, List.take_of_length_le (by omega)])

set_option maxRecDepth 100000 in
set_option maxHeartbeats 4000000 in
theorem cpP_impl (l : List DependencyD) (hc : cDependencyS l ≤ 1048576) : Con Tryz.prog 164 [.one (.sl 142 3 (l.map eDependency))] (.own 0) [(0, .arr 142 3 true (l.map eDependency))] := by
  refine con_x tbOk mixedW Tryz.func164 (by kernel_rfl) (.len l.length <| .loop (Nat × (List DependencyD)) (Q2 Nat (List DependencyD)) [3, 5, 6, 9, 10, 11, 12, 13, 14, 15, 16, 17, 18, 19, 20, 21] [500, 600, 1500, 1900, 2000] (fun yy0 => [(9, vI (yy0.1 : Int)), (3, .own 600)]) (fun yy0 => [(600, some (.arr 142 3 true (yy0.2.map eDependency)))]) (fun yy0 => yy0.1 ≤ l.length ∧ yy0.2 = l.take yy0.1) (fun yy0 => l.length - yy0.1) (fun yy0 => .br (.elem DependencyD eDependency l (fun e11 => .call (.own 0) [(0, .arr 3 1 true (e11.src.map intD))] <| .appx DependencyD eDependency yy0.2 e11 <| .back [(600, 2000)])) (.fin [(0, 600)]))) ?_
  refine Eq.mpr (by kernel_rfl : _ = ((l.map eDependency).length ≤ 9223372036854775807 → (l.map eDependency).length = l.length ∧ ((∃ (k : Nat) (out : List DependencyD), (0 : Int) = (k : Int) ∧ [] = out.map eDependency ∧ k ≤ l.length ∧ out = l.take k) ∧ ∀ (k : Nat) (out : List DependencyD), (k ≤ l.length ∧ out = l.take k) → ((decide ((k : Int) < ((l.length : Nat) : Int))) = true → 0 ≤ (k : Int) ∧ (l.map eDependency = l.map eDependency ∧ k < l.length ∧ ∀ e11, l[k]? = some e11 → Con Tryz.prog 133 [.one (.sl 3 1 (e11.src.map intD))] (.own 0) [(0, .arr 3 1 true (e11.src.map intD))] ∧ out.map eDependency = out.map eDependency ∧ e11.name = e11.name ∧ e11.src.map intD = e11.src.map intD ∧ e11.dst = e11.dst ∧ (out.length + 1) * 48 ≤ 140737488355328 ∧ inR ((k : Int) + (1 : Int)) ∧ ∃ (k' : Nat) (out' : List DependencyD), ((k : Int) + (1 : Int)) = (k' : Int) ∧ (out ++ [e11]).map eDependency = out'.map eDependency ∧ (k' ≤ l.length ∧ out' = l.take k') ∧ l.length - k' < l.length - k)) ∧ ((decide ((k : Int) < ((l.length : Nat) : Int))) = false → out.map eDependency = l.map eDependency ∧ True)))) ?_
  intro n0
  simp only [List.length_map] at n0
  have q2 := cDependencyS_len l
  refine ⟨List.length_map _, ?_⟩
  refine ⟨⟨0, ([] : List DependencyD), rfl, rfl, Nat.zero_le _, rfl⟩, fun k out ⟨hk, ho⟩ => ?_⟩
  refine ⟨fun c0 => ?_, fun c0 => ?_⟩
  · replace c0 := of_decide_eq_true c0
    refine ⟨by omega, ?_⟩
    refine ⟨rfl, by omega, fun e11 h11 => ?_⟩
    try (obtain rfl := (same_at h11 h11).symm)
    have q3 := cDependencyS_el h11
    have q4 : cDependency e11 = e11.name.size + cIntS e11.src := rfl
    have q5 : cIntS e11.src = e11.src.length := rfl
    refine ⟨cpI _ (by omega), ?_⟩
    refine ⟨rfl, rfl, rfl, rfl, by first | omega | (simp; omega) | (simp [ho]; omega), ?_⟩
    refine ⟨⟨by omega, by omega⟩, ?_⟩
    exact ⟨k + 1, _, rfl, rfl, ⟨by omega, by rw [ho, take_snoc h11] <;> rfl⟩, by omega⟩
  · replace c0 := of_decide_eq_false c0
    refine ⟨?_, trivial⟩
    · first | rfl | (rw [ho, List.take_of_length_le (by omega)])

set_option maxRecDepth 100000 in
set_option maxHeartbeats 4000000 in
theorem cpP_spec (l : List DependencyD) (hc : cDependencyS l ≤ 1048576) : Con Tryz.prog 103 [.one (.sl 142 3 (l.map eDependency))] (.own 0) [(0, .arr 142 3 true (l.map eDependency))] := by
  refine con_x tbOk mixedW Tryz.func103 (by kernel_rfl) (.loop (Nat × (List DependencyD)) (Q2 Nat (List DependencyD)) [3, 4, 5, 6, 7, 8, 9, 10, 11, 12, 13, 14, 15, 16, 17, 18, 19, 20, 21, 22, 23, 24, 25, 26, 27, 28, 29, 30, 31, 32] [500, 1800, 2400, 3100, 3200] (fun yy0 => [(4, vI (yy0.1 : Int)), (3, .own 500)]) (fun yy0 => [(500, some (.arr 142 3 true (yy0.2.map eDependency)))]) (fun yy0 => yy0.1 ≤ l.length ∧ yy0.2 = l.take yy0.1) (fun yy0 => l.length - yy0.1) (fun yy0 => .len l.length <| .br (.elem DependencyD eDependency l (fun e15 => .elem DependencyD eDependency l (fun e21 => .app Int intD ([] : List Int) e21.src <| .elem DependencyD eDependency l (fun e27 => .appx DependencyD eDependency yy0.2 (⟨e15.name, ([] : List Int) ++ e21.src, e27.dst⟩ : DependencyD) <| .back [(500, 3200)])))) (.fin [(0, 500)]))) ?_
  refine Eq.mpr (by kernel_rfl : _ = ((l.map eDependency).length ≤ 9223372036854775807 → (∃ (k : Nat) (out : List DependencyD), (0 : Int) = (k : Int) ∧ [] = out.map eDependency ∧ k ≤ l.length ∧ out = l.take k) ∧ ∀ (k : Nat) (out : List DependencyD), (k ≤ l.length ∧ out = l.take k) → (l.map eDependency).length = l.length ∧ (((decide ((k : Int) < ((l.length : Nat) : Int))) = true → 0 ≤ (k : Int) ∧ (l.map eDependency = l.map eDependency ∧ k < l.length ∧ ∀ e15, l[k]? = some e15 → 0 ≤ (k : Int) ∧ (l.map eDependency = l.map eDependency ∧ k < l.length ∧ ∀ e21, l[k]? = some e21 → [] = ([] : List Int).map intD ∧ e21.src.map intD = e21.src.map intD ∧ (∀ x, flatB (intD x) = true) ∧ (([] : List Int).length + e21.src.length) * 8 ≤ 140737488355328 ∧ (0 ≤ (k : Int) ∧ (l.map eDependency = l.map eDependency ∧ k < l.length ∧ ∀ e27, l[k]? = some e27 → out.map eDependency = out.map eDependency ∧ e15.name = ((⟨e15.name, ([] : List Int) ++ e21.src, e27.dst⟩ : DependencyD).name) ∧ (([] : List Int) ++ e21.src).map intD = ((⟨e15.name, ([] : List Int) ++ e21.src, e27.dst⟩ : DependencyD).src).map intD ∧ e27.dst = ((⟨e15.name, ([] : List Int) ++ e21.src, e27.dst⟩ : DependencyD).dst) ∧ (out.length + 1) * 48 ≤ 140737488355328 ∧ inR ((k : Int) + (1 : Int)) ∧ ∃ (k' : Nat) (out' : List DependencyD), ((k : Int) + (1 : Int)) = (k' : Int) ∧ (out ++ [(⟨e15.name, ([] : List Int) ++ e21.src, e27.dst⟩ : DependencyD)]).map eDependency = out'.map eDependency ∧ (k' ≤ l.length ∧ out' = l.take k') ∧ l.length - k' < l.length - k))))) ∧ ((decide ((k : Int) < ((l.length : Nat) : Int))) = false → out.map eDependency = l.map eDependency ∧ True)))) ?_
  intro n0
  simp only [List.length_map] at n0
  have q2 := cDependencyS_len l
  refine ⟨⟨0, ([] : List DependencyD), rfl, rfl, Nat.zero_le _, rfl⟩, fun k out ⟨hk, ho⟩ => ?_⟩
  refine ⟨List.length_map _, ?_⟩
  refine ⟨fun c0 => ?_, fun c0 => ?_⟩
  · replace c0 := of_decide_eq_true c0
    refine ⟨by omega, ?_⟩
    refine ⟨rfl, by omega, fun e15 h15 => ?_⟩
    try (obtain rfl := (same_at h15 h15).symm)
    have q3 := cDependencyS_el h15
    have q4 : cDependency e15 = e15.name.size + cIntS e15.src := rfl
    have q5 : cIntS e15.src = e15.src.length := rfl
    refine ⟨by omega, ?_⟩
    refine ⟨rfl, by omega, fun e21 h21 => ?_⟩
    try (obtain rfl := (same_at h15 h21).symm)
    refine ⟨rfl, rfl, fun _ => rfl, by first | omega | (simp; omega) | (simp [ho]; omega), ?_⟩
    refine ⟨by omega, ?_⟩
    refine ⟨rfl, by omega, fun e27 h27 => ?_⟩
    try (obtain rfl := (same_at h15 h27).symm)
    refine ⟨rfl, rfl, rfl, rfl, by first | omega | (simp; omega) | (simp [ho]; omega), ?_⟩
    refine ⟨⟨by omega, by omega⟩, ?_⟩
    exact ⟨k + 1, _, rfl, rfl, ⟨by omega, by rw [ho, take_snoc h15] <;> rfl⟩, by omega⟩
  · replace c0 := of_decide_eq_false c0
    refine ⟨?_, trivial⟩
    · first | rfl | (rw [ho, List.take_of_length_le (by omega)])

set_option maxRecDepth 100000 in
set_option maxHeartbeats 4000000 in
theorem cpSt_impl (s : StoreD) (h1 : cDatabase s.database ≤ 1048576) (h2 : cCatalogue s.catalogue ≤ 1048576) (h3 : cDependencyS s.dependencies ≤ 1048576) (h4 : s.inclusions.length ≤ 1048576) : Con Tryz.prog 107 [.agg [.sl 107 3 (s.database.tables.map eTable), .int .i64 s.catalogue.version, .sl 32 4 (s.catalogue.tables.map eTableStats), .sl 142 3 (s.dependencies.map eDependency), .sl 144 4 (s.inclusions.map eInclusion)]] (.agg [.own 0, vI s.catalogue.version, .own 1, .own 2, .own 3]) [(0, .arr 107 3 true (s.database.tables.map eTable)), (1, .arr 32 4 true (s.catalogue.tables.map eTableStats)), (2, .arr 142 3 true (s.dependencies.map eDependency)), (3, .arr 144 4 true (s.inclusions.map eInclusion))] := by
  refine con_x tbOk mixedW Tryz.func107 (by kernel_rfl) (.call (.agg [.own 0]) [(0, .arr 107 3 true (s.database.tables.map eTable))] <| .call (.agg [vI s.catalogue.version, .own 0]) [(0, .arr 32 4 true (s.catalogue.tables.map eTableStats))] <| .call (.own 0) [(0, .arr 142 3 true (s.dependencies.map eDependency))] <| .app InclusionD eInclusion ([] : List InclusionD) s.inclusions <| .fin [(0, 500), (1, 800), (2, 1100), (3, 1500)]) ?_
  refine Eq.mpr (by kernel_rfl : _ = ((s.database.tables.map eTable).length ≤ 9223372036854775807 → (s.catalogue.tables.map eTableStats).length ≤ 9223372036854775807 → (s.dependencies.map eDependency).length ≤ 9223372036854775807 → (s.inclusions.map eInclusion).length ≤ 9223372036854775807 → Con Tryz.prog 162 [.agg [.sl 107 3 (s.database.tables.map eTable)]] (.agg [.own 0]) [(0, .arr 107 3 true (s.database.tables.map eTable))] ∧ Con Tryz.prog 163 [.agg [.int .i64 s.catalogue.version, .sl 32 4 (s.catalogue.tables.map eTableStats)]] (.agg [vI s.catalogue.version, .own 0]) [(0, .arr 32 4 true (s.catalogue.tables.map eTableStats))] ∧ Con Tryz.prog 164 [.one (.sl 142 3 (s.dependencies.map eDependency))] (.own 0) [(0, .arr 142 3 true (s.dependencies.map eDependency))] ∧ [] = ([] : List InclusionD).map eInclusion ∧ s.inclusions.map eInclusion = s.inclusions.map eInclusion ∧ (∀ x, flatB (eInclusion x) = true) ∧ (([] : List InclusionD).length + s.inclusions.length) * 48 ≤ 140737488355328 ∧ s.catalogue.version = s.catalogue.version ∧ s.database.tables.map eTable = s.database.tables.map eTable ∧ s.catalogue.tables.map eTableStats = s.catalogue.tables.map eTableStats ∧ s.dependencies.map eDependency = s.dependencies.map eDependency ∧ (([] : List InclusionD) ++ s.inclusions).map eInclusion = s.inclusions.map eInclusion ∧ True)) ?_
  intro n0 n1 n2 n3
  simp only [List.length_map] at n0 n1 n2 n3
  refine ⟨cpD_impl s.database (by omega), ?_⟩
  refine ⟨cpC_impl s.catalogue (by omega), ?_⟩
  refine ⟨cpP_impl _ (by omega), ?_⟩
  refine ⟨rfl, rfl, fun _ => rfl, by first | omega | (simp; omega), ?_⟩
  refine ⟨rfl, rfl, rfl, rfl, ?_, trivial⟩
  · rfl
end Go.Proofs.YtjlagjhmlmfjeaaGreat
