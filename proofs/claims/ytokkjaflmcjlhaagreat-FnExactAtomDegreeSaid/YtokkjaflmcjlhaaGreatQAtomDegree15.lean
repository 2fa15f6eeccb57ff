/-
  Contracts and plain laws, joined: part 16.
-/
import Derived.Test.YtokkjaflmcjlhaaGreatQAtomDegree14
import Derived.Test.YtokkjaflmcjlhaaGreatQAtomDegree3
namespace Go.Proofs.YtokkjaflmcjlhaaGreat
open Go.ChangeShapes Go.WideShapes Go.ChangeAt Go.RowKit
set_option linter.unusedVariables false
set_option linter.unusedSimpArgs false
set_option maxRecDepth 100000
set_option maxHeartbeats 4000000
abbrev k_to_Atom (x : AtomD) : AV × List (Nat × Rs) := (.agg [.p none (.str x.name), .own 0], [(0, .arr 3 1 true (x.vars.map intD))])
abbrev K_to_Atom (x : AtomD) : Prop := Con Tryz.prog 167 [.agg [.str x.name, .sl 3 1 (x.vars.map intD)]] (k_to_Atom x).1 (k_to_Atom x).2
theorem to_Atom (x : AtomD) (hc : cAtom x ≤ 1048576) : K_to_Atom x := by
 refine con_x tbOk mixedW Tryz.func167 (by kernel_rfl) (callP (k_to_IntS x.vars) <| .fin [(0, 900)]) ?_
 refine Eq.mpr (by kernel_rfl : _ = ((x.vars.map intD).length ≤ 9223372036854775807 → K_to_IntS x.vars ∧ x.name = x.name ∧ x.vars.map intD = x.vars.map intD ∧ True)) ?_
 intro n0
 simp only [List.length_map] at n0
 unfold cAtom at hc
 refine ⟨to_IntS x.vars (by first | omega | (have := cIntSS_el ‹x[k]? = some _›; omega)), ?_⟩
 exact ⟨rfl, rfl, trivial⟩
abbrev k_to_AtomS (x : List AtomD) : AV × List (Nat × Rs) := (.own 0, [(0, .arr 131 2 true (x.map eAtom))])
abbrev K_to_AtomS (x : List AtomD) : Prop := Con Tryz.prog 93 [.one (.sl 131 2 (x.map eAtom))] (k_to_AtomS x).1 (k_to_AtomS x).2
theorem to_AtomS (x : List AtomD) (hc : cAtomS x ≤ 1048576) : K_to_AtomS x := by
 refine con_x tbOk mixedW Tryz.func93 (by kernel_rfl) (.len x.length <| .mk x.length [.str zAtom.name, .sl 3 1 (zAtom.vars.map intD)] ((List.replicate x.length zAtom).map eAtom) <| .loop (Nat × (List AtomD)) (Q2 Nat (List AtomD)) [3, 4, 8, 9, 10, 11, 12, 13, 14, 15, 16, 17, 18, 19, 20, 21] [700, 2000] (fun yy0 => [(3, .own 700), (4, vI (yy0.1 : Int))]) (fun yy0 => [(700, some (.arr 131 2 true (yy0.2.map eAtom)))]) (fun yy0 => yy0.1 ≤ x.length ∧ yy0.2 = x.take yy0.1 ++ List.replicate (x.length - yy0.1) zAtom) (fun yy0 => x.length - yy0.1) (fun yy0 => .len x.length <| .br (.elem _ eAtom x (fun e18 => callP (k_to_Atom e18) <| .len yy0.2.length <| .setm AtomD eAtom yy0.2 (fun s5_8 => e18) (fun s5_8 => .back [(700, 700)]))) (.fin [(0, 700)]))) ?_
 refine Eq.mpr (by kernel_rfl : _ = ((x.map eAtom).length ≤ 9223372036854775807 → Lm eAtom x ∧ (((x.length : Nat) : Int) = ((x.length : Nat) : Int) ∧ ((x.length : Nat) : Int) = ((x.length : Nat) : Int) ∧ 40 * x.length ≤ 281474976710656 ∧ x.length ≤ 9223372036854775807 ∧ List.replicate x.length [.str zAtom.name, .sl 3 1 (zAtom.vars.map intD)] = (List.replicate x.length zAtom).map eAtom ∧ ((∃ (k : Nat) (out : List AtomD), (0 : Int) = (k : Int) ∧ (List.replicate x.length zAtom).map eAtom = out.map eAtom ∧ k ≤ x.length ∧ out = x.take k ++ List.replicate (x.length - k) zAtom) ∧ ∀ (k : Nat) (out : List AtomD), (k ≤ x.length ∧ out = x.take k ++ List.replicate (x.length - k) zAtom) → Lm eAtom x ∧ (((decide ((k : Int) < ((x.length : Nat) : Int))) = true → 0 ≤ (k : Int) ∧ Em eAtom x k fun e18 => K_to_Atom e18 ∧ (0 ≤ (k : Int) ∧ Lm eAtom out ∧ (k : Int) < ((out.length : Nat) : Int) ∧ (out.map eAtom = out.map eAtom ∧ k < out.length ∧ ∀ s5_8, out[k]? = some s5_8 → 0 + 2 ≤ (eAtom s5_8).length ∧ (eAtom s5_8).take 0 ++ ((eAtom e18).drop 0).take 2 ++ (eAtom s5_8).drop (0 + 2) = eAtom e18 ∧ e18.name = e18.name ∧ e18.vars.map intD = e18.vars.map intD ∧ inR ((k : Int) + (1 : Int)) ∧ ∃ (k' : Nat) (out' : List AtomD), ((k : Int) + (1 : Int)) = (k' : Int) ∧ (out.set k e18).map eAtom = out'.map eAtom ∧ (k' ≤ x.length ∧ out' = x.take k' ++ List.replicate (x.length - k') zAtom) ∧ x.length - k' < x.length - k))) ∧ ((decide ((k : Int) < ((x.length : Nat) : Int))) = false → out.map eAtom = x.map eAtom ∧ True)))))) ?_
 intro n0
 simp only [List.length_map] at n0
 refine ⟨List.length_map _, rfl, rfl, by have := cAtomS_len x; omega, by have := cAtomS_len x; omega, by first | (rw [List.map_replicate]; done) | (rw [List.map_replicate]; rfl), ⟨0, List.replicate x.length zAtom, rfl, rfl, Nat.zero_le _, by simp⟩, fun k out ⟨hk, ho⟩ => ?_⟩
 have hl : out.length = x.length := by rw [ho]; exact fill_len hk
 refine ⟨List.length_map _, fun c0 => ?_, fun c0 => ?_⟩
 ·replace c0 := yq c0
  refine ⟨by omega, rfl, by omega, fun e18 h18 => ?_⟩
  refine ⟨to_Atom e18 (by first | omega | (have := cAtomS_el ‹x[k]? = some _›; omega)), by omega, List.length_map _, by omega, rfl, by omega, fun s5_8 hs5_8 => ?_⟩
  refine ⟨Nat.le_of_ble_eq_true rfl, rfl, rfl, rfl, ⟨by omega, by omega⟩, ?_⟩
  exact ⟨k + 1, out.set k e18, rfl, rfl, ⟨by omega, by rw [ho]; exact fill_step ‹x[k]? = some _›⟩, by omega⟩
 ·replace c0 := nq c0
  refine ⟨?_, trivial⟩
  ·rw [ho, fill_done hk (by omega)]
abbrev k_to_Query (x : QueryD) : AV × List (Nat × Rs) := (.agg [vI x.variableCount, .own 0], [(0, .arr 131 2 true (x.atoms.map eAtom))])
abbrev K_to_Query (x : QueryD) : Prop := Con Tryz.prog 32 [.agg [.int .i64 x.variableCount, .sl 131 2 (x.atoms.map eAtom)]] (k_to_Query x).1 (k_to_Query x).2
theorem to_Query (x : QueryD) (hc : cQuery x ≤ 1048576) : K_to_Query x := by
 refine con_x tbOk mixedW Tryz.func32 (by kernel_rfl) (callP (k_to_AtomS x.atoms) <| .fin [(0, 900)]) ?_
 refine Eq.mpr (by kernel_rfl : _ = ((x.atoms.map eAtom).length ≤ 9223372036854775807 → K_to_AtomS x.atoms ∧ x.variableCount = x.variableCount ∧ x.atoms.map eAtom = x.atoms.map eAtom ∧ True)) ?_
 intro n0
 simp only [List.length_map] at n0
 unfold cQuery at hc
 refine ⟨to_AtomS x.atoms (by first | omega | (have := cAtomSS_el ‹x[k]? = some _›; omega)), ?_⟩
 exact ⟨rfl, rfl, trivial⟩
abbrev K_eq_IntS (x : List Int) : Prop := Con Tryz.prog 38 [.one (.sl 3 1 (x.map intD)), .one (.sl 3 1 (x.map intD))] (vB true) []
theorem eq_IntS (x : List Int) : K_eq_IntS x := by
 refine con_x tbOk mixedW Tryz.func38 (by kernel_rfl) (.len x.length <| .len x.length <| .no <| .loop Nat (Q1 Nat) [5, 11, 12, 13, 14, 15, 16, 17, 18, 19, 20, 21, 22, 23, 24, 25] [] (fun k => [(5, vI (k : Int))]) (fun k => []) (fun k => k ≤ x.length) (fun k => x.length - k) (fun k => .len x.length <| .br (.elem _ intD x (fun e19 => .elem _ intD x (fun e23 => .no <| .back []))) (.fin []))) ?_
 refine Eq.mpr (by kernel_rfl : _ = ((x.map intD).length ≤ 9223372036854775807 → (x.map intD).length ≤ 9223372036854775807 → Lm intD x ∧ (Lm intD x ∧ ((!(decide (((x.length : Nat) : Int) = ((x.length : Nat) : Int)))) = false ∧ ((∃ (k : Nat), (0 : Int) = (k : Int) ∧ k ≤ x.length) ∧ ∀ (k : Nat), k ≤ x.length → Lm intD x ∧ (((decide ((k : Int) < ((x.length : Nat) : Int))) = true → 0 ≤ (k : Int) ∧ Em intD x k fun e19 => 0 ≤ (k : Int) ∧ Em intD x k fun e23 => (!(decide (e19 = e23))) = false ∧ inR ((k : Int) + (1 : Int)) ∧ ∃ (k' : Nat), ((k : Int) + (1 : Int)) = (k' : Int) ∧ k' ≤ x.length ∧ x.length - k' < x.length - k) ∧ ((decide ((k : Int) < ((x.length : Nat) : Int))) = false → (true) = true ∧ True))))))) ?_
 intro n0 n1
 simp only [List.length_map] at n0 n1
 refine ⟨List.length_map _, List.length_map _, by simp, ⟨0, rfl, Nat.zero_le _⟩, fun k hk => ?_⟩
 refine ⟨List.length_map _, fun c1 => ?_, fun c1 => ?_⟩
 ·replace c1 := yq c1
  obtain ⟨y, hy⟩ := at_some (l := x) (k := k) (by omega)
  refine ⟨by omega, rfl, by omega, fun e19 h19 => ?_⟩
  try (obtain rfl := same_at hy h19)
  refine ⟨by omega, rfl, by omega, fun e23 h23 => ?_⟩
  try (obtain rfl := same_at hy h23)
  refine ⟨by simp, ⟨by omega, by omega⟩, ?_⟩
  exact ⟨k + 1, rfl, by omega, by omega⟩
 ·replace c1 := nq c1
  refine ⟨?_, trivial⟩
  ·rfl
abbrev K_eq_IntSS (x : List (List Int)) : Prop := Con Tryz.prog 274 [.one (.sl 32 1 (x.map eIntS)), .one (.sl 32 1 (x.map eIntS))] (vB true) []
theorem eq_IntSS (x : List (List Int)) : K_eq_IntSS x := by
 refine con_x tbOk mixedW Tryz.func274 (by kernel_rfl) (.len x.length <| .len x.length <| .no <| .loop Nat (Q1 Nat) [5, 11, 12, 13, 14, 15, 16, 17, 18, 19, 20, 21, 22, 23, 24, 25, 26] [] (fun k => [(5, vI (k : Int))]) (fun k => []) (fun k => k ≤ x.length) (fun k => x.length - k) (fun k => .len x.length <| .br (.elem _ eIntS x (fun e19 => .elem _ eIntS x (fun e23 => .call (vB true) [] <| .back []))) (.fin []))) ?_
 refine Eq.mpr (by kernel_rfl : _ = ((x.map eIntS).length ≤ 9223372036854775807 → (x.map eIntS).length ≤ 9223372036854775807 → Lm eIntS x ∧ (Lm eIntS x ∧ ((!(decide (((x.length : Nat) : Int) = ((x.length : Nat) : Int)))) = false ∧ ((∃ (k : Nat), (0 : Int) = (k : Int) ∧ k ≤ x.length) ∧ ∀ (k : Nat), k ≤ x.length → Lm eIntS x ∧ (((decide ((k : Int) < ((x.length : Nat) : Int))) = true → 0 ≤ (k : Int) ∧ Em eIntS x k fun e19 => 0 ≤ (k : Int) ∧ Em eIntS x k fun e23 => Con Tryz.prog 38 [.one (.sl 3 1 (e19.map intD)), .one (.sl 3 1 (e23.map intD))] (vB true) [] ∧ inR ((k : Int) + (1 : Int)) ∧ ∃ (k' : Nat), ((k : Int) + (1 : Int)) = (k' : Int) ∧ k' ≤ x.length ∧ x.length - k' < x.length - k) ∧ ((decide ((k : Int) < ((x.length : Nat) : Int))) = false → (true) = true ∧ True))))))) ?_
 intro n0 n1
 simp only [List.length_map] at n0 n1
 refine ⟨List.length_map _, List.length_map _, by simp, ⟨0, rfl, Nat.zero_le _⟩, fun k hk => ?_⟩
 refine ⟨List.length_map _, fun c1 => ?_, fun c1 => ?_⟩
 ·replace c1 := yq c1
  obtain ⟨y, hy⟩ := at_some (l := x) (k := k) (by omega)
  refine ⟨by omega, rfl, by omega, fun e19 h19 => ?_⟩
  try (obtain rfl := same_at hy h19)
  refine ⟨by omega, rfl, by omega, fun e23 h23 => ?_⟩
  try (obtain rfl := same_at hy h23)
  refine ⟨by first | exact eq_IntS e19 | exact eq_IntS _, ⟨by omega, by omega⟩, ?_⟩
  exact ⟨k + 1, rfl, by omega, by omega⟩
 ·replace c1 := nq c1
  refine ⟨?_, trivial⟩
  ·rfl
abbrev K_eq_Table (x : TableD) : Prop := Con Tryz.prog 237 [.agg [.str x.name, .int .i64 x.arity, .sl 32 1 (x.rows.map eIntS)], .agg [.str x.name, .int .i64 x.arity, .sl 32 1 (x.rows.map eIntS)]] (vB true) []
theorem eq_Table (x : TableD) : K_eq_Table x := by
 refine con_x tbOk mixedW Tryz.func237 (by kernel_rfl) (.no <| .no <| .call (vB true) [] <| .fin []) ?_
 refine Eq.mpr (by kernel_rfl : _ = ((x.rows.map eIntS).length ≤ 9223372036854775807 → (x.rows.map eIntS).length ≤ 9223372036854775807 → (!(x.name.toList == x.name.toList)) = false ∧ (!(decide (x.arity = x.arity))) = false ∧ K_eq_IntSS x.rows ∧ (true) = true ∧ True)) ?_
 intro n0 n1
 simp only [List.length_map] at n0 n1
 refine ⟨by simp, by simp, by first | exact eq_IntSS x.rows | exact eq_IntSS _, ?_, trivial⟩
 ·rfl
abbrev K_eq_TableS (x : List TableD) : Prop := Con Tryz.prog 156 [.one (.sl 162 3 (x.map eTable)), .one (.sl 162 3 (x.map eTable))] (vB true) []
theorem eq_TableS (x : List TableD) : K_eq_TableS x := by
 refine con_x tbOk mixedW Tryz.func156 (by kernel_rfl) (.len x.length <| .len x.length <| .no <| .loop Nat (Q1 Nat) [5, 11, 12, 13, 14, 15, 16, 17, 18, 19, 20, 21, 22, 23, 24, 25, 26] [] (fun k => [(5, vI (k : Int))]) (fun k => []) (fun k => k ≤ x.length) (fun k => x.length - k) (fun k => .len x.length <| .br (.elem _ eTable x (fun e19 => .elem _ eTable x (fun e23 => .call (vB true) [] <| .back []))) (.fin []))) ?_
 refine Eq.mpr (by kernel_rfl : _ = ((x.map eTable).length ≤ 9223372036854775807 → (x.map eTable).length ≤ 9223372036854775807 → Lm eTable x ∧ (Lm eTable x ∧ ((!(decide (((x.length : Nat) : Int) = ((x.length : Nat) : Int)))) = false ∧ ((∃ (k : Nat), (0 : Int) = (k : Int) ∧ k ≤ x.length) ∧ ∀ (k : Nat), k ≤ x.length → Lm eTable x ∧ (((decide ((k : Int) < ((x.length : Nat) : Int))) = true → 0 ≤ (k : Int) ∧ Em eTable x k fun e19 => 0 ≤ (k : Int) ∧ Em eTable x k fun e23 => Con Tryz.prog 237 [.agg [.str e19.name, .int .i64 e19.arity, .sl 32 1 (e19.rows.map eIntS)], .agg [.str e23.name, .int .i64 e23.arity, .sl 32 1 (e23.rows.map eIntS)]] (vB true) [] ∧ inR ((k : Int) + (1 : Int)) ∧ ∃ (k' : Nat), ((k : Int) + (1 : Int)) = (k' : Int) ∧ k' ≤ x.length ∧ x.length - k' < x.length - k) ∧ ((decide ((k : Int) < ((x.length : Nat) : Int))) = false → (true) = true ∧ True))))))) ?_
 intro n0 n1
 simp only [List.length_map] at n0 n1
 refine ⟨List.length_map _, List.length_map _, by simp, ⟨0, rfl, Nat.zero_le _⟩, fun k hk => ?_⟩
 refine ⟨List.length_map _, fun c1 => ?_, fun c1 => ?_⟩
 ·replace c1 := yq c1
  obtain ⟨y, hy⟩ := at_some (l := x) (k := k) (by omega)
  refine ⟨by omega, rfl, by omega, fun e19 h19 => ?_⟩
  try (obtain rfl := same_at hy h19)
  refine ⟨by omega, rfl, by omega, fun e23 h23 => ?_⟩
  try (obtain rfl := same_at hy h23)
  refine ⟨by first | exact eq_Table e19 | exact eq_Table _, ⟨by omega, by omega⟩, ?_⟩
  exact ⟨k + 1, rfl, by omega, by omega⟩
 ·replace c1 := nq c1
  refine ⟨?_, trivial⟩
  ·rfl
abbrev K_eq_Database (x : DatabaseD) : Prop := Con Tryz.prog 77 [.agg [.sl 162 3 (x.tables.map eTable)], .agg [.sl 162 3 (x.tables.map eTable)]] (vB true) []
theorem eq_Database (x : DatabaseD) : K_eq_Database x := by
 refine con_x tbOk mixedW Tryz.func77 (by kernel_rfl) (.call (vB true) [] <| .fin []) ?_
 refine Eq.mpr (by kernel_rfl : _ = ((x.tables.map eTable).length ≤ 9223372036854775807 → (x.tables.map eTable).length ≤ 9223372036854775807 → K_eq_TableS x.tables ∧ (true) = true ∧ True)) ?_
 intro n0 n1
 simp only [List.length_map] at n0 n1
 refine ⟨by first | exact eq_TableS x.tables | exact eq_TableS _, ?_, trivial⟩
 ·rfl
abbrev K_eq_GroupStats (x : GroupStatsD) : Prop := Con Tryz.prog 286 [.agg [.sl 3 1 (x.columns.map intD), .sl 32 1 (x.values.map eIntS), .sl 3 1 (x.counts.map intD)], .agg [.sl 3 1 (x.columns.map intD), .sl 32 1 (x.values.map eIntS), .sl 3 1 (x.counts.map intD)]] (vB true) []
theorem eq_GroupStats (x : GroupStatsD) : K_eq_GroupStats x := by
 refine con_x tbOk mixedW Tryz.func286 (by kernel_rfl) (.call (vB true) [] <| .call (vB true) [] <| .call (vB true) [] <| .fin []) ?_
 refine Eq.mpr (by kernel_rfl : _ = ((x.columns.map intD).length ≤ 9223372036854775807 → (x.values.map eIntS).length ≤ 9223372036854775807 → (x.counts.map intD).length ≤ 9223372036854775807 → (x.columns.map intD).length ≤ 9223372036854775807 → (x.values.map eIntS).length ≤ 9223372036854775807 → (x.counts.map intD).length ≤ 9223372036854775807 → K_eq_IntS x.columns ∧ K_eq_IntSS x.values ∧ K_eq_IntS x.counts ∧ (true) = true ∧ True)) ?_
 intro n0 n1 n2 n3 n4 n5
 simp only [List.length_map] at n0 n1 n2 n3 n4 n5
 refine ⟨by first | exact eq_IntS x.columns | exact eq_IntS _, by first | exact eq_IntSS x.values | exact eq_IntSS _, by first | exact eq_IntS x.counts | exact eq_IntS _, ?_, trivial⟩
 ·rfl
abbrev K_eq_GroupStatsS (x : List GroupStatsD) : Prop := Con Tryz.prog 275 [.one (.sl 218 3 (x.map eGroupStats)), .one (.sl 218 3 (x.map eGroupStats))] (vB true) []
theorem eq_GroupStatsS (x : List GroupStatsD) : K_eq_GroupStatsS x := by
 refine con_x tbOk mixedW Tryz.func275 (by kernel_rfl) (.len x.length <| .len x.length <| .no <| .loop Nat (Q1 Nat) [5, 11, 12, 13, 14, 15, 16, 17, 18, 19, 20, 21, 22, 23, 24, 25, 26] [] (fun k => [(5, vI (k : Int))]) (fun k => []) (fun k => k ≤ x.length) (fun k => x.length - k) (fun k => .len x.length <| .br (.elem _ eGroupStats x (fun e19 => .elem _ eGroupStats x (fun e23 => .call (vB true) [] <| .back []))) (.fin []))) ?_
 refine Eq.mpr (by kernel_rfl : _ = ((x.map eGroupStats).length ≤ 9223372036854775807 → (x.map eGroupStats).length ≤ 9223372036854775807 → Lm eGroupStats x ∧ (Lm eGroupStats x ∧ ((!(decide (((x.length : Nat) : Int) = ((x.length : Nat) : Int)))) = false ∧ ((∃ (k : Nat), (0 : Int) = (k : Int) ∧ k ≤ x.length) ∧ ∀ (k : Nat), k ≤ x.length → Lm eGroupStats x ∧ (((decide ((k : Int) < ((x.length : Nat) : Int))) = true → 0 ≤ (k : Int) ∧ Em eGroupStats x k fun e19 => 0 ≤ (k : Int) ∧ Em eGroupStats x k fun e23 => Con Tryz.prog 286 [.agg [.sl 3 1 (e19.columns.map intD), .sl 32 1 (e19.values.map eIntS), .sl 3 1 (e19.counts.map intD)], .agg [.sl 3 1 (e23.columns.map intD), .sl 32 1 (e23.values.map eIntS), .sl 3 1 (e23.counts.map intD)]] (vB true) [] ∧ inR ((k : Int) + (1 : Int)) ∧ ∃ (k' : Nat), ((k : Int) + (1 : Int)) = (k' : Int) ∧ k' ≤ x.length ∧ x.length - k' < x.length - k) ∧ ((decide ((k : Int) < ((x.length : Nat) : Int))) = false → (true) = true ∧ True))))))) ?_
 intro n0 n1
 simp only [List.length_map] at n0 n1
 refine ⟨List.length_map _, List.length_map _, by simp, ⟨0, rfl, Nat.zero_le _⟩, fun k hk => ?_⟩
 refine ⟨List.length_map _, fun c1 => ?_, fun c1 => ?_⟩
 ·replace c1 := yq c1
  obtain ⟨y, hy⟩ := at_some (l := x) (k := k) (by omega)
  refine ⟨by omega, rfl, by omega, fun e19 h19 => ?_⟩
  try (obtain rfl := same_at hy h19)
  refine ⟨by omega, rfl, by omega, fun e23 h23 => ?_⟩
  try (obtain rfl := same_at hy h23)
  refine ⟨by first | exact eq_GroupStats e19 | exact eq_GroupStats _, ⟨by omega, by omega⟩, ?_⟩
  exact ⟨k + 1, rfl, by omega, by omega⟩
 ·replace c1 := nq c1
  refine ⟨?_, trivial⟩
  ·rfl
abbrev K_eq_TableStats (x : TableStatsD) : Prop := Con Tryz.prog 238 [.agg [.str x.name, .int .i64 x.arity, .int .i64 x.rowCount, .sl 218 3 (x.groups.map eGroupStats)], .agg [.str x.name, .int .i64 x.arity, .int .i64 x.rowCount, .sl 218 3 (x.groups.map eGroupStats)]] (vB true) []
theorem eq_TableStats (x : TableStatsD) : K_eq_TableStats x := by
 refine con_x tbOk mixedW Tryz.func238 (by kernel_rfl) (.no <| .no <| .no <| .call (vB true) [] <| .fin []) ?_
 refine Eq.mpr (by kernel_rfl : _ = ((x.groups.map eGroupStats).length ≤ 9223372036854775807 → (x.groups.map eGroupStats).length ≤ 9223372036854775807 → (!(x.name.toList == x.name.toList)) = false ∧ (!(decide (x.arity = x.arity))) = false ∧ (!(decide (x.rowCount = x.rowCount))) = false ∧ K_eq_GroupStatsS x.groups ∧ (true) = true ∧ True)) ?_
 intro n0 n1
 simp only [List.length_map] at n0 n1
 refine ⟨by simp, by simp, by simp, by first | exact eq_GroupStatsS x.groups | exact eq_GroupStatsS _, ?_, trivial⟩
 ·rfl
abbrev K_eq_TableStatsS (x : List TableStatsD) : Prop := Con Tryz.prog 157 [.one (.sl 121 4 (x.map eTableStats)), .one (.sl 121 4 (x.map eTableStats))] (vB true) []
theorem eq_TableStatsS (x : List TableStatsD) : K_eq_TableStatsS x := by
 refine con_x tbOk mixedW Tryz.func157 (by kernel_rfl) (.len x.length <| .len x.length <| .no <| .loop Nat (Q1 Nat) [5, 11, 12, 13, 14, 15, 16, 17, 18, 19, 20, 21, 22, 23, 24, 25, 26] [] (fun k => [(5, vI (k : Int))]) (fun k => []) (fun k => k ≤ x.length) (fun k => x.length - k) (fun k => .len x.length <| .br (.elem _ eTableStats x (fun e19 => .elem _ eTableStats x (fun e23 => .call (vB true) [] <| .back []))) (.fin []))) ?_
 refine Eq.mpr (by kernel_rfl : _ = ((x.map eTableStats).length ≤ 9223372036854775807 → (x.map eTableStats).length ≤ 9223372036854775807 → Lm eTableStats x ∧ (Lm eTableStats x ∧ ((!(decide (((x.length : Nat) : Int) = ((x.length : Nat) : Int)))) = false ∧ ((∃ (k : Nat), (0 : Int) = (k : Int) ∧ k ≤ x.length) ∧ ∀ (k : Nat), k ≤ x.length → Lm eTableStats x ∧ (((decide ((k : Int) < ((x.length : Nat) : Int))) = true → 0 ≤ (k : Int) ∧ Em eTableStats x k fun e19 => 0 ≤ (k : Int) ∧ Em eTableStats x k fun e23 => Con Tryz.prog 238 [.agg [.str e19.name, .int .i64 e19.arity, .int .i64 e19.rowCount, .sl 218 3 (e19.groups.map eGroupStats)], .agg [.str e23.name, .int .i64 e23.arity, .int .i64 e23.rowCount, .sl 218 3 (e23.groups.map eGroupStats)]] (vB true) [] ∧ inR ((k : Int) + (1 : Int)) ∧ ∃ (k' : Nat), ((k : Int) + (1 : Int)) = (k' : Int) ∧ k' ≤ x.length ∧ x.length - k' < x.length - k) ∧ ((decide ((k : Int) < ((x.length : Nat) : Int))) = false → (true) = true ∧ True))))))) ?_
 intro n0 n1
 simp only [List.length_map] at n0 n1
 refine ⟨List.length_map _, List.length_map _, by simp, ⟨0, rfl, Nat.zero_le _⟩, fun k hk => ?_⟩
 refine ⟨List.length_map _, fun c1 => ?_, fun c1 => ?_⟩
 ·replace c1 := yq c1
  obtain ⟨y, hy⟩ := at_some (l := x) (k := k) (by omega)
  refine ⟨by omega, rfl, by omega, fun e19 h19 => ?_⟩
  try (obtain rfl := same_at hy h19)
  refine ⟨by omega, rfl, by omega, fun e23 h23 => ?_⟩
  try (obtain rfl := same_at hy h23)
  refine ⟨by first | exact eq_TableStats e19 | exact eq_TableStats _, ⟨by omega, by omega⟩, ?_⟩
  exact ⟨k + 1, rfl, by omega, by omega⟩
 ·replace c1 := nq c1
  refine ⟨?_, trivial⟩
  ·rfl
abbrev K_eq_Catalogue (x : CatalogueD) : Prop := Con Tryz.prog 78 [.agg [.int .i64 x.version, .sl 121 4 (x.tables.map eTableStats)], .agg [.int .i64 x.version, .sl 121 4 (x.tables.map eTableStats)]] (vB true) []
theorem eq_Catalogue (x : CatalogueD) : K_eq_Catalogue x := by
 refine con_x tbOk mixedW Tryz.func78 (by kernel_rfl) (.no <| .call (vB true) [] <| .fin []) ?_
 refine Eq.mpr (by kernel_rfl : _ = ((x.tables.map eTableStats).length ≤ 9223372036854775807 → (x.tables.map eTableStats).length ≤ 9223372036854775807 → (!(decide (x.version = x.version))) = false ∧ K_eq_TableStatsS x.tables ∧ (true) = true ∧ True)) ?_
 intro n0 n1
 simp only [List.length_map] at n0 n1
 refine ⟨by simp, by first | exact eq_TableStatsS x.tables | exact eq_TableStatsS _, ?_, trivial⟩
 ·rfl
abbrev K_eq_Dependency (x : DependencyD) : Prop := Con Tryz.prog 158 [.agg [.str x.name, .sl 3 1 (x.src.map intD), .int .i64 x.dst], .agg [.str x.name, .sl 3 1 (x.src.map intD), .int .i64 x.dst]] (vB true) []
theorem eq_Dependency (x : DependencyD) : K_eq_Dependency x := by
 refine con_x tbOk mixedW Tryz.func158 (by kernel_rfl) (.no <| .call (vB true) [] <| .lit <| .no <| .fin []) ?_
 refine Eq.mpr (by kernel_rfl : _ = ((x.src.map intD).length ≤ 9223372036854775807 → (x.src.map intD).length ≤ 9223372036854775807 → (!(x.name.toList == x.name.toList)) = false ∧ K_eq_IntS x.src ∧ (!(decide (x.dst = x.dst))) = false ∧ (true) = true ∧ True)) ?_
 intro n0 n1
 simp only [List.length_map] at n0 n1
 refine ⟨by simp, by first | exact eq_IntS x.src | exact eq_IntS _, by simp, ?_, trivial⟩
 ·rfl
abbrev K_eq_DependencyS (x : List DependencyD) : Prop := Con Tryz.prog 79 [.one (.sl 168 3 (x.map eDependency)), .one (.sl 168 3 (x.map eDependency))] (vB true) []
theorem eq_DependencyS (x : List DependencyD) : K_eq_DependencyS x := by
 refine con_x tbOk mixedW Tryz.func79 (by kernel_rfl) (.len x.length <| .len x.length <| .no <| .loop Nat (Q1 Nat) [5, 11, 12, 13, 14, 15, 16, 17, 18, 19, 20, 21, 22, 23, 24, 25, 26] [] (fun k => [(5, vI (k : Int))]) (fun k => []) (fun k => k ≤ x.length) (fun k => x.length - k) (fun k => .len x.length <| .br (.elem _ eDependency x (fun e19 => .elem _ eDependency x (fun e23 => .call (vB true) [] <| .back []))) (.fin []))) ?_
 refine Eq.mpr (by kernel_rfl : _ = ((x.map eDependency).length ≤ 9223372036854775807 → (x.map eDependency).length ≤ 9223372036854775807 → Lm eDependency x ∧ (Lm eDependency x ∧ ((!(decide (((x.length : Nat) : Int) = ((x.length : Nat) : Int)))) = false ∧ ((∃ (k : Nat), (0 : Int) = (k : Int) ∧ k ≤ x.length) ∧ ∀ (k : Nat), k ≤ x.length → Lm eDependency x ∧ (((decide ((k : Int) < ((x.length : Nat) : Int))) = true → 0 ≤ (k : Int) ∧ Em eDependency x k fun e19 => 0 ≤ (k : Int) ∧ Em eDependency x k fun e23 => Con Tryz.prog 158 [.agg [.str e19.name, .sl 3 1 (e19.src.map intD), .int .i64 e19.dst], .agg [.str e23.name, .sl 3 1 (e23.src.map intD), .int .i64 e23.dst]] (vB true) [] ∧ inR ((k : Int) + (1 : Int)) ∧ ∃ (k' : Nat), ((k : Int) + (1 : Int)) = (k' : Int) ∧ k' ≤ x.length ∧ x.length - k' < x.length - k) ∧ ((decide ((k : Int) < ((x.length : Nat) : Int))) = false → (true) = true ∧ True))))))) ?_
 intro n0 n1
 simp only [List.length_map] at n0 n1
 refine ⟨List.length_map _, List.length_map _, by simp, ⟨0, rfl, Nat.zero_le _⟩, fun k hk => ?_⟩
 refine ⟨List.length_map _, fun c1 => ?_, fun c1 => ?_⟩
 ·replace c1 := yq c1
  obtain ⟨y, hy⟩ := at_some (l := x) (k := k) (by omega)
  refine ⟨by omega, rfl, by omega, fun e19 h19 => ?_⟩
  try (obtain rfl := same_at hy h19)
  refine ⟨by omega, rfl, by omega, fun e23 h23 => ?_⟩
  try (obtain rfl := same_at hy h23)
  refine ⟨by first | exact eq_Dependency e19 | exact eq_Dependency _, ⟨by omega, by omega⟩, ?_⟩
  exact ⟨k + 1, rfl, by omega, by omega⟩
 ·replace c1 := nq c1
  refine ⟨?_, trivial⟩
  ·rfl
abbrev K_eq_Inclusion (x : InclusionD) : Prop := Con Tryz.prog 159 [.agg [.str x.name, .int .i64 x.column, .str x.into, .int .i64 x.intoColumn], .agg [.str x.name, .int .i64 x.column, .str x.into, .int .i64 x.intoColumn]] (vB true) []
theorem eq_Inclusion (x : InclusionD) : K_eq_Inclusion x := by
 refine con_x tbOk mixedW Tryz.func159 (by kernel_rfl) (.no <| .no <| .no <| .no <| .fin []) ?_
 refine Eq.mpr (by kernel_rfl : _ = ((!(x.name.toList == x.name.toList)) = false ∧ (!(decide (x.column = x.column))) = false ∧ (!(x.into.toList == x.into.toList)) = false ∧ (!(decide (x.intoColumn = x.intoColumn))) = false ∧ (true) = true ∧ True)) ?_
 refine ⟨by simp, by simp, by simp, by simp, ?_, trivial⟩
 ·rfl
abbrev K_eq_InclusionS (x : List InclusionD) : Prop := Con Tryz.prog 80 [.one (.sl 170 4 (x.map eInclusion)), .one (.sl 170 4 (x.map eInclusion))] (vB true) []
theorem eq_InclusionS (x : List InclusionD) : K_eq_InclusionS x := by
 refine con_x tbOk mixedW Tryz.func80 (by kernel_rfl) (.len x.length <| .len x.length <| .no <| .loop Nat (Q1 Nat) [5, 11, 12, 13, 14, 15, 16, 17, 18, 19, 20, 21, 22, 23, 24, 25, 26] [] (fun k => [(5, vI (k : Int))]) (fun k => []) (fun k => k ≤ x.length) (fun k => x.length - k) (fun k => .len x.length <| .br (.elem _ eInclusion x (fun e19 => .elem _ eInclusion x (fun e23 => .call (vB true) [] <| .back []))) (.fin []))) ?_
 refine Eq.mpr (by kernel_rfl : _ = ((x.map eInclusion).length ≤ 9223372036854775807 → (x.map eInclusion).length ≤ 9223372036854775807 → Lm eInclusion x ∧ (Lm eInclusion x ∧ ((!(decide (((x.length : Nat) : Int) = ((x.length : Nat) : Int)))) = false ∧ ((∃ (k : Nat), (0 : Int) = (k : Int) ∧ k ≤ x.length) ∧ ∀ (k : Nat), k ≤ x.length → Lm eInclusion x ∧ (((decide ((k : Int) < ((x.length : Nat) : Int))) = true → 0 ≤ (k : Int) ∧ Em eInclusion x k fun e19 => 0 ≤ (k : Int) ∧ Em eInclusion x k fun e23 => Con Tryz.prog 159 [.agg [.str e19.name, .int .i64 e19.column, .str e19.into, .int .i64 e19.intoColumn], .agg [.str e23.name, .int .i64 e23.column, .str e23.into, .int .i64 e23.intoColumn]] (vB true) [] ∧ inR ((k : Int) + (1 : Int)) ∧ ∃ (k' : Nat), ((k : Int) + (1 : Int)) = (k' : Int) ∧ k' ≤ x.length ∧ x.length - k' < x.length - k) ∧ ((decide ((k : Int) < ((x.length : Nat) : Int))) = false → (true) = true ∧ True))))))) ?_
 intro n0 n1
 simp only [List.length_map] at n0 n1
 refine ⟨List.length_map _, List.length_map _, by simp, ⟨0, rfl, Nat.zero_le _⟩, fun k hk => ?_⟩
 refine ⟨List.length_map _, fun c1 => ?_, fun c1 => ?_⟩
 ·replace c1 := yq c1
  obtain ⟨y, hy⟩ := at_some (l := x) (k := k) (by omega)
  refine ⟨by omega, rfl, by omega, fun e19 h19 => ?_⟩
  try (obtain rfl := same_at hy h19)
  refine ⟨by omega, rfl, by omega, fun e23 h23 => ?_⟩
  try (obtain rfl := same_at hy h23)
  refine ⟨by first | exact eq_Inclusion e19 | exact eq_Inclusion _, ⟨by omega, by omega⟩, ?_⟩
  exact ⟨k + 1, rfl, by omega, by omega⟩
 ·replace c1 := nq c1
  refine ⟨?_, trivial⟩
  ·rfl
abbrev K_eq_Store (x : StoreD) : Prop := Con Tryz.prog 19 [.agg [.sl 162 3 (x.database.tables.map eTable), .int .i64 x.catalogue.version, .sl 121 4 (x.catalogue.tables.map eTableStats), .sl 168 3 (x.dependencies.map eDependency), .sl 170 4 (x.inclusions.map eInclusion)], .agg [.sl 162 3 (x.database.tables.map eTable), .int .i64 x.catalogue.version, .sl 121 4 (x.catalogue.tables.map eTableStats), .sl 168 3 (x.dependencies.map eDependency), .sl 170 4 (x.inclusions.map eInclusion)]] (vB true) []
theorem eq_Store (x : StoreD) : K_eq_Store x := by
 refine con_x tbOk mixedW Tryz.func19 (by kernel_rfl) (.call (vB true) [] <| .call (vB true) [] <| .call (vB true) [] <| .call (vB true) [] <| .fin []) ?_
 refine Eq.mpr (by kernel_rfl : _ = ((x.database.tables.map eTable).length ≤ 9223372036854775807 → (x.catalogue.tables.map eTableStats).length ≤ 9223372036854775807 → (x.dependencies.map eDependency).length ≤ 9223372036854775807 → (x.inclusions.map eInclusion).length ≤ 9223372036854775807 → (x.database.tables.map eTable).length ≤ 9223372036854775807 → (x.catalogue.tables.map eTableStats).length ≤ 9223372036854775807 → (x.dependencies.map eDependency).length ≤ 9223372036854775807 → (x.inclusions.map eInclusion).length ≤ 9223372036854775807 → K_eq_Database x.database ∧ K_eq_Catalogue x.catalogue ∧ K_eq_DependencyS x.dependencies ∧ K_eq_InclusionS x.inclusions ∧ (true) = true ∧ True)) ?_
 intro n0 n1 n2 n3 n4 n5 n6 n7
 simp only [List.length_map] at n0 n1 n2 n3 n4 n5 n6 n7
 refine ⟨by first | exact eq_Database x.database | exact eq_Database _, by first | exact eq_Catalogue x.catalogue | exact eq_Catalogue _, by first | exact eq_DependencyS x.dependencies | exact eq_DependencyS _, by first | exact eq_InclusionS x.inclusions | exact eq_InclusionS _, ?_, trivial⟩
 ·rfl
abbrev K_eq_Atom (x : AtomD) : Prop := Con Tryz.prog 168 [.agg [.str x.name, .sl 3 1 (x.vars.map intD)], .agg [.str x.name, .sl 3 1 (x.vars.map intD)]] (vB true) []
theorem eq_Atom (x : AtomD) : K_eq_Atom x := by
 refine con_x tbOk mixedW Tryz.func168 (by kernel_rfl) (.no <| .call (vB true) [] <| .fin []) ?_
 refine Eq.mpr (by kernel_rfl : _ = ((x.vars.map intD).length ≤ 9223372036854775807 → (x.vars.map intD).length ≤ 9223372036854775807 → (!(x.name.toList == x.name.toList)) = false ∧ K_eq_IntS x.vars ∧ (true) = true ∧ True)) ?_
 intro n0 n1
 simp only [List.length_map] at n0 n1
 refine ⟨by simp, by first | exact eq_IntS x.vars | exact eq_IntS _, ?_, trivial⟩
 ·rfl
abbrev K_eq_AtomS (x : List AtomD) : Prop := Con Tryz.prog 97 [.one (.sl 131 2 (x.map eAtom)), .one (.sl 131 2 (x.map eAtom))] (vB true) []
theorem eq_AtomS (x : List AtomD) : K_eq_AtomS x := by
 refine con_x tbOk mixedW Tryz.func97 (by kernel_rfl) (.len x.length <| .len x.length <| .no <| .loop Nat (Q1 Nat) [5, 11, 12, 13, 14, 15, 16, 17, 18, 19, 20, 21, 22, 23, 24, 25, 26] [] (fun k => [(5, vI (k : Int))]) (fun k => []) (fun k => k ≤ x.length) (fun k => x.length - k) (fun k => .len x.length <| .br (.elem _ eAtom x (fun e19 => .elem _ eAtom x (fun e23 => .call (vB true) [] <| .back []))) (.fin []))) ?_
 refine Eq.mpr (by kernel_rfl : _ = ((x.map eAtom).length ≤ 9223372036854775807 → (x.map eAtom).length ≤ 9223372036854775807 → Lm eAtom x ∧ (Lm eAtom x ∧ ((!(decide (((x.length : Nat) : Int) = ((x.length : Nat) : Int)))) = false ∧ ((∃ (k : Nat), (0 : Int) = (k : Int) ∧ k ≤ x.length) ∧ ∀ (k : Nat), k ≤ x.length → Lm eAtom x ∧ (((decide ((k : Int) < ((x.length : Nat) : Int))) = true → 0 ≤ (k : Int) ∧ Em eAtom x k fun e19 => 0 ≤ (k : Int) ∧ Em eAtom x k fun e23 => Con Tryz.prog 168 [.agg [.str e19.name, .sl 3 1 (e19.vars.map intD)], .agg [.str e23.name, .sl 3 1 (e23.vars.map intD)]] (vB true) [] ∧ inR ((k : Int) + (1 : Int)) ∧ ∃ (k' : Nat), ((k : Int) + (1 : Int)) = (k' : Int) ∧ k' ≤ x.length ∧ x.length - k' < x.length - k) ∧ ((decide ((k : Int) < ((x.length : Nat) : Int))) = false → (true) = true ∧ True))))))) ?_
 intro n0 n1
 simp only [List.length_map] at n0 n1
 refine ⟨List.length_map _, List.length_map _, by simp, ⟨0, rfl, Nat.zero_le _⟩, fun k hk => ?_⟩
 refine ⟨List.length_map _, fun c1 => ?_, fun c1 => ?_⟩
 ·replace c1 := yq c1
  obtain ⟨y, hy⟩ := at_some (l := x) (k := k) (by omega)
  refine ⟨by omega, rfl, by omega, fun e19 h19 => ?_⟩
  try (obtain rfl := same_at hy h19)
  refine ⟨by omega, rfl, by omega, fun e23 h23 => ?_⟩
  try (obtain rfl := same_at hy h23)
  refine ⟨by first | exact eq_Atom e19 | exact eq_Atom _, ⟨by omega, by omega⟩, ?_⟩
  exact ⟨k + 1, rfl, by omega, by omega⟩
 ·replace c1 := nq c1
  refine ⟨?_, trivial⟩
  ·rfl
abbrev K_eq_Query (x : QueryD) : Prop := Con Tryz.prog 34 [.agg [.int .i64 x.variableCount, .sl 131 2 (x.atoms.map eAtom)], .agg [.int .i64 x.variableCount, .sl 131 2 (x.atoms.map eAtom)]] (vB true) []
theorem eq_Query (x : QueryD) : K_eq_Query x := by
 refine con_x tbOk mixedW Tryz.func34 (by kernel_rfl) (.no <| .call (vB true) [] <| .fin []) ?_
 refine Eq.mpr (by kernel_rfl : _ = ((x.atoms.map eAtom).length ≤ 9223372036854775807 → (x.atoms.map eAtom).length ≤ 9223372036854775807 → (!(decide (x.variableCount = x.variableCount))) = false ∧ K_eq_AtomS x.atoms ∧ (true) = true ∧ True)) ?_
 intro n0 n1
 simp only [List.length_map] at n0 n1
 refine ⟨by simp, by first | exact eq_AtomS x.atoms | exact eq_AtomS _, ?_, trivial⟩
 ·rfl
end Go.Proofs.YtokkjaflmcjlhaaGreat
