/-
  Contracts and plain laws, joined: part 12.
-/
import Derived.Test.YtokkjaflmcjlhaaGreatQUpdateStore10
import Derived.Test.YtokkjaflmcjlhaaGreatQUpdateStore9
import Derived.Test.YtokkjaflmcjlhaaGreatQUpdateStore7
namespace Go.Proofs.YtokkjaflmcjlhaaGreat
open Go.ChangeShapes Go.WideShapes Go.ChangeAt Go.RowKit
set_option linter.unusedVariables false
set_option linter.unusedSimpArgs false
set_option maxRecDepth 100000
set_option maxHeartbeats 4000000
abbrev k_miss_spec (d : DatabaseD) (x : InclusionD) : AV × List (Nat × Rs) := (.own 0, [(0, .arr 3 1 true ((missS d x).map intD))])
abbrev K_miss_spec (d : DatabaseD) (x : InclusionD) : Prop := Con Tryz.prog 215 [.agg [.sl 162 3 (d.tables.map eTable)], .agg [.str x.name, .int .i64 x.column, .str x.into, .int .i64 x.intoColumn]] (k_miss_spec d x).1 (k_miss_spec d x).2
theorem miss_spec (d : DatabaseD) (x : InclusionD) (hc : cDatabase d ≤ 1048576) : K_miss_spec d x := by
 refine con_x tbOk mixedW Tryz.func215 (by kernel_rfl) (.call (vB (okInc d x)) [] <| .br (.fin [(0, 1500)]) (.call (.tup [.agg [.p none (.str (((lookT d x.name).1).name)), vI (((lookT d x.name).1).arity), .p none (.sl 32 1 ((((lookT d x.name).1).rows).map eIntS))], vB ((lookT d x.name).2)]) [] <| .call (.tup [.agg [.p none (.str (((lookT d x.into).1).name)), vI (((lookT d x.into).1).arity), .p none (.sl 32 1 ((((lookT d x.into).1).rows).map eIntS))], vB ((lookT d x.into).2)]) [] <| .loop (Nat × (List Int)) (Q2 Nat (List Int)) [5, 10, 11, 12, 13, 14, 15, 35, 36, 37, 38, 39, 40, 41, 42, 43, 44, 45, 46, 47, 48, 49, 50, 51, 52, 53, 54, 55, 56, 57, 58, 59, 60, 61, 62, 63, 64, 65, 66, 67, 68, 69, 70, 71, 72, 73, 74, 75, 76, 77, 78, 79, 80, 81, 82, 83, 84, 85, 86, 87, 88, 89] [1500, 8800, 8900] (fun yy0 => [(10, vI (yy0.1 : Int)), (5, .own 1500)]) (fun yy0 => [(1500, some (.arr 3 1 true (yy0.2.map intD)))]) (fun yy0 => yy0.1 ≤ 10 ∧ yy0.2 = missN d x yy0.1) (fun yy0 => 10 - yy0.1) (fun yy0 => .br (.loop (Nat × Bool) (Q2 Nat Bool) [11, 13, 39, 40, 41, 42, 43, 44, 45, 46, 47, 48, 49, 50, 51, 52, 53, 54, 55, 56, 57, 58, 59] [] (fun yy1 => [(13, vI (yy1.1 : Int)), (11, vB yy1.2)]) (fun yy1 => []) (fun yy1 => yy1.1 ≤ (lookT d x.name).1.rows.length ∧ yy1.2 = decide ((yy0.1 : Int) ∈ colOf ((lookT d x.name).1.rows.take yy1.1) x.column)) (fun yy1 => (lookT d x.name).1.rows.length - yy1.1) (fun yy1 => .len ((((lookT d x.name).1).rows).length) <| .br (.br (.back []) (.elem _ eIntS (((lookT d x.name).1).rows) (fun e51 => .elem _ intD e51 (fun e55 => .back [])))) (.loop (Nat × Bool) (Q2 Nat Bool) [12, 14, 60, 61, 62, 63, 64, 65, 66, 67, 68, 69, 70, 71, 72, 73, 74, 75, 76, 77, 78, 79, 80] [] (fun yy2 => [(14, vI (yy2.1 : Int)), (12, vB yy2.2)]) (fun yy2 => []) (fun yy2 => yy2.1 ≤ (lookT d x.into).1.rows.length ∧ yy2.2 = decide ((yy0.1 : Int) ∈ colOf ((lookT d x.into).1.rows.take yy2.1) x.intoColumn)) (fun yy2 => (lookT d x.into).1.rows.length - yy2.1) (fun yy2 => .len ((((lookT d x.into).1).rows).length) <| .br (.br (.back []) (.elem _ eIntS (((lookT d x.into).1).rows) (fun e72 => .elem _ intD e72 (fun e76 => .back [])))) (.br (.lit <| .lit <| .br (.app Int intD yy0.2 ([(yy0.1 : Int)] : List Int) <| .back [(1500, 8900)]) (.back [(1500, 1500)])) (.back [(1500, 1500)])))))) (.fin [(0, 1500)])))) ?_
 refine Eq.mpr (by kernel_rfl : _ = ((d.tables.map eTable).length ≤ 9223372036854775807 → K_okInc_spec d x ∧ (((!(okInc d x)) = true → [] = (missS d x).map intD ∧ True) ∧ ((!(okInc d x)) = false → Con Tryz.prog 132 [.agg [.sl 162 3 (d.tables.map eTable)], .one (.str x.name)] (.tup [.agg [.p none (.str (((lookT d x.name).1).name)), vI (((lookT d x.name).1).arity), .p none (.sl 32 1 ((((lookT d x.name).1).rows).map eIntS))], vB ((lookT d x.name).2)]) [] ∧ (Con Tryz.prog 132 [.agg [.sl 162 3 (d.tables.map eTable)], .one (.str x.into)] (.tup [.agg [.p none (.str (((lookT d x.into).1).name)), vI (((lookT d x.into).1).arity), .p none (.sl 32 1 ((((lookT d x.into).1).rows).map eIntS))], vB ((lookT d x.into).2)]) [] ∧ ((∃ (v : Nat) (out : List Int), (0 : Int) = (v : Int) ∧ [] = out.map intD ∧ v ≤ 10 ∧ out = missN d x v) ∧ ∀ (v : Nat) (out : List Int), (v ≤ 10 ∧ out = missN d x v) → ((decide ((v : Int) ≤ (9 : Int))) = true → (∃ (k : Nat) (p : Bool), (0 : Int) = (k : Int) ∧ (false) = p ∧ k ≤ (lookT d x.name).1.rows.length ∧ p = decide ((v : Int) ∈ colOf ((lookT d x.name).1.rows.take k) x.column)) ∧ ∀ (k : Nat) (p : Bool), (k ≤ (lookT d x.name).1.rows.length ∧ p = decide ((v : Int) ∈ colOf ((lookT d x.name).1.rows.take k) x.column)) → Lm eIntS (((lookT d x.name).1).rows) ∧ (((decide ((k : Int) < (((((lookT d x.name).1).rows).length : Nat) : Int))) = true → ((p) = true → inR ((k : Int) + (1 : Int)) ∧ ∃ (k' : Nat) (p' : Bool), ((k : Int) + (1 : Int)) = (k' : Int) ∧ (true) = p' ∧ (k' ≤ (lookT d x.name).1.rows.length ∧ p' = decide ((v : Int) ∈ colOf ((lookT d x.name).1.rows.take k') x.column)) ∧ (lookT d x.name).1.rows.length - k' < (lookT d x.name).1.rows.length - k) ∧ ((p) = false → 0 ≤ (k : Int) ∧ Em eIntS (((lookT d x.name).1).rows) k fun e51 => 0 ≤ x.column ∧ Em intD e51 ((x.column).toNat) fun e55 => inR ((k : Int) + (1 : Int)) ∧ ∃ (k' : Nat) (p' : Bool), ((k : Int) + (1 : Int)) = (k' : Int) ∧ (decide (e55 = (v : Int))) = p' ∧ (k' ≤ (lookT d x.name).1.rows.length ∧ p' = decide ((v : Int) ∈ colOf ((lookT d x.name).1.rows.take k') x.column)) ∧ (lookT d x.name).1.rows.length - k' < (lookT d x.name).1.rows.length - k)) ∧ ((decide ((k : Int) < (((((lookT d x.name).1).rows).length : Nat) : Int))) = false → (∃ (j : Nat) (q : Bool), (0 : Int) = (j : Int) ∧ (false) = q ∧ j ≤ (lookT d x.into).1.rows.length ∧ q = decide ((v : Int) ∈ colOf ((lookT d x.into).1.rows.take j) x.intoColumn)) ∧ ∀ (j : Nat) (q : Bool), (j ≤ (lookT d x.into).1.rows.length ∧ q = decide ((v : Int) ∈ colOf ((lookT d x.into).1.rows.take j) x.intoColumn)) → Lm eIntS (((lookT d x.into).1).rows) ∧ (((decide ((j : Int) < (((((lookT d x.into).1).rows).length : Nat) : Int))) = true → ((q) = true → inR ((j : Int) + (1 : Int)) ∧ ∃ (j' : Nat) (q' : Bool), ((j : Int) + (1 : Int)) = (j' : Int) ∧ (true) = q' ∧ (j' ≤ (lookT d x.into).1.rows.length ∧ q' = decide ((v : Int) ∈ colOf ((lookT d x.into).1.rows.take j') x.intoColumn)) ∧ (lookT d x.into).1.rows.length - j' < (lookT d x.into).1.rows.length - j) ∧ ((q) = false → 0 ≤ (j : Int) ∧ Em eIntS (((lookT d x.into).1).rows) j fun e72 => 0 ≤ x.intoColumn ∧ Em intD e72 ((x.intoColumn).toNat) fun e76 => inR ((j : Int) + (1 : Int)) ∧ ∃ (j' : Nat) (q' : Bool), ((j : Int) + (1 : Int)) = (j' : Int) ∧ (decide (e76 = (v : Int))) = q' ∧ (j' ≤ (lookT d x.into).1.rows.length ∧ q' = decide ((v : Int) ∈ colOf ((lookT d x.into).1.rows.take j') x.intoColumn)) ∧ (lookT d x.into).1.rows.length - j' < (lookT d x.into).1.rows.length - j)) ∧ ((decide ((j : Int) < (((((lookT d x.into).1).rows).length : Nat) : Int))) = false → ((p) = true → ((!q) = true → out.map intD = out.map intD ∧ [[.int .i64 (v : Int)]] = ([(v : Int)] : List Int).map intD ∧ (∀ x, flatB (intD x) = true) ∧ (out.length + ([(v : Int)] : List Int).length) * 8 ≤ 140737488355328 ∧ inR ((v : Int) + (1 : Int)) ∧ ∃ (v' : Nat) (out' : List Int), ((v : Int) + (1 : Int)) = (v' : Int) ∧ (out ++ [(v : Int)]).map intD = out'.map intD ∧ (v' ≤ 10 ∧ out' = missN d x v') ∧ 10 - v' < 10 - v) ∧ ((!q) = false → inR ((v : Int) + (1 : Int)) ∧ ∃ (v' : Nat) (out' : List Int), ((v : Int) + (1 : Int)) = (v' : Int) ∧ out.map intD = out'.map intD ∧ (v' ≤ 10 ∧ out' = missN d x v') ∧ 10 - v' < 10 - v)) ∧ ((p) = false → inR ((v : Int) + (1 : Int)) ∧ ∃ (v' : Nat) (out' : List Int), ((v : Int) + (1 : Int)) = (v' : Int) ∧ out.map intD = out'.map intD ∧ (v' ≤ 10 ∧ out' = missN d x v') ∧ 10 - v' < 10 - v)))))) ∧ ((decide ((v : Int) ≤ (9 : Int))) = false → out.map intD = (missS d x).map intD ∧ True))))))) ?_
 intro n0
 simp only [List.length_map] at n0
 refine ⟨okInc_spec _ _ (by omega), fun c0 => ?_, fun c0 => ?_⟩
 ·replace c0 := nt c0
  have hbad : missS d x = [] := by rw [missS, if_neg (by simpa using c0)]
  refine ⟨?_, trivial⟩
  ·first | (rw [hbad] <;> rfl) | (rw [hE] <;> rfl)
 ·replace c0 := nf c0
  have hok : okInc d x = true := by simpa using c0
  obtain ⟨hTa, hTb, hca, hcb⟩ := okInc_parts hok
  have hA8 := okTable_arity hTa
  have hB8 := okTable_arity hTb
  refine ⟨con_stl (lkT_spec _ x.name (by omega)) rfl, con_stl (lkT_spec _ x.into (by omega)) rfl, ⟨0, ([] : List Int), rfl, rfl, by omega, rfl⟩, fun v out ⟨hvv, ho⟩ => ?_⟩
  have hol := missN_len d x v
  rw [← ho] at hol
  refine ⟨fun c1 => ?_, fun c1 => ?_⟩
  ·replace c1 := yq c1
   refine ⟨⟨0, false, rfl, rfl, Nat.zero_le _, rfl⟩, fun k p ⟨hk, hp⟩ => ?_⟩
   refine ⟨List.length_map _, fun c2 => ?_, fun c2 => ?_⟩
   ·replace c2 := yq c2
    obtain ⟨ra, hra⟩ := at_some (l := (lookT d x.name).1.rows) (k := k) (by omega)
    refine ⟨fun g47 => ?_, fun g47 => ?_⟩
    ·refine ⟨⟨by omega, by omega⟩, ?_⟩
     exact ⟨k + 1, _, rfl, rfl, ⟨by omega, by rw [colOf_snoc _ _ hra, mem_snoc, ← hp, g47]; rfl⟩, by omega⟩
    ·refine ⟨by omega, rfl, by omega, fun e51 h51 => ?_⟩
     have hl51 := row_len hTa (List.mem_of_getElem? h51)
     refine ⟨by omega, rfl, by omega, fun e55 h55 => ?_⟩
     refine ⟨⟨by omega, by omega⟩, ?_⟩
     exact ⟨k + 1, _, rfl, rfl, ⟨by omega, by obtain rfl := same_at h51 hra; rw [colOf_snoc _ _ hra, mem_snoc, ← hp, g47, getD_at h55, Bool.false_or]; exact decide_eq_decide.2 ⟨Eq.symm, Eq.symm⟩⟩, by omega⟩
   ·replace c2 := nq c2
    have hP : p = decide ((v : Int) ∈ colOf (lookT d x.name).1.rows x.column) := by rw [hp, List.take_of_length_le (by omega)]
    refine ⟨⟨0, false, rfl, rfl, Nat.zero_le _, rfl⟩, fun j q ⟨hj, hq⟩ => ?_⟩
    refine ⟨List.length_map _, fun c3 => ?_, fun c3 => ?_⟩
    ·replace c3 := yq c3
     obtain ⟨rb, hrb⟩ := at_some (l := (lookT d x.into).1.rows) (k := j) (by omega)
     refine ⟨fun g68 => ?_, fun g68 => ?_⟩
     ·refine ⟨⟨by omega, by omega⟩, ?_⟩
      exact ⟨j + 1, _, rfl, rfl, ⟨by omega, by rw [colOf_snoc _ _ hrb, mem_snoc, ← hq, g68]; rfl⟩, by omega⟩
     ·refine ⟨by omega, rfl, by omega, fun e72 h72 => ?_⟩
      have hl72 := row_len hTb (List.mem_of_getElem? h72)
      refine ⟨by omega, rfl, by omega, fun e76 h76 => ?_⟩
      refine ⟨⟨by omega, by omega⟩, ?_⟩
      exact ⟨j + 1, _, rfl, rfl, ⟨by omega, by obtain rfl := same_at h72 hrb; rw [colOf_snoc _ _ hrb, mem_snoc, ← hq, g68, getD_at h76, Bool.false_or]; exact decide_eq_decide.2 ⟨Eq.symm, Eq.symm⟩⟩, by omega⟩
    ·replace c3 := nq c3
     have hQ : q = decide ((v : Int) ∈ colOf (lookT d x.into).1.rows x.intoColumn) := by rw [hq, List.take_of_length_le (by omega)]
     refine ⟨fun g82 => ?_, fun g82 => ?_⟩
     ·refine ⟨fun c4 => ?_, fun c4 => ?_⟩
      ·replace c4 := nt c4
       refine ⟨rfl, rfl, fun _ => rfl, by first | omega | (simp [ho]; omega) | (simp; omega), ?_⟩
       refine ⟨⟨by omega, by omega⟩, ?_⟩
       exact ⟨v + 1, _, rfl, rfl, ⟨by omega, by rw [ho, missN_yes (by rw [missB, ← hP, ← hQ, g82, c4]; rfl)]⟩, by omega⟩
      ·replace c4 := nf c4
       refine ⟨⟨by omega, by omega⟩, ?_⟩
       exact ⟨v + 1, _, rfl, rfl, ⟨by omega, by rw [ho, missN_no (by rw [missB, ← hP, ← hQ, g82, c4]; rfl)]⟩, by omega⟩
     ·refine ⟨⟨by omega, by omega⟩, ?_⟩
      exact ⟨v + 1, _, rfl, rfl, ⟨by omega, by rw [ho, missN_no (by rw [missB, ← hP, ← hQ, g82]; rfl)]⟩, by omega⟩
  ·replace c1 := nq c1
   have hE : missS d x = out := by rw [missS, if_pos hok, ho, show v = 10 by omega]
   refine ⟨?_, trivial⟩
   ·first | (rw [hbad] <;> rfl) | (rw [hE] <;> rfl)
abbrev K_incOk_spec (d : DatabaseD) (x : InclusionD) : Prop := Con Tryz.prog 137 [.agg [.sl 162 3 (d.tables.map eTable)], .agg [.str x.name, .int .i64 x.column, .str x.into, .int .i64 x.intoColumn]] (vB (incOk d x)) []
theorem incOk_spec (d : DatabaseD) (x : InclusionD) (hc : cDatabase d ≤ 1048576) : K_incOk_spec d x := by
 refine con_x tbOk mixedW Tryz.func137 (by kernel_rfl) (.call (vB (okInc d x)) [] <| .br (callP (k_miss_spec d x) <| .len ((missS d x).length) <| .fin []) (.fin [])) ?_
 refine Eq.mpr (by kernel_rfl : _ = ((d.tables.map eTable).length ≤ 9223372036854775807 → K_okInc_spec d x ∧ (((okInc d x) = true → K_miss_spec d x ∧ Lm intD (missS d x) ∧ (decide ((((missS d x).length : Nat) : Int) = (0 : Int))) = (incOk d x) ∧ True) ∧ ((okInc d x) = false → (false) = (incOk d x) ∧ True)))) ?_
 intro n0
 simp only [List.length_map] at n0
 refine ⟨okInc_spec _ _ (by omega), fun g8 => ?_, fun g8 => ?_⟩
 ·refine ⟨miss_spec _ _ (by omega), List.length_map _, ?_, trivial⟩
  ·first | (simp [incOk, *]; done) | (rw [incOk, g8, len_zero, missS_nil g8]; rfl)
 ·refine ⟨?_, trivial⟩
  ·first | (simp [incOk, *]; done) | (rw [incOk, g8, len_zero, missS_nil g8]; rfl)
def fineC (d : DatabaseD) (l : List DependencyD) (m : List InclusionD) : Bool := l.all (depOk d) && (m.all (incOk d) && (decide ((l.length : Int) ≤ 8) && decide ((m.length : Int) ≤ 8)))
abbrev K_fine_impl (d : DatabaseD) (l : List DependencyD) (m : List InclusionD) : Prop := Con Tryz.prog 75 [.agg [.sl 162 3 (d.tables.map eTable)], .one (.sl 168 3 (l.map eDependency)), .one (.sl 170 4 (m.map eInclusion))] (vB (fineC d l m)) []
theorem fine_impl (d : DatabaseD) (l : List DependencyD) (m : List InclusionD) (hc : cDatabase d ≤ 1048576) : K_fine_impl d l m := by
 refine con_x tbOk mixedW Tryz.func75 (by kernel_rfl) (.len l.length <| .loop Nat (Q1 Nat) [8, 13, 14, 15, 16, 17, 18, 19, 20, 21] [800] (fun k => [(13, vI (k : Int))]) (fun k => []) (fun k => k ≤ l.length ∧ (l.take k).all (depOk d) = true) (fun k => l.length - k) (fun k => .br (.elem _ eDependency l (fun e15 => .call (vB (depOk d e15)) [] <| .br (.fin []) (.back []))) (.len m.length <| .loop Nat (Q1 Nat) [10, 24, 25, 26, 27, 28, 29, 30, 31, 32] [1000] (fun j => [(24, vI (j : Int))]) (fun j => []) (fun j => j ≤ m.length ∧ (m.take j).all (incOk d) = true) (fun j => m.length - j) (fun j => .br (.elem _ eInclusion m (fun e26 => .call (vB (incOk d e26)) [] <| .br (.fin []) (.back []))) (.len l.length <| .br (.len m.length <| .fin []) (.fin [])))))) ?_
 refine Eq.mpr (by kernel_rfl : _ = ((d.tables.map eTable).length ≤ 9223372036854775807 → (l.map eDependency).length ≤ 9223372036854775807 → (m.map eInclusion).length ≤ 9223372036854775807 → Lm eDependency l ∧ ((∃ (k : Nat), (0 : Int) = (k : Int) ∧ k ≤ l.length ∧ (l.take k).all (depOk d) = true) ∧ ∀ (k : Nat), (k ≤ l.length ∧ (l.take k).all (depOk d) = true) → ((decide ((k : Int) < ((l.length : Nat) : Int))) = true → 0 ≤ (k : Int) ∧ Em eDependency l k fun e15 => K_depOk_impl d e15 ∧ (((!(depOk d e15)) = true → (false) = (fineC d l m) ∧ True) ∧ ((!(depOk d e15)) = false → inR ((k : Int) + (1 : Int)) ∧ ∃ (k' : Nat), ((k : Int) + (1 : Int)) = (k' : Int) ∧ (k' ≤ l.length ∧ (l.take k').all (depOk d) = true) ∧ l.length - k' < l.length - k))) ∧ ((decide ((k : Int) < ((l.length : Nat) : Int))) = false → Lm eInclusion m ∧ ((∃ (j : Nat), (0 : Int) = (j : Int) ∧ j ≤ m.length ∧ (m.take j).all (incOk d) = true) ∧ ∀ (j : Nat), (j ≤ m.length ∧ (m.take j).all (incOk d) = true) → ((decide ((j : Int) < ((m.length : Nat) : Int))) = true → 0 ≤ (j : Int) ∧ Em eInclusion m j fun e26 => K_incOk_impl d e26 ∧ (((!(incOk d e26)) = true → (false) = (fineC d l m) ∧ True) ∧ ((!(incOk d e26)) = false → inR ((j : Int) + (1 : Int)) ∧ ∃ (j' : Nat), ((j : Int) + (1 : Int)) = (j' : Int) ∧ (j' ≤ m.length ∧ (m.take j').all (incOk d) = true) ∧ m.length - j' < m.length - j))) ∧ ((decide ((j : Int) < ((m.length : Nat) : Int))) = false → Lm eDependency l ∧ (((decide (((l.length : Nat) : Int) ≤ (8 : Int))) = true → Lm eInclusion m ∧ (decide (((m.length : Nat) : Int) ≤ (8 : Int))) = (fineC d l m) ∧ True) ∧ ((decide (((l.length : Nat) : Int) ≤ (8 : Int))) = false → (false) = (fineC d l m) ∧ True)))))))) ?_
 intro n0 n1 n2
 simp only [List.length_map] at n0 n1 n2
 refine ⟨List.length_map _, ⟨0, rfl, Nat.zero_le _, rfl⟩, fun k ⟨hk, ha⟩ => ?_⟩
 refine ⟨fun c0 => ?_, fun c0 => ?_⟩
 ·replace c0 := yq c0
  refine ⟨by omega, rfl, by omega, fun e15 h15 => ?_⟩
  refine ⟨depOk_impl _ _ (by omega), fun c1 => ?_, fun c1 => ?_⟩
  ·replace c1 := nt c1
   have hL : l.all (depOk d) = false := all_stop h15 (by simpa using c1)
   refine ⟨?_, trivial⟩
   ·first | (simp [fineC, hL]; done) | (simp [fineC, hL, hM]; done) | (simp [fineC, hL, hM, *]; done)
  ·replace c1 := nf c1
   refine ⟨⟨by omega, by omega⟩, ?_⟩
   exact ⟨k + 1, rfl, ⟨by omega, all_snoc h15 ha (by simpa using c1)⟩, by omega⟩
 ·replace c0 := nq c0
  have hL := all_done (by omega) ha
  refine ⟨List.length_map _, ⟨0, rfl, Nat.zero_le _, rfl⟩, fun j ⟨hj, hb⟩ => ?_⟩
  refine ⟨fun c2 => ?_, fun c2 => ?_⟩
  ·replace c2 := yq c2
   refine ⟨by omega, rfl, by omega, fun e26 h26 => ?_⟩
   refine ⟨incOk_impl _ _ (by omega), fun c3 => ?_, fun c3 => ?_⟩
   ·replace c3 := nt c3
    have hM : m.all (incOk d) = false := all_stop h26 (by simpa using c3)
    refine ⟨?_, trivial⟩
    ·first | (simp [fineC, hL]; done) | (simp [fineC, hL, hM]; done) | (simp [fineC, hL, hM, *]; done)
   ·replace c3 := nf c3
    refine ⟨⟨by omega, by omega⟩, ?_⟩
    exact ⟨j + 1, rfl, ⟨by omega, all_snoc h26 hb (by simpa using c3)⟩, by omega⟩
  ·replace c2 := nq c2
   have hM := all_done (by omega) hb
   refine ⟨List.length_map _, fun g36 => ?_, fun g36 => ?_⟩
   ·replace g36 := yq g36
    refine ⟨List.length_map _, ?_, trivial⟩
    ·first | (simp [fineC, hL]; done) | (simp [fineC, hL, hM]; done) | (simp [fineC, hL, hM, *]; done)
   ·replace g36 := nq g36
    refine ⟨?_, trivial⟩
    ·first | (simp [fineC, hL]; done) | (simp [fineC, hL, hM]; done) | (simp [fineC, hL, hM, *]; done)
abbrev K_fine_spec (d : DatabaseD) (l : List DependencyD) (m : List InclusionD) : Prop := Con Tryz.prog 65 [.agg [.sl 162 3 (d.tables.map eTable)], .one (.sl 168 3 (l.map eDependency)), .one (.sl 170 4 (m.map eInclusion))] (vB (fineC d l m)) []
theorem fine_spec (d : DatabaseD) (l : List DependencyD) (m : List InclusionD) (hc : cDatabase d ≤ 1048576) : K_fine_spec d l m := by
 refine con_x tbOk mixedW Tryz.func65 (by kernel_rfl) (.len l.length <| .br (.fin []) (.len m.length <| .lit <| .lit <| .br (.fin []) (.loop Nat (Q1 Nat) [7, 17, 18, 19, 20, 21, 22, 23, 24, 25, 26, 27, 28, 29] [] (fun k => [(7, vI (k : Int))]) (fun k => []) (fun k => k ≤ l.length ∧ (l.take k).all (depOk d) = true) (fun k => l.length - k) (fun k => .len l.length <| .br (.elem _ eDependency l (fun e26 => .call (vB (depOk d e26)) [] <| .br (.fin []) (.back []))) (.loop Nat (Q1 Nat) [8, 30, 31, 32, 33, 34, 35, 36, 37, 38, 39, 40, 41, 42] [] (fun j => [(8, vI (j : Int))]) (fun j => []) (fun j => j ≤ m.length ∧ (m.take j).all (incOk d) = true) (fun j => m.length - j) (fun j => .len m.length <| .br (.elem _ eInclusion m (fun e39 => .call (vB (incOk d e39)) [] <| .br (.fin []) (.back []))) (.fin []))))))) ?_
 refine Eq.mpr (by kernel_rfl : _ = ((d.tables.map eTable).length ≤ 9223372036854775807 → (l.map eDependency).length ≤ 9223372036854775807 → (m.map eInclusion).length ≤ 9223372036854775807 → Lm eDependency l ∧ (((decide ((8 : Int) < ((l.length : Nat) : Int))) = true → (false) = (fineC d l m) ∧ True) ∧ ((decide ((8 : Int) < ((l.length : Nat) : Int))) = false → Lm eInclusion m ∧ (((decide ((8 : Int) < ((m.length : Nat) : Int))) = true → (false) = (fineC d l m) ∧ True) ∧ ((decide ((8 : Int) < ((m.length : Nat) : Int))) = false → (∃ (k : Nat), (0 : Int) = (k : Int) ∧ k ≤ l.length ∧ (l.take k).all (depOk d) = true) ∧ ∀ (k : Nat), (k ≤ l.length ∧ (l.take k).all (depOk d) = true) → Lm eDependency l ∧ (((decide ((k : Int) < ((l.length : Nat) : Int))) = true → 0 ≤ (k : Int) ∧ Em eDependency l k fun e26 => K_depOk_spec d e26 ∧ (((!(depOk d e26)) = true → (false) = (fineC d l m) ∧ True) ∧ ((!(depOk d e26)) = false → inR ((k : Int) + (1 : Int)) ∧ ∃ (k' : Nat), ((k : Int) + (1 : Int)) = (k' : Int) ∧ (k' ≤ l.length ∧ (l.take k').all (depOk d) = true) ∧ l.length - k' < l.length - k))) ∧ ((decide ((k : Int) < ((l.length : Nat) : Int))) = false → (∃ (j : Nat), (0 : Int) = (j : Int) ∧ j ≤ m.length ∧ (m.take j).all (incOk d) = true) ∧ ∀ (j : Nat), (j ≤ m.length ∧ (m.take j).all (incOk d) = true) → Lm eInclusion m ∧ (((decide ((j : Int) < ((m.length : Nat) : Int))) = true → 0 ≤ (j : Int) ∧ Em eInclusion m j fun e39 => K_incOk_spec d e39 ∧ (((!(incOk d e39)) = true → (false) = (fineC d l m) ∧ True) ∧ ((!(incOk d e39)) = false → inR ((j : Int) + (1 : Int)) ∧ ∃ (j' : Nat), ((j : Int) + (1 : Int)) = (j' : Int) ∧ (j' ≤ m.length ∧ (m.take j').all (incOk d) = true) ∧ m.length - j' < m.length - j))) ∧ ((decide ((j : Int) < ((m.length : Nat) : Int))) = false → (true) = (fineC d l m) ∧ True)))))))))) ?_
 intro n0 n1 n2
 simp only [List.length_map] at n0 n1 n2
 refine ⟨List.length_map _, fun g12 => ?_, fun g12 => ?_⟩
 ·replace g12 := yq g12
  have hbad : (decide ((l.length : Int) ≤ 8) && decide ((m.length : Int) ≤ 8)) = false := by first | (simp; omega) | (simp [*]; omega)
  refine ⟨?_, trivial⟩
  ·first | (rw [fineC, hbad]; simp; done) | (rw [fineC, hL, hM, hz]; rfl) | (rw [fineC, hL]; rfl) | (rw [fineC, hL, hM]; rfl)
 ·replace g12 := nq g12
  refine ⟨List.length_map _, fun c0 => ?_, fun c0 => ?_⟩
  ·replace c0 := yq c0
   have hbad : (decide ((l.length : Int) ≤ 8) && decide ((m.length : Int) ≤ 8)) = false := by first | (simp; omega) | (simp [*]; omega)
   refine ⟨?_, trivial⟩
   ·first | (rw [fineC, hbad]; simp; done) | (rw [fineC, hL, hM, hz]; rfl) | (rw [fineC, hL]; rfl) | (rw [fineC, hL, hM]; rfl)
  ·replace c0 := nq c0
   have hz : (decide ((l.length : Int) ≤ 8) && decide ((m.length : Int) ≤ 8)) = true := by simp; omega
   refine ⟨⟨0, rfl, Nat.zero_le _, rfl⟩, fun k ⟨hk, ha⟩ => ?_⟩
   refine ⟨List.length_map _, fun c1 => ?_, fun c1 => ?_⟩
   ·replace c1 := yq c1
    refine ⟨by omega, rfl, by omega, fun e26 h26 => ?_⟩
    refine ⟨depOk_spec _ _ (by omega), fun c2 => ?_, fun c2 => ?_⟩
    ·replace c2 := nt c2
     have hL : l.all (depOk d) = false := all_stop h26 (by simpa using c2)
     refine ⟨?_, trivial⟩
     ·first | (rw [fineC, hbad]; simp; done) | (rw [fineC, hL, hM, hz]; rfl) | (rw [fineC, hL]; rfl) | (rw [fineC, hL, hM]; rfl)
    ·replace c2 := nf c2
     refine ⟨⟨by omega, by omega⟩, ?_⟩
     exact ⟨k + 1, rfl, ⟨by omega, all_snoc h26 ha (by simpa using c2)⟩, by omega⟩
   ·replace c1 := nq c1
    have hL := all_done (by omega) ha
    refine ⟨⟨0, rfl, Nat.zero_le _, rfl⟩, fun j ⟨hj, hb⟩ => ?_⟩
    refine ⟨List.length_map _, fun c3 => ?_, fun c3 => ?_⟩
    ·replace c3 := yq c3
     refine ⟨by omega, rfl, by omega, fun e39 h39 => ?_⟩
     refine ⟨incOk_spec _ _ (by omega), fun c4 => ?_, fun c4 => ?_⟩
     ·replace c4 := nt c4
      have hM : m.all (incOk d) = false := all_stop h39 (by simpa using c4)
      refine ⟨?_, trivial⟩
      ·first | (rw [fineC, hbad]; simp; done) | (rw [fineC, hL, hM, hz]; rfl) | (rw [fineC, hL]; rfl) | (rw [fineC, hL, hM]; rfl)
     ·replace c4 := nf c4
      refine ⟨⟨by omega, by omega⟩, ?_⟩
      exact ⟨j + 1, rfl, ⟨by omega, all_snoc h39 hb (by simpa using c4)⟩, by omega⟩
    ·replace c3 := nq c3
     have hM := all_done (by omega) hb
     refine ⟨?_, trivial⟩
     ·first | (rw [fineC, hbad]; simp; done) | (rw [fineC, hL, hM, hz]; rfl) | (rw [fineC, hL]; rfl) | (rw [fineC, hL, hM]; rfl)
def okStore (s : StoreD) : Bool := (catOf s.database s.catalogue.version).2 && (decide ((catOf s.database s.catalogue.version).1 = s.catalogue) && fineC s.database s.dependencies s.inclusions)
abbrev K_okSt_impl (s : StoreD) : Prop := Con Tryz.prog 73 [.agg [.sl 162 3 (s.database.tables.map eTable), .int .i64 s.catalogue.version, .sl 121 4 (s.catalogue.tables.map eTableStats), .sl 168 3 (s.dependencies.map eDependency), .sl 170 4 (s.inclusions.map eInclusion)]] (vB (okStore s)) []
theorem okSt_impl (s : StoreD) (hc : cStore s ≤ 1048576) : K_okSt_impl s := by
 refine con_x tbOk mixedW Tryz.func73 (by kernel_rfl) (callP (k_cat_impl s.database s.catalogue.version) <| .br (.call (vB (decide (((catOf s.database s.catalogue.version).1) = s.catalogue))) [] <| .lit <| .br (.call (vB (fineC s.database s.dependencies s.inclusions)) [] <| .fin []) (.fin [])) (.fin [])) ?_
 refine Eq.mpr (by kernel_rfl : _ = ((s.database.tables.map eTable).length ≤ 9223372036854775807 → (s.catalogue.tables.map eTableStats).length ≤ 9223372036854775807 → (s.dependencies.map eDependency).length ≤ 9223372036854775807 → (s.inclusions.map eInclusion).length ≤ 9223372036854775807 → K_cat_impl s.database s.catalogue.version ∧ ((((catOf s.database s.catalogue.version).2) = true → K_eqCat_impl ((catOf s.database s.catalogue.version).1) s.catalogue ∧ (((decide (((catOf s.database s.catalogue.version).1) = s.catalogue)) = true → K_fine_impl s.database s.dependencies s.inclusions ∧ (fineC s.database s.dependencies s.inclusions) = (okStore s) ∧ True) ∧ ((decide (((catOf s.database s.catalogue.version).1) = s.catalogue)) = false → (false) = (okStore s) ∧ True))) ∧ (((catOf s.database s.catalogue.version).2) = false → (false) = (okStore s) ∧ True)))) ?_
 intro n0 n1 n2 n3
 simp only [List.length_map] at n0 n1 n2 n3
 have hS : cStore s = cDatabase s.database + cCatalogue s.catalogue + cDependencyS s.dependencies + cInclusionS s.inclusions := rfl
 have hsm := cat_small s.database s.catalogue.version
 refine ⟨cat_impl s.database s.catalogue.version, fun g15 => ?_, fun g15 => ?_⟩
 ·refine ⟨eqCat_impl _ _, fun g21 => ?_, fun g21 => ?_⟩
  ·replace g21 := yq g21
   refine ⟨fine_impl s.database _ _ (by omega), ?_, trivial⟩
   ·first | (simp [okStore, *]; done) | (simp_all [okStore]; done)
  ·replace g21 := nq g21
   refine ⟨?_, trivial⟩
   ·first | (simp [okStore, *]; done) | (simp_all [okStore]; done)
 ·refine ⟨?_, trivial⟩
  ·first | (simp [okStore, *]; done) | (simp_all [okStore]; done)
abbrev K_okSt_spec (s : StoreD) : Prop := Con Tryz.prog 62 [.agg [.sl 162 3 (s.database.tables.map eTable), .int .i64 s.catalogue.version, .sl 121 4 (s.catalogue.tables.map eTableStats), .sl 168 3 (s.dependencies.map eDependency), .sl 170 4 (s.inclusions.map eInclusion)]] (vB (okStore s)) []
theorem okSt_spec (s : StoreD) (hc : cStore s ≤ 1048576) : K_okSt_spec s := by
 refine con_x tbOk mixedW Tryz.func62 (by kernel_rfl) (callP (k_cat_spec s.database s.catalogue.version) <| .br (.call (vB (decide (((catOf s.database s.catalogue.version).1) = s.catalogue))) [] <| .lit <| .br (.call (vB (fineC s.database s.dependencies s.inclusions)) [] <| .fin []) (.fin [])) (.fin [])) ?_
 refine Eq.mpr (by kernel_rfl : _ = ((s.database.tables.map eTable).length ≤ 9223372036854775807 → (s.catalogue.tables.map eTableStats).length ≤ 9223372036854775807 → (s.dependencies.map eDependency).length ≤ 9223372036854775807 → (s.inclusions.map eInclusion).length ≤ 9223372036854775807 → K_cat_spec s.database s.catalogue.version ∧ ((((catOf s.database s.catalogue.version).2) = true → K_eqCat_spec ((catOf s.database s.catalogue.version).1) s.catalogue ∧ (((decide (((catOf s.database s.catalogue.version).1) = s.catalogue)) = true → K_fine_spec s.database s.dependencies s.inclusions ∧ (fineC s.database s.dependencies s.inclusions) = (okStore s) ∧ True) ∧ ((decide (((catOf s.database s.catalogue.version).1) = s.catalogue)) = false → (false) = (okStore s) ∧ True))) ∧ (((catOf s.database s.catalogue.version).2) = false → (false) = (okStore s) ∧ True)))) ?_
 intro n0 n1 n2 n3
 simp only [List.length_map] at n0 n1 n2 n3
 have hS : cStore s = cDatabase s.database + cCatalogue s.catalogue + cDependencyS s.dependencies + cInclusionS s.inclusions := rfl
 have hsm := cat_small s.database s.catalogue.version
 refine ⟨cat_spec s.database s.catalogue.version, fun g15 => ?_, fun g15 => ?_⟩
 ·refine ⟨eqCat_spec _ _ (by omega), fun g21 => ?_, fun g21 => ?_⟩
  ·replace g21 := yq g21
   refine ⟨fine_spec s.database _ _ (by omega), ?_, trivial⟩
   ·first | (simp [okStore, *]; done) | (simp_all [okStore]; done)
  ·replace g21 := nq g21
   refine ⟨?_, trivial⟩
   ·first | (simp [okStore, *]; done) | (simp_all [okStore]; done)
 ·refine ⟨?_, trivial⟩
  ·first | (simp [okStore, *]; done) | (simp_all [okStore]; done)
abbrev k_cpD_impl (d : DatabaseD) : AV × List (Nat × Rs) := (.agg [.own 0], [(0, .arr 162 3 true (d.tables.map eTable))])
abbrev K_cpD_impl (d : DatabaseD) : Prop := Con Tryz.prog 144 [.agg [.sl 162 3 (d.tables.map eTable)]] (k_cpD_impl d).1 (k_cpD_impl d).2
theorem cpD_impl (d : DatabaseD) (hc : cDatabase d ≤ 1048576) : K_cpD_impl d := by
 refine con_x tbOk mixedW Tryz.func144 (by kernel_rfl) (.len d.tables.length <| .loop (Nat × (List TableD)) (Q2 Nat (List TableD)) [5, 10, 11, 12, 13, 14, 15, 16, 17, 18, 19, 20, 21] [300, 500, 1700, 1800, 1900, 9000] (fun yy0 => [(10, vI (yy0.1 : Int))]) (fun yy0 => [(300, some (.box 39 [.own 9000])), (9000, some (.arr 162 3 true (yy0.2.map eTable)))]) (fun yy0 => yy0.1 ≤ d.tables.length ∧ yy0.2 = d.tables.take yy0.1) (fun yy0 => d.tables.length - yy0.1) (fun yy0 => .br (.elem _ eTable d.tables (fun e12 => callP (k_cpT_impl e12) <| .appx TableD eTable yy0.2 e12 <| .back [(300, 300), (9000, 1900)])) (.fin [(0, 9000)]))) ?_
 refine Eq.mpr (by kernel_rfl : _ = ((d.tables.map eTable).length ≤ 9223372036854775807 → Lm eTable d.tables ∧ ((∃ (k : Nat) (out : List TableD), (0 : Int) = (k : Int) ∧ [] = out.map eTable ∧ k ≤ d.tables.length ∧ out = d.tables.take k) ∧ ∀ (k : Nat) (out : List TableD), (k ≤ d.tables.length ∧ out = d.tables.take k) → ((decide ((k : Int) < ((d.tables.length : Nat) : Int))) = true → 0 ≤ (k : Int) ∧ Em eTable d.tables k fun e12 => K_cpT_impl e12 ∧ out.map eTable = out.map eTable ∧ e12.name = e12.name ∧ e12.arity = e12.arity ∧ e12.rows.map eIntS = e12.rows.map eIntS ∧ (out.length + 1) * 48 ≤ 140737488355328 ∧ inR ((k : Int) + (1 : Int)) ∧ ∃ (k' : Nat) (out' : List TableD), ((k : Int) + (1 : Int)) = (k' : Int) ∧ (out ++ [e12]).map eTable = out'.map eTable ∧ (k' ≤ d.tables.length ∧ out' = d.tables.take k') ∧ d.tables.length - k' < d.tables.length - k) ∧ ((decide ((k : Int) < ((d.tables.length : Nat) : Int))) = false → out.map eTable = d.tables.map eTable ∧ True)))) ?_
 intro n0
 simp only [List.length_map] at n0
 have q1 : cDatabase d = cTableS d.tables := rfl
 have q2 := cTableS_len d.tables
 refine ⟨List.length_map _, ⟨0, ([] : List TableD), rfl, rfl, Nat.zero_le _, rfl⟩, fun k out ⟨hk, ho⟩ => ?_⟩
 refine ⟨fun c0 => ?_, fun c0 => ?_⟩
 ·replace c0 := yq c0
  refine ⟨by omega, rfl, by omega, fun e12 h12 => ?_⟩
  have q3 := cTableS_el h12
  refine ⟨cpT_impl _ (by omega), rfl, rfl, rfl, rfl, by first | omega | (simp; omega) | (simp [ho]; omega), ⟨by omega, by omega⟩, ?_⟩
  exact ⟨k + 1, _, rfl, rfl, ⟨by omega, by rw [ho, take_snoc h12]⟩, by omega⟩
 ·replace c0 := nq c0
  refine ⟨?_, trivial⟩
  ·first | rfl | (rw [ho, List.take_of_length_le (by omega)])
abbrev k_cpD_spec (d : DatabaseD) : AV × List (Nat × Rs) := (.agg [.own 0], [(0, .arr 162 3 true (d.tables.map eTable))])
abbrev K_cpD_spec (d : DatabaseD) : Prop := Con Tryz.prog 130 [.agg [.sl 162 3 (d.tables.map eTable)]] (k_cpD_spec d).1 (k_cpD_spec d).2
theorem cpD_spec (d : DatabaseD) (hc : cDatabase d ≤ 1048576) : K_cpD_spec d := by
 refine con_x tbOk mixedW Tryz.func130 (by kernel_rfl) (.loop (Nat × (List TableD)) (Q2 Nat (List TableD)) [4, 5, 7, 8, 9, 10, 11, 12, 13, 14, 15, 16, 17, 18, 19, 20, 21, 22, 23, 24, 25] [300, 500, 1900, 2300, 2400, 9000] (fun yy0 => [(4, vI (yy0.1 : Int))]) (fun yy0 => [(300, some (.box 39 [.own 9000])), (9000, some (.arr 162 3 true (yy0.2.map eTable)))]) (fun yy0 => yy0.1 ≤ d.tables.length ∧ yy0.2 = d.tables.take yy0.1) (fun yy0 => d.tables.length - yy0.1) (fun yy0 => .len d.tables.length <| .br (.elem _ eTable d.tables (fun e17 => callP (k_cpT_spec e17) <| .appx TableD eTable yy0.2 e17 <| .back [(300, 300), (9000, 2400)])) (.fin [(0, 9000)]))) ?_
 refine Eq.mpr (by kernel_rfl : _ = ((d.tables.map eTable).length ≤ 9223372036854775807 → (∃ (k : Nat) (out : List TableD), (0 : Int) = (k : Int) ∧ [] = out.map eTable ∧ k ≤ d.tables.length ∧ out = d.tables.take k) ∧ ∀ (k : Nat) (out : List TableD), (k ≤ d.tables.length ∧ out = d.tables.take k) → Lm eTable d.tables ∧ (((decide ((k : Int) < ((d.tables.length : Nat) : Int))) = true → 0 ≤ (k : Int) ∧ Em eTable d.tables k fun e17 => K_cpT_spec e17 ∧ out.map eTable = out.map eTable ∧ e17.name = e17.name ∧ e17.arity = e17.arity ∧ e17.rows.map eIntS = e17.rows.map eIntS ∧ (out.length + 1) * 48 ≤ 140737488355328 ∧ inR ((k : Int) + (1 : Int)) ∧ ∃ (k' : Nat) (out' : List TableD), ((k : Int) + (1 : Int)) = (k' : Int) ∧ (out ++ [e17]).map eTable = out'.map eTable ∧ (k' ≤ d.tables.length ∧ out' = d.tables.take k') ∧ d.tables.length - k' < d.tables.length - k) ∧ ((decide ((k : Int) < ((d.tables.length : Nat) : Int))) = false → out.map eTable = d.tables.map eTable ∧ True)))) ?_
 intro n0
 simp only [List.length_map] at n0
 have q1 : cDatabase d = cTableS d.tables := rfl
 have q2 := cTableS_len d.tables
 refine ⟨⟨0, ([] : List TableD), rfl, rfl, Nat.zero_le _, rfl⟩, fun k out ⟨hk, ho⟩ => ?_⟩
 refine ⟨List.length_map _, fun c0 => ?_, fun c0 => ?_⟩
 ·replace c0 := yq c0
  refine ⟨by omega, rfl, by omega, fun e17 h17 => ?_⟩
  have q3 := cTableS_el h17
  refine ⟨cpT_spec _ (by omega), rfl, rfl, rfl, rfl, by first | omega | (simp; omega) | (simp [ho]; omega), ⟨by omega, by omega⟩, ?_⟩
  exact ⟨k + 1, _, rfl, rfl, ⟨by omega, by rw [ho, take_snoc h17]⟩, by omega⟩
 ·replace c0 := nq c0
  refine ⟨?_, trivial⟩
  ·first | rfl | (rw [ho, List.take_of_length_le (by omega)])
abbrev k_cpC_impl (c : CatalogueD) : AV × List (Nat × Rs) := (.agg [vI c.version, .own 0], [(0, .arr 121 4 true (c.tables.map eTableStats))])
abbrev K_cpC_impl (c : CatalogueD) : Prop := Con Tryz.prog 145 [.agg [.int .i64 c.version, .sl 121 4 (c.tables.map eTableStats)]] (k_cpC_impl c).1 (k_cpC_impl c).2
theorem cpC_impl (c : CatalogueD) (hc : cCatalogue c ≤ 1048576) : K_cpC_impl c := by
 refine con_x tbOk mixedW Tryz.func145 (by kernel_rfl) (.len c.tables.length <| .loop (Nat × (List TableStatsD)) (Q2 Nat (List TableStatsD)) [5, 12, 13, 14, 15, 16, 17, 18, 19, 20, 21, 22, 23] [300, 500, 1900, 2000, 2100, 9000] (fun yy0 => [(12, vI (yy0.1 : Int))]) (fun yy0 => [(300, some (.box 42 [vI c.version, .own 9000])), (9000, some (.arr 121 4 true (yy0.2.map eTableStats)))]) (fun yy0 => yy0.1 ≤ c.tables.length ∧ yy0.2 = c.tables.take yy0.1) (fun yy0 => c.tables.length - yy0.1) (fun yy0 => .br (.elem _ eTableStats c.tables (fun e14 => callP (k_cpS_impl e14) <| .appx TableStatsD eTableStats yy0.2 e14 <| .back [(300, 300), (9000, 2100)])) (.fin [(0, 9000)]))) ?_
 refine Eq.mpr (by kernel_rfl : _ = ((c.tables.map eTableStats).length ≤ 9223372036854775807 → Lm eTableStats c.tables ∧ ((∃ (k : Nat) (out : List TableStatsD), (0 : Int) = (k : Int) ∧ c.version = c.version ∧ [] = out.map eTableStats ∧ k ≤ c.tables.length ∧ out = c.tables.take k) ∧ ∀ (k : Nat) (out : List TableStatsD), (k ≤ c.tables.length ∧ out = c.tables.take k) → ((decide ((k : Int) < ((c.tables.length : Nat) : Int))) = true → 0 ≤ (k : Int) ∧ Em eTableStats c.tables k fun e14 => K_cpS_impl e14 ∧ out.map eTableStats = out.map eTableStats ∧ e14.name = e14.name ∧ e14.arity = e14.arity ∧ e14.rowCount = e14.rowCount ∧ e14.groups.map eGroupStats = e14.groups.map eGroupStats ∧ (out.length + 1) * 56 ≤ 140737488355328 ∧ inR ((k : Int) + (1 : Int)) ∧ ∃ (k' : Nat) (out' : List TableStatsD), ((k : Int) + (1 : Int)) = (k' : Int) ∧ c.version = c.version ∧ (out ++ [e14]).map eTableStats = out'.map eTableStats ∧ (k' ≤ c.tables.length ∧ out' = c.tables.take k') ∧ c.tables.length - k' < c.tables.length - k) ∧ ((decide ((k : Int) < ((c.tables.length : Nat) : Int))) = false → c.version = c.version ∧ out.map eTableStats = c.tables.map eTableStats ∧ True)))) ?_
 intro n0
 simp only [List.length_map] at n0
 have q1 : cCatalogue c = cTableStatsS c.tables := rfl
 have q2 := cTableStatsS_len c.tables
 refine ⟨List.length_map _, ⟨0, ([] : List TableStatsD), rfl, rfl, rfl, Nat.zero_le _, rfl⟩, fun k out ⟨hk, ho⟩ => ?_⟩
 refine ⟨fun c0 => ?_, fun c0 => ?_⟩
 ·replace c0 := yq c0
  refine ⟨by omega, rfl, by omega, fun e14 h14 => ?_⟩
  have q3 := cTableStatsS_el h14
  refine ⟨cpS_impl _ (by omega), rfl, rfl, rfl, rfl, rfl, by first | omega | (simp; omega) | (simp [ho]; omega), ⟨by omega, by omega⟩, ?_⟩
  exact ⟨k + 1, _, rfl, rfl, rfl, ⟨by omega, by rw [ho, take_snoc h14]⟩, by omega⟩
 ·replace c0 := nq c0
  refine ⟨rfl, ?_, trivial⟩
  ·first | rfl | (rw [ho, List.take_of_length_le (by omega)])
abbrev k_cpC_spec (c : CatalogueD) : AV × List (Nat × Rs) := (.agg [vI c.version, .own 0], [(0, .arr 121 4 true (c.tables.map eTableStats))])
abbrev K_cpC_spec (c : CatalogueD) : Prop := Con Tryz.prog 131 [.agg [.int .i64 c.version, .sl 121 4 (c.tables.map eTableStats)]] (k_cpC_spec c).1 (k_cpC_spec c).2
theorem cpC_spec (c : CatalogueD) (hc : cCatalogue c ≤ 1048576) : K_cpC_spec c := by
 refine con_x tbOk mixedW Tryz.func131 (by kernel_rfl) (.loop (Nat × (List TableStatsD)) (Q2 Nat (List TableStatsD)) [4, 5, 9, 10, 11, 12, 13, 14, 15, 16, 17, 18, 19, 20, 21, 22, 23, 24, 25, 26, 27] [300, 500, 2100, 2500, 2600, 9000] (fun yy0 => [(4, vI (yy0.1 : Int))]) (fun yy0 => [(300, some (.box 42 [vI c.version, .own 9000])), (9000, some (.arr 121 4 true (yy0.2.map eTableStats)))]) (fun yy0 => yy0.1 ≤ c.tables.length ∧ yy0.2 = c.tables.take yy0.1) (fun yy0 => c.tables.length - yy0.1) (fun yy0 => .len c.tables.length <| .br (.elem _ eTableStats c.tables (fun e19 => callP (k_cpS_spec e19) <| .appx TableStatsD eTableStats yy0.2 e19 <| .back [(300, 300), (9000, 2600)])) (.fin [(0, 9000)]))) ?_
 refine Eq.mpr (by kernel_rfl : _ = ((c.tables.map eTableStats).length ≤ 9223372036854775807 → (∃ (k : Nat) (out : List TableStatsD), (0 : Int) = (k : Int) ∧ c.version = c.version ∧ [] = out.map eTableStats ∧ k ≤ c.tables.length ∧ out = c.tables.take k) ∧ ∀ (k : Nat) (out : List TableStatsD), (k ≤ c.tables.length ∧ out = c.tables.take k) → Lm eTableStats c.tables ∧ (((decide ((k : Int) < ((c.tables.length : Nat) : Int))) = true → 0 ≤ (k : Int) ∧ Em eTableStats c.tables k fun e19 => K_cpS_spec e19 ∧ out.map eTableStats = out.map eTableStats ∧ e19.name = e19.name ∧ e19.arity = e19.arity ∧ e19.rowCount = e19.rowCount ∧ e19.groups.map eGroupStats = e19.groups.map eGroupStats ∧ (out.length + 1) * 56 ≤ 140737488355328 ∧ inR ((k : Int) + (1 : Int)) ∧ ∃ (k' : Nat) (out' : List TableStatsD), ((k : Int) + (1 : Int)) = (k' : Int) ∧ c.version = c.version ∧ (out ++ [e19]).map eTableStats = out'.map eTableStats ∧ (k' ≤ c.tables.length ∧ out' = c.tables.take k') ∧ c.tables.length - k' < c.tables.length - k) ∧ ((decide ((k : Int) < ((c.tables.length : Nat) : Int))) = false → c.version = c.version ∧ out.map eTableStats = c.tables.map eTableStats ∧ True)))) ?_
 intro n0
 simp only [List.length_map] at n0
 have q1 : cCatalogue c = cTableStatsS c.tables := rfl
 have q2 := cTableStatsS_len c.tables
 refine ⟨⟨0, ([] : List TableStatsD), rfl, rfl, rfl, Nat.zero_le _, rfl⟩, fun k out ⟨hk, ho⟩ => ?_⟩
 refine ⟨List.length_map _, fun c0 => ?_, fun c0 => ?_⟩
 ·replace c0 := yq c0
  refine ⟨by omega, rfl, by omega, fun e19 h19 => ?_⟩
  have q3 := cTableStatsS_el h19
  refine ⟨cpS_spec _ (by omega), rfl, rfl, rfl, rfl, rfl, by first | omega | (simp; omega) | (simp [ho]; omega), ⟨by omega, by omega⟩, ?_⟩
  exact ⟨k + 1, _, rfl, rfl, rfl, ⟨by omega, by rw [ho, take_snoc h19]⟩, by omega⟩
 ·replace c0 := nq c0
  refine ⟨rfl, ?_, trivial⟩
  ·first | rfl | (rw [ho, List.take_of_length_le (by omega)])
abbrev k_cpP_impl (l : List DependencyD) : AV × List (Nat × Rs) := (.own 0, [(0, .arr 168 3 true (l.map eDependency))])
abbrev K_cpP_impl (l : List DependencyD) : Prop := Con Tryz.prog 146 [.one (.sl 168 3 (l.map eDependency))] (k_cpP_impl l).1 (k_cpP_impl l).2
theorem cpP_impl (l : List DependencyD) (hc : cDependencyS l ≤ 1048576) : K_cpP_impl l := by
 refine con_x tbOk mixedW Tryz.func146 (by kernel_rfl) (.len l.length <| .loop (Nat × (List DependencyD)) (Q2 Nat (List DependencyD)) [3, 5, 6, 9, 10, 11, 12, 13, 14, 15, 16, 17, 18, 19, 20, 21] [500, 600, 1500, 1900, 2000] (fun yy0 => [(9, vI (yy0.1 : Int)), (3, .own 600)]) (fun yy0 => [(600, some (.arr 168 3 true (yy0.2.map eDependency)))]) (fun yy0 => yy0.1 ≤ l.length ∧ yy0.2 = l.take yy0.1) (fun yy0 => l.length - yy0.1) (fun yy0 => .br (.elem _ eDependency l (fun e11 => callP (k_cpI e11.src) <| .appx DependencyD eDependency yy0.2 e11 <| .back [(600, 2000)])) (.fin [(0, 600)]))) ?_
 refine Eq.mpr (by kernel_rfl : _ = ((l.map eDependency).length ≤ 9223372036854775807 → Lm eDependency l ∧ ((∃ (k : Nat) (out : List DependencyD), (0 : Int) = (k : Int) ∧ [] = out.map eDependency ∧ k ≤ l.length ∧ out = l.take k) ∧ ∀ (k : Nat) (out : List DependencyD), (k ≤ l.length ∧ out = l.take k) → ((decide ((k : Int) < ((l.length : Nat) : Int))) = true → 0 ≤ (k : Int) ∧ Em eDependency l k fun e11 => K_cpI e11.src ∧ out.map eDependency = out.map eDependency ∧ e11.name = e11.name ∧ e11.src.map intD = e11.src.map intD ∧ e11.dst = e11.dst ∧ (out.length + 1) * 48 ≤ 140737488355328 ∧ inR ((k : Int) + (1 : Int)) ∧ ∃ (k' : Nat) (out' : List DependencyD), ((k : Int) + (1 : Int)) = (k' : Int) ∧ (out ++ [e11]).map eDependency = out'.map eDependency ∧ (k' ≤ l.length ∧ out' = l.take k') ∧ l.length - k' < l.length - k) ∧ ((decide ((k : Int) < ((l.length : Nat) : Int))) = false → out.map eDependency = l.map eDependency ∧ True)))) ?_
 intro n0
 simp only [List.length_map] at n0
 have q2 := cDependencyS_len l
 refine ⟨List.length_map _, ⟨0, ([] : List DependencyD), rfl, rfl, Nat.zero_le _, rfl⟩, fun k out ⟨hk, ho⟩ => ?_⟩
 refine ⟨fun c0 => ?_, fun c0 => ?_⟩
 ·replace c0 := yq c0
  refine ⟨by omega, rfl, by omega, fun e11 h11 => ?_⟩
  try (obtain rfl := (same_at h11 h11).symm)
  have q3 := cDependencyS_el h11
  have q4 : cDependency e11 = e11.name.size + cIntS e11.src := rfl
  have q5 : cIntS e11.src = e11.src.length := rfl
  refine ⟨cpI _ (by omega), rfl, rfl, rfl, rfl, by first | omega | (simp; omega) | (simp [ho]; omega), ⟨by omega, by omega⟩, ?_⟩
  exact ⟨k + 1, _, rfl, rfl, ⟨by omega, by rw [ho, take_snoc h11] <;> rfl⟩, by omega⟩
 ·replace c0 := nq c0
  refine ⟨?_, trivial⟩
  ·first | rfl | (rw [ho, List.take_of_length_le (by omega)])
abbrev k_cpP_spec (l : List DependencyD) : AV × List (Nat × Rs) := (.own 0, [(0, .arr 168 3 true (l.map eDependency))])
abbrev K_cpP_spec (l : List DependencyD) : Prop := Con Tryz.prog 67 [.one (.sl 168 3 (l.map eDependency))] (k_cpP_spec l).1 (k_cpP_spec l).2
theorem cpP_spec (l : List DependencyD) (hc : cDependencyS l ≤ 1048576) : K_cpP_spec l := by
 refine con_x tbOk mixedW Tryz.func67 (by kernel_rfl) (.loop (Nat × (List DependencyD)) (Q2 Nat (List DependencyD)) [3, 4, 5, 6, 7, 8, 9, 10, 11, 12, 13, 14, 15, 16, 17, 18, 19, 20, 21, 22, 23, 24, 25, 26, 27, 28, 29, 30, 31, 32] [500, 1800, 2400, 3100, 3200] (fun yy0 => [(4, vI (yy0.1 : Int)), (3, .own 500)]) (fun yy0 => [(500, some (.arr 168 3 true (yy0.2.map eDependency)))]) (fun yy0 => yy0.1 ≤ l.length ∧ yy0.2 = l.take yy0.1) (fun yy0 => l.length - yy0.1) (fun yy0 => .len l.length <| .br (.elem _ eDependency l (fun e15 => .elem _ eDependency l (fun e21 => .app Int intD ([] : List Int) e21.src <| .elem _ eDependency l (fun e27 => .appx DependencyD eDependency yy0.2 (⟨e15.name, ([] : List Int) ++ e21.src, e27.dst⟩ : DependencyD) <| .back [(500, 3200)])))) (.fin [(0, 500)]))) ?_
 refine Eq.mpr (by kernel_rfl : _ = ((l.map eDependency).length ≤ 9223372036854775807 → (∃ (k : Nat) (out : List DependencyD), (0 : Int) = (k : Int) ∧ [] = out.map eDependency ∧ k ≤ l.length ∧ out = l.take k) ∧ ∀ (k : Nat) (out : List DependencyD), (k ≤ l.length ∧ out = l.take k) → Lm eDependency l ∧ (((decide ((k : Int) < ((l.length : Nat) : Int))) = true → 0 ≤ (k : Int) ∧ Em eDependency l k fun e15 => 0 ≤ (k : Int) ∧ Em eDependency l k fun e21 => [] = ([] : List Int).map intD ∧ e21.src.map intD = e21.src.map intD ∧ (∀ x, flatB (intD x) = true) ∧ (([] : List Int).length + e21.src.length) * 8 ≤ 140737488355328 ∧ 0 ≤ (k : Int) ∧ Em eDependency l k fun e27 => out.map eDependency = out.map eDependency ∧ e15.name = ((⟨e15.name, ([] : List Int) ++ e21.src, e27.dst⟩ : DependencyD).name) ∧ (([] : List Int) ++ e21.src).map intD = ((⟨e15.name, ([] : List Int) ++ e21.src, e27.dst⟩ : DependencyD).src).map intD ∧ e27.dst = ((⟨e15.name, ([] : List Int) ++ e21.src, e27.dst⟩ : DependencyD).dst) ∧ (out.length + 1) * 48 ≤ 140737488355328 ∧ inR ((k : Int) + (1 : Int)) ∧ ∃ (k' : Nat) (out' : List DependencyD), ((k : Int) + (1 : Int)) = (k' : Int) ∧ (out ++ [(⟨e15.name, ([] : List Int) ++ e21.src, e27.dst⟩ : DependencyD)]).map eDependency = out'.map eDependency ∧ (k' ≤ l.length ∧ out' = l.take k') ∧ l.length - k' < l.length - k) ∧ ((decide ((k : Int) < ((l.length : Nat) : Int))) = false → out.map eDependency = l.map eDependency ∧ True)))) ?_
 intro n0
 simp only [List.length_map] at n0
 have q2 := cDependencyS_len l
 refine ⟨⟨0, ([] : List DependencyD), rfl, rfl, Nat.zero_le _, rfl⟩, fun k out ⟨hk, ho⟩ => ?_⟩
 refine ⟨List.length_map _, fun c0 => ?_, fun c0 => ?_⟩
 ·replace c0 := yq c0
  refine ⟨by omega, rfl, by omega, fun e15 h15 => ?_⟩
  try (obtain rfl := (same_at h15 h15).symm)
  have q3 := cDependencyS_el h15
  have q4 : cDependency e15 = e15.name.size + cIntS e15.src := rfl
  have q5 : cIntS e15.src = e15.src.length := rfl
  refine ⟨by omega, rfl, by omega, fun e21 h21 => ?_⟩
  try (obtain rfl := (same_at h15 h21).symm)
  refine ⟨rfl, rfl, fun _ => rfl, by first | omega | (simp; omega) | (simp [ho]; omega), ?_⟩
  refine ⟨by omega, rfl, by omega, fun e27 h27 => ?_⟩
  try (obtain rfl := (same_at h15 h27).symm)
  refine ⟨rfl, rfl, rfl, rfl, by first | omega | (simp; omega) | (simp [ho]; omega), ⟨by omega, by omega⟩, ?_⟩
  exact ⟨k + 1, _, rfl, rfl, ⟨by omega, by rw [ho, take_snoc h15] <;> rfl⟩, by omega⟩
 ·replace c0 := nq c0
  refine ⟨?_, trivial⟩
  ·first | rfl | (rw [ho, List.take_of_length_le (by omega)])
abbrev k_cpSt_impl (s : StoreD) : AV × List (Nat × Rs) := (.agg [.own 0, vI s.catalogue.version, .own 1, .own 2, .own 3], [(0, .arr 162 3 true (s.database.tables.map eTable)), (1, .arr 121 4 true (s.catalogue.tables.map eTableStats)), (2, .arr 168 3 true (s.dependencies.map eDependency)), (3, .arr 170 4 true (s.inclusions.map eInclusion))])
abbrev K_cpSt_impl (s : StoreD) : Prop := Con Tryz.prog 72 [.agg [.sl 162 3 (s.database.tables.map eTable), .int .i64 s.catalogue.version, .sl 121 4 (s.catalogue.tables.map eTableStats), .sl 168 3 (s.dependencies.map eDependency), .sl 170 4 (s.inclusions.map eInclusion)]] (k_cpSt_impl s).1 (k_cpSt_impl s).2
theorem cpSt_impl (s : StoreD) (h1 : cDatabase s.database ≤ 1048576) (h2 : cCatalogue s.catalogue ≤ 1048576) (h3 : cDependencyS s.dependencies ≤ 1048576) (h4 : s.inclusions.length ≤ 1048576) : K_cpSt_impl s := by
 refine con_x tbOk mixedW Tryz.func72 (by kernel_rfl) (callP (k_cpD_impl s.database) <| callP (k_cpC_impl s.catalogue) <| callP (k_cpP_impl s.dependencies) <| .app InclusionD eInclusion ([] : List InclusionD) s.inclusions <| .fin [(0, 500), (1, 800), (2, 1100), (3, 1500)]) ?_
 refine Eq.mpr (by kernel_rfl : _ = ((s.database.tables.map eTable).length ≤ 9223372036854775807 → (s.catalogue.tables.map eTableStats).length ≤ 9223372036854775807 → (s.dependencies.map eDependency).length ≤ 9223372036854775807 → (s.inclusions.map eInclusion).length ≤ 9223372036854775807 → K_cpD_impl s.database ∧ K_cpC_impl s.catalogue ∧ K_cpP_impl s.dependencies ∧ [] = ([] : List InclusionD).map eInclusion ∧ s.inclusions.map eInclusion = s.inclusions.map eInclusion ∧ (∀ x, flatB (eInclusion x) = true) ∧ (([] : List InclusionD).length + s.inclusions.length) * 48 ≤ 140737488355328 ∧ s.catalogue.version = s.catalogue.version ∧ s.database.tables.map eTable = s.database.tables.map eTable ∧ s.catalogue.tables.map eTableStats = s.catalogue.tables.map eTableStats ∧ s.dependencies.map eDependency = s.dependencies.map eDependency ∧ (([] : List InclusionD) ++ s.inclusions).map eInclusion = s.inclusions.map eInclusion ∧ True)) ?_
 intro n0 n1 n2 n3
 simp only [List.length_map] at n0 n1 n2 n3
 refine ⟨cpD_impl s.database (by omega), cpC_impl s.catalogue (by omega), cpP_impl _ (by omega), rfl, rfl, fun _ => rfl, by first | omega | (simp; omega), ?_⟩
 refine ⟨rfl, rfl, rfl, rfl, ?_, trivial⟩
 ·rfl
abbrev k_cpSt_spec (s : StoreD) : AV × List (Nat × Rs) := (.agg [.own 0, vI s.catalogue.version, .own 1, .own 2, .own 3], [(0, .arr 162 3 true (s.database.tables.map eTable)), (1, .arr 121 4 true (s.catalogue.tables.map eTableStats)), (2, .arr 168 3 true (s.dependencies.map eDependency)), (3, .arr 170 4 true (s.inclusions.map eInclusion))])
abbrev K_cpSt_spec (s : StoreD) : Prop := Con Tryz.prog 63 [.agg [.sl 162 3 (s.database.tables.map eTable), .int .i64 s.catalogue.version, .sl 121 4 (s.catalogue.tables.map eTableStats), .sl 168 3 (s.dependencies.map eDependency), .sl 170 4 (s.inclusions.map eInclusion)]] (k_cpSt_spec s).1 (k_cpSt_spec s).2
theorem cpSt_spec (s : StoreD) (h1 : cDatabase s.database ≤ 1048576) (h2 : cCatalogue s.catalogue ≤ 1048576) (h3 : cDependencyS s.dependencies ≤ 1048576) (h4 : s.inclusions.length ≤ 1048576) : K_cpSt_spec s := by
 refine con_x tbOk mixedW Tryz.func63 (by kernel_rfl) (callP (k_cpD_spec s.database) <| callP (k_cpC_spec s.catalogue) <| callP (k_cpP_spec s.dependencies) <| .app InclusionD eInclusion ([] : List InclusionD) s.inclusions <| .fin [(0, 500), (1, 800), (2, 1100), (3, 1500)]) ?_
 refine Eq.mpr (by kernel_rfl : _ = ((s.database.tables.map eTable).length ≤ 9223372036854775807 → (s.catalogue.tables.map eTableStats).length ≤ 9223372036854775807 → (s.dependencies.map eDependency).length ≤ 9223372036854775807 → (s.inclusions.map eInclusion).length ≤ 9223372036854775807 → K_cpD_spec s.database ∧ K_cpC_spec s.catalogue ∧ K_cpP_spec s.dependencies ∧ [] = ([] : List InclusionD).map eInclusion ∧ s.inclusions.map eInclusion = s.inclusions.map eInclusion ∧ (∀ x, flatB (eInclusion x) = true) ∧ (([] : List InclusionD).length + s.inclusions.length) * 48 ≤ 140737488355328 ∧ s.catalogue.version = s.catalogue.version ∧ s.database.tables.map eTable = s.database.tables.map eTable ∧ s.catalogue.tables.map eTableStats = s.catalogue.tables.map eTableStats ∧ s.dependencies.map eDependency = s.dependencies.map eDependency ∧ (([] : List InclusionD) ++ s.inclusions).map eInclusion = s.inclusions.map eInclusion ∧ True)) ?_
 intro n0 n1 n2 n3
 simp only [List.length_map] at n0 n1 n2 n3
 refine ⟨cpD_spec s.database (by omega), cpC_spec s.catalogue (by omega), cpP_spec _ (by omega), rfl, rfl, fun _ => rfl, by first | omega | (simp; omega), ?_⟩
 refine ⟨rfl, rfl, rfl, rfl, ?_, trivial⟩
 ·rfl
end Go.Proofs.YtokkjaflmcjlhaaGreat
