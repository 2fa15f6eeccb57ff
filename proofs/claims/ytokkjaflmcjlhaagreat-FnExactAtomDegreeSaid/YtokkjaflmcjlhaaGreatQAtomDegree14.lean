/-
  Contracts and plain laws, joined: part 15.
-/
import Derived.Test.YtokkjaflmcjlhaaGreatQAtomDegree13
import Derived.Test.YtokkjaflmcjlhaaGreatQAtomDegree12
import Derived.Test.YtokkjaflmcjlhaaGreatQAtomDegree3
namespace Go.Proofs.YtokkjaflmcjlhaaGreat
open Go.ChangeShapes Go.WideShapes Go.ChangeAt Go.RowKit
set_option linter.unusedVariables false
set_option linter.unusedSimpArgs false
set_option maxRecDepth 100000
set_option maxHeartbeats 4000000
abbrev K_qOk_impl (s : StoreD) (q : QueryD) (m : Int) : Prop := Con Tryz.prog 94 [.agg [.sl 162 3 (s.database.tables.map eTable), .int .i64 s.catalogue.version, .sl 121 4 (s.catalogue.tables.map eTableStats), .sl 168 3 (s.dependencies.map eDependency), .sl 170 4 (s.inclusions.map eInclusion)], .agg [.int .i64 q.variableCount, .sl 131 2 (q.atoms.map eAtom)], .one (.int .i64 m)] (vB (qOk s q m)) []
theorem qOk_impl (s : StoreD) (q : QueryD) (m : Int) (hc : cStore s ≤ 1048576) : K_qOk_impl s q m := by
 refine con_x tbOk mixedW Tryz.func94 (by kernel_rfl) (.call (vB (okStore s)) [] <| .br (.call (vB (isQFor s.database q)) [] <| .lit <| .br (.call (vI (fullM q)) [] <| .call (vB (inB m (1 : Int) (fullM q))) [] <| .fin []) (.fin [])) (.fin [])) ?_
 refine Eq.mpr (by kernel_rfl : _ = ((s.database.tables.map eTable).length ≤ 9223372036854775807 → (s.catalogue.tables.map eTableStats).length ≤ 9223372036854775807 → (s.dependencies.map eDependency).length ≤ 9223372036854775807 → (s.inclusions.map eInclusion).length ≤ 9223372036854775807 → (q.atoms.map eAtom).length ≤ 9223372036854775807 → K_okSt_impl s ∧ (((okStore s) = true → K_isQ_impl s.database q ∧ (((isQFor s.database q) = true → K_full_impl q ∧ K_in_impl m (1 : Int) (fullM q) ∧ (inB m (1 : Int) (fullM q)) = (qOk s q m) ∧ True) ∧ ((isQFor s.database q) = false → (false) = (qOk s q m) ∧ True))) ∧ ((okStore s) = false → (false) = (qOk s q m) ∧ True)))) ?_
 intro n0 n1 n2 n3 n4
 simp only [List.length_map] at n0 n1 n2 n3 n4
 have hS : cStore s = cDatabase s.database + cCatalogue s.catalogue + cDependencyS s.dependencies + cInclusionS s.inclusions := rfl
 have hI := cInclusionS_len s.inclusions
 refine ⟨okSt_impl _ (by omega), fun g9 => ?_, fun g9 => ?_⟩
 ·refine ⟨isQ_impl s.database _ (by omega), fun g15 => ?_, fun g15 => ?_⟩
  ·refine ⟨full_impl _, in_impl _ _ _, ?_, trivial⟩
   ·first | (rw [qOk, g9]; rfl) | (rw [qOk, g9, g15]; rfl)
  ·refine ⟨?_, trivial⟩
   ·first | (rw [qOk, g9]; rfl) | (rw [qOk, g9, g15]; rfl)
 ·refine ⟨?_, trivial⟩
  ·first | (rw [qOk, g9]; rfl) | (rw [qOk, g9, g15]; rfl)
abbrev K_qOk_spec (s : StoreD) (q : QueryD) (m : Int) : Prop := Con Tryz.prog 91 [.agg [.sl 162 3 (s.database.tables.map eTable), .int .i64 s.catalogue.version, .sl 121 4 (s.catalogue.tables.map eTableStats), .sl 168 3 (s.dependencies.map eDependency), .sl 170 4 (s.inclusions.map eInclusion)], .agg [.int .i64 q.variableCount, .sl 131 2 (q.atoms.map eAtom)], .one (.int .i64 m)] (vB (qOk s q m)) []
theorem qOk_spec (s : StoreD) (q : QueryD) (m : Int) (hc : cStore s ≤ 1048576) : K_qOk_spec s q m := by
 refine con_x tbOk mixedW Tryz.func91 (by kernel_rfl) (.call (vB (okStore s)) [] <| .br (.call (vB (isQFor s.database q)) [] <| .lit <| .br (.call (vI (fullM q)) [] <| .call (vB (inB m (1 : Int) (fullM q))) [] <| .fin []) (.fin [])) (.fin [])) ?_
 refine Eq.mpr (by kernel_rfl : _ = ((s.database.tables.map eTable).length ≤ 9223372036854775807 → (s.catalogue.tables.map eTableStats).length ≤ 9223372036854775807 → (s.dependencies.map eDependency).length ≤ 9223372036854775807 → (s.inclusions.map eInclusion).length ≤ 9223372036854775807 → (q.atoms.map eAtom).length ≤ 9223372036854775807 → K_okSt_spec s ∧ (((okStore s) = true → K_isQ_spec s.database q ∧ (((isQFor s.database q) = true → K_full_spec q ∧ K_in_spec m (1 : Int) (fullM q) ∧ (inB m (1 : Int) (fullM q)) = (qOk s q m) ∧ True) ∧ ((isQFor s.database q) = false → (false) = (qOk s q m) ∧ True))) ∧ ((okStore s) = false → (false) = (qOk s q m) ∧ True)))) ?_
 intro n0 n1 n2 n3 n4
 simp only [List.length_map] at n0 n1 n2 n3 n4
 have hS : cStore s = cDatabase s.database + cCatalogue s.catalogue + cDependencyS s.dependencies + cInclusionS s.inclusions := rfl
 have hI := cInclusionS_len s.inclusions
 refine ⟨okSt_spec _ (by omega), fun g9 => ?_, fun g9 => ?_⟩
 ·refine ⟨isQ_spec s.database _ (by omega), fun g15 => ?_, fun g15 => ?_⟩
  ·refine ⟨full_spec _, in_spec _ _ _, ?_, trivial⟩
   ·first | (rw [qOk, g9]; rfl) | (rw [qOk, g9, g15]; rfl)
  ·refine ⟨?_, trivial⟩
   ·first | (rw [qOk, g9]; rfl) | (rw [qOk, g9, g15]; rfl)
 ·refine ⟨?_, trivial⟩
  ·first | (rw [qOk, g9]; rfl) | (rw [qOk, g9, g15]; rfl)
abbrev k_statO_impl (s : StoreD) (q : QueryD) (i : Int) : AV × List (Nat × Rs) := (.agg [.p none (.str ((statAt s q i.toNat).name)), vI ((statAt s q i.toNat).arity), vI ((statAt s q i.toNat).rowCount), .p none (.sl 218 3 (((statAt s q i.toNat).groups).map eGroupStats))], [])
abbrev K_statO_impl (s : StoreD) (q : QueryD) (i : Int) : Prop := Con Tryz.prog 96 [.agg [.sl 162 3 (s.database.tables.map eTable), .int .i64 s.catalogue.version, .sl 121 4 (s.catalogue.tables.map eTableStats), .sl 168 3 (s.dependencies.map eDependency), .sl 170 4 (s.inclusions.map eInclusion)], .agg [.int .i64 q.variableCount, .sl 131 2 (q.atoms.map eAtom)], .one (.int .i64 i)] (k_statO_impl s q i).1 (k_statO_impl s q i).2
theorem statO_impl (s : StoreD) (q : QueryD) (i : Int) (hc : cStore s ≤ 1048576) (hi : 0 ≤ i ∧ i.toNat < q.atoms.length) : K_statO_impl s q i := by
 refine con_x tbOk mixedW Tryz.func96 (by kernel_rfl) (.elem _ eAtom q.atoms (fun e15 => .call (.tup [.agg [.p none (.str (((lookS s.catalogue e15.name).1).name)), vI (((lookS s.catalogue e15.name).1).arity), vI (((lookS s.catalogue e15.name).1).rowCount), .p none (.sl 218 3 ((((lookS s.catalogue e15.name).1).groups).map eGroupStats))], vB ((lookS s.catalogue e15.name).2)]) [] <| .fin [])) ?_
 refine Eq.mpr (by kernel_rfl : _ = ((s.database.tables.map eTable).length ≤ 9223372036854775807 → (s.catalogue.tables.map eTableStats).length ≤ 9223372036854775807 → (s.dependencies.map eDependency).length ≤ 9223372036854775807 → (s.inclusions.map eInclusion).length ≤ 9223372036854775807 → (q.atoms.map eAtom).length ≤ 9223372036854775807 → 0 ≤ i ∧ Em eAtom q.atoms ((i).toNat) fun e15 => Con Tryz.prog 122 [.agg [.int .i64 s.catalogue.version, .sl 121 4 (s.catalogue.tables.map eTableStats)], .one (.str e15.name)] (.tup [.agg [.p none (.str (((lookS s.catalogue e15.name).1).name)), vI (((lookS s.catalogue e15.name).1).arity), vI (((lookS s.catalogue e15.name).1).rowCount), .p none (.sl 218 3 ((((lookS s.catalogue e15.name).1).groups).map eGroupStats))], vB ((lookS s.catalogue e15.name).2)]) [] ∧ (((lookS s.catalogue e15.name).1).name) = ((statAt s q i.toNat).name) ∧ (((lookS s.catalogue e15.name).1).arity) = ((statAt s q i.toNat).arity) ∧ (((lookS s.catalogue e15.name).1).rowCount) = ((statAt s q i.toNat).rowCount) ∧ (((lookS s.catalogue e15.name).1).groups).map eGroupStats = ((statAt s q i.toNat).groups).map eGroupStats ∧ True)) ?_
 intro n0 n1 n2 n3 n4
 simp only [List.length_map] at n0 n1 n2 n3 n4
 have hS : cStore s = cDatabase s.database + cCatalogue s.catalogue + cDependencyS s.dependencies + cInclusionS s.inclusions := rfl
 have hI := cInclusionS_len s.inclusions
 refine ⟨by omega, rfl, by omega, fun e15 h15 => ?_⟩
 refine ⟨con_stl (look_impl s.catalogue e15.name (by omega)) rfl, ?_, ?_, ?_, ?_, trivial⟩
 ·(rw [statAt, getD_at h15] <;> rfl)
 ·(rw [statAt, getD_at h15] <;> rfl)
 ·(rw [statAt, getD_at h15] <;> rfl)
 ·(rw [statAt, getD_at h15] <;> rfl)
abbrev k_statO_spec (s : StoreD) (q : QueryD) (i : Int) : AV × List (Nat × Rs) := (.agg [.p none (.str ((statAt s q i.toNat).name)), vI ((statAt s q i.toNat).arity), vI ((statAt s q i.toNat).rowCount), .p none (.sl 218 3 (((statAt s q i.toNat).groups).map eGroupStats))], [])
abbrev K_statO_spec (s : StoreD) (q : QueryD) (i : Int) : Prop := Con Tryz.prog 92 [.agg [.sl 162 3 (s.database.tables.map eTable), .int .i64 s.catalogue.version, .sl 121 4 (s.catalogue.tables.map eTableStats), .sl 168 3 (s.dependencies.map eDependency), .sl 170 4 (s.inclusions.map eInclusion)], .agg [.int .i64 q.variableCount, .sl 131 2 (q.atoms.map eAtom)], .one (.int .i64 i)] (k_statO_spec s q i).1 (k_statO_spec s q i).2
theorem statO_spec (s : StoreD) (q : QueryD) (i : Int) (hc : cStore s ≤ 1048576) (hi : 0 ≤ i ∧ i.toNat < q.atoms.length) : K_statO_spec s q i := by
 refine con_x tbOk mixedW Tryz.func92 (by kernel_rfl) (.elem _ eAtom q.atoms (fun e15 => .call (.tup [.agg [.p none (.str (((lookS s.catalogue e15.name).1).name)), vI (((lookS s.catalogue e15.name).1).arity), vI (((lookS s.catalogue e15.name).1).rowCount), .p none (.sl 218 3 ((((lookS s.catalogue e15.name).1).groups).map eGroupStats))], vB ((lookS s.catalogue e15.name).2)]) [] <| .fin [])) ?_
 refine Eq.mpr (by kernel_rfl : _ = ((s.database.tables.map eTable).length ≤ 9223372036854775807 → (s.catalogue.tables.map eTableStats).length ≤ 9223372036854775807 → (s.dependencies.map eDependency).length ≤ 9223372036854775807 → (s.inclusions.map eInclusion).length ≤ 9223372036854775807 → (q.atoms.map eAtom).length ≤ 9223372036854775807 → 0 ≤ i ∧ Em eAtom q.atoms ((i).toNat) fun e15 => Con Tryz.prog 166 [.agg [.int .i64 s.catalogue.version, .sl 121 4 (s.catalogue.tables.map eTableStats)], .one (.str e15.name)] (.tup [.agg [.p none (.str (((lookS s.catalogue e15.name).1).name)), vI (((lookS s.catalogue e15.name).1).arity), vI (((lookS s.catalogue e15.name).1).rowCount), .p none (.sl 218 3 ((((lookS s.catalogue e15.name).1).groups).map eGroupStats))], vB ((lookS s.catalogue e15.name).2)]) [] ∧ (((lookS s.catalogue e15.name).1).name) = ((statAt s q i.toNat).name) ∧ (((lookS s.catalogue e15.name).1).arity) = ((statAt s q i.toNat).arity) ∧ (((lookS s.catalogue e15.name).1).rowCount) = ((statAt s q i.toNat).rowCount) ∧ (((lookS s.catalogue e15.name).1).groups).map eGroupStats = ((statAt s q i.toNat).groups).map eGroupStats ∧ True)) ?_
 intro n0 n1 n2 n3 n4
 simp only [List.length_map] at n0 n1 n2 n3 n4
 have hS : cStore s = cDatabase s.database + cCatalogue s.catalogue + cDependencyS s.dependencies + cInclusionS s.inclusions := rfl
 have hI := cInclusionS_len s.inclusions
 refine ⟨by omega, rfl, by omega, fun e15 h15 => ?_⟩
 refine ⟨con_stl (look_spec s.catalogue e15.name (by omega)) rfl, ?_, ?_, ?_, ?_, trivial⟩
 ·(rw [statAt, getD_at h15] <;> rfl)
 ·(rw [statAt, getD_at h15] <;> rfl)
 ·(rw [statAt, getD_at h15] <;> rfl)
 ·(rw [statAt, getD_at h15] <;> rfl)
theorem statAt_small {s : StoreD} (q : QueryD) (i : Nat) (hc : cStore s ≤ 1048576) : cTableStats (statAt s q i) ≤ 1048576 := by
  have h1 := lookS_small s.catalogue (q.atoms.getD i zAtom).name
  have hS : cStore s = cDatabase s.database + cCatalogue s.catalogue + cDependencyS s.dependencies + cInclusionS s.inclusions := rfl
  unfold statAt
  omega
theorem atom_vars {s : StoreD} {q : QueryD} {i : Nat} {a : AtomD} (h : isQFor s.database q = true) (ha : q.atoms[i]? = some a) : 1 ≤ a.vars.length ∧ a.vars.length ≤ 3 :=
  (atom_parts ((okQ_parts (isQ_parts h).1).2.2 a (List.mem_of_getElem? ha))).2.1
abbrev K_adeg_impl (s : StoreD) (q : QueryD) (i : Int) (l : List Int) : Prop := Con Tryz.prog 103 [.agg [.sl 162 3 (s.database.tables.map eTable), .int .i64 s.catalogue.version, .sl 121 4 (s.catalogue.tables.map eTableStats), .sl 168 3 (s.dependencies.map eDependency), .sl 170 4 (s.inclusions.map eInclusion)], .agg [.int .i64 q.variableCount, .sl 131 2 (q.atoms.map eAtom)], .one (.int .i64 i), .one (.sl 3 1 (l.map intD))] (vI (atomDeg s q i.toNat l)) []
theorem adeg_impl (s : StoreD) (q : QueryD) (i : Int) (l : List Int) (hc : cStore s ≤ 1048576) (hi : 0 ≤ i ∧ i.toNat < q.atoms.length) (hq2 : isQFor s.database q = true) : K_adeg_impl s q i l := by
 refine con_x tbOk mixedW Tryz.func103 (by kernel_rfl) (callP (k_statO_impl s q i) <| .elem _ eAtom q.atoms (fun e16 => callP (k_acol_impl e16 l) <| .call (vI ((seqS (statAt s q i.toNat) (atomCols e16 l)).getD 0 0)) [] <| .fin [])) ?_
 refine Eq.mpr (by kernel_rfl : _ = ((s.database.tables.map eTable).length ≤ 9223372036854775807 → (s.catalogue.tables.map eTableStats).length ≤ 9223372036854775807 → (s.dependencies.map eDependency).length ≤ 9223372036854775807 → (s.inclusions.map eInclusion).length ≤ 9223372036854775807 → (q.atoms.map eAtom).length ≤ 9223372036854775807 → (l.map intD).length ≤ 9223372036854775807 → K_statO_impl s q i ∧ 0 ≤ i ∧ Em eAtom q.atoms ((i).toNat) fun e16 => K_acol_impl e16 l ∧ K_sdeg_impl (statAt s q i.toNat) (atomCols e16 l) ∧ ((seqS (statAt s q i.toNat) (atomCols e16 l)).getD 0 0) = (atomDeg s q i.toNat l) ∧ True)) ?_
 intro n0 n1 n2 n3 n4 n5
 simp only [List.length_map] at n0 n1 n2 n3 n4 n5
 have hst := statAt_small q i.toNat hc
 refine ⟨statO_impl s q i (by omega) (by first | assumption | exact ⟨by omega, by omega⟩), by omega, rfl, by omega, fun e16 h16 => ?_⟩
 have wv16 := atom_vars hq2 h16
 have wl16 := atomCols_len e16 l
 refine ⟨acol_impl _ l (by omega), sdeg_impl (statAt s q i.toNat) (atomCols e16 l) (by omega) (by omega), ?_, trivial⟩
 ·(rw [atomDeg, getD_at h16])
abbrev K_degA_impl (s : StoreD) (q : QueryD) (i : Int) (l : List Int) : Prop := Con Tryz.prog 37 [.agg [.sl 162 3 (s.database.tables.map eTable), .int .i64 s.catalogue.version, .sl 121 4 (s.catalogue.tables.map eTableStats), .sl 168 3 (s.dependencies.map eDependency), .sl 170 4 (s.inclusions.map eInclusion)], .agg [.int .i64 q.variableCount, .sl 131 2 (q.atoms.map eAtom)], .one (.int .i64 i), .one (.sl 3 1 (l.map intD))] (vI (degA s q i l)) []
theorem degA_impl (s : StoreD) (q : QueryD) (i : Int) (l : List Int) (hc : cStore s ≤ 1048576) : K_degA_impl s q i l := by
 refine con_x tbOk mixedW Tryz.func37 (by kernel_rfl) (.call (vB (qOk s q (1 : Int))) [] <| .br (.fin []) (.len q.atoms.length <| .call (vB (inB i (0 : Int) (((q.atoms.length : Nat) : Int) - (1 : Int)))) [] <| .lit <| .lit <| .br (.fin []) (.call (vI (atomDeg s q i.toNat l)) [] <| .fin []))) ?_
 refine Eq.mpr (by kernel_rfl : _ = ((s.database.tables.map eTable).length ≤ 9223372036854775807 → (s.catalogue.tables.map eTableStats).length ≤ 9223372036854775807 → (s.dependencies.map eDependency).length ≤ 9223372036854775807 → (s.inclusions.map eInclusion).length ≤ 9223372036854775807 → (q.atoms.map eAtom).length ≤ 9223372036854775807 → (l.map intD).length ≤ 9223372036854775807 → K_qOk_impl s q (1 : Int) ∧ (((!(qOk s q (1 : Int))) = true → (-1 : Int) = (degA s q i l) ∧ True) ∧ ((!(qOk s q (1 : Int))) = false → Lm eAtom q.atoms ∧ (inR (((q.atoms.length : Nat) : Int) - (1 : Int)) ∧ (K_in_impl i (0 : Int) (((q.atoms.length : Nat) : Int) - (1 : Int)) ∧ (((!(inB i (0 : Int) (((q.atoms.length : Nat) : Int) - (1 : Int)))) = true → (-1 : Int) = (degA s q i l) ∧ True) ∧ ((!(inB i (0 : Int) (((q.atoms.length : Nat) : Int) - (1 : Int)))) = false → K_adeg_impl s q i l ∧ (atomDeg s q i.toNat l) = (degA s q i l) ∧ True)))))))) ?_
 intro n0 n1 n2 n3 n4 n5
 simp only [List.length_map] at n0 n1 n2 n3 n4 n5
 have hS : cStore s = cDatabase s.database + cCatalogue s.catalogue + cDependencyS s.dependencies + cInclusionS s.inclusions := rfl
 have hI := cInclusionS_len s.inclusions
 refine ⟨qOk_impl s q (1 : Int) (by omega), fun g13 => ?_, fun g13 => ?_⟩
 ·replace g13 := nt g13
  try (rw [qOk_one] at g13)
  have hbad : atOk s q i = false := by first | (rw [atOk, g13]; rfl) | (rw [atOk, g13, c0]; rfl)
  refine ⟨?_, trivial⟩
  ·first | (rw [degA_no hbad]; done) | (rw [degA_yes hok]; done) | (rw [degA_yes hok, atomDeg, getD_at h31])
 ·replace g13 := nf g13
  refine ⟨List.length_map _, ⟨by omega, by omega⟩, in_impl _ _ _, fun c0 => ?_, fun c0 => ?_⟩
  ·replace c0 := nt c0
   try (rw [qOk_one] at g13)
   have hbad : atOk s q i = false := by first | (rw [atOk, g13]; rfl) | (rw [atOk, g13, c0]; rfl)
   refine ⟨?_, trivial⟩
   ·first | (rw [degA_no hbad]; done) | (rw [degA_yes hok]; done) | (rw [degA_yes hok, atomDeg, getD_at h31])
  ·replace c0 := nf c0
   try (rw [qOk_one] at g13)
   have hok : atOk s q i = true := by rw [atOk, g13, c0]; rfl
   obtain ⟨hq0, hi⟩ := atOk_parts hok
   obtain ⟨hq1, hq2, _⟩ := qOk_parts hq0
   have hst := statAt_small q i.toNat hc
   refine ⟨adeg_impl s q i l (by omega) (by first | assumption | exact ⟨by omega, by omega⟩) (by assumption), ?_, trivial⟩
   ·first | (rw [degA_no hbad]; done) | (rw [degA_yes hok]; done) | (rw [degA_yes hok, atomDeg, getD_at h31])
abbrev K_degA_spec (s : StoreD) (q : QueryD) (i : Int) (l : List Int) : Prop := Con Tryz.prog 35 [.agg [.sl 162 3 (s.database.tables.map eTable), .int .i64 s.catalogue.version, .sl 121 4 (s.catalogue.tables.map eTableStats), .sl 168 3 (s.dependencies.map eDependency), .sl 170 4 (s.inclusions.map eInclusion)], .agg [.int .i64 q.variableCount, .sl 131 2 (q.atoms.map eAtom)], .one (.int .i64 i), .one (.sl 3 1 (l.map intD))] (vI (degA s q i l)) []
theorem degA_spec (s : StoreD) (q : QueryD) (i : Int) (l : List Int) (hc : cStore s ≤ 1048576) : K_degA_spec s q i l := by
 refine con_x tbOk mixedW Tryz.func35 (by kernel_rfl) (.call (vI (fullM q)) [] <| .call (vB (qOk s q (fullM q))) [] <| .br (.fin []) (.len q.atoms.length <| .call (vB (inB i (0 : Int) (((q.atoms.length : Nat) : Int) - (1 : Int)))) [] <| .lit <| .lit <| .br (.fin []) (callP (k_statO_spec s q i) <| .elem _ eAtom q.atoms (fun e31 => callP (k_acol_spec e31 l) <| .call (vI ((seqS (statAt s q i.toNat) (atomCols e31 l)).getD 0 0)) [] <| .fin [])))) ?_
 refine Eq.mpr (by kernel_rfl : _ = ((s.database.tables.map eTable).length ≤ 9223372036854775807 → (s.catalogue.tables.map eTableStats).length ≤ 9223372036854775807 → (s.dependencies.map eDependency).length ≤ 9223372036854775807 → (s.inclusions.map eInclusion).length ≤ 9223372036854775807 → (q.atoms.map eAtom).length ≤ 9223372036854775807 → (l.map intD).length ≤ 9223372036854775807 → K_full_spec q ∧ (K_qOk_spec s q (fullM q) ∧ (((!(qOk s q (fullM q))) = true → (-1 : Int) = (degA s q i l) ∧ True) ∧ ((!(qOk s q (fullM q))) = false → Lm eAtom q.atoms ∧ (inR (((q.atoms.length : Nat) : Int) - (1 : Int)) ∧ (K_in_spec i (0 : Int) (((q.atoms.length : Nat) : Int) - (1 : Int)) ∧ (((!(inB i (0 : Int) (((q.atoms.length : Nat) : Int) - (1 : Int)))) = true → (-1 : Int) = (degA s q i l) ∧ True) ∧ ((!(inB i (0 : Int) (((q.atoms.length : Nat) : Int) - (1 : Int)))) = false → K_statO_spec s q i ∧ 0 ≤ i ∧ Em eAtom q.atoms ((i).toNat) fun e31 => K_acol_spec e31 l ∧ K_sdeg_spec (statAt s q i.toNat) (atomCols e31 l) ∧ ((seqS (statAt s q i.toNat) (atomCols e31 l)).getD 0 0) = (degA s q i l) ∧ True))))))))) ?_
 intro n0 n1 n2 n3 n4 n5
 simp only [List.length_map] at n0 n1 n2 n3 n4 n5
 have hS : cStore s = cDatabase s.database + cCatalogue s.catalogue + cDependencyS s.dependencies + cInclusionS s.inclusions := rfl
 have hI := cInclusionS_len s.inclusions
 refine ⟨full_spec _, qOk_spec s q (fullM q) (by omega), fun g15 => ?_, fun g15 => ?_⟩
 ·replace g15 := nt g15
  try (rw [qOk_one] at g15)
  have hbad : atOk s q i = false := by first | (rw [atOk, g15]; rfl) | (rw [atOk, g15, c0]; rfl)
  refine ⟨?_, trivial⟩
  ·first | (rw [degA_no hbad]; done) | (rw [degA_yes hok]; done) | (rw [degA_yes hok, atomDeg, getD_at h31])
 ·replace g15 := nf g15
  refine ⟨List.length_map _, ⟨by omega, by omega⟩, in_spec _ _ _, fun c0 => ?_, fun c0 => ?_⟩
  ·replace c0 := nt c0
   try (rw [qOk_one] at g15)
   have hbad : atOk s q i = false := by first | (rw [atOk, g15]; rfl) | (rw [atOk, g15, c0]; rfl)
   refine ⟨?_, trivial⟩
   ·first | (rw [degA_no hbad]; done) | (rw [degA_yes hok]; done) | (rw [degA_yes hok, atomDeg, getD_at h31])
  ·replace c0 := nf c0
   try (rw [qOk_one] at g15)
   have hok : atOk s q i = true := by rw [atOk, g15, c0]; rfl
   obtain ⟨hq0, hi⟩ := atOk_parts hok
   obtain ⟨hq1, hq2, _⟩ := qOk_parts hq0
   have hst := statAt_small q i.toNat hc
   refine ⟨statO_spec s q i (by omega) (by first | assumption | exact ⟨by omega, by omega⟩), by omega, rfl, by omega, fun e31 h31 => ?_⟩
   have wv31 := atom_vars hq2 h31
   have wl31 := atomCols_len e31 l
   refine ⟨acol_spec _ l (by omega), sdeg_spec (statAt s q i.toNat) (atomCols e31 l) (by omega) (by omega), ?_, trivial⟩
   ·first | (rw [degA_no hbad]; done) | (rw [degA_yes hok]; done) | (rw [degA_yes hok, atomDeg, getD_at h31])
abbrev k_to_IntS (x : List Int) : AV × List (Nat × Rs) := (.own 0, [(0, .arr 3 1 true (x.map intD))])
abbrev K_to_IntS (x : List Int) : Prop := Con Tryz.prog 36 [.one (.sl 3 1 (x.map intD))] (k_to_IntS x).1 (k_to_IntS x).2
theorem to_IntS (x : List Int) (hc : cIntS x ≤ 1048576) : K_to_IntS x := by
 refine con_x tbOk mixedW Tryz.func36 (by kernel_rfl) (.len x.length <| .mk x.length [.int .i64 (0 : Int)] ((List.replicate x.length (0 : Int)).map intD) <| .loop (Nat × (List Int)) (Q2 Nat (List Int)) [3, 4, 8, 9, 10, 11, 12, 13, 14, 15, 16, 17, 18, 19, 20] [700] (fun yy0 => [(3, .own 700), (4, vI (yy0.1 : Int))]) (fun yy0 => [(700, some (.arr 3 1 true (yy0.2.map intD)))]) (fun yy0 => yy0.1 ≤ x.length ∧ yy0.2 = x.take yy0.1 ++ List.replicate (x.length - yy0.1) (0 : Int)) (fun yy0 => x.length - yy0.1) (fun yy0 => .len x.length <| .br (.elem _ intD x (fun e18 => .len yy0.2.length <| .set Int intD yy0.2 (fun s5_7 => e18) (fun s5_7 => .back [(700, 700)]))) (.fin [(0, 700)]))) ?_
 refine Eq.mpr (by kernel_rfl : _ = ((x.map intD).length ≤ 9223372036854775807 → Lm intD x ∧ (((x.length : Nat) : Int) = ((x.length : Nat) : Int) ∧ ((x.length : Nat) : Int) = ((x.length : Nat) : Int) ∧ 8 * x.length ≤ 281474976710656 ∧ x.length ≤ 9223372036854775807 ∧ List.replicate x.length [.int .i64 (0 : Int)] = (List.replicate x.length (0 : Int)).map intD ∧ ((∃ (k : Nat) (out : List Int), (0 : Int) = (k : Int) ∧ (List.replicate x.length (0 : Int)).map intD = out.map intD ∧ k ≤ x.length ∧ out = x.take k ++ List.replicate (x.length - k) (0 : Int)) ∧ ∀ (k : Nat) (out : List Int), (k ≤ x.length ∧ out = x.take k ++ List.replicate (x.length - k) (0 : Int)) → Lm intD x ∧ (((decide ((k : Int) < ((x.length : Nat) : Int))) = true → 0 ≤ (k : Int) ∧ Em intD x k fun e18 => 0 ≤ (k : Int) ∧ Lm intD out ∧ (k : Int) < ((out.length : Nat) : Int) ∧ (out.map intD = out.map intD ∧ k < out.length ∧ ∀ s5_7, out[k]? = some s5_7 → flatB (intD s5_7) = true ∧ 0 + 1 ≤ (intD s5_7).length ∧ (intD s5_7).take 0 ++ [.int .i64 e18] ++ (intD s5_7).drop (0 + 1) = intD e18 ∧ inR ((k : Int) + (1 : Int)) ∧ ∃ (k' : Nat) (out' : List Int), ((k : Int) + (1 : Int)) = (k' : Int) ∧ (out.set k e18).map intD = out'.map intD ∧ (k' ≤ x.length ∧ out' = x.take k' ++ List.replicate (x.length - k') (0 : Int)) ∧ x.length - k' < x.length - k)) ∧ ((decide ((k : Int) < ((x.length : Nat) : Int))) = false → out.map intD = x.map intD ∧ True)))))) ?_
 intro n0
 simp only [List.length_map] at n0
 refine ⟨List.length_map _, rfl, rfl, by have := cIntS_len x; omega, by have := cIntS_len x; omega, by first | (rw [List.map_replicate]; done) | (rw [List.map_replicate]; rfl), ⟨0, List.replicate x.length (0 : Int), rfl, rfl, Nat.zero_le _, by simp⟩, fun k out ⟨hk, ho⟩ => ?_⟩
 have hl : out.length = x.length := by rw [ho]; exact fill_len hk
 refine ⟨List.length_map _, fun c0 => ?_, fun c0 => ?_⟩
 ·replace c0 := yq c0
  refine ⟨by omega, rfl, by omega, fun e18 h18 => ?_⟩
  refine ⟨by omega, List.length_map _, by omega, rfl, by omega, fun s5_7 hs5_7 => ⟨rfl, Nat.le_of_ble_eq_true rfl, rfl, ?_⟩⟩
  refine ⟨⟨by omega, by omega⟩, ?_⟩
  exact ⟨k + 1, out.set k e18, rfl, rfl, ⟨by omega, by rw [ho]; exact fill_step ‹x[k]? = some _›⟩, by omega⟩
 ·replace c0 := nq c0
  refine ⟨?_, trivial⟩
  ·rw [ho, fill_done hk (by omega)]
abbrev k_to_IntSS (x : List (List Int)) : AV × List (Nat × Rs) := (.own 0, [(0, .arr 32 1 true (x.map eIntS))])
abbrev K_to_IntSS (x : List (List Int)) : Prop := Con Tryz.prog 260 [.one (.sl 32 1 (x.map eIntS))] (k_to_IntSS x).1 (k_to_IntSS x).2
theorem to_IntSS (x : List (List Int)) (hc : cIntSS x ≤ 1048576) : K_to_IntSS x := by
 refine con_x tbOk mixedW Tryz.func260 (by kernel_rfl) (.len x.length <| .mk x.length [.sl 3 1 (([] : List Int).map intD)] ((List.replicate x.length ([] : List Int)).map eIntS) <| .loop (Nat × (List (List Int))) (Q2 Nat (List (List Int))) [3, 4, 8, 9, 10, 11, 12, 13, 14, 15, 16, 17, 18, 19, 20, 21] [700, 2000] (fun yy0 => [(3, .own 700), (4, vI (yy0.1 : Int))]) (fun yy0 => [(700, some (.arr 32 1 true (yy0.2.map eIntS)))]) (fun yy0 => yy0.1 ≤ x.length ∧ yy0.2 = x.take yy0.1 ++ List.replicate (x.length - yy0.1) ([] : List Int)) (fun yy0 => x.length - yy0.1) (fun yy0 => .len x.length <| .br (.elem _ eIntS x (fun e18 => callP (k_to_IntS e18) <| .len yy0.2.length <| .setm (List Int) eIntS yy0.2 (fun s5_8 => e18) (fun s5_8 => .back [(700, 700)]))) (.fin [(0, 700)]))) ?_
 refine Eq.mpr (by kernel_rfl : _ = ((x.map eIntS).length ≤ 9223372036854775807 → Lm eIntS x ∧ (((x.length : Nat) : Int) = ((x.length : Nat) : Int) ∧ ((x.length : Nat) : Int) = ((x.length : Nat) : Int) ∧ 24 * x.length ≤ 281474976710656 ∧ x.length ≤ 9223372036854775807 ∧ List.replicate x.length [.sl 3 1 (([] : List Int).map intD)] = (List.replicate x.length ([] : List Int)).map eIntS ∧ ((∃ (k : Nat) (out : List (List Int)), (0 : Int) = (k : Int) ∧ (List.replicate x.length ([] : List Int)).map eIntS = out.map eIntS ∧ k ≤ x.length ∧ out = x.take k ++ List.replicate (x.length - k) ([] : List Int)) ∧ ∀ (k : Nat) (out : List (List Int)), (k ≤ x.length ∧ out = x.take k ++ List.replicate (x.length - k) ([] : List Int)) → Lm eIntS x ∧ (((decide ((k : Int) < ((x.length : Nat) : Int))) = true → 0 ≤ (k : Int) ∧ Em eIntS x k fun e18 => K_to_IntS e18 ∧ (0 ≤ (k : Int) ∧ Lm eIntS out ∧ (k : Int) < ((out.length : Nat) : Int) ∧ (out.map eIntS = out.map eIntS ∧ k < out.length ∧ ∀ s5_8, out[k]? = some s5_8 → 0 + 1 ≤ (eIntS s5_8).length ∧ (eIntS s5_8).take 0 ++ ((eIntS e18).drop 0).take 1 ++ (eIntS s5_8).drop (0 + 1) = eIntS e18 ∧ e18.map intD = e18.map intD ∧ inR ((k : Int) + (1 : Int)) ∧ ∃ (k' : Nat) (out' : List (List Int)), ((k : Int) + (1 : Int)) = (k' : Int) ∧ (out.set k e18).map eIntS = out'.map eIntS ∧ (k' ≤ x.length ∧ out' = x.take k' ++ List.replicate (x.length - k') ([] : List Int)) ∧ x.length - k' < x.length - k))) ∧ ((decide ((k : Int) < ((x.length : Nat) : Int))) = false → out.map eIntS = x.map eIntS ∧ True)))))) ?_
 intro n0
 simp only [List.length_map] at n0
 refine ⟨List.length_map _, rfl, rfl, by have := cIntSS_len x; omega, by have := cIntSS_len x; omega, by first | (rw [List.map_replicate]; done) | (rw [List.map_replicate]; rfl), ⟨0, List.replicate x.length ([] : List Int), rfl, rfl, Nat.zero_le _, by simp⟩, fun k out ⟨hk, ho⟩ => ?_⟩
 have hl : out.length = x.length := by rw [ho]; exact fill_len hk
 refine ⟨List.length_map _, fun c0 => ?_, fun c0 => ?_⟩
 ·replace c0 := yq c0
  refine ⟨by omega, rfl, by omega, fun e18 h18 => ?_⟩
  refine ⟨to_IntS e18 (by first | omega | (have := cIntSS_el ‹x[k]? = some _›; omega)), by omega, List.length_map _, by omega, rfl, by omega, fun s5_8 hs5_8 => ?_⟩
  refine ⟨Nat.le_of_ble_eq_true rfl, rfl, rfl, ⟨by omega, by omega⟩, ?_⟩
  exact ⟨k + 1, out.set k e18, rfl, rfl, ⟨by omega, by rw [ho]; exact fill_step ‹x[k]? = some _›⟩, by omega⟩
 ·replace c0 := nq c0
  refine ⟨?_, trivial⟩
  ·rw [ho, fill_done hk (by omega)]
abbrev k_to_Table (x : TableD) : AV × List (Nat × Rs) := (.agg [.p none (.str x.name), vI x.arity, .own 0], [(0, .arr 32 1 true (x.rows.map eIntS))])
abbrev K_to_Table (x : TableD) : Prop := Con Tryz.prog 218 [.agg [.str x.name, .int .i64 x.arity, .sl 32 1 (x.rows.map eIntS)]] (k_to_Table x).1 (k_to_Table x).2
theorem to_Table (x : TableD) (hc : cTable x ≤ 1048576) : K_to_Table x := by
 refine con_x tbOk mixedW Tryz.func218 (by kernel_rfl) (callP (k_to_IntSS x.rows) <| .fin [(0, 1200)]) ?_
 refine Eq.mpr (by kernel_rfl : _ = ((x.rows.map eIntS).length ≤ 9223372036854775807 → K_to_IntSS x.rows ∧ x.name = x.name ∧ x.arity = x.arity ∧ x.rows.map eIntS = x.rows.map eIntS ∧ True)) ?_
 intro n0
 simp only [List.length_map] at n0
 unfold cTable at hc
 refine ⟨to_IntSS x.rows (by first | omega | (have := cIntSSS_el ‹x[k]? = some _›; omega)), ?_⟩
 exact ⟨rfl, rfl, rfl, trivial⟩
abbrev k_to_TableS (x : List TableD) : AV × List (Nat × Rs) := (.own 0, [(0, .arr 162 3 true (x.map eTable))])
abbrev K_to_TableS (x : List TableD) : Prop := Con Tryz.prog 140 [.one (.sl 162 3 (x.map eTable))] (k_to_TableS x).1 (k_to_TableS x).2
theorem to_TableS (x : List TableD) (hc : cTableS x ≤ 1048576) : K_to_TableS x := by
 refine con_x tbOk mixedW Tryz.func140 (by kernel_rfl) (.len x.length <| .mk x.length [.str zTable.name, .int .i64 zTable.arity, .sl 32 1 (zTable.rows.map eIntS)] ((List.replicate x.length zTable).map eTable) <| .loop (Nat × (List TableD)) (Q2 Nat (List TableD)) [3, 4, 8, 9, 10, 11, 12, 13, 14, 15, 16, 17, 18, 19, 20, 21] [700, 2000] (fun yy0 => [(3, .own 700), (4, vI (yy0.1 : Int))]) (fun yy0 => [(700, some (.arr 162 3 true (yy0.2.map eTable)))]) (fun yy0 => yy0.1 ≤ x.length ∧ yy0.2 = x.take yy0.1 ++ List.replicate (x.length - yy0.1) zTable) (fun yy0 => x.length - yy0.1) (fun yy0 => .len x.length <| .br (.elem _ eTable x (fun e18 => callP (k_to_Table e18) <| .len yy0.2.length <| .setm TableD eTable yy0.2 (fun s5_8 => e18) (fun s5_8 => .back [(700, 700)]))) (.fin [(0, 700)]))) ?_
 refine Eq.mpr (by kernel_rfl : _ = ((x.map eTable).length ≤ 9223372036854775807 → Lm eTable x ∧ (((x.length : Nat) : Int) = ((x.length : Nat) : Int) ∧ ((x.length : Nat) : Int) = ((x.length : Nat) : Int) ∧ 48 * x.length ≤ 281474976710656 ∧ x.length ≤ 9223372036854775807 ∧ List.replicate x.length [.str zTable.name, .int .i64 zTable.arity, .sl 32 1 (zTable.rows.map eIntS)] = (List.replicate x.length zTable).map eTable ∧ ((∃ (k : Nat) (out : List TableD), (0 : Int) = (k : Int) ∧ (List.replicate x.length zTable).map eTable = out.map eTable ∧ k ≤ x.length ∧ out = x.take k ++ List.replicate (x.length - k) zTable) ∧ ∀ (k : Nat) (out : List TableD), (k ≤ x.length ∧ out = x.take k ++ List.replicate (x.length - k) zTable) → Lm eTable x ∧ (((decide ((k : Int) < ((x.length : Nat) : Int))) = true → 0 ≤ (k : Int) ∧ Em eTable x k fun e18 => K_to_Table e18 ∧ (0 ≤ (k : Int) ∧ Lm eTable out ∧ (k : Int) < ((out.length : Nat) : Int) ∧ (out.map eTable = out.map eTable ∧ k < out.length ∧ ∀ s5_8, out[k]? = some s5_8 → 0 + 3 ≤ (eTable s5_8).length ∧ (eTable s5_8).take 0 ++ ((eTable e18).drop 0).take 3 ++ (eTable s5_8).drop (0 + 3) = eTable e18 ∧ e18.name = e18.name ∧ e18.arity = e18.arity ∧ e18.rows.map eIntS = e18.rows.map eIntS ∧ inR ((k : Int) + (1 : Int)) ∧ ∃ (k' : Nat) (out' : List TableD), ((k : Int) + (1 : Int)) = (k' : Int) ∧ (out.set k e18).map eTable = out'.map eTable ∧ (k' ≤ x.length ∧ out' = x.take k' ++ List.replicate (x.length - k') zTable) ∧ x.length - k' < x.length - k))) ∧ ((decide ((k : Int) < ((x.length : Nat) : Int))) = false → out.map eTable = x.map eTable ∧ True)))))) ?_
 intro n0
 simp only [List.length_map] at n0
 refine ⟨List.length_map _, rfl, rfl, by have := cTableS_len x; omega, by have := cTableS_len x; omega, by first | (rw [List.map_replicate]; done) | (rw [List.map_replicate]; rfl), ⟨0, List.replicate x.length zTable, rfl, rfl, Nat.zero_le _, by simp⟩, fun k out ⟨hk, ho⟩ => ?_⟩
 have hl : out.length = x.length := by rw [ho]; exact fill_len hk
 refine ⟨List.length_map _, fun c0 => ?_, fun c0 => ?_⟩
 ·replace c0 := yq c0
  refine ⟨by omega, rfl, by omega, fun e18 h18 => ?_⟩
  refine ⟨to_Table e18 (by first | omega | (have := cTableS_el ‹x[k]? = some _›; omega)), by omega, List.length_map _, by omega, rfl, by omega, fun s5_8 hs5_8 => ?_⟩
  refine ⟨Nat.le_of_ble_eq_true rfl, rfl, rfl, rfl, rfl, ⟨by omega, by omega⟩, ?_⟩
  exact ⟨k + 1, out.set k e18, rfl, rfl, ⟨by omega, by rw [ho]; exact fill_step ‹x[k]? = some _›⟩, by omega⟩
 ·replace c0 := nq c0
  refine ⟨?_, trivial⟩
  ·rw [ho, fill_done hk (by omega)]
abbrev k_to_Database (x : DatabaseD) : AV × List (Nat × Rs) := (.agg [.own 0], [(0, .arr 162 3 true (x.tables.map eTable))])
abbrev K_to_Database (x : DatabaseD) : Prop := Con Tryz.prog 68 [.agg [.sl 162 3 (x.tables.map eTable)]] (k_to_Database x).1 (k_to_Database x).2
theorem to_Database (x : DatabaseD) (hc : cDatabase x ≤ 1048576) : K_to_Database x := by
 refine con_x tbOk mixedW Tryz.func68 (by kernel_rfl) (callP (k_to_TableS x.tables) <| .fin [(0, 600)]) ?_
 refine Eq.mpr (by kernel_rfl : _ = ((x.tables.map eTable).length ≤ 9223372036854775807 → K_to_TableS x.tables ∧ x.tables.map eTable = x.tables.map eTable ∧ True)) ?_
 intro n0
 simp only [List.length_map] at n0
 unfold cDatabase at hc
 refine ⟨to_TableS x.tables (by first | omega | (have := cTableSS_el ‹x[k]? = some _›; omega)), ?_⟩
 exact ⟨rfl, trivial⟩
abbrev k_to_GroupStats (x : GroupStatsD) : AV × List (Nat × Rs) := (.agg [.own 0, .own 1, .own 2], [(0, .arr 3 1 true (x.columns.map intD)), (1, .arr 32 1 true (x.values.map eIntS)), (2, .arr 3 1 true (x.counts.map intD))])
abbrev K_to_GroupStats (x : GroupStatsD) : Prop := Con Tryz.prog 282 [.agg [.sl 3 1 (x.columns.map intD), .sl 32 1 (x.values.map eIntS), .sl 3 1 (x.counts.map intD)]] (k_to_GroupStats x).1 (k_to_GroupStats x).2
theorem to_GroupStats (x : GroupStatsD) (hc : cGroupStats x ≤ 1048576) : K_to_GroupStats x := by
 refine con_x tbOk mixedW Tryz.func282 (by kernel_rfl) (callP (k_to_IntS x.columns) <| callP (k_to_IntSS x.values) <| callP (k_to_IntS x.counts) <| .fin [(0, 600), (1, 1000), (2, 1400)]) ?_
 refine Eq.mpr (by kernel_rfl : _ = ((x.columns.map intD).length ≤ 9223372036854775807 → (x.values.map eIntS).length ≤ 9223372036854775807 → (x.counts.map intD).length ≤ 9223372036854775807 → K_to_IntS x.columns ∧ K_to_IntSS x.values ∧ K_to_IntS x.counts ∧ x.columns.map intD = x.columns.map intD ∧ x.values.map eIntS = x.values.map eIntS ∧ x.counts.map intD = x.counts.map intD ∧ True)) ?_
 intro n0 n1 n2
 simp only [List.length_map] at n0 n1 n2
 unfold cGroupStats at hc
 refine ⟨to_IntS x.columns (by first | omega | (have := cIntSS_el ‹x[k]? = some _›; omega)), to_IntSS x.values (by first | omega | (have := cIntSSS_el ‹x[k]? = some _›; omega)), to_IntS x.counts (by first | omega | (have := cIntSS_el ‹x[k]? = some _›; omega)), ?_⟩
 exact ⟨rfl, rfl, rfl, trivial⟩
abbrev k_to_GroupStatsS (x : List GroupStatsD) : AV × List (Nat × Rs) := (.own 0, [(0, .arr 218 3 true (x.map eGroupStats))])
abbrev K_to_GroupStatsS (x : List GroupStatsD) : Prop := Con Tryz.prog 261 [.one (.sl 218 3 (x.map eGroupStats))] (k_to_GroupStatsS x).1 (k_to_GroupStatsS x).2
theorem to_GroupStatsS (x : List GroupStatsD) (hc : cGroupStatsS x ≤ 1048576) : K_to_GroupStatsS x := by
 refine con_x tbOk mixedW Tryz.func261 (by kernel_rfl) (.len x.length <| .mk x.length [.sl 3 1 (zGroupStats.columns.map intD), .sl 32 1 (zGroupStats.values.map eIntS), .sl 3 1 (zGroupStats.counts.map intD)] ((List.replicate x.length zGroupStats).map eGroupStats) <| .loop (Nat × (List GroupStatsD)) (Q2 Nat (List GroupStatsD)) [3, 4, 8, 9, 10, 11, 12, 13, 14, 15, 16, 17, 18, 19, 20, 21] [700, 2000, 2001, 2002] (fun yy0 => [(3, .own 700), (4, vI (yy0.1 : Int))]) (fun yy0 => [(700, some (.arr 218 3 true (yy0.2.map eGroupStats)))]) (fun yy0 => yy0.1 ≤ x.length ∧ yy0.2 = x.take yy0.1 ++ List.replicate (x.length - yy0.1) zGroupStats) (fun yy0 => x.length - yy0.1) (fun yy0 => .len x.length <| .br (.elem _ eGroupStats x (fun e18 => callP (k_to_GroupStats e18) <| .len yy0.2.length <| .setm GroupStatsD eGroupStats yy0.2 (fun s5_8 => e18) (fun s5_8 => .back [(700, 700)]))) (.fin [(0, 700)]))) ?_
 refine Eq.mpr (by kernel_rfl : _ = ((x.map eGroupStats).length ≤ 9223372036854775807 → Lm eGroupStats x ∧ (((x.length : Nat) : Int) = ((x.length : Nat) : Int) ∧ ((x.length : Nat) : Int) = ((x.length : Nat) : Int) ∧ 72 * x.length ≤ 281474976710656 ∧ x.length ≤ 9223372036854775807 ∧ List.replicate x.length [.sl 3 1 (zGroupStats.columns.map intD), .sl 32 1 (zGroupStats.values.map eIntS), .sl 3 1 (zGroupStats.counts.map intD)] = (List.replicate x.length zGroupStats).map eGroupStats ∧ ((∃ (k : Nat) (out : List GroupStatsD), (0 : Int) = (k : Int) ∧ (List.replicate x.length zGroupStats).map eGroupStats = out.map eGroupStats ∧ k ≤ x.length ∧ out = x.take k ++ List.replicate (x.length - k) zGroupStats) ∧ ∀ (k : Nat) (out : List GroupStatsD), (k ≤ x.length ∧ out = x.take k ++ List.replicate (x.length - k) zGroupStats) → Lm eGroupStats x ∧ (((decide ((k : Int) < ((x.length : Nat) : Int))) = true → 0 ≤ (k : Int) ∧ Em eGroupStats x k fun e18 => K_to_GroupStats e18 ∧ (0 ≤ (k : Int) ∧ Lm eGroupStats out ∧ (k : Int) < ((out.length : Nat) : Int) ∧ (out.map eGroupStats = out.map eGroupStats ∧ k < out.length ∧ ∀ s5_8, out[k]? = some s5_8 → 0 + 3 ≤ (eGroupStats s5_8).length ∧ (eGroupStats s5_8).take 0 ++ ((eGroupStats e18).drop 0).take 3 ++ (eGroupStats s5_8).drop (0 + 3) = eGroupStats e18 ∧ e18.columns.map intD = e18.columns.map intD ∧ e18.values.map eIntS = e18.values.map eIntS ∧ e18.counts.map intD = e18.counts.map intD ∧ inR ((k : Int) + (1 : Int)) ∧ ∃ (k' : Nat) (out' : List GroupStatsD), ((k : Int) + (1 : Int)) = (k' : Int) ∧ (out.set k e18).map eGroupStats = out'.map eGroupStats ∧ (k' ≤ x.length ∧ out' = x.take k' ++ List.replicate (x.length - k') zGroupStats) ∧ x.length - k' < x.length - k))) ∧ ((decide ((k : Int) < ((x.length : Nat) : Int))) = false → out.map eGroupStats = x.map eGroupStats ∧ True)))))) ?_
 intro n0
 simp only [List.length_map] at n0
 refine ⟨List.length_map _, rfl, rfl, by have := cGroupStatsS_len x; omega, by have := cGroupStatsS_len x; omega, by first | (rw [List.map_replicate]; done) | (rw [List.map_replicate]; rfl), ⟨0, List.replicate x.length zGroupStats, rfl, rfl, Nat.zero_le _, by simp⟩, fun k out ⟨hk, ho⟩ => ?_⟩
 have hl : out.length = x.length := by rw [ho]; exact fill_len hk
 refine ⟨List.length_map _, fun c0 => ?_, fun c0 => ?_⟩
 ·replace c0 := yq c0
  refine ⟨by omega, rfl, by omega, fun e18 h18 => ?_⟩
  refine ⟨to_GroupStats e18 (by first | omega | (have := cGroupStatsS_el ‹x[k]? = some _›; omega)), by omega, List.length_map _, by omega, rfl, by omega, fun s5_8 hs5_8 => ?_⟩
  refine ⟨Nat.le_of_ble_eq_true rfl, rfl, rfl, rfl, rfl, ⟨by omega, by omega⟩, ?_⟩
  exact ⟨k + 1, out.set k e18, rfl, rfl, ⟨by omega, by rw [ho]; exact fill_step ‹x[k]? = some _›⟩, by omega⟩
 ·replace c0 := nq c0
  refine ⟨?_, trivial⟩
  ·rw [ho, fill_done hk (by omega)]
abbrev k_to_TableStats (x : TableStatsD) : AV × List (Nat × Rs) := (.agg [.p none (.str x.name), vI x.arity, vI x.rowCount, .own 0], [(0, .arr 218 3 true (x.groups.map eGroupStats))])
abbrev K_to_TableStats (x : TableStatsD) : Prop := Con Tryz.prog 219 [.agg [.str x.name, .int .i64 x.arity, .int .i64 x.rowCount, .sl 218 3 (x.groups.map eGroupStats)]] (k_to_TableStats x).1 (k_to_TableStats x).2
theorem to_TableStats (x : TableStatsD) (hc : cTableStats x ≤ 1048576) : K_to_TableStats x := by
 refine con_x tbOk mixedW Tryz.func219 (by kernel_rfl) (callP (k_to_GroupStatsS x.groups) <| .fin [(0, 1500)]) ?_
 refine Eq.mpr (by kernel_rfl : _ = ((x.groups.map eGroupStats).length ≤ 9223372036854775807 → K_to_GroupStatsS x.groups ∧ x.name = x.name ∧ x.arity = x.arity ∧ x.rowCount = x.rowCount ∧ x.groups.map eGroupStats = x.groups.map eGroupStats ∧ True)) ?_
 intro n0
 simp only [List.length_map] at n0
 unfold cTableStats at hc
 refine ⟨to_GroupStatsS x.groups (by first | omega | (have := cGroupStatsSS_el ‹x[k]? = some _›; omega)), ?_⟩
 exact ⟨rfl, rfl, rfl, rfl, trivial⟩
abbrev k_to_TableStatsS (x : List TableStatsD) : AV × List (Nat × Rs) := (.own 0, [(0, .arr 121 4 true (x.map eTableStats))])
abbrev K_to_TableStatsS (x : List TableStatsD) : Prop := Con Tryz.prog 141 [.one (.sl 121 4 (x.map eTableStats))] (k_to_TableStatsS x).1 (k_to_TableStatsS x).2
theorem to_TableStatsS (x : List TableStatsD) (hc : cTableStatsS x ≤ 1048576) : K_to_TableStatsS x := by
 refine con_x tbOk mixedW Tryz.func141 (by kernel_rfl) (.len x.length <| .mk x.length [.str zTableStats.name, .int .i64 zTableStats.arity, .int .i64 zTableStats.rowCount, .sl 218 3 (zTableStats.groups.map eGroupStats)] ((List.replicate x.length zTableStats).map eTableStats) <| .loop (Nat × (List TableStatsD)) (Q2 Nat (List TableStatsD)) [3, 4, 8, 9, 10, 11, 12, 13, 14, 15, 16, 17, 18, 19, 20, 21] [700, 2000] (fun yy0 => [(3, .own 700), (4, vI (yy0.1 : Int))]) (fun yy0 => [(700, some (.arr 121 4 true (yy0.2.map eTableStats)))]) (fun yy0 => yy0.1 ≤ x.length ∧ yy0.2 = x.take yy0.1 ++ List.replicate (x.length - yy0.1) zTableStats) (fun yy0 => x.length - yy0.1) (fun yy0 => .len x.length <| .br (.elem _ eTableStats x (fun e18 => callP (k_to_TableStats e18) <| .len yy0.2.length <| .setm TableStatsD eTableStats yy0.2 (fun s5_8 => e18) (fun s5_8 => .back [(700, 700)]))) (.fin [(0, 700)]))) ?_
 refine Eq.mpr (by kernel_rfl : _ = ((x.map eTableStats).length ≤ 9223372036854775807 → Lm eTableStats x ∧ (((x.length : Nat) : Int) = ((x.length : Nat) : Int) ∧ ((x.length : Nat) : Int) = ((x.length : Nat) : Int) ∧ 56 * x.length ≤ 281474976710656 ∧ x.length ≤ 9223372036854775807 ∧ List.replicate x.length [.str zTableStats.name, .int .i64 zTableStats.arity, .int .i64 zTableStats.rowCount, .sl 218 3 (zTableStats.groups.map eGroupStats)] = (List.replicate x.length zTableStats).map eTableStats ∧ ((∃ (k : Nat) (out : List TableStatsD), (0 : Int) = (k : Int) ∧ (List.replicate x.length zTableStats).map eTableStats = out.map eTableStats ∧ k ≤ x.length ∧ out = x.take k ++ List.replicate (x.length - k) zTableStats) ∧ ∀ (k : Nat) (out : List TableStatsD), (k ≤ x.length ∧ out = x.take k ++ List.replicate (x.length - k) zTableStats) → Lm eTableStats x ∧ (((decide ((k : Int) < ((x.length : Nat) : Int))) = true → 0 ≤ (k : Int) ∧ Em eTableStats x k fun e18 => K_to_TableStats e18 ∧ (0 ≤ (k : Int) ∧ Lm eTableStats out ∧ (k : Int) < ((out.length : Nat) : Int) ∧ (out.map eTableStats = out.map eTableStats ∧ k < out.length ∧ ∀ s5_8, out[k]? = some s5_8 → 0 + 4 ≤ (eTableStats s5_8).length ∧ (eTableStats s5_8).take 0 ++ ((eTableStats e18).drop 0).take 4 ++ (eTableStats s5_8).drop (0 + 4) = eTableStats e18 ∧ e18.name = e18.name ∧ e18.arity = e18.arity ∧ e18.rowCount = e18.rowCount ∧ e18.groups.map eGroupStats = e18.groups.map eGroupStats ∧ inR ((k : Int) + (1 : Int)) ∧ ∃ (k' : Nat) (out' : List TableStatsD), ((k : Int) + (1 : Int)) = (k' : Int) ∧ (out.set k e18).map eTableStats = out'.map eTableStats ∧ (k' ≤ x.length ∧ out' = x.take k' ++ List.replicate (x.length - k') zTableStats) ∧ x.length - k' < x.length - k))) ∧ ((decide ((k : Int) < ((x.length : Nat) : Int))) = false → out.map eTableStats = x.map eTableStats ∧ True)))))) ?_
 intro n0
 simp only [List.length_map] at n0
 refine ⟨List.length_map _, rfl, rfl, by have := cTableStatsS_len x; omega, by have := cTableStatsS_len x; omega, by first | (rw [List.map_replicate]; done) | (rw [List.map_replicate]; rfl), ⟨0, List.replicate x.length zTableStats, rfl, rfl, Nat.zero_le _, by simp⟩, fun k out ⟨hk, ho⟩ => ?_⟩
 have hl : out.length = x.length := by rw [ho]; exact fill_len hk
 refine ⟨List.length_map _, fun c0 => ?_, fun c0 => ?_⟩
 ·replace c0 := yq c0
  refine ⟨by omega, rfl, by omega, fun e18 h18 => ?_⟩
  refine ⟨to_TableStats e18 (by first | omega | (have := cTableStatsS_el ‹x[k]? = some _›; omega)), by omega, List.length_map _, by omega, rfl, by omega, fun s5_8 hs5_8 => ?_⟩
  refine ⟨Nat.le_of_ble_eq_true rfl, rfl, rfl, rfl, rfl, rfl, ⟨by omega, by omega⟩, ?_⟩
  exact ⟨k + 1, out.set k e18, rfl, rfl, ⟨by omega, by rw [ho]; exact fill_step ‹x[k]? = some _›⟩, by omega⟩
 ·replace c0 := nq c0
  refine ⟨?_, trivial⟩
  ·rw [ho, fill_done hk (by omega)]
abbrev k_to_Catalogue (x : CatalogueD) : AV × List (Nat × Rs) := (.agg [vI x.version, .own 0], [(0, .arr 121 4 true (x.tables.map eTableStats))])
abbrev K_to_Catalogue (x : CatalogueD) : Prop := Con Tryz.prog 69 [.agg [.int .i64 x.version, .sl 121 4 (x.tables.map eTableStats)]] (k_to_Catalogue x).1 (k_to_Catalogue x).2
theorem to_Catalogue (x : CatalogueD) (hc : cCatalogue x ≤ 1048576) : K_to_Catalogue x := by
 refine con_x tbOk mixedW Tryz.func69 (by kernel_rfl) (callP (k_to_TableStatsS x.tables) <| .fin [(0, 900)]) ?_
 refine Eq.mpr (by kernel_rfl : _ = ((x.tables.map eTableStats).length ≤ 9223372036854775807 → K_to_TableStatsS x.tables ∧ x.version = x.version ∧ x.tables.map eTableStats = x.tables.map eTableStats ∧ True)) ?_
 intro n0
 simp only [List.length_map] at n0
 unfold cCatalogue at hc
 refine ⟨to_TableStatsS x.tables (by first | omega | (have := cTableStatsSS_el ‹x[k]? = some _›; omega)), ?_⟩
 exact ⟨rfl, rfl, trivial⟩
abbrev k_to_Dependency (x : DependencyD) : AV × List (Nat × Rs) := (.agg [.p none (.str x.name), .own 0, vI x.dst], [(0, .arr 3 1 true (x.src.map intD))])
abbrev K_to_Dependency (x : DependencyD) : Prop := Con Tryz.prog 142 [.agg [.str x.name, .sl 3 1 (x.src.map intD), .int .i64 x.dst]] (k_to_Dependency x).1 (k_to_Dependency x).2
theorem to_Dependency (x : DependencyD) (hc : cDependency x ≤ 1048576) : K_to_Dependency x := by
 refine con_x tbOk mixedW Tryz.func142 (by kernel_rfl) (callP (k_to_IntS x.src) <| .fin [(0, 900)]) ?_
 refine Eq.mpr (by kernel_rfl : _ = ((x.src.map intD).length ≤ 9223372036854775807 → K_to_IntS x.src ∧ x.name = x.name ∧ x.dst = x.dst ∧ x.src.map intD = x.src.map intD ∧ True)) ?_
 intro n0
 simp only [List.length_map] at n0
 unfold cDependency at hc
 refine ⟨to_IntS x.src (by first | omega | (have := cIntSS_el ‹x[k]? = some _›; omega)), ?_⟩
 exact ⟨rfl, rfl, rfl, trivial⟩
abbrev k_to_DependencyS (x : List DependencyD) : AV × List (Nat × Rs) := (.own 0, [(0, .arr 168 3 true (x.map eDependency))])
abbrev K_to_DependencyS (x : List DependencyD) : Prop := Con Tryz.prog 70 [.one (.sl 168 3 (x.map eDependency))] (k_to_DependencyS x).1 (k_to_DependencyS x).2
theorem to_DependencyS (x : List DependencyD) (hc : cDependencyS x ≤ 1048576) : K_to_DependencyS x := by
 refine con_x tbOk mixedW Tryz.func70 (by kernel_rfl) (.len x.length <| .mk x.length [.str zDependency.name, .sl 3 1 (zDependency.src.map intD), .int .i64 zDependency.dst] ((List.replicate x.length zDependency).map eDependency) <| .loop (Nat × (List DependencyD)) (Q2 Nat (List DependencyD)) [3, 4, 8, 9, 10, 11, 12, 13, 14, 15, 16, 17, 18, 19, 20, 21] [700, 2000] (fun yy0 => [(3, .own 700), (4, vI (yy0.1 : Int))]) (fun yy0 => [(700, some (.arr 168 3 true (yy0.2.map eDependency)))]) (fun yy0 => yy0.1 ≤ x.length ∧ yy0.2 = x.take yy0.1 ++ List.replicate (x.length - yy0.1) zDependency) (fun yy0 => x.length - yy0.1) (fun yy0 => .len x.length <| .br (.elem _ eDependency x (fun e18 => callP (k_to_Dependency e18) <| .len yy0.2.length <| .setm DependencyD eDependency yy0.2 (fun s5_8 => e18) (fun s5_8 => .back [(700, 700)]))) (.fin [(0, 700)]))) ?_
 refine Eq.mpr (by kernel_rfl : _ = ((x.map eDependency).length ≤ 9223372036854775807 → Lm eDependency x ∧ (((x.length : Nat) : Int) = ((x.length : Nat) : Int) ∧ ((x.length : Nat) : Int) = ((x.length : Nat) : Int) ∧ 48 * x.length ≤ 281474976710656 ∧ x.length ≤ 9223372036854775807 ∧ List.replicate x.length [.str zDependency.name, .sl 3 1 (zDependency.src.map intD), .int .i64 zDependency.dst] = (List.replicate x.length zDependency).map eDependency ∧ ((∃ (k : Nat) (out : List DependencyD), (0 : Int) = (k : Int) ∧ (List.replicate x.length zDependency).map eDependency = out.map eDependency ∧ k ≤ x.length ∧ out = x.take k ++ List.replicate (x.length - k) zDependency) ∧ ∀ (k : Nat) (out : List DependencyD), (k ≤ x.length ∧ out = x.take k ++ List.replicate (x.length - k) zDependency) → Lm eDependency x ∧ (((decide ((k : Int) < ((x.length : Nat) : Int))) = true → 0 ≤ (k : Int) ∧ Em eDependency x k fun e18 => K_to_Dependency e18 ∧ (0 ≤ (k : Int) ∧ Lm eDependency out ∧ (k : Int) < ((out.length : Nat) : Int) ∧ (out.map eDependency = out.map eDependency ∧ k < out.length ∧ ∀ s5_8, out[k]? = some s5_8 → 0 + 3 ≤ (eDependency s5_8).length ∧ (eDependency s5_8).take 0 ++ ((eDependency e18).drop 0).take 3 ++ (eDependency s5_8).drop (0 + 3) = eDependency e18 ∧ e18.name = e18.name ∧ e18.src.map intD = e18.src.map intD ∧ e18.dst = e18.dst ∧ inR ((k : Int) + (1 : Int)) ∧ ∃ (k' : Nat) (out' : List DependencyD), ((k : Int) + (1 : Int)) = (k' : Int) ∧ (out.set k e18).map eDependency = out'.map eDependency ∧ (k' ≤ x.length ∧ out' = x.take k' ++ List.replicate (x.length - k') zDependency) ∧ x.length - k' < x.length - k))) ∧ ((decide ((k : Int) < ((x.length : Nat) : Int))) = false → out.map eDependency = x.map eDependency ∧ True)))))) ?_
 intro n0
 simp only [List.length_map] at n0
 refine ⟨List.length_map _, rfl, rfl, by have := cDependencyS_len x; omega, by have := cDependencyS_len x; omega, by first | (rw [List.map_replicate]; done) | (rw [List.map_replicate]; rfl), ⟨0, List.replicate x.length zDependency, rfl, rfl, Nat.zero_le _, by simp⟩, fun k out ⟨hk, ho⟩ => ?_⟩
 have hl : out.length = x.length := by rw [ho]; exact fill_len hk
 refine ⟨List.length_map _, fun c0 => ?_, fun c0 => ?_⟩
 ·replace c0 := yq c0
  refine ⟨by omega, rfl, by omega, fun e18 h18 => ?_⟩
  refine ⟨to_Dependency e18 (by first | omega | (have := cDependencyS_el ‹x[k]? = some _›; omega)), by omega, List.length_map _, by omega, rfl, by omega, fun s5_8 hs5_8 => ?_⟩
  refine ⟨Nat.le_of_ble_eq_true rfl, rfl, rfl, rfl, rfl, ⟨by omega, by omega⟩, ?_⟩
  exact ⟨k + 1, out.set k e18, rfl, rfl, ⟨by omega, by rw [ho]; exact fill_step ‹x[k]? = some _›⟩, by omega⟩
 ·replace c0 := nq c0
  refine ⟨?_, trivial⟩
  ·rw [ho, fill_done hk (by omega)]
abbrev k_to_Inclusion (x : InclusionD) : AV × List (Nat × Rs) := (.agg [.p none (.str x.name), vI x.column, .p none (.str x.into), vI x.intoColumn], [])
abbrev K_to_Inclusion (x : InclusionD) : Prop := Con Tryz.prog 143 [.agg [.str x.name, .int .i64 x.column, .str x.into, .int .i64 x.intoColumn]] (k_to_Inclusion x).1 (k_to_Inclusion x).2
theorem to_Inclusion (x : InclusionD) (hc : cInclusion x ≤ 1048576) : K_to_Inclusion x := by
 refine con_x tbOk mixedW Tryz.func143 (by kernel_rfl) (.fin []) ?_
 refine Eq.mpr (by kernel_rfl : _ = (x.name = x.name ∧ x.column = x.column ∧ x.into = x.into ∧ x.intoColumn = x.intoColumn ∧ True)) ?_
 unfold cInclusion at hc
 exact ⟨rfl, rfl, rfl, rfl, trivial⟩
abbrev k_to_InclusionS (x : List InclusionD) : AV × List (Nat × Rs) := (.own 0, [(0, .arr 170 4 true (x.map eInclusion))])
abbrev K_to_InclusionS (x : List InclusionD) : Prop := Con Tryz.prog 71 [.one (.sl 170 4 (x.map eInclusion))] (k_to_InclusionS x).1 (k_to_InclusionS x).2
theorem to_InclusionS (x : List InclusionD) (hc : cInclusionS x ≤ 1048576) : K_to_InclusionS x := by
 refine con_x tbOk mixedW Tryz.func71 (by kernel_rfl) (.len x.length <| .mk x.length [.str zInclusion.name, .int .i64 zInclusion.column, .str zInclusion.into, .int .i64 zInclusion.intoColumn] ((List.replicate x.length zInclusion).map eInclusion) <| .loop (Nat × (List InclusionD)) (Q2 Nat (List InclusionD)) [3, 4, 8, 9, 10, 11, 12, 13, 14, 15, 16, 17, 18, 19, 20, 21] [700] (fun yy0 => [(3, .own 700), (4, vI (yy0.1 : Int))]) (fun yy0 => [(700, some (.arr 170 4 true (yy0.2.map eInclusion)))]) (fun yy0 => yy0.1 ≤ x.length ∧ yy0.2 = x.take yy0.1 ++ List.replicate (x.length - yy0.1) zInclusion) (fun yy0 => x.length - yy0.1) (fun yy0 => .len x.length <| .br (.elem _ eInclusion x (fun e18 => callP (k_to_Inclusion e18) <| .len yy0.2.length <| .set InclusionD eInclusion yy0.2 (fun s5_8 => e18) (fun s5_8 => .back [(700, 700)]))) (.fin [(0, 700)]))) ?_
 refine Eq.mpr (by kernel_rfl : _ = ((x.map eInclusion).length ≤ 9223372036854775807 → Lm eInclusion x ∧ (((x.length : Nat) : Int) = ((x.length : Nat) : Int) ∧ ((x.length : Nat) : Int) = ((x.length : Nat) : Int) ∧ 48 * x.length ≤ 281474976710656 ∧ x.length ≤ 9223372036854775807 ∧ List.replicate x.length [.str zInclusion.name, .int .i64 zInclusion.column, .str zInclusion.into, .int .i64 zInclusion.intoColumn] = (List.replicate x.length zInclusion).map eInclusion ∧ ((∃ (k : Nat) (out : List InclusionD), (0 : Int) = (k : Int) ∧ (List.replicate x.length zInclusion).map eInclusion = out.map eInclusion ∧ k ≤ x.length ∧ out = x.take k ++ List.replicate (x.length - k) zInclusion) ∧ ∀ (k : Nat) (out : List InclusionD), (k ≤ x.length ∧ out = x.take k ++ List.replicate (x.length - k) zInclusion) → Lm eInclusion x ∧ (((decide ((k : Int) < ((x.length : Nat) : Int))) = true → 0 ≤ (k : Int) ∧ Em eInclusion x k fun e18 => K_to_Inclusion e18 ∧ (0 ≤ (k : Int) ∧ Lm eInclusion out ∧ (k : Int) < ((out.length : Nat) : Int) ∧ (out.map eInclusion = out.map eInclusion ∧ k < out.length ∧ ∀ s5_8, out[k]? = some s5_8 → flatB (eInclusion s5_8) = true ∧ 0 + 4 ≤ (eInclusion s5_8).length ∧ (eInclusion s5_8).take 0 ++ [.str e18.name, .int .i64 e18.column, .str e18.into, .int .i64 e18.intoColumn] ++ (eInclusion s5_8).drop (0 + 4) = eInclusion e18 ∧ inR ((k : Int) + (1 : Int)) ∧ ∃ (k' : Nat) (out' : List InclusionD), ((k : Int) + (1 : Int)) = (k' : Int) ∧ (out.set k e18).map eInclusion = out'.map eInclusion ∧ (k' ≤ x.length ∧ out' = x.take k' ++ List.replicate (x.length - k') zInclusion) ∧ x.length - k' < x.length - k))) ∧ ((decide ((k : Int) < ((x.length : Nat) : Int))) = false → out.map eInclusion = x.map eInclusion ∧ True)))))) ?_
 intro n0
 simp only [List.length_map] at n0
 refine ⟨List.length_map _, rfl, rfl, by have := cInclusionS_len x; omega, by have := cInclusionS_len x; omega, by first | (rw [List.map_replicate]; done) | (rw [List.map_replicate]; rfl), ⟨0, List.replicate x.length zInclusion, rfl, rfl, Nat.zero_le _, by simp⟩, fun k out ⟨hk, ho⟩ => ?_⟩
 have hl : out.length = x.length := by rw [ho]; exact fill_len hk
 refine ⟨List.length_map _, fun c0 => ?_, fun c0 => ?_⟩
 ·replace c0 := yq c0
  refine ⟨by omega, rfl, by omega, fun e18 h18 => ?_⟩
  refine ⟨to_Inclusion e18 (by first | omega | (have := cInclusionS_el ‹x[k]? = some _›; omega)), by omega, List.length_map _, by omega, rfl, by omega, fun s5_8 hs5_8 => ⟨rfl, Nat.le_of_ble_eq_true rfl, rfl, ?_⟩⟩
  refine ⟨⟨by omega, by omega⟩, ?_⟩
  exact ⟨k + 1, out.set k e18, rfl, rfl, ⟨by omega, by rw [ho]; exact fill_step ‹x[k]? = some _›⟩, by omega⟩
 ·replace c0 := nq c0
  refine ⟨?_, trivial⟩
  ·rw [ho, fill_done hk (by omega)]
abbrev k_to_Store (x : StoreD) : AV × List (Nat × Rs) := (.agg [.own 0, vI x.catalogue.version, .own 1, .own 2, .own 3], [(0, .arr 162 3 true (x.database.tables.map eTable)), (1, .arr 121 4 true (x.catalogue.tables.map eTableStats)), (2, .arr 168 3 true (x.dependencies.map eDependency)), (3, .arr 170 4 true (x.inclusions.map eInclusion))])
abbrev K_to_Store (x : StoreD) : Prop := Con Tryz.prog 16 [.agg [.sl 162 3 (x.database.tables.map eTable), .int .i64 x.catalogue.version, .sl 121 4 (x.catalogue.tables.map eTableStats), .sl 168 3 (x.dependencies.map eDependency), .sl 170 4 (x.inclusions.map eInclusion)]] (k_to_Store x).1 (k_to_Store x).2
theorem to_Store (x : StoreD) (hc : cStore x ≤ 1048576) : K_to_Store x := by
 refine con_x tbOk mixedW Tryz.func16 (by kernel_rfl) (callP (k_to_Database x.database) <| callP (k_to_Catalogue x.catalogue) <| callP (k_to_DependencyS x.dependencies) <| callP (k_to_InclusionS x.inclusions) <| .fin [(0, 600), (1, 1000), (2, 1400), (3, 1800)]) ?_
 refine Eq.mpr (by kernel_rfl : _ = ((x.database.tables.map eTable).length ≤ 9223372036854775807 → (x.catalogue.tables.map eTableStats).length ≤ 9223372036854775807 → (x.dependencies.map eDependency).length ≤ 9223372036854775807 → (x.inclusions.map eInclusion).length ≤ 9223372036854775807 → K_to_Database x.database ∧ K_to_Catalogue x.catalogue ∧ K_to_DependencyS x.dependencies ∧ K_to_InclusionS x.inclusions ∧ x.catalogue.version = x.catalogue.version ∧ x.database.tables.map eTable = x.database.tables.map eTable ∧ x.catalogue.tables.map eTableStats = x.catalogue.tables.map eTableStats ∧ x.dependencies.map eDependency = x.dependencies.map eDependency ∧ x.inclusions.map eInclusion = x.inclusions.map eInclusion ∧ True)) ?_
 intro n0 n1 n2 n3
 simp only [List.length_map] at n0 n1 n2 n3
 unfold cStore at hc
 refine ⟨to_Database x.database (by first | omega | (have := cDatabaseS_el ‹x[k]? = some _›; omega)), to_Catalogue x.catalogue (by first | omega | (have := cCatalogueS_el ‹x[k]? = some _›; omega)), to_DependencyS x.dependencies (by first | omega | (have := cDependencySS_el ‹x[k]? = some _›; omega)), to_InclusionS x.inclusions (by first | omega | (have := cInclusionSS_el ‹x[k]? = some _›; omega)), ?_⟩
 exact ⟨rfl, rfl, rfl, rfl, rfl, trivial⟩
end Go.Proofs.YtokkjaflmcjlhaaGreat
