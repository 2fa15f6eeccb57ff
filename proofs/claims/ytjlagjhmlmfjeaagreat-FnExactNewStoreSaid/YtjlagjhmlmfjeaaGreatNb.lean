/-
  New stores, both sides.
-/
import Derived.Test.YtjlagjhmlmfjeaaGreatNa
namespace Go.Proofs.YtjlagjhmlmfjeaaGreat
open Go.ChangeShapes Go.WideShapes Go.ChangeAt Go.RowKit
set_option linter.unusedVariables false
set_option linter.unusedSimpArgs false
def newSt (d : DatabaseD) (l : List DependencyD) (m : List InclusionD) : StoreD × Bool := if ((catOf d 1).2 && fineC d l m) = true then (⟨d, (catOf d 1).1, l, m⟩, true) else (zStore, false)
theorem newSt_yes {d : DatabaseD} {l : List DependencyD} {m : List InclusionD} (h : ((catOf d 1).2 && fineC d l m) = true) : newSt d l m = (⟨d, (catOf d 1).1, l, m⟩, true) := by rw [newSt, if_pos h]
theorem newSt_no {d : DatabaseD} {l : List DependencyD} {m : List InclusionD} (h : ((catOf d 1).2 && fineC d l m) = false) : newSt d l m = (zStore, false) := by rw [newSt, if_neg (by rw [h]; decide)]
theorem newSt_small (d : DatabaseD) (l : List DependencyD) (m : List InclusionD) : cStore (newSt d l m).1 ≤ cDatabase d + 20000 + cDependencyS l + cInclusionS m := by
  cases h : (catOf d 1).2 && fineC d l m with
  | false => rw [newSt_no h]; exact Nat.zero_le _
  | true =>
    rw [newSt_yes h]
    have := cat_small d 1
    show cDatabase d + cCatalogue (catOf d 1).1 + cDependencyS l + cInclusionS m ≤ _
    omega

set_option maxRecDepth 100000 in
set_option maxHeartbeats 4000000 in
theorem newSt_impl (d : DatabaseD) (l : List DependencyD) (m : List InclusionD) (h1 : cDatabase d ≤ 1048576) (h3 : cDependencyS l ≤ 1048576) (h4 : cInclusionS m ≤ 1048576) : Con Tryz.prog 52 [.agg [.sl 107 3 (d.tables.map eTable)], .one (.sl 142 3 (l.map eDependency)), .one (.sl 144 4 (m.map eInclusion))] (.tup [.agg [.own 0, vI ((((newSt d l m).1).catalogue).version), .own 1, .own 2, .own 3], vB ((newSt d l m).2)]) [(0, .arr 107 3 true (((((newSt d l m).1).database).tables).map eTable)), (1, .arr 32 4 true (((((newSt d l m).1).catalogue).tables).map eTableStats)), (2, .arr 142 3 true ((((newSt d l m).1).dependencies).map eDependency)), (3, .arr 144 4 true ((((newSt d l m).1).inclusions).map eInclusion))] := by
  refine con_x tbOk mixedW Tryz.func52 (by kernel_rfl) (.call (.tup [.agg [vI (((catOf d (1 : Int)).1).version), .own 0], vB ((catOf d (1 : Int)).2)]) [(0, .arr 32 4 true ((((catOf d (1 : Int)).1).tables).map eTableStats))] <| .br (.fin []) (.call (vB (fineC d l m)) [] <| .lit <| .lit <| .br (.fin []) (.call (.agg [.own 0, vI (((⟨d, ((catOf d (1 : Int)).1), l, m⟩ : StoreD).catalogue).version), .own 1, .own 2, .own 3]) [(0, .arr 107 3 true ((((⟨d, ((catOf d (1 : Int)).1), l, m⟩ : StoreD).database).tables).map eTable)), (1, .arr 32 4 true ((((⟨d, ((catOf d (1 : Int)).1), l, m⟩ : StoreD).catalogue).tables).map eTableStats)), (2, .arr 142 3 true (((⟨d, ((catOf d (1 : Int)).1), l, m⟩ : StoreD).dependencies).map eDependency)), (3, .arr 144 4 true (((⟨d, ((catOf d (1 : Int)).1), l, m⟩ : StoreD).inclusions).map eInclusion))] <| .fin [(0, 3000), (1, 3001), (2, 3002), (3, 3003)]))) ?_
  refine Eq.mpr (by kernel_rfl : _ = ((d.tables.map eTable).length ≤ 9223372036854775807 → (l.map eDependency).length ≤ 9223372036854775807 → (m.map eInclusion).length ≤ 9223372036854775807 → Con Tryz.prog 95 [.agg [.sl 107 3 (d.tables.map eTable)], .one (.int .i64 (1 : Int))] (.tup [.agg [vI (((catOf d (1 : Int)).1).version), .own 0], vB ((catOf d (1 : Int)).2)]) [(0, .arr 32 4 true ((((catOf d (1 : Int)).1).tables).map eTableStats))] ∧ (((!((catOf d (1 : Int)).2)) = true → (0 : Int) = ((((newSt d l m).1).catalogue).version) ∧ (false) = ((newSt d l m).2) ∧ [] = ((((newSt d l m).1).database).tables).map eTable ∧ [] = ((((newSt d l m).1).catalogue).tables).map eTableStats ∧ [] = (((newSt d l m).1).dependencies).map eDependency ∧ [] = (((newSt d l m).1).inclusions).map eInclusion ∧ True) ∧ ((!((catOf d (1 : Int)).2)) = false → Con Tryz.prog 97 [.agg [.sl 107 3 (d.tables.map eTable)], .one (.sl 142 3 (l.map eDependency)), .one (.sl 144 4 (m.map eInclusion))] (vB (fineC d l m)) [] ∧ (((!(fineC d l m)) = true → (0 : Int) = ((((newSt d l m).1).catalogue).version) ∧ (false) = ((newSt d l m).2) ∧ [] = ((((newSt d l m).1).database).tables).map eTable ∧ [] = ((((newSt d l m).1).catalogue).tables).map eTableStats ∧ [] = (((newSt d l m).1).dependencies).map eDependency ∧ [] = (((newSt d l m).1).inclusions).map eInclusion ∧ True) ∧ ((!(fineC d l m)) = false → Con Tryz.prog 107 [.agg [.sl 107 3 (d.tables.map eTable), .int .i64 (((catOf d (1 : Int)).1).version), .sl 32 4 ((((catOf d (1 : Int)).1).tables).map eTableStats), .sl 142 3 (l.map eDependency), .sl 144 4 (m.map eInclusion)]] (.agg [.own 0, vI (((⟨d, ((catOf d (1 : Int)).1), l, m⟩ : StoreD).catalogue).version), .own 1, .own 2, .own 3]) [(0, .arr 107 3 true ((((⟨d, ((catOf d (1 : Int)).1), l, m⟩ : StoreD).database).tables).map eTable)), (1, .arr 32 4 true ((((⟨d, ((catOf d (1 : Int)).1), l, m⟩ : StoreD).catalogue).tables).map eTableStats)), (2, .arr 142 3 true (((⟨d, ((catOf d (1 : Int)).1), l, m⟩ : StoreD).dependencies).map eDependency)), (3, .arr 144 4 true (((⟨d, ((catOf d (1 : Int)).1), l, m⟩ : StoreD).inclusions).map eInclusion))] ∧ (((⟨d, ((catOf d (1 : Int)).1), l, m⟩ : StoreD).catalogue).version) = ((((newSt d l m).1).catalogue).version) ∧ (true) = ((newSt d l m).2) ∧ (((⟨d, ((catOf d (1 : Int)).1), l, m⟩ : StoreD).database).tables).map eTable = ((((newSt d l m).1).database).tables).map eTable ∧ (((⟨d, ((catOf d (1 : Int)).1), l, m⟩ : StoreD).catalogue).tables).map eTableStats = ((((newSt d l m).1).catalogue).tables).map eTableStats ∧ ((⟨d, ((catOf d (1 : Int)).1), l, m⟩ : StoreD).dependencies).map eDependency = (((newSt d l m).1).dependencies).map eDependency ∧ ((⟨d, ((catOf d (1 : Int)).1), l, m⟩ : StoreD).inclusions).map eInclusion = (((newSt d l m).1).inclusions).map eInclusion ∧ True)))))) ?_
  intro n0 n1 n2
  simp only [List.length_map] at n0 n1 n2
  have hsm := cat_small d 1
  have hI := cInclusionS_len m
  have hS : cStore ⟨d, (catOf d 1).1, l, m⟩ = cDatabase d + cCatalogue (catOf d 1).1 + cDependencyS l + cInclusionS m := rfl
  refine ⟨cat_impl d (1 : Int), ?_⟩
  refine ⟨fun g17 => ?_, fun g17 => ?_⟩
  · replace g17 := nt g17
    have hbad : ((catOf d 1).2 && fineC d l m) = false := by first | (simp [*]; done) | (simp_all; done)
    refine ⟨?_, ?_, ?_, ?_, ?_, ?_, trivial⟩
    · first | (rw [newSt_no hbad] <;> rfl) | (rw [newSt_yes hok] <;> rfl)
    · first | (rw [newSt_no hbad] <;> rfl) | (rw [newSt_yes hok] <;> rfl)
    · first | (rw [newSt_no hbad] <;> rfl) | (rw [newSt_yes hok] <;> rfl)
    · first | (rw [newSt_no hbad] <;> rfl) | (rw [newSt_yes hok] <;> rfl)
    · first | (rw [newSt_no hbad] <;> rfl) | (rw [newSt_yes hok] <;> rfl)
    · first | (rw [newSt_no hbad] <;> rfl) | (rw [newSt_yes hok] <;> rfl)
  · replace g17 := nf g17
    refine ⟨fine_impl _ _ _ (by omega), ?_⟩
    refine ⟨fun c0 => ?_, fun c0 => ?_⟩
    · replace c0 := nt c0
      have hbad : ((catOf d 1).2 && fineC d l m) = false := by first | (simp [*]; done) | (simp_all; done)
      refine ⟨?_, ?_, ?_, ?_, ?_, ?_, trivial⟩
      · first | (rw [newSt_no hbad] <;> rfl) | (rw [newSt_yes hok] <;> rfl)
      · first | (rw [newSt_no hbad] <;> rfl) | (rw [newSt_yes hok] <;> rfl)
      · first | (rw [newSt_no hbad] <;> rfl) | (rw [newSt_yes hok] <;> rfl)
      · first | (rw [newSt_no hbad] <;> rfl) | (rw [newSt_yes hok] <;> rfl)
      · first | (rw [newSt_no hbad] <;> rfl) | (rw [newSt_yes hok] <;> rfl)
      · first | (rw [newSt_no hbad] <;> rfl) | (rw [newSt_yes hok] <;> rfl)
    · replace c0 := nf c0
      have hok : ((catOf d 1).2 && fineC d l m) = true := by first | (simp [*]; done) | (simp_all; done)
      refine ⟨cpSt_impl (⟨d, ((catOf d (1 : Int)).1), l, m⟩ : StoreD) (by first | omega | (dsimp only; omega)) (by first | omega | (dsimp only; omega)) (by first | omega | (dsimp only; omega)) (by first | omega | (dsimp only; omega)), ?_⟩
      refine ⟨?_, ?_, ?_, ?_, ?_, ?_, trivial⟩
      · first | (rw [newSt_no hbad] <;> rfl) | (rw [newSt_yes hok] <;> rfl)
      · first | (rw [newSt_no hbad] <;> rfl) | (rw [newSt_yes hok] <;> rfl)
      · first | (rw [newSt_no hbad] <;> rfl) | (rw [newSt_yes hok] <;> rfl)
      · first | (rw [newSt_no hbad] <;> rfl) | (rw [newSt_yes hok] <;> rfl)
      · first | (rw [newSt_no hbad] <;> rfl) | (rw [newSt_yes hok] <;> rfl)
      · first | (rw [newSt_no hbad] <;> rfl) | (rw [newSt_yes hok] <;> rfl)

set_option maxRecDepth 100000 in
set_option maxHeartbeats 4000000 in
theorem newSt_spec (d : DatabaseD) (l : List DependencyD) (m : List InclusionD) (h1 : cDatabase d ≤ 1048576) (h3 : cDependencyS l ≤ 1048576) (h4 : cInclusionS m ≤ 1048576) : Con Tryz.prog 48 [.agg [.sl 107 3 (d.tables.map eTable)], .one (.sl 142 3 (l.map eDependency)), .one (.sl 144 4 (m.map eInclusion))] (.tup [.agg [.own 0, vI ((((newSt d l m).1).catalogue).version), .own 1, .own 2, .own 3], vB ((newSt d l m).2)]) [(0, .arr 107 3 true (((((newSt d l m).1).database).tables).map eTable)), (1, .arr 32 4 true (((((newSt d l m).1).catalogue).tables).map eTableStats)), (2, .arr 142 3 true ((((newSt d l m).1).dependencies).map eDependency)), (3, .arr 144 4 true ((((newSt d l m).1).inclusions).map eInclusion))] := by
  refine con_x tbOk mixedW Tryz.func48 (by kernel_rfl) (.call (.tup [.agg [vI (((catOf d (1 : Int)).1).version), .own 0], vB ((catOf d (1 : Int)).2)]) [(0, .arr 32 4 true ((((catOf d (1 : Int)).1).tables).map eTableStats))] <| .br (.fin []) (.call (vB (fineC d l m)) [] <| .lit <| .lit <| .br (.fin []) (.call (.agg [.own 0]) [(0, .arr 107 3 true (d.tables.map eTable))] <| .call (.own 0) [(0, .arr 142 3 true (l.map eDependency))] <| .app InclusionD eInclusion ([] : List InclusionD) m <| .fin [(0, 2600), (1, 1200), (2, 2900), (3, 3200)]))) ?_
  refine Eq.mpr (by kernel_rfl : _ = ((d.tables.map eTable).length ≤ 9223372036854775807 → (l.map eDependency).length ≤ 9223372036854775807 → (m.map eInclusion).length ≤ 9223372036854775807 → Con Tryz.prog 91 [.agg [.sl 107 3 (d.tables.map eTable)], .one (.int .i64 (1 : Int))] (.tup [.agg [vI (((catOf d (1 : Int)).1).version), .own 0], vB ((catOf d (1 : Int)).2)]) [(0, .arr 32 4 true ((((catOf d (1 : Int)).1).tables).map eTableStats))] ∧ (((!((catOf d (1 : Int)).2)) = true → (0 : Int) = ((((newSt d l m).1).catalogue).version) ∧ (false) = ((newSt d l m).2) ∧ [] = ((((newSt d l m).1).database).tables).map eTable ∧ [] = ((((newSt d l m).1).catalogue).tables).map eTableStats ∧ [] = (((newSt d l m).1).dependencies).map eDependency ∧ [] = (((newSt d l m).1).inclusions).map eInclusion ∧ True) ∧ ((!((catOf d (1 : Int)).2)) = false → Con Tryz.prog 93 [.agg [.sl 107 3 (d.tables.map eTable)], .one (.sl 142 3 (l.map eDependency)), .one (.sl 144 4 (m.map eInclusion))] (vB (fineC d l m)) [] ∧ (((!(fineC d l m)) = true → (0 : Int) = ((((newSt d l m).1).catalogue).version) ∧ (false) = ((newSt d l m).2) ∧ [] = ((((newSt d l m).1).database).tables).map eTable ∧ [] = ((((newSt d l m).1).catalogue).tables).map eTableStats ∧ [] = (((newSt d l m).1).dependencies).map eDependency ∧ [] = (((newSt d l m).1).inclusions).map eInclusion ∧ True) ∧ ((!(fineC d l m)) = false → Con Tryz.prog 102 [.agg [.sl 107 3 (d.tables.map eTable)]] (.agg [.own 0]) [(0, .arr 107 3 true (d.tables.map eTable))] ∧ Con Tryz.prog 103 [.one (.sl 142 3 (l.map eDependency))] (.own 0) [(0, .arr 142 3 true (l.map eDependency))] ∧ [] = ([] : List InclusionD).map eInclusion ∧ m.map eInclusion = m.map eInclusion ∧ (∀ x, flatB (eInclusion x) = true) ∧ (([] : List InclusionD).length + m.length) * 48 ≤ 140737488355328 ∧ (((catOf d (1 : Int)).1).version) = ((((newSt d l m).1).catalogue).version) ∧ (true) = ((newSt d l m).2) ∧ d.tables.map eTable = ((((newSt d l m).1).database).tables).map eTable ∧ (((catOf d (1 : Int)).1).tables).map eTableStats = ((((newSt d l m).1).catalogue).tables).map eTableStats ∧ l.map eDependency = (((newSt d l m).1).dependencies).map eDependency ∧ (([] : List InclusionD) ++ m).map eInclusion = (((newSt d l m).1).inclusions).map eInclusion ∧ True)))))) ?_
  intro n0 n1 n2
  simp only [List.length_map] at n0 n1 n2
  have hsm := cat_small d 1
  have hI := cInclusionS_len m
  have hS : cStore ⟨d, (catOf d 1).1, l, m⟩ = cDatabase d + cCatalogue (catOf d 1).1 + cDependencyS l + cInclusionS m := rfl
  refine ⟨cat_spec d (1 : Int), ?_⟩
  refine ⟨fun g17 => ?_, fun g17 => ?_⟩
  · replace g17 := nt g17
    have hbad : ((catOf d 1).2 && fineC d l m) = false := by first | (simp [*]; done) | (simp_all; done)
    refine ⟨?_, ?_, ?_, ?_, ?_, ?_, trivial⟩
    · first | (rw [newSt_no hbad] <;> rfl) | (rw [newSt_yes hok] <;> rfl)
    · first | (rw [newSt_no hbad] <;> rfl) | (rw [newSt_yes hok] <;> rfl)
    · first | (rw [newSt_no hbad] <;> rfl) | (rw [newSt_yes hok] <;> rfl)
    · first | (rw [newSt_no hbad] <;> rfl) | (rw [newSt_yes hok] <;> rfl)
    · first | (rw [newSt_no hbad] <;> rfl) | (rw [newSt_yes hok] <;> rfl)
    · first | (rw [newSt_no hbad] <;> rfl) | (rw [newSt_yes hok] <;> rfl)
  · replace g17 := nf g17
    refine ⟨fine_spec _ _ _ (by omega), ?_⟩
    refine ⟨fun c0 => ?_, fun c0 => ?_⟩
    · replace c0 := nt c0
      have hbad : ((catOf d 1).2 && fineC d l m) = false := by first | (simp [*]; done) | (simp_all; done)
      refine ⟨?_, ?_, ?_, ?_, ?_, ?_, trivial⟩
      · first | (rw [newSt_no hbad] <;> rfl) | (rw [newSt_yes hok] <;> rfl)
      · first | (rw [newSt_no hbad] <;> rfl) | (rw [newSt_yes hok] <;> rfl)
      · first | (rw [newSt_no hbad] <;> rfl) | (rw [newSt_yes hok] <;> rfl)
      · first | (rw [newSt_no hbad] <;> rfl) | (rw [newSt_yes hok] <;> rfl)
      · first | (rw [newSt_no hbad] <;> rfl) | (rw [newSt_yes hok] <;> rfl)
      · first | (rw [newSt_no hbad] <;> rfl) | (rw [newSt_yes hok] <;> rfl)
    · replace c0 := nf c0
      have hok : ((catOf d 1).2 && fineC d l m) = true := by first | (simp [*]; done) | (simp_all; done)
      refine ⟨cpD_spec _ (by omega), ?_⟩
      refine ⟨cpP_spec _ (by omega), ?_⟩
      refine ⟨rfl, rfl, fun _ => rfl, by first | omega | (simp; omega), ?_⟩
      refine ⟨?_, ?_, ?_, ?_, ?_, ?_, trivial⟩
      · first | (rw [newSt_no hbad] <;> rfl) | (rw [newSt_yes hok] <;> rfl)
      · first | (rw [newSt_no hbad] <;> rfl) | (rw [newSt_yes hok] <;> rfl)
      · first | (rw [newSt_no hbad] <;> rfl) | (rw [newSt_yes hok] <;> rfl)
      · first | (rw [newSt_no hbad] <;> rfl) | (rw [newSt_yes hok] <;> rfl)
      · first | (rw [newSt_no hbad] <;> rfl) | (rw [newSt_yes hok] <;> rfl)
      · first | (rw [newSt_no hbad] <;> rfl) | (rw [newSt_yes hok] <;> rfl)
end Go.Proofs.YtjlagjhmlmfjeaaGreat
