/-
  Valid databases.
-/
import Derived.Test.YtjlagjhmlmfjeaaGreatFc
namespace Go.Proofs.YtjlagjhmlmfjeaaGreat
open Go.ChangeShapes Go.WideShapes Go.ChangeAt Go.RowKit
set_option linter.unusedVariables false
set_option linter.unusedSimpArgs false
def nameAt (l : List TableD) (i : Nat) : Bool := Op.bytesLess (l.getD i zTable).name.toList (l.getD (i + 1) zTable).name.toList
def okDb (d : DatabaseD) : Bool := d.tables.all okTable && ((List.range (d.tables.length - 1)).all (nameAt d.tables) && decide ((d.tables.length : Int) ≤ 6))

set_option maxRecDepth 100000 in
set_option maxHeartbeats 4000000 in
theorem db_impl (t : DatabaseD) : Con Tryz.prog 155 [.agg [.sl 107 3 (t.tables.map eTable)]] (vB (okDb t)) [] := by
  refine con_x tbOk mixedW Tryz.func155 (by kernel_rfl) (.len t.tables.length <| .loop Nat (Q1 Nat) [3, 4, 8, 9, 10, 11, 12, 13, 14, 15, 16, 17, 18, 19, 20, 21, 22, 23, 24, 25, 26, 27, 28, 29, 30, 31, 32] [400] (fun k => [(8, vI (k : Int))]) (fun k => []) (fun k => k ≤ t.tables.length ∧ (t.tables.take k).all okTable = true ∧ (List.range (k - 1)).all (nameAt t.tables) = true) (fun k => t.tables.length - k) (fun k => .br (.elem TableD eTable t.tables (fun e11 => .call (vB (okTable e11)) [] <| .br (.fin []) (.lit <| .lit <| .br (.elem TableD eTable t.tables (fun e24 => .lit <| .lit <| .lit <| .lit <| .lit <| .lit <| .lit <| .lit <| .br (.fin []) (.back []))) (.back [])))) (.len t.tables.length <| .fin []))) ?_
  refine Eq.mpr (by kernel_rfl : _ = ((t.tables.map eTable).length ≤ 9223372036854775807 → (t.tables.map eTable).length = t.tables.length ∧ ((∃ (k : Nat), (0 : Int) = (k : Int) ∧ k ≤ t.tables.length ∧ (t.tables.take k).all okTable = true ∧ (List.range (k - 1)).all (nameAt t.tables) = true) ∧ ∀ (k : Nat), (k ≤ t.tables.length ∧ (t.tables.take k).all okTable = true ∧ (List.range (k - 1)).all (nameAt t.tables) = true) → ((decide ((k : Int) < ((t.tables.length : Nat) : Int))) = true → 0 ≤ (k : Int) ∧ (t.tables.map eTable = t.tables.map eTable ∧ k < t.tables.length ∧ ∀ e11, t.tables[k]? = some e11 → Con Tryz.prog 131 [.agg [.str e11.name, .int .i64 e11.arity, .sl 25 1 (e11.rows.map eIntS)]] (vB (okTable e11)) [] ∧ (((!(okTable e11)) = true → (false) = (okDb t) ∧ True) ∧ ((!(okTable e11)) = false → ((decide ((0 : Int) < (k : Int))) = true → inR ((k : Int) - (1 : Int)) ∧ (0 ≤ ((k : Int) - (1 : Int)) ∧ (t.tables.map eTable = t.tables.map eTable ∧ ((k : Int) - (1 : Int)).toNat < t.tables.length ∧ ∀ e24, t.tables[((k : Int) - (1 : Int)).toNat]? = some e24 → ((!(Op.bytesLess e24.name.toList e11.name.toList)) = true → (false) = (okDb t) ∧ True) ∧ ((!(Op.bytesLess e24.name.toList e11.name.toList)) = false → inR ((k : Int) + (1 : Int)) ∧ ∃ (k' : Nat), ((k : Int) + (1 : Int)) = (k' : Int) ∧ (k' ≤ t.tables.length ∧ (t.tables.take k').all okTable = true ∧ (List.range (k' - 1)).all (nameAt t.tables) = true) ∧ t.tables.length - k' < t.tables.length - k)))) ∧ ((decide ((0 : Int) < (k : Int))) = false → inR ((k : Int) + (1 : Int)) ∧ ∃ (k' : Nat), ((k : Int) + (1 : Int)) = (k' : Int) ∧ (k' ≤ t.tables.length ∧ (t.tables.take k').all okTable = true ∧ (List.range (k' - 1)).all (nameAt t.tables) = true) ∧ t.tables.length - k' < t.tables.length - k))))) ∧ ((decide ((k : Int) < ((t.tables.length : Nat) : Int))) = false → (t.tables.map eTable).length = t.tables.length ∧ (decide (((t.tables.length : Nat) : Int) ≤ (6 : Int))) = (okDb t) ∧ True)))) ?_
  intro n0
  simp only [List.length_map] at n0
  refine ⟨List.length_map _, ?_⟩
  refine ⟨⟨0, rfl, Nat.zero_le _, rfl, rfl⟩, fun k ⟨hk, ha, hs⟩ => ?_⟩
  refine ⟨fun c0 => ?_, fun c0 => ?_⟩
  · replace c0 := of_decide_eq_true c0
    refine ⟨by omega, ?_⟩
    refine ⟨rfl, by omega, fun e11 h11 => ?_⟩
    refine ⟨tab_impl e11, ?_⟩
    refine ⟨fun g16 => ?_, fun g16 => ?_⟩
    · replace g16 := nt g16
      refine ⟨?_, trivial⟩
      · first | (rw [okDb, all_stop h11 g16]; rfl) | (rw [okDb, hz]; simp [*]; done) | (rw [okDb, hz]; simp; done)
    · replace g16 := nf g16
      refine ⟨fun g19 => ?_, fun g19 => ?_⟩
      · replace g19 := of_decide_eq_true g19
        refine ⟨⟨by omega, by omega⟩, ?_⟩
        refine ⟨by omega, ?_⟩
        refine ⟨rfl, by omega, fun e24 h24 => ?_⟩
        have i1 : t.tables[k - 1]? = some e24 := by rw [← h24]; congr 1; omega
        refine ⟨fun c1 => ?_, fun c1 => ?_⟩
        · replace c1 := nt c1
          have hp : nameAt t.tables (k - 1) = false := by rw [nameAt, getD_at i1, show k - 1 + 1 = k by omega, getD_at h11]; simpa using c1
          have hz : (List.range (t.tables.length - 1)).all (nameAt t.tables) = false := range_stop (by omega) hp
          refine ⟨?_, trivial⟩
          · first | (rw [okDb, all_stop h11 g16]; rfl) | (rw [okDb, hz]; simp [*]; done) | (rw [okDb, hz]; simp; done)
        · replace c1 := nf c1
          have hp : nameAt t.tables (k - 1) = true := by rw [nameAt, getD_at i1, show k - 1 + 1 = k by omega, getD_at h11]; simpa using c1
          have hs2 : (List.range (k + 1 - 1)).all (nameAt t.tables) = true := by rw [show k + 1 - 1 = (k - 1) + 1 by omega]; exact range_snoc hs hp
          refine ⟨⟨by omega, by omega⟩, ?_⟩
          exact ⟨k + 1, rfl, ⟨by omega, all_snoc h11 ha g16, hs2⟩, by omega⟩
      · replace g19 := of_decide_eq_false g19
        have hs2 : (List.range (k + 1 - 1)).all (nameAt t.tables) = true := by rw [show k = 0 by omega]; rfl
        refine ⟨⟨by omega, by omega⟩, ?_⟩
        exact ⟨k + 1, rfl, ⟨by omega, all_snoc h11 ha g16, hs2⟩, by omega⟩
  · replace c0 := of_decide_eq_false c0
    have hall := all_done (by omega) ha
    have hz : (List.range (t.tables.length - 1)).all (nameAt t.tables) = true := by rw [show t.tables.length - 1 = k - 1 by omega, hs]
    refine ⟨List.length_map _, ?_⟩
    refine ⟨?_, trivial⟩
    · first | (rw [okDb, all_stop h11 g16]; rfl) | (rw [okDb, hz]; simp [*]; done) | (rw [okDb, hz]; simp; done)

set_option maxRecDepth 100000 in
set_option maxHeartbeats 4000000 in
theorem db_spec (t : DatabaseD) : Con Tryz.prog 151 [.agg [.sl 107 3 (t.tables.map eTable)]] (vB (okDb t)) [] := by
  refine con_x tbOk mixedW Tryz.func151 (by kernel_rfl) (.loop Nat (Q1 Nat) [3, 4, 5, 6, 7, 8, 9, 10, 11, 12, 13, 14, 15, 16, 17, 18, 19, 20, 21, 22, 23, 24, 25, 26, 27, 28, 29, 30, 31, 32, 33, 34, 35, 36, 37] [] (fun k => [(3, vI (k : Int))]) (fun k => []) (fun k => k ≤ t.tables.length ∧ (t.tables.take k).all okTable = true ∧ (List.range (k - 1)).all (nameAt t.tables) = true) (fun k => t.tables.length - k) (fun k => .len t.tables.length <| .br (.elem TableD eTable t.tables (fun e14 => .call (vB (okTable e14)) [] <| .br (.fin []) (.lit <| .lit <| .br (.elem TableD eTable t.tables (fun e26 => .elem TableD eTable t.tables (fun e32 => .lit <| .lit <| .lit <| .lit <| .lit <| .lit <| .br (.fin []) (.back [])))) (.back [])))) (.len t.tables.length <| .fin []))) ?_
  refine Eq.mpr (by kernel_rfl : _ = ((t.tables.map eTable).length ≤ 9223372036854775807 → (∃ (k : Nat), (0 : Int) = (k : Int) ∧ k ≤ t.tables.length ∧ (t.tables.take k).all okTable = true ∧ (List.range (k - 1)).all (nameAt t.tables) = true) ∧ ∀ (k : Nat), (k ≤ t.tables.length ∧ (t.tables.take k).all okTable = true ∧ (List.range (k - 1)).all (nameAt t.tables) = true) → (t.tables.map eTable).length = t.tables.length ∧ (((decide ((k : Int) < ((t.tables.length : Nat) : Int))) = true → 0 ≤ (k : Int) ∧ (t.tables.map eTable = t.tables.map eTable ∧ k < t.tables.length ∧ ∀ e14, t.tables[k]? = some e14 → Con Tryz.prog 122 [.agg [.str e14.name, .int .i64 e14.arity, .sl 25 1 (e14.rows.map eIntS)]] (vB (okTable e14)) [] ∧ (((!(okTable e14)) = true → (false) = (okDb t) ∧ True) ∧ ((!(okTable e14)) = false → ((decide ((0 : Int) < (k : Int))) = true → inR ((k : Int) - (1 : Int)) ∧ (0 ≤ ((k : Int) - (1 : Int)) ∧ (t.tables.map eTable = t.tables.map eTable ∧ ((k : Int) - (1 : Int)).toNat < t.tables.length ∧ ∀ e26, t.tables[((k : Int) - (1 : Int)).toNat]? = some e26 → 0 ≤ (k : Int) ∧ (t.tables.map eTable = t.tables.map eTable ∧ k < t.tables.length ∧ ∀ e32, t.tables[k]? = some e32 → ((!(Op.bytesLess e26.name.toList e32.name.toList)) = true → (false) = (okDb t) ∧ True) ∧ ((!(Op.bytesLess e26.name.toList e32.name.toList)) = false → inR ((k : Int) + (1 : Int)) ∧ ∃ (k' : Nat), ((k : Int) + (1 : Int)) = (k' : Int) ∧ (k' ≤ t.tables.length ∧ (t.tables.take k').all okTable = true ∧ (List.range (k' - 1)).all (nameAt t.tables) = true) ∧ t.tables.length - k' < t.tables.length - k))))) ∧ ((decide ((0 : Int) < (k : Int))) = false → inR ((k : Int) + (1 : Int)) ∧ ∃ (k' : Nat), ((k : Int) + (1 : Int)) = (k' : Int) ∧ (k' ≤ t.tables.length ∧ (t.tables.take k').all okTable = true ∧ (List.range (k' - 1)).all (nameAt t.tables) = true) ∧ t.tables.length - k' < t.tables.length - k))))) ∧ ((decide ((k : Int) < ((t.tables.length : Nat) : Int))) = false → (t.tables.map eTable).length = t.tables.length ∧ (decide (((t.tables.length : Nat) : Int) ≤ (6 : Int))) = (okDb t) ∧ True)))) ?_
  intro n0
  simp only [List.length_map] at n0
  refine ⟨⟨0, rfl, Nat.zero_le _, rfl, rfl⟩, fun k ⟨hk, ha, hs⟩ => ?_⟩
  refine ⟨List.length_map _, ?_⟩
  refine ⟨fun c0 => ?_, fun c0 => ?_⟩
  · replace c0 := of_decide_eq_true c0
    refine ⟨by omega, ?_⟩
    refine ⟨rfl, by omega, fun e14 h14 => ?_⟩
    refine ⟨tab_spec e14, ?_⟩
    refine ⟨fun g18 => ?_, fun g18 => ?_⟩
    · replace g18 := nt g18
      refine ⟨?_, trivial⟩
      · first | (rw [okDb, all_stop h14 g18]; rfl) | (rw [okDb, hz]; simp [*]; done) | (rw [okDb, hz]; simp; done)
    · replace g18 := nf g18
      refine ⟨fun g21 => ?_, fun g21 => ?_⟩
      · replace g21 := of_decide_eq_true g21
        refine ⟨⟨by omega, by omega⟩, ?_⟩
        refine ⟨by omega, ?_⟩
        refine ⟨rfl, by omega, fun e26 h26 => ?_⟩
        have i1 : t.tables[k - 1]? = some e26 := by rw [← h26]; congr 1; omega
        refine ⟨by omega, ?_⟩
        refine ⟨rfl, by omega, fun e32 h32 => ?_⟩
        refine ⟨fun c1 => ?_, fun c1 => ?_⟩
        · replace c1 := nt c1
          have hp : nameAt t.tables (k - 1) = false := by rw [nameAt, getD_at i1, show k - 1 + 1 = k by omega, getD_at h32]; simpa using c1
          have hz : (List.range (t.tables.length - 1)).all (nameAt t.tables) = false := range_stop (by omega) hp
          refine ⟨?_, trivial⟩
          · first | (rw [okDb, all_stop h14 g18]; rfl) | (rw [okDb, hz]; simp [*]; done) | (rw [okDb, hz]; simp; done)
        · replace c1 := nf c1
          have hp : nameAt t.tables (k - 1) = true := by rw [nameAt, getD_at i1, show k - 1 + 1 = k by omega, getD_at h32]; simpa using c1
          have hs2 : (List.range (k + 1 - 1)).all (nameAt t.tables) = true := by rw [show k + 1 - 1 = (k - 1) + 1 by omega]; exact range_snoc hs hp
          refine ⟨⟨by omega, by omega⟩, ?_⟩
          exact ⟨k + 1, rfl, ⟨by omega, all_snoc h14 ha g18, hs2⟩, by omega⟩
      · replace g21 := of_decide_eq_false g21
        have hs2 : (List.range (k + 1 - 1)).all (nameAt t.tables) = true := by rw [show k = 0 by omega]; rfl
        refine ⟨⟨by omega, by omega⟩, ?_⟩
        exact ⟨k + 1, rfl, ⟨by omega, all_snoc h14 ha g18, hs2⟩, by omega⟩
  · replace c0 := of_decide_eq_false c0
    have hall := all_done (by omega) ha
    have hz : (List.range (t.tables.length - 1)).all (nameAt t.tables) = true := by rw [show t.tables.length - 1 = k - 1 by omega, hs]
    refine ⟨List.length_map _, ?_⟩
    refine ⟨?_, trivial⟩
    · first | (rw [okDb, all_stop h14 g18]; rfl) | (rw [okDb, hz]; simp [*]; done) | (rw [okDb, hz]; simp; done)
end Go.Proofs.YtjlagjhmlmfjeaaGreat
