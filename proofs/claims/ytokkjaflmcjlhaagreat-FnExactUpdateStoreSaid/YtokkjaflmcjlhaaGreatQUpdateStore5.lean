/-
  Contracts and plain laws, joined: part 6.
-/
import Derived.Test.YtokkjaflmcjlhaaGreatQUpdateStore4
import Derived.IntWalk
import Derived.Test.YtokkjaflmcjlhaaGreatQUpdateStore3
import Derived.Deep.RegionHeld3
import Derived.BigRegion
import Derived.Deep.LoopGhost
import Derived.Shelf.SlSortCmp.Insertion
namespace Go.Proofs.YtokkjaflmcjlhaaGreat
open Go.ChangeShapes Go.WideShapes Go.ChangeAt Go.RowKit
set_option linter.unusedVariables false
set_option linter.unusedSimpArgs false
set_option maxRecDepth 100000
set_option maxHeartbeats 4000000
def nameAt (l : List TableD) (i : Nat) : Bool := Op.bytesLess (l.getD i zTable).name.toList (l.getD (i + 1) zTable).name.toList
def okDb (d : DatabaseD) : Bool := d.tables.all okTable && ((List.range (d.tables.length - 1)).all (nameAt d.tables) && decide ((d.tables.length : Int) ≤ 6))
abbrev K_db_impl (t : DatabaseD) : Prop := Con Tryz.prog 154 [.agg [.sl 162 3 (t.tables.map eTable)]] (vB (okDb t)) []
theorem db_impl (t : DatabaseD) : K_db_impl t := by
 refine con_x tbOk mixedW Tryz.func154 (by kernel_rfl) (.len t.tables.length <| .loop Nat (Q1 Nat) [3, 4, 8, 9, 10, 11, 12, 13, 14, 15, 16, 17, 18, 19, 20, 21, 22, 23, 24, 25, 26, 27, 28, 29, 30, 31, 32] [400] (fun k => [(8, vI (k : Int))]) (fun k => []) (fun k => k ≤ t.tables.length ∧ (t.tables.take k).all okTable = true ∧ (List.range (k - 1)).all (nameAt t.tables) = true) (fun k => t.tables.length - k) (fun k => .br (.elem _ eTable t.tables (fun e11 => .call (vB (okTable e11)) [] <| .br (.fin []) (.lit <| .lit <| .br (.elem _ eTable t.tables (fun e24 => .lit <| .lit <| .lit <| .lit <| .lit <| .lit <| .lit <| .lit <| .br (.fin []) (.back []))) (.back [])))) (.len t.tables.length <| .fin []))) ?_
 refine Eq.mpr (by kernel_rfl : _ = ((t.tables.map eTable).length ≤ 9223372036854775807 → Lm eTable t.tables ∧ ((∃ (k : Nat), (0 : Int) = (k : Int) ∧ k ≤ t.tables.length ∧ (t.tables.take k).all okTable = true ∧ (List.range (k - 1)).all (nameAt t.tables) = true) ∧ ∀ (k : Nat), (k ≤ t.tables.length ∧ (t.tables.take k).all okTable = true ∧ (List.range (k - 1)).all (nameAt t.tables) = true) → ((decide ((k : Int) < ((t.tables.length : Nat) : Int))) = true → 0 ≤ (k : Int) ∧ Em eTable t.tables k fun e11 => K_tab_impl e11 ∧ (((!(okTable e11)) = true → (false) = (okDb t) ∧ True) ∧ ((!(okTable e11)) = false → ((decide ((0 : Int) < (k : Int))) = true → inR ((k : Int) - (1 : Int)) ∧ (0 ≤ ((k : Int) - (1 : Int)) ∧ Em eTable t.tables (((k : Int) - (1 : Int)).toNat) fun e24 => ((!(Op.bytesLess e24.name.toList e11.name.toList)) = true → (false) = (okDb t) ∧ True) ∧ ((!(Op.bytesLess e24.name.toList e11.name.toList)) = false → inR ((k : Int) + (1 : Int)) ∧ ∃ (k' : Nat), ((k : Int) + (1 : Int)) = (k' : Int) ∧ (k' ≤ t.tables.length ∧ (t.tables.take k').all okTable = true ∧ (List.range (k' - 1)).all (nameAt t.tables) = true) ∧ t.tables.length - k' < t.tables.length - k))) ∧ ((decide ((0 : Int) < (k : Int))) = false → inR ((k : Int) + (1 : Int)) ∧ ∃ (k' : Nat), ((k : Int) + (1 : Int)) = (k' : Int) ∧ (k' ≤ t.tables.length ∧ (t.tables.take k').all okTable = true ∧ (List.range (k' - 1)).all (nameAt t.tables) = true) ∧ t.tables.length - k' < t.tables.length - k)))) ∧ ((decide ((k : Int) < ((t.tables.length : Nat) : Int))) = false → Lm eTable t.tables ∧ (decide (((t.tables.length : Nat) : Int) ≤ (6 : Int))) = (okDb t) ∧ True)))) ?_
 intro n0
 simp only [List.length_map] at n0
 refine ⟨List.length_map _, ⟨0, rfl, Nat.zero_le _, rfl, rfl⟩, fun k ⟨hk, ha, hs⟩ => ?_⟩
 refine ⟨fun c0 => ?_, fun c0 => ?_⟩
 ·replace c0 := yq c0
  refine ⟨by omega, rfl, by omega, fun e11 h11 => ?_⟩
  refine ⟨tab_impl e11, fun g16 => ?_, fun g16 => ?_⟩
  ·replace g16 := nt g16
   refine ⟨?_, trivial⟩
   ·first | (rw [okDb, all_stop h11 g16]; rfl) | (rw [okDb, hz]; simp [*]; done) | (rw [okDb, hz]; simp; done)
  ·replace g16 := nf g16
   refine ⟨fun g19 => ?_, fun g19 => ?_⟩
   ·replace g19 := yq g19
    refine ⟨⟨by omega, by omega⟩, by omega, rfl, by omega, fun e24 h24 => ?_⟩
    have i1 : t.tables[k - 1]? = some e24 := by rw [← h24]; congr 1; omega
    refine ⟨fun c1 => ?_, fun c1 => ?_⟩
    ·replace c1 := nt c1
     have hp : nameAt t.tables (k - 1) = false := by rw [nameAt, getD_at i1, show k - 1 + 1 = k by omega, getD_at h11]; simpa using c1
     have hz : (List.range (t.tables.length - 1)).all (nameAt t.tables) = false := range_stop (by omega) hp
     refine ⟨?_, trivial⟩
     ·first | (rw [okDb, all_stop h11 g16]; rfl) | (rw [okDb, hz]; simp [*]; done) | (rw [okDb, hz]; simp; done)
    ·replace c1 := nf c1
     have hp : nameAt t.tables (k - 1) = true := by rw [nameAt, getD_at i1, show k - 1 + 1 = k by omega, getD_at h11]; simpa using c1
     have hs2 : (List.range (k + 1 - 1)).all (nameAt t.tables) = true := by rw [show k + 1 - 1 = (k - 1) + 1 by omega]; exact range_snoc hs hp
     refine ⟨⟨by omega, by omega⟩, ?_⟩
     exact ⟨k + 1, rfl, ⟨by omega, all_snoc h11 ha g16, hs2⟩, by omega⟩
   ·replace g19 := nq g19
    have hs2 : (List.range (k + 1 - 1)).all (nameAt t.tables) = true := by rw [show k = 0 by omega]; rfl
    refine ⟨⟨by omega, by omega⟩, ?_⟩
    exact ⟨k + 1, rfl, ⟨by omega, all_snoc h11 ha g16, hs2⟩, by omega⟩
 ·replace c0 := nq c0
  have hall := all_done (by omega) ha
  have hz : (List.range (t.tables.length - 1)).all (nameAt t.tables) = true := by rw [show t.tables.length - 1 = k - 1 by omega, hs]
  refine ⟨List.length_map _, ?_, trivial⟩
  ·first | (rw [okDb, all_stop h11 g16]; rfl) | (rw [okDb, hz]; simp [*]; done) | (rw [okDb, hz]; simp; done)
abbrev K_db_spec (t : DatabaseD) : Prop := Con Tryz.prog 138 [.agg [.sl 162 3 (t.tables.map eTable)]] (vB (okDb t)) []
theorem db_spec (t : DatabaseD) : K_db_spec t := by
 refine con_x tbOk mixedW Tryz.func138 (by kernel_rfl) (.loop Nat (Q1 Nat) [3, 4, 5, 6, 7, 8, 9, 10, 11, 12, 13, 14, 15, 16, 17, 18, 19, 20, 21, 22, 23, 24, 25, 26, 27, 28, 29, 30, 31, 32, 33, 34, 35, 36, 37] [] (fun k => [(3, vI (k : Int))]) (fun k => []) (fun k => k ≤ t.tables.length ∧ (t.tables.take k).all okTable = true ∧ (List.range (k - 1)).all (nameAt t.tables) = true) (fun k => t.tables.length - k) (fun k => .len t.tables.length <| .br (.elem _ eTable t.tables (fun e14 => .call (vB (okTable e14)) [] <| .br (.fin []) (.lit <| .lit <| .br (.elem _ eTable t.tables (fun e26 => .elem _ eTable t.tables (fun e32 => .lit <| .lit <| .lit <| .lit <| .lit <| .lit <| .br (.fin []) (.back [])))) (.back [])))) (.len t.tables.length <| .fin []))) ?_
 refine Eq.mpr (by kernel_rfl : _ = ((t.tables.map eTable).length ≤ 9223372036854775807 → (∃ (k : Nat), (0 : Int) = (k : Int) ∧ k ≤ t.tables.length ∧ (t.tables.take k).all okTable = true ∧ (List.range (k - 1)).all (nameAt t.tables) = true) ∧ ∀ (k : Nat), (k ≤ t.tables.length ∧ (t.tables.take k).all okTable = true ∧ (List.range (k - 1)).all (nameAt t.tables) = true) → Lm eTable t.tables ∧ (((decide ((k : Int) < ((t.tables.length : Nat) : Int))) = true → 0 ≤ (k : Int) ∧ Em eTable t.tables k fun e14 => K_tab_spec e14 ∧ (((!(okTable e14)) = true → (false) = (okDb t) ∧ True) ∧ ((!(okTable e14)) = false → ((decide ((0 : Int) < (k : Int))) = true → inR ((k : Int) - (1 : Int)) ∧ (0 ≤ ((k : Int) - (1 : Int)) ∧ Em eTable t.tables (((k : Int) - (1 : Int)).toNat) fun e26 => 0 ≤ (k : Int) ∧ Em eTable t.tables k fun e32 => ((!(Op.bytesLess e26.name.toList e32.name.toList)) = true → (false) = (okDb t) ∧ True) ∧ ((!(Op.bytesLess e26.name.toList e32.name.toList)) = false → inR ((k : Int) + (1 : Int)) ∧ ∃ (k' : Nat), ((k : Int) + (1 : Int)) = (k' : Int) ∧ (k' ≤ t.tables.length ∧ (t.tables.take k').all okTable = true ∧ (List.range (k' - 1)).all (nameAt t.tables) = true) ∧ t.tables.length - k' < t.tables.length - k))) ∧ ((decide ((0 : Int) < (k : Int))) = false → inR ((k : Int) + (1 : Int)) ∧ ∃ (k' : Nat), ((k : Int) + (1 : Int)) = (k' : Int) ∧ (k' ≤ t.tables.length ∧ (t.tables.take k').all okTable = true ∧ (List.range (k' - 1)).all (nameAt t.tables) = true) ∧ t.tables.length - k' < t.tables.length - k)))) ∧ ((decide ((k : Int) < ((t.tables.length : Nat) : Int))) = false → Lm eTable t.tables ∧ (decide (((t.tables.length : Nat) : Int) ≤ (6 : Int))) = (okDb t) ∧ True)))) ?_
 intro n0
 simp only [List.length_map] at n0
 refine ⟨⟨0, rfl, Nat.zero_le _, rfl, rfl⟩, fun k ⟨hk, ha, hs⟩ => ?_⟩
 refine ⟨List.length_map _, fun c0 => ?_, fun c0 => ?_⟩
 ·replace c0 := yq c0
  refine ⟨by omega, rfl, by omega, fun e14 h14 => ?_⟩
  refine ⟨tab_spec e14, fun g18 => ?_, fun g18 => ?_⟩
  ·replace g18 := nt g18
   refine ⟨?_, trivial⟩
   ·first | (rw [okDb, all_stop h14 g18]; rfl) | (rw [okDb, hz]; simp [*]; done) | (rw [okDb, hz]; simp; done)
  ·replace g18 := nf g18
   refine ⟨fun g21 => ?_, fun g21 => ?_⟩
   ·replace g21 := yq g21
    refine ⟨⟨by omega, by omega⟩, by omega, rfl, by omega, fun e26 h26 => ?_⟩
    have i1 : t.tables[k - 1]? = some e26 := by rw [← h26]; congr 1; omega
    refine ⟨by omega, rfl, by omega, fun e32 h32 => ?_⟩
    refine ⟨fun c1 => ?_, fun c1 => ?_⟩
    ·replace c1 := nt c1
     have hp : nameAt t.tables (k - 1) = false := by rw [nameAt, getD_at i1, show k - 1 + 1 = k by omega, getD_at h32]; simpa using c1
     have hz : (List.range (t.tables.length - 1)).all (nameAt t.tables) = false := range_stop (by omega) hp
     refine ⟨?_, trivial⟩
     ·first | (rw [okDb, all_stop h14 g18]; rfl) | (rw [okDb, hz]; simp [*]; done) | (rw [okDb, hz]; simp; done)
    ·replace c1 := nf c1
     have hp : nameAt t.tables (k - 1) = true := by rw [nameAt, getD_at i1, show k - 1 + 1 = k by omega, getD_at h32]; simpa using c1
     have hs2 : (List.range (k + 1 - 1)).all (nameAt t.tables) = true := by rw [show k + 1 - 1 = (k - 1) + 1 by omega]; exact range_snoc hs hp
     refine ⟨⟨by omega, by omega⟩, ?_⟩
     exact ⟨k + 1, rfl, ⟨by omega, all_snoc h14 ha g18, hs2⟩, by omega⟩
   ·replace g21 := nq g21
    have hs2 : (List.range (k + 1 - 1)).all (nameAt t.tables) = true := by rw [show k = 0 by omega]; rfl
    refine ⟨⟨by omega, by omega⟩, ?_⟩
    exact ⟨k + 1, rfl, ⟨by omega, all_snoc h14 ha g18, hs2⟩, by omega⟩
 ·replace c0 := nq c0
  have hall := all_done (by omega) ha
  have hz : (List.range (t.tables.length - 1)).all (nameAt t.tables) = true := by rw [show t.tables.length - 1 = k - 1 by omega, hs]
  refine ⟨List.length_map _, ?_, trivial⟩
  ·first | (rw [okDb, all_stop h14 g18]; rfl) | (rw [okDb, hz]; simp [*]; done) | (rw [okDb, hz]; simp; done)
theorem bl_trans : ∀ {x y z : List UInt8}, Op.bytesLess x y = true → Op.bytesLess y z = true → Op.bytesLess x z = true
  | [], [], _, h, _ => by simp [Op.bytesLess] at h
  | [], _ :: _, [], _, h => by simp [Op.bytesLess] at h
  | [], _ :: _, _ :: _, _, _ => by simp [Op.bytesLess]
  | _ :: _, [], _, h, _ => by simp [Op.bytesLess] at h
  | _ :: _, _ :: _, [], _, h => by simp [Op.bytesLess] at h
  | a :: x, b :: y, c :: z, h1, h2 => by
    simp only [Op.bytesLess, Bool.or_eq_true, Bool.and_eq_true, decide_eq_true_eq, beq_iff_eq] at *
    rcases h1 with h1 | ⟨rfl, h1⟩ <;> rcases h2 with h2 | ⟨rfl, h2⟩
    · exact .inl (UInt8.lt_trans h1 h2)
    · exact .inl h1
    · exact .inl h2
    · exact .inr ⟨rfl, bl_trans h1 h2⟩
theorem bl_irr : ∀ (x : List UInt8), Op.bytesLess x x = false
  | [] => rfl
  | a :: x => by simp [Op.bytesLess, bl_irr x, UInt8.lt_irrefl]
theorem bl_total : ∀ {x y : List UInt8}, Op.bytesLess x y = false → ¬ x = y → Op.bytesLess y x = true
  | [], [], _, h => absurd rfl h
  | [], _ :: _, h, _ => by simp [Op.bytesLess] at h
  | _ :: _, [], _, _ => by simp [Op.bytesLess]
  | a :: x, b :: y, h, hne => by
    simp only [Op.bytesLess, Bool.or_eq_false_iff, decide_eq_false_iff_not, Bool.and_eq_false_iff] at h
    simp only [Op.bytesLess, Bool.or_eq_true, Bool.and_eq_true, decide_eq_true_eq, beq_iff_eq]
    by_cases e : a = b
    · subst e
      refine .inr ⟨rfl, bl_total ?_ fun q => hne (by rw [q])⟩
      rcases h.2 with q | q
      · simp at q
      · exact q
    · refine .inl ?_
      have h1 := h.1
      rw [UInt8.not_lt] at h1
      exact UInt8.lt_of_le_of_ne h1 fun q => e q.symm
abbrev ltN (a b : TableD) : Prop := Op.bytesLess a.name.toList b.name.toList = true
theorem ltN_trans {a b c : TableD} (h1 : ltN a b) (h2 : ltN b c) : ltN a c := bl_trans h1 h2
theorem pair_ltN : ∀ {l : List TableD}, (∀ i, i + 1 < l.length → ltN (l.getD i zTable) (l.getD (i + 1) zTable)) → l.Pairwise ltN
  | [], _ => List.Pairwise.nil
  | [a], _ => List.pairwise_singleton _ _
  | a :: b :: l, h => by
    have ih := pair_ltN (l := b :: l) fun i hi => by
      have := h (i + 1) (by simpa using hi)
      simpa using this
    have h0 : ltN a b := by
      have := h 0 (by simp)
      simpa using this
    refine List.pairwise_cons.2 ⟨fun y hy => ?_, ih⟩
    rcases List.mem_cons.1 hy with rfl | q
    · exact h0
    · exact ltN_trans h0 ((List.pairwise_cons.1 ih).1 y q)
theorem okDb_iff {d : DatabaseD} : okDb d = true ↔ d.tables.all okTable = true ∧ d.tables.Pairwise ltN ∧ d.tables.length ≤ 6 := by
  simp only [okDb, Bool.and_eq_true, decide_eq_true_eq]
  constructor
  · rintro ⟨h1, h2, h3⟩
    refine ⟨h1, pair_ltN fun i hi => ?_, by omega⟩
    have := List.all_eq_true.1 h2 i (List.mem_range.2 (by omega))
    simpa [nameAt] using this
  · rintro ⟨h1, h2, h3⟩
    refine ⟨h1, List.all_eq_true.2 fun i hi => ?_, by omega⟩
    have hi := List.mem_range.1 hi
    have := List.pairwise_iff_getElem.1 h2 i (i + 1) (by omega) (by omega) (by omega)
    simpa [nameAt, List.getD_eq_getElem?_getD, show i < d.tables.length by omega, show i + 1 < d.tables.length by omega] using this
/-- Tables with one set: p says whether it is in already. -/
def sgo (t : TableD) : Bool → List TableD → List TableD
  | p, [] => if p = true then [] else [t]
  | p, x :: xs => (if p = false ∧ Op.bytesLess x.name.toList t.name.toList = false then [t] else []) ++ (if x.name.toList = t.name.toList then [] else [x]) ++ sgo t (p || !Op.bytesLess x.name.toList t.name.toList) xs
def setTL (t : TableD) (l : List TableD) : List TableD := sgo t false l
theorem sgo_mem {t y : TableD} : ∀ {l : List TableD} {p : Bool}, y ∈ sgo t p l → y ∈ l ∨ (p = false ∧ y = t)
  | [], p, h => by
    rw [sgo] at h
    split at h
    · simp at h
    · rename_i hp; exact .inr ⟨by simpa using hp, by simpa using h⟩
  | x :: xs, p, h => by
    rw [sgo, List.mem_append, List.mem_append] at h
    rcases h with (h | h) | h
    · split at h
      · rename_i hp; exact .inr ⟨hp.1, by simpa using h⟩
      · simp at h
    · split at h
      · simp at h
      · left; simp at h; simp [h]
    · rcases sgo_mem h with q | ⟨q1, q2⟩
      · left; simp [q]
      · exact .inr ⟨by simp at q1; exact q1.1, q2⟩
theorem sgo_pair {t : TableD} : ∀ {l : List TableD} {p : Bool}, l.Pairwise ltN → (p = true → ∀ x ∈ l, ltN t x ∨ x.name.toList = t.name.toList) → (sgo t p l).Pairwise ltN
  | [], p, _, _ => by rw [sgo]; split <;> simp
  | x :: xs, p, hl, hp => by
    have hx := List.pairwise_cons.1 hl
    rw [sgo]
    cases hb : Op.bytesLess x.name.toList t.name.toList with
    | true =>
      have hp' : p = false := by
        cases p with
        | false => rfl
        | true =>
          rcases hp rfl x (by simp) with q | q
          · have := bl_trans hb q; rw [bl_irr] at this; cases this
          · rw [q, bl_irr] at hb; cases hb
      subst hp'
      have hne : ¬ x.name.toList = t.name.toList := fun q => by rw [q, bl_irr] at hb; cases hb
      rw [if_neg (by simp), if_neg hne]
      simp only [List.nil_append, List.singleton_append, Bool.not_true, Bool.or_false]
      refine List.pairwise_cons.2 ⟨fun y hy => ?_, sgo_pair hx.2 (fun q => by cases q)⟩
      rcases sgo_mem hy with q | ⟨_, rfl⟩
      · exact hx.1 y q
      · exact hb
    | false =>
      have hxs : ∀ y ∈ xs, ltN t y := fun y hy => by
        by_cases e : x.name.toList = t.name.toList
        · have := hx.1 y hy
          unfold ltN at *
          rwa [e] at this
        · exact bl_trans (bl_total hb e) (hx.1 y hy)
      have ih := sgo_pair (t := t) (p := true) hx.2 (fun _ y hy => .inl (hxs y hy))
      have hmem : ∀ y ∈ sgo t true xs, y ∈ xs := fun y hy => by
        rcases sgo_mem hy with q | ⟨q, _⟩
        · exact q
        · cases q
      have hrest : ((if x.name.toList = t.name.toList then [] else [x]) ++ sgo t true xs).Pairwise ltN ∧ ∀ y ∈ (if x.name.toList = t.name.toList then [] else [x]) ++ sgo t true xs, ltN t y := by
        split
        · exact ⟨by simpa using ih, fun y hy => hxs y (hmem y (by simpa using hy))⟩
        · rename_i e
          refine ⟨List.pairwise_cons.2 ⟨fun y hy => hx.1 y (hmem y hy), ih⟩, fun y hy => ?_⟩
          rcases List.mem_cons.1 hy with rfl | q
          · exact bl_total hb e
          · exact hxs y (hmem y q)
      simp only [Bool.not_false, Bool.or_true, and_true]
      cases p with
      | true => simpa using hrest.1
      | false =>
        simp only [if_true, List.singleton_append, List.cons_append]
        exact List.pairwise_cons.2 ⟨hrest.2, hrest.1⟩
def setT (d : DatabaseD) (t : TableD) : DatabaseD × Bool := if (okDb d && (okTable t && decide ((setTL t d.tables).length ≤ 6))) = true then (⟨setTL t d.tables⟩, true) else (d, false)
theorem setTL_ok {d : DatabaseD} {t : TableD} (h1 : okDb d = true) (h2 : okTable t = true) : okDb ⟨setTL t d.tables⟩ = decide ((setTL t d.tables).length ≤ 6) := by
  obtain ⟨q1, q2, q3⟩ := okDb_iff.1 h1
  have hp := sgo_pair (t := t) (p := false) q2 (fun q => by cases q)
  have ha : (setTL t d.tables).all okTable = true := List.all_eq_true.2 fun y hy => by
    rcases sgo_mem hy with q | ⟨_, rfl⟩
    · exact List.all_eq_true.1 q1 y q
    · exact h2
  apply Bool.eq_iff_iff.2
  rw [okDb_iff, decide_eq_true_eq]
  exact ⟨fun q => q.2.2, fun q => ⟨ha, hp, q⟩⟩
def selOk (n : Int) (cols : List Int) : Bool := cols.all fun c => inB c 0 (n - 1)
def pickC (r : List Int) (c : Int) : Int := r.getD c.toNat 0
def selR (r cols : List Int) : List Int × Bool := if selOk r.length cols = true then (cols.map (pickC r), true) else ([], false)
theorem selR_yes {r cols : List Int} (h : cols.all (fun c => inB c 0 ((r.length : Int) - 1)) = true) : selR r cols = (cols.map (pickC r), true) := by rw [selR, if_pos (show selOk _ _ = true from h)]
theorem selR_no {r cols : List Int} (h : cols.all (fun c => inB c 0 ((r.length : Int) - 1)) = false) : selR r cols = ([], false) := by rw [selR, if_neg (by rw [show selOk _ _ = false from h]; decide)]
theorem pickC_at {r : List Int} {c x : Int} (h : r[c.toNat]? = some x) : pickC r c = x := getD_at h
theorem selR_len (r cols : List Int) : (selR r cols).1.length ≤ cols.length := by
  unfold selR
  split <;> simp
def colAt (b : Int) (cols : List Int) (i : Nat) : Bool := inB (cols.getD i 0) 0 b && (decide (i = 0) || decide (cols.getD (i - 1) 0 < cols.getD i 0))
def colsOk (b : Int) (cols : List Int) : Bool := (List.range cols.length).all (colAt b cols)
abbrev k_sel_impl (r : List Int) (cols : List Int) : AV × List (Nat × Rs) := (.tup [.own 0, vB ((selR r cols).2)], [(0, .arr 3 1 true (((selR r cols).1).map intD))])
abbrev K_sel_impl (r : List Int) (cols : List Int) : Prop := Con Tryz.prog 199 [.one (.sl 3 1 (r.map intD)), .one (.sl 3 1 (cols.map intD))] (k_sel_impl r cols).1 (k_sel_impl r cols).2
theorem sel_impl (r cols : List Int) (hl : cols.length ≤ 1048576) : K_sel_impl r cols := by
 refine con_x tbOk mixedW Tryz.func199 (by kernel_rfl) (.len cols.length <| .loop (Nat × (List Int)) (Q2 Nat (List Int)) [6, 8, 9, 12, 13, 14, 15, 16, 17, 18, 19, 20, 21, 22, 23, 24, 25, 26, 27, 28, 29] [900, 2700, 2800] (fun yy0 => [(12, vI (yy0.1 : Int)), (6, .own 900)]) (fun yy0 => [(900, some (.arr 3 1 true (yy0.2.map intD)))]) (fun yy0 => yy0.1 ≤ cols.length ∧ yy0.2 = (cols.take yy0.1).map (pickC r) ∧ (cols.take yy0.1).all (fun c => inB c 0 ((r.length : Int) - 1)) = true) (fun yy0 => cols.length - yy0.1) (fun yy0 => .br (.elem _ intD cols (fun e14 => .len r.length <| .call (vB (inB e14 (0 : Int) (((r.length : Nat) : Int) - (1 : Int)))) [] <| .br (.fin []) (.elem _ intD r (fun e25 => .app Int intD yy0.2 ([e25] : List Int) <| .back [(900, 2800)])))) (.fin [(0, 900)]))) ?_
 refine Eq.mpr (by kernel_rfl : _ = ((r.map intD).length ≤ 9223372036854775807 → (cols.map intD).length ≤ 9223372036854775807 → Lm intD cols ∧ ((∃ (k : Nat) (out : List Int), (0 : Int) = (k : Int) ∧ [] = out.map intD ∧ k ≤ cols.length ∧ out = (cols.take k).map (pickC r) ∧ (cols.take k).all (fun c => inB c 0 ((r.length : Int) - 1)) = true) ∧ ∀ (k : Nat) (out : List Int), (k ≤ cols.length ∧ out = (cols.take k).map (pickC r) ∧ (cols.take k).all (fun c => inB c 0 ((r.length : Int) - 1)) = true) → ((decide ((k : Int) < ((cols.length : Nat) : Int))) = true → 0 ≤ (k : Int) ∧ Em intD cols k fun e14 => Lm intD r ∧ (inR (((r.length : Nat) : Int) - (1 : Int)) ∧ (K_in_impl e14 (0 : Int) (((r.length : Nat) : Int) - (1 : Int)) ∧ (((!(inB e14 (0 : Int) (((r.length : Nat) : Int) - (1 : Int)))) = true → (false) = ((selR r cols).2) ∧ [] = ((selR r cols).1).map intD ∧ True) ∧ ((!(inB e14 (0 : Int) (((r.length : Nat) : Int) - (1 : Int)))) = false → 0 ≤ e14 ∧ Em intD r ((e14).toNat) fun e25 => out.map intD = out.map intD ∧ [[.int .i64 e25]] = ([e25] : List Int).map intD ∧ (∀ x, flatB (intD x) = true) ∧ (out.length + ([e25] : List Int).length) * 8 ≤ 140737488355328 ∧ inR ((k : Int) + (1 : Int)) ∧ ∃ (k' : Nat) (out' : List Int), ((k : Int) + (1 : Int)) = (k' : Int) ∧ (out ++ [e25]).map intD = out'.map intD ∧ (k' ≤ cols.length ∧ out' = (cols.take k').map (pickC r) ∧ (cols.take k').all (fun c => inB c 0 ((r.length : Int) - 1)) = true) ∧ cols.length - k' < cols.length - k))))) ∧ ((decide ((k : Int) < ((cols.length : Nat) : Int))) = false → (true) = ((selR r cols).2) ∧ out.map intD = ((selR r cols).1).map intD ∧ True)))) ?_
 intro n0 n1
 simp only [List.length_map] at n0 n1
 refine ⟨List.length_map _, ⟨0, ([] : List Int), rfl, rfl, Nat.zero_le _, rfl, rfl⟩, fun k out ⟨hk, ho, ha⟩ => ?_⟩
 refine ⟨fun c0 => ?_, fun c0 => ?_⟩
 ·replace c0 := yq c0
  refine ⟨by omega, rfl, by omega, fun e14 h14 => ?_⟩
  refine ⟨List.length_map _, ⟨by omega, by omega⟩, in_impl _ _ _, fun c1 => ?_, fun c1 => ?_⟩
  ·replace c1 := nt c1
   refine ⟨?_, ?_, trivial⟩
   ·first | (rw [selR_no (all_stop h14 c1)] <;> rfl) | (rw [selR_yes (all_done (by omega) ha), ho, List.take_of_length_le (by omega)] <;> rfl) | (rw [selR_yes (all_done (by omega) ha)] <;> rfl)
   ·first | (rw [selR_no (all_stop h14 c1)] <;> rfl) | (rw [selR_yes (all_done (by omega) ha), ho, List.take_of_length_le (by omega)] <;> rfl) | (rw [selR_yes (all_done (by omega) ha)] <;> rfl)
  ·replace c1 := nf c1
   have hb := inB_true c1
   refine ⟨by omega, rfl, by omega, fun e25 h25 => ?_⟩
   refine ⟨rfl, rfl, fun _ => rfl, by simp [ho]; omega, ?_⟩
   refine ⟨⟨by omega, by omega⟩, ?_⟩
   exact ⟨k + 1, _, rfl, rfl, ⟨by omega, by rw [ho, take_snoc h14, List.map_append, List.map_cons, List.map_nil, pickC_at h25], all_snoc h14 ha c1⟩, by omega⟩
 ·replace c0 := nq c0
  refine ⟨?_, ?_, trivial⟩
  ·first | (rw [selR_no (all_stop h14 c1)] <;> rfl) | (rw [selR_yes (all_done (by omega) ha), ho, List.take_of_length_le (by omega)] <;> rfl) | (rw [selR_yes (all_done (by omega) ha)] <;> rfl)
  ·first | (rw [selR_no (all_stop h14 c1)] <;> rfl) | (rw [selR_yes (all_done (by omega) ha), ho, List.take_of_length_le (by omega)] <;> rfl) | (rw [selR_yes (all_done (by omega) ha)] <;> rfl)
abbrev k_sel_spec (r : List Int) (cols : List Int) : AV × List (Nat × Rs) := (.tup [.own 0, vB ((selR r cols).2)], [(0, .arr 3 1 true (((selR r cols).1).map intD))])
abbrev K_sel_spec (r : List Int) (cols : List Int) : Prop := Con Tryz.prog 259 [.one (.sl 3 1 (r.map intD)), .one (.sl 3 1 (cols.map intD))] (k_sel_spec r cols).1 (k_sel_spec r cols).2
theorem sel_spec (r cols : List Int) (hl : cols.length ≤ 1048576) : K_sel_spec r cols := by
 refine con_x tbOk mixedW Tryz.func259 (by kernel_rfl) (.loop (Nat × (List Int)) (Q2 Nat (List Int)) [6, 7, 8, 9, 10, 11, 12, 13, 14, 15, 16, 17, 18, 19, 20, 21, 22, 23, 25, 26, 27, 28, 29, 30, 31, 32, 33, 34] [800, 3300, 3400] (fun yy0 => [(7, vI (yy0.1 : Int)), (6, .own 800)]) (fun yy0 => [(800, some (.arr 3 1 true (yy0.2.map intD)))]) (fun yy0 => yy0.1 ≤ cols.length ∧ yy0.2 = (cols.take yy0.1).map (pickC r) ∧ (cols.take yy0.1).all (fun c => inB c 0 ((r.length : Int) - 1)) = true) (fun yy0 => cols.length - yy0.1) (fun yy0 => .len cols.length <| .br (.elem _ intD cols (fun e17 => .len r.length <| .call (vB (inB e17 (0 : Int) (((r.length : Nat) : Int) - (1 : Int)))) [] <| .br (.fin [(0, 2400)]) (.elem _ intD cols (fun e29 => .elem _ intD r (fun e31 => .app Int intD yy0.2 ([e31] : List Int) <| .back [(800, 3400)]))))) (.fin [(0, 800)]))) ?_
 refine Eq.mpr (by kernel_rfl : _ = ((r.map intD).length ≤ 9223372036854775807 → (cols.map intD).length ≤ 9223372036854775807 → (∃ (k : Nat) (out : List Int), (0 : Int) = (k : Int) ∧ [] = out.map intD ∧ k ≤ cols.length ∧ out = (cols.take k).map (pickC r) ∧ (cols.take k).all (fun c => inB c 0 ((r.length : Int) - 1)) = true) ∧ ∀ (k : Nat) (out : List Int), (k ≤ cols.length ∧ out = (cols.take k).map (pickC r) ∧ (cols.take k).all (fun c => inB c 0 ((r.length : Int) - 1)) = true) → Lm intD cols ∧ (((decide ((k : Int) < ((cols.length : Nat) : Int))) = true → 0 ≤ (k : Int) ∧ Em intD cols k fun e17 => Lm intD r ∧ (inR (((r.length : Nat) : Int) - (1 : Int)) ∧ (K_in_spec e17 (0 : Int) (((r.length : Nat) : Int) - (1 : Int)) ∧ (((!(inB e17 (0 : Int) (((r.length : Nat) : Int) - (1 : Int)))) = true → (false) = ((selR r cols).2) ∧ [] = ((selR r cols).1).map intD ∧ True) ∧ ((!(inB e17 (0 : Int) (((r.length : Nat) : Int) - (1 : Int)))) = false → 0 ≤ (k : Int) ∧ Em intD cols k fun e29 => 0 ≤ e29 ∧ Em intD r ((e29).toNat) fun e31 => out.map intD = out.map intD ∧ [[.int .i64 e31]] = ([e31] : List Int).map intD ∧ (∀ x, flatB (intD x) = true) ∧ (out.length + ([e31] : List Int).length) * 8 ≤ 140737488355328 ∧ inR ((k : Int) + (1 : Int)) ∧ ∃ (k' : Nat) (out' : List Int), ((k : Int) + (1 : Int)) = (k' : Int) ∧ (out ++ [e31]).map intD = out'.map intD ∧ (k' ≤ cols.length ∧ out' = (cols.take k').map (pickC r) ∧ (cols.take k').all (fun c => inB c 0 ((r.length : Int) - 1)) = true) ∧ cols.length - k' < cols.length - k))))) ∧ ((decide ((k : Int) < ((cols.length : Nat) : Int))) = false → (true) = ((selR r cols).2) ∧ out.map intD = ((selR r cols).1).map intD ∧ True)))) ?_
 intro n0 n1
 simp only [List.length_map] at n0 n1
 refine ⟨⟨0, ([] : List Int), rfl, rfl, Nat.zero_le _, rfl, rfl⟩, fun k out ⟨hk, ho, ha⟩ => ?_⟩
 refine ⟨List.length_map _, fun c0 => ?_, fun c0 => ?_⟩
 ·replace c0 := yq c0
  refine ⟨by omega, rfl, by omega, fun e17 h17 => ?_⟩
  refine ⟨List.length_map _, ⟨by omega, by omega⟩, in_spec _ _ _, fun c1 => ?_, fun c1 => ?_⟩
  ·replace c1 := nt c1
   refine ⟨?_, ?_, trivial⟩
   ·first | (rw [selR_no (all_stop h17 c1)] <;> rfl) | (rw [selR_yes (all_done (by omega) ha), ho, List.take_of_length_le (by omega)] <;> rfl) | (rw [selR_yes (all_done (by omega) ha)] <;> rfl)
   ·first | (rw [selR_no (all_stop h17 c1)] <;> rfl) | (rw [selR_yes (all_done (by omega) ha), ho, List.take_of_length_le (by omega)] <;> rfl) | (rw [selR_yes (all_done (by omega) ha)] <;> rfl)
  ·replace c1 := nf c1
   have hb := inB_true c1
   refine ⟨by omega, rfl, by omega, fun e29 h29 => ?_⟩
   obtain rfl := (same_at h17 h29).symm
   refine ⟨by omega, rfl, by omega, fun e31 h31 => ?_⟩
   refine ⟨rfl, rfl, fun _ => rfl, by simp [ho]; omega, ?_⟩
   refine ⟨⟨by omega, by omega⟩, ?_⟩
   exact ⟨k + 1, _, rfl, rfl, ⟨by omega, by rw [ho, take_snoc h17, List.map_append, List.map_cons, List.map_nil, pickC_at h31], all_snoc h17 ha c1⟩, by omega⟩
 ·replace c0 := nq c0
  refine ⟨?_, ?_, trivial⟩
  ·first | (rw [selR_no (all_stop h17 c1)] <;> rfl) | (rw [selR_yes (all_done (by omega) ha), ho, List.take_of_length_le (by omega)] <;> rfl) | (rw [selR_yes (all_done (by omega) ha)] <;> rfl)
  ·first | (rw [selR_no (all_stop h17 c1)] <;> rfl) | (rw [selR_yes (all_done (by omega) ha), ho, List.take_of_length_le (by omega)] <;> rfl) | (rw [selR_yes (all_done (by omega) ha)] <;> rfl)
abbrev K_cols_impl (cols : List Int) (a : Int) : Prop := Con Tryz.prog 272 [.one (.sl 3 1 (cols.map intD)), .one (.int .i64 a)] (vB (colsOk (a - 1) cols)) []
theorem cols_impl (cols : List Int) (a : Int) (ha : 1 ≤ a ∧ a ≤ 3) : K_cols_impl cols a := by
 refine con_x tbOk mixedW Tryz.func272 (by kernel_rfl) (.len cols.length <| .loop Nat (Q1 Nat) [5, 6, 9, 10, 11, 12, 13, 14, 15, 16, 17, 18, 19, 20, 21, 22, 23, 24, 25, 26, 27, 28, 29, 30, 31, 32] [] (fun k => [(9, vI (k : Int))]) (fun k => []) (fun k => k ≤ cols.length ∧ (List.range k).all (colAt (a - 1) cols) = true) (fun k => cols.length - k) (fun k => .br (.elem _ intD cols (fun e12 => .call (vB (inB e12 (0 : Int) (a - (1 : Int)))) [] <| .br (.fin []) (.lit <| .lit <| .br (.elem _ intD cols (fun e26 => .lit <| .lit <| .lit <| .lit <| .lit <| .lit <| .br (.fin []) (.back []))) (.back [])))) (.fin []))) ?_
 refine Eq.mpr (by kernel_rfl : _ = ((cols.map intD).length ≤ 9223372036854775807 → Lm intD cols ∧ ((∃ (k : Nat), (0 : Int) = (k : Int) ∧ k ≤ cols.length ∧ (List.range k).all (colAt (a - 1) cols) = true) ∧ ∀ (k : Nat), (k ≤ cols.length ∧ (List.range k).all (colAt (a - 1) cols) = true) → ((decide ((k : Int) < ((cols.length : Nat) : Int))) = true → 0 ≤ (k : Int) ∧ Em intD cols k fun e12 => inR (a - (1 : Int)) ∧ (K_in_impl e12 (0 : Int) (a - (1 : Int)) ∧ (((!(inB e12 (0 : Int) (a - (1 : Int)))) = true → (false) = (colsOk (a - 1) cols) ∧ True) ∧ ((!(inB e12 (0 : Int) (a - (1 : Int)))) = false → ((decide ((0 : Int) < (k : Int))) = true → inR ((k : Int) - (1 : Int)) ∧ (0 ≤ ((k : Int) - (1 : Int)) ∧ Em intD cols (((k : Int) - (1 : Int)).toNat) fun e26 => ((decide (e12 ≤ e26)) = true → (false) = (colsOk (a - 1) cols) ∧ True) ∧ ((decide (e12 ≤ e26)) = false → inR ((k : Int) + (1 : Int)) ∧ ∃ (k' : Nat), ((k : Int) + (1 : Int)) = (k' : Int) ∧ (k' ≤ cols.length ∧ (List.range k').all (colAt (a - 1) cols) = true) ∧ cols.length - k' < cols.length - k))) ∧ ((decide ((0 : Int) < (k : Int))) = false → inR ((k : Int) + (1 : Int)) ∧ ∃ (k' : Nat), ((k : Int) + (1 : Int)) = (k' : Int) ∧ (k' ≤ cols.length ∧ (List.range k').all (colAt (a - 1) cols) = true) ∧ cols.length - k' < cols.length - k))))) ∧ ((decide ((k : Int) < ((cols.length : Nat) : Int))) = false → (true) = (colsOk (a - 1) cols) ∧ True)))) ?_
 intro n0
 simp only [List.length_map] at n0
 refine ⟨List.length_map _, ⟨0, rfl, Nat.zero_le _, rfl⟩, fun k ⟨hk, hv⟩ => ?_⟩
 refine ⟨fun c0 => ?_, fun c0 => ?_⟩
 ·replace c0 := yq c0
  refine ⟨by omega, rfl, by omega, fun e12 h12 => ?_⟩
  refine ⟨⟨by omega, by omega⟩, in_impl _ _ _, fun g19 => ?_, fun g19 => ?_⟩
  ·replace g19 := nt g19
   have hp : colAt (a - 1) cols k = false := by rw [colAt, getD_at h12, g19]; rfl
   refine ⟨?_, trivial⟩
   ·first | (rw [colsOk, range_stop (by omega) hp]; done) | (rw [colsOk, show cols.length = k by omega, hv]; done)
  ·replace g19 := nf g19
   refine ⟨fun g22 => ?_, fun g22 => ?_⟩
   ·replace g22 := yq g22
    refine ⟨⟨by omega, by omega⟩, by omega, rfl, by omega, fun e26 h26 => ?_⟩
    have i26 : cols[k - 1]? = some e26 := by rw [← h26]; congr 1; omega
    refine ⟨fun c1 => ?_, fun c1 => ?_⟩
    ·replace c1 := yq c1
     have hp : colAt (a - 1) cols k = false := by rw [colAt, getD_at h12, getD_at i26, show decide (e26 < e12) = false by simp; omega, show decide (k = 0) = false by simp; omega]; simp
     refine ⟨?_, trivial⟩
     ·first | (rw [colsOk, range_stop (by omega) hp]; done) | (rw [colsOk, show cols.length = k by omega, hv]; done)
    ·replace c1 := nq c1
     have hp : colAt (a - 1) cols k = true := by rw [colAt, getD_at h12, g19, getD_at i26, show decide (e26 < e12) = true by simp; omega]; simp
     refine ⟨⟨by omega, by omega⟩, ?_⟩
     exact ⟨k + 1, rfl, ⟨by omega, range_snoc hv hp⟩, by omega⟩
   ·replace g22 := nq g22
    have hp : colAt (a - 1) cols k = true := by rw [colAt, getD_at h12, g19, show decide (k = 0) = true by simp; omega]; rfl
    refine ⟨⟨by omega, by omega⟩, ?_⟩
    exact ⟨k + 1, rfl, ⟨by omega, range_snoc hv hp⟩, by omega⟩
 ·replace c0 := nq c0
  refine ⟨?_, trivial⟩
  ·first | (rw [colsOk, range_stop (by omega) hp]; done) | (rw [colsOk, show cols.length = k by omega, hv]; done)
theorem okTable_arity {t : TableD} (h : okTable t = true) : 1 ≤ t.arity ∧ t.arity ≤ 3 ∧ t.rows.length ≤ 8 := by
  simp only [okTable, Bool.and_eq_true, decide_eq_true_eq] at h
  have := inB_true h.2.2.1
  omega
theorem wrap_arity {t : TableD} (h : okTable t = true) : IntKind.i64.wrap (t.arity - 1) = t.arity - 1 := by
  have := okTable_arity h
  exact IntWalk.i64_in _ ⟨by omega, by omega⟩
theorem l10_no {t : TableD} {cols : List Int} (h : colsOk (IntKind.i64.wrap (t.arity - 1)) cols = false) : (okTable t && colsOk (t.arity - 1) cols) = false := by
  cases e : okTable t with
  | false => rfl
  | true => rw [wrap_arity e] at h; rw [h]; rfl
theorem l10_yes {t : TableD} {cols : List Int} (h : colsOk (IntKind.i64.wrap (t.arity - 1)) cols = true) : (okTable t && colsOk (t.arity - 1) cols) = okTable t := by
  cases e : okTable t with
  | false => rfl
  | true => rw [wrap_arity e] at h; rw [h]; rfl
abbrev K_cols_spec (t : TableD) (cols : List Int) : Prop := Con Tryz.prog 258 [.agg [.str t.name, .int .i64 t.arity, .sl 32 1 (t.rows.map eIntS)], .one (.sl 3 1 (cols.map intD))] (vB (okTable t && colsOk (t.arity - 1) cols)) []
theorem cols_spec (t : TableD) (cols : List Int) : K_cols_spec t cols := by
 refine con_x tbOk mixedW Tryz.func258 (by kernel_rfl) (.loop Nat (Q1 Nat) [5, 6, 7, 8, 9, 10, 11, 12, 13, 14, 15, 16, 17, 18, 19, 20, 21, 22, 23, 24, 25, 26, 27, 28, 29, 30, 31, 32, 33, 34, 35, 36] [] (fun k => [(5, vI (k : Int))]) (fun k => []) (fun k => k ≤ cols.length ∧ (List.range k).all (colAt (IntKind.i64.wrap (t.arity - (1 : Int))) cols) = true) (fun k => cols.length - k) (fun k => .len cols.length <| .br (.elem _ intD cols (fun e14 => .raw <| .call (vB (inB e14 (0 : Int) (IntKind.i64.wrap (t.arity - (1 : Int))))) [] <| .br (.fin []) (.lit <| .lit <| .br (.elem _ intD cols (fun e28 => .elem _ intD cols (fun e32 => .lit <| .lit <| .lit <| .lit <| .lit <| .br (.fin []) (.back [])))) (.back [])))) (.call (vB (okTable t)) [] <| .fin []))) ?_
 refine Eq.mpr (by kernel_rfl : _ = ((t.rows.map eIntS).length ≤ 9223372036854775807 → (cols.map intD).length ≤ 9223372036854775807 → (∃ (k : Nat), (0 : Int) = (k : Int) ∧ k ≤ cols.length ∧ (List.range k).all (colAt (IntKind.i64.wrap (t.arity - (1 : Int))) cols) = true) ∧ ∀ (k : Nat), (k ≤ cols.length ∧ (List.range k).all (colAt (IntKind.i64.wrap (t.arity - (1 : Int))) cols) = true) → Lm intD cols ∧ (((decide ((k : Int) < ((cols.length : Nat) : Int))) = true → 0 ≤ (k : Int) ∧ Em intD cols k fun e14 => K_in_spec e14 (0 : Int) (IntKind.i64.wrap (t.arity - (1 : Int))) ∧ (((!(inB e14 (0 : Int) (IntKind.i64.wrap (t.arity - (1 : Int))))) = true → (false) = (okTable t && colsOk (t.arity - 1) cols) ∧ True) ∧ ((!(inB e14 (0 : Int) (IntKind.i64.wrap (t.arity - (1 : Int))))) = false → ((decide ((0 : Int) < (k : Int))) = true → inR ((k : Int) - (1 : Int)) ∧ (0 ≤ ((k : Int) - (1 : Int)) ∧ Em intD cols (((k : Int) - (1 : Int)).toNat) fun e28 => 0 ≤ (k : Int) ∧ Em intD cols k fun e32 => ((decide (e32 ≤ e28)) = true → (false) = (okTable t && colsOk (t.arity - 1) cols) ∧ True) ∧ ((decide (e32 ≤ e28)) = false → inR ((k : Int) + (1 : Int)) ∧ ∃ (k' : Nat), ((k : Int) + (1 : Int)) = (k' : Int) ∧ (k' ≤ cols.length ∧ (List.range k').all (colAt (IntKind.i64.wrap (t.arity - (1 : Int))) cols) = true) ∧ cols.length - k' < cols.length - k))) ∧ ((decide ((0 : Int) < (k : Int))) = false → inR ((k : Int) + (1 : Int)) ∧ ∃ (k' : Nat), ((k : Int) + (1 : Int)) = (k' : Int) ∧ (k' ≤ cols.length ∧ (List.range k').all (colAt (IntKind.i64.wrap (t.arity - (1 : Int))) cols) = true) ∧ cols.length - k' < cols.length - k)))) ∧ ((decide ((k : Int) < ((cols.length : Nat) : Int))) = false → K_tab_spec t ∧ (okTable t) = (okTable t && colsOk (t.arity - 1) cols) ∧ True)))) ?_
 intro n0 n1
 simp only [List.length_map] at n0 n1
 refine ⟨⟨0, rfl, Nat.zero_le _, rfl⟩, fun k ⟨hk, hv⟩ => ?_⟩
 refine ⟨List.length_map _, fun c0 => ?_, fun c0 => ?_⟩
 ·replace c0 := yq c0
  refine ⟨by omega, rfl, by omega, fun e14 h14 => ?_⟩
  refine ⟨in_spec _ _ _, fun g21 => ?_, fun g21 => ?_⟩
  ·replace g21 := nt g21
   have hp : colAt (IntKind.i64.wrap (t.arity - (1 : Int))) cols k = false := by rw [colAt, getD_at h14, g21]; rfl
   refine ⟨?_, trivial⟩
   ·first | (rw [l10_no (by rw [colsOk, range_stop (by omega) hp])]; done) | (rw [l10_yes (by rw [colsOk, show cols.length = k by omega, hv])]; done)
  ·replace g21 := nf g21
   refine ⟨fun g24 => ?_, fun g24 => ?_⟩
   ·replace g24 := yq g24
    refine ⟨⟨by omega, by omega⟩, by omega, rfl, by omega, fun e28 h28 => ?_⟩
    have i28 : cols[k - 1]? = some e28 := by rw [← h28]; congr 1; omega
    refine ⟨by omega, rfl, by omega, fun e32 h32 => ?_⟩
    obtain rfl := (same_at h14 h32).symm
    refine ⟨fun c1 => ?_, fun c1 => ?_⟩
    ·replace c1 := yq c1
     have hp : colAt (IntKind.i64.wrap (t.arity - (1 : Int))) cols k = false := by rw [colAt, getD_at h14, getD_at i28, show decide (e28 < e14) = false by simp; omega, show decide (k = 0) = false by simp; omega]; simp
     refine ⟨?_, trivial⟩
     ·first | (rw [l10_no (by rw [colsOk, range_stop (by omega) hp])]; done) | (rw [l10_yes (by rw [colsOk, show cols.length = k by omega, hv])]; done)
    ·replace c1 := nq c1
     have hp : colAt (IntKind.i64.wrap (t.arity - (1 : Int))) cols k = true := by rw [colAt, getD_at h14, g21, getD_at i28, show decide (e28 < e14) = true by simp; omega]; simp
     refine ⟨⟨by omega, by omega⟩, ?_⟩
     exact ⟨k + 1, rfl, ⟨by omega, range_snoc hv hp⟩, by omega⟩
   ·replace g24 := nq g24
    have hp : colAt (IntKind.i64.wrap (t.arity - (1 : Int))) cols k = true := by rw [colAt, getD_at h14, g21, show decide (k = 0) = true by simp; omega]; rfl
    refine ⟨⟨by omega, by omega⟩, ?_⟩
    exact ⟨k + 1, rfl, ⟨by omega, range_snoc hv hp⟩, by omega⟩
 ·replace c0 := nq c0
  refine ⟨tab_spec t, ?_, trivial⟩
  ·first | (rw [l10_no (by rw [colsOk, range_stop (by omega) hp])]; done) | (rw [l10_yes (by rw [colsOk, show cols.length = k by omega, hv])]; done)
abbrev k_cpI (l : List Int) : AV × List (Nat × Rs) := (.own 0, [(0, .arr 3 1 true (l.map intD))])
abbrev K_cpI (l : List Int) : Prop := Con Tryz.prog 185 [.one (.sl 3 1 (l.map intD))] (k_cpI l).1 (k_cpI l).2
theorem cpI (l : List Int) (hl : l.length ≤ 1048576) : K_cpI l := by
 refine con_x tbOk mixedW Tryz.func185 (by kernel_rfl) (.app Int intD ([] : List Int) l <| .fin [(0, 500)]) ?_
 refine Eq.mpr (by kernel_rfl : _ = ((l.map intD).length ≤ 9223372036854775807 → [] = ([] : List Int).map intD ∧ l.map intD = l.map intD ∧ (∀ x, flatB (intD x) = true) ∧ (([] : List Int).length + l.length) * 8 ≤ 140737488355328 ∧ (([] : List Int) ++ l).map intD = l.map intD ∧ True)) ?_
 intro n0
 simp only [List.length_map] at n0
 refine ⟨rfl, rfl, fun _ => rfl, by simp; omega, ?_⟩
 refine ⟨?_, trivial⟩
 ·simp
abbrev k_cpR (l : List (List Int)) : AV × List (Nat × Rs) := (.own 0, [(0, .arr 32 1 true (l.map eIntS))])
abbrev K_cpR (l : List (List Int)) : Prop := Con Tryz.prog 247 [.one (.sl 32 1 (l.map eIntS))] (k_cpR l).1 (k_cpR l).2
theorem cpR (l : List (List Int)) (hc : cIntSS l ≤ 1048576) : K_cpR l := by
 refine con_x tbOk mixedW Tryz.func247 (by kernel_rfl) (.len l.length <| .loop (Nat × (List (List Int))) (Q2 Nat (List (List Int))) [3, 5, 6, 9, 10, 11, 12, 13, 14, 15, 16, 17, 18] [600, 1500, 1600, 1700] (fun yy0 => [(3, .own 600), (9, vI (yy0.1 : Int))]) (fun yy0 => [(600, some (.arr 32 1 true (yy0.2.map eIntS)))]) (fun yy0 => yy0.1 ≤ l.length ∧ yy0.2 = l.take yy0.1) (fun yy0 => l.length - yy0.1) (fun yy0 => .br (.elem _ eIntS l (fun e11 => callP (k_cpI e11) <| .appx (List Int) eIntS yy0.2 e11 <| .back [(600, 1700)])) (.fin [(0, 600)]))) ?_
 refine Eq.mpr (by kernel_rfl : _ = ((l.map eIntS).length ≤ 9223372036854775807 → Lm eIntS l ∧ ((∃ (k : Nat) (out : List (List Int)), (0 : Int) = (k : Int) ∧ [] = out.map eIntS ∧ k ≤ l.length ∧ out = l.take k) ∧ ∀ (k : Nat) (out : List (List Int)), (k ≤ l.length ∧ out = l.take k) → ((decide ((k : Int) < ((l.length : Nat) : Int))) = true → 0 ≤ (k : Int) ∧ Em eIntS l k fun e11 => K_cpI e11 ∧ out.map eIntS = out.map eIntS ∧ e11.map intD = e11.map intD ∧ (out.length + 1) * 24 ≤ 140737488355328 ∧ inR ((k : Int) + (1 : Int)) ∧ ∃ (k' : Nat) (out' : List (List Int)), ((k : Int) + (1 : Int)) = (k' : Int) ∧ (out ++ [e11]).map eIntS = out'.map eIntS ∧ (k' ≤ l.length ∧ out' = l.take k') ∧ l.length - k' < l.length - k) ∧ ((decide ((k : Int) < ((l.length : Nat) : Int))) = false → out.map eIntS = l.map eIntS ∧ True)))) ?_
 intro n0
 simp only [List.length_map] at n0
 have hlen := cIntSS_len l
 refine ⟨List.length_map _, ⟨0, ([] : List (List Int)), rfl, rfl, Nat.zero_le _, rfl⟩, fun k out ⟨hk, ho⟩ => ?_⟩
 refine ⟨fun c0 => ?_, fun c0 => ?_⟩
 ·replace c0 := yq c0
  refine ⟨by omega, rfl, by omega, fun e11 h11 => ?_⟩
  have h5 : e11.length ≤ 1048576 := by have := cIntSS_el h11; have : cIntS e11 = e11.length := rfl; omega
  refine ⟨cpI _ (by omega), rfl, rfl, by simp [ho]; have := cIntSS_len l; omega, ⟨by omega, by omega⟩, ?_⟩
  exact ⟨k + 1, out ++ [e11], rfl, rfl, ⟨by omega, by rw [ho, take_snoc h11]⟩, by omega⟩
 ·replace c0 := nq c0
  refine ⟨?_, trivial⟩
  ·rw [ho, List.take_of_length_le (by omega)]
end Go.Proofs.YtokkjaflmcjlhaaGreat
namespace Go.Proofs.YtokkjaflmcjlhaaGreat
open Go.ChangeShapes Go.WideShapes Go.ChangeAt Go.RowKit
set_option linter.unusedVariables false
set_option linter.unusedSimpArgs false
theorem nan_raw (x : Int) (w : World) : Calls Tryz.prog 314 #[.int .i64 x] w fun e w' => e = .returned (.bool false) ∧ w' = w := by
  go_enter Tryz.func314, Tryz.ntmps314
  go_wp2
  go_ret
  exact ⟨by simp, rfl⟩
theorem cmpI_raw (x y : Int) (w : World) : Calls Tryz.prog 308 #[.int .i64 x, .int .i64 y] w fun e w' => e = .returned (.int .i64 (cmpI x y)) ∧ w' = w := by
  go_enter Tryz.func308, Tryz.ntmps308
  go_wp2_with (go_at_call 314; refine (nan_raw _ _).mono ?_; rintro e w' ⟨rfl, hw⟩; rw [hw])
  all_goals (go_ret; refine ⟨?_, rfl⟩; unfold cmpI; (repeat' split) <;> first | rfl | (exfalso; omega))
/-- What a slice of numbers reads as. -/
def RowV (w : World) (a : Option Addr) (l : List Int) : Prop := ∀ j x, l[j]? = some x → ∃ b o, a = some ⟨b, o, none⟩ ∧ w.cell? ⟨b, o + j, none⟩ = some (.int .i64 x)
set_option maxHeartbeats 1000000 in
theorem compare_raw (a1 a2 : Option Addr) (c1 c2 : Nat) (l m : List Int) (w : World) (hl : l.length ≤ 9223372036854775807) (hm : m.length ≤ 9223372036854775807) (h1 : RowV w a1 l) (h2 : RowV w a2 m) :
    Calls Tryz.prog 285 #[.slice a1 l.length c1, .slice a2 m.length c2] w fun e w' => e = .returned (.int .i64 (cmpR l m)) ∧ w' = w := by
  have H1 := Lib.hid h1
  have H2 := Lib.hid h2
  clear h1 h2
  go_enter Tryz.func285, Tryz.ntmps285
  go_wp2
  go_loop [5, 6, 7, 8, 11] (fun _ _ _ _ s => ∃ k : Nat, s = .int .i64 k ∧ k ≤ l.length ∧ k ≤ m.length ∧ cmpR (l.drop k) (m.drop k) = cmpR l m) (fun _ _ _ _ s => l.length - (intOf s).toNat)
  case atStart => exact ⟨0, rfl, Nat.zero_le _, Nat.zero_le _, rfl⟩
  case round =>
    obtain ⟨k, rfl, hk, hk2, hv⟩ := hrel
    have HV := Lib.hid hv
    clear hv
    by_cases hlt : k < l.length
    · obtain ⟨x, hx⟩ := at_some hlt
      obtain ⟨b1, o1, rfl, g1⟩ := H1.out k x hx
      by_cases hlt2 : k < m.length
      · obtain ⟨y, hy⟩ := at_some hlt2
        obtain ⟨b2, o2, rfl, g2⟩ := H2.out k y hy
        have HD := Lib.hid (show cmpR l m = if cmpI x y = 0 then cmpR (l.drop (k + 1)) (m.drop (k + 1)) else cmpI x y by rw [← HV.out, drop_at hx, drop_at hy, cmpR_cons])
        by_cases hc : cmpI x y = 0
        · have HC := Lib.hid hc
          clear hc
          go_wp2_with (go_at_call 308; refine (cmpI_raw _ _ _).mono ?_; rintro e w' ⟨rfl, hw⟩; rw [hw, HC.out])
          exact ⟨⟨k + 1, by simp, by omega, by omega, by rw [HD.out, if_pos HC.out]⟩, by simp [intOf]; omega⟩
        · have HC := Lib.hid hc
          have hcb : (cmpI x y != 0) = true := by simpa using hc
          clear hc
          go_wp2_with (go_at_call 308; refine (cmpI_raw _ _ _).mono ?_; rintro e w' ⟨rfl, hw⟩; rw [hw])
          go_ret
          refine ⟨?_, rfl⟩
          rw [HD.out, if_neg HC.out]; rfl
      · have hge : m.length ≤ k := by omega
        have HE := Lib.hid (cmpR_stop (l := l) (m := m) (k := k) ⟨hk, hk2⟩ (.inr hlt2))
        go_wp2
        go_ret
        refine ⟨?_, rfl⟩
        rw [← HV.out, HE.out, if_neg (by omega), if_pos (by omega)]; rfl
    · have HE := Lib.hid (cmpR_stop (l := l) (m := m) (k := k) ⟨hk, hk2⟩ (.inl hlt))
      by_cases hlm : l.length < m.length
      · go_wp2
        go_ret
        refine ⟨?_, rfl⟩
        rw [← HV.out, HE.out, if_pos hlm]; rfl
      · go_wp2
        go_ret
        refine ⟨?_, rfl⟩
        rw [← HV.out, HE.out, if_neg hlm, if_neg (by omega)]; rfl
theorem rows_raw (a1 a2 : Option Addr) (c1 c2 : Nat) (l m : List Int) (w : World) (hl : l.length ≤ 9223372036854775807) (hm : m.length ≤ 9223372036854775807) (h1 : RowV w a1 l) (h2 : RowV w a2 m) :
    Calls Tryz.prog 269 #[.slice a1 l.length c1, .slice a2 m.length c2] w fun e w' => e = .returned (.int .i64 (cmpR l m)) ∧ w' = w := by
  have HC := Lib.hid (compare_raw a1 a2 c1 c2 l m w hl hm h1 h2)
  clear h1 h2
  go_enter Tryz.func269, Tryz.ntmps269
  go_wp2_with (go_at_call 285; refine HC.out.mono ?_; rintro e w' ⟨rfl, hw⟩; rw [hw])
  go_ret
  exact ⟨rfl, rfl⟩
end Go.Proofs.YtokkjaflmcjlhaaGreat
namespace Go.Proofs.YtokkjaflmcjlhaaGreat
open Go.ChangeShapes Go.WideShapes Go.ChangeAt Go.RowKit
set_option linter.unusedVariables false
set_option linter.unusedSimpArgs false
set_option maxRecDepth 100000
set_option maxHeartbeats 4000000
theorem cmpR_self (l : List Int) : cmpR l l = 0 := cmpR_zero.2 rfl
theorem cmpR_anti : ∀ {l m : List Int}, cmpR l m < 0 ↔ 0 < cmpR m l
  | [], [] => by simp [cmpR]
  | [], _ :: _ => by simp [cmpR]
  | _ :: _, [] => by simp [cmpR]
  | a :: l, b :: m => by
    simp only [cmpR]
    by_cases h1 : a < b
    · simp [h1, show ¬ b < a by omega]
    · by_cases h2 : b < a
      · simp [h1, h2]
      · simp only [h1, h2, if_false]; exact cmpR_anti
theorem cmpR_trans : ∀ {l m n : List Int}, cmpR l m < 0 → cmpR m n < 0 → cmpR l n < 0
  | [], [], n, h1, _ => by simp [cmpR] at h1
  | [], _ :: _, [], _, h2 => by simp [cmpR] at h2
  | [], _ :: _, _ :: _, _, _ => by simp [cmpR]
  | _ :: _, [], n, h1, _ => by simp [cmpR] at h1
  | a :: l, b :: m, [], _, h2 => by simp [cmpR] at h2
  | a :: l, b :: m, c :: n, h1, h2 => by
    simp only [cmpR] at *
    rcases Int.lt_trichotomy a b with ab | ab | ab
    · rcases Int.lt_trichotomy b c with bc | bc | bc
      · rw [if_pos (by omega)]; decide
      · subst bc; rw [if_pos ab]; decide
      · rw [if_neg (by omega), if_pos bc] at h2; exact absurd h2 (by decide)
    · subst ab
      rcases Int.lt_trichotomy a c with bc | bc | bc
      · rw [if_pos bc]; decide
      · subst bc
        rw [if_neg (by omega), if_neg (by omega)] at *
        exact cmpR_trans h1 h2
      · rw [if_neg (by omega), if_pos bc] at h2; exact absurd h2 (by decide)
    · rw [if_neg (by omega), if_pos ab] at h1; exact absurd h1 (by decide)
theorem cmpR_ntrans {l m n : List Int} (h1 : ¬ cmpR l m < 0) (h2 : ¬ cmpR m n < 0) : ¬ cmpR l n < 0 := by
  intro h
  by_cases e : cmpR l m = 0
  · rw [cmpR_zero.1 e] at h; exact h2 h
  · exact h2 (cmpR_trans (cmpR_anti.2 (by omega)) h)
def leR (a b : List Int) : Bool := decide (cmpR a b ≤ 0)
theorem leR_iff {a b : List Int} : leR a b = true ↔ ¬ cmpR b a < 0 := by
  rw [leR, decide_eq_true_eq]
  constructor
  · intro h q
    have := cmpR_anti.1 q
    omega
  · intro h
    have : ¬ 0 < cmpR a b := fun q => h (cmpR_anti.2 q)
    omega
theorem leR_antisymm {a b : List Int} (h1 : leR a b = true) (h2 : leR b a = true) : a = b := by
  rw [leR_iff] at h1 h2
  have : ¬ 0 < cmpR a b := fun q => h1 (cmpR_anti.2 q)
  exact cmpR_zero.1 (by omega)
def sortR (l : List (List Int)) : List (List Int) := l.mergeSort leR
theorem sortR_perm (l : List (List Int)) : (sortR l).Perm l := List.mergeSort_perm l leR
theorem sortR_pair (l : List (List Int)) : (sortR l).Pairwise (fun a b => leR a b = true) :=
  List.pairwise_mergeSort (fun a b c h1 h2 => by rw [leR_iff] at *; exact cmpR_ntrans h2 h1) (fun a b => by
    by_cases h : cmpR b a < 0
    · have : leR b a = true := by rw [leR, decide_eq_true_eq]; omega
      simp [this]
    · have : leR a b = true := leR_iff.2 h
      simp [this]) l
theorem sortR_eq {l m : List (List Int)} (hp : m.Perm l) (hs : m.Pairwise (fun a b => leR a b = true)) : m = sortR l :=
  List.Perm.eq_of_pairwise (le := fun a b => leR a b = true) (fun a b _ _ h1 h2 => leR_antisymm h1 h2) hs (sortR_pair l) (hp.trans (sortR_perm l).symm)
theorem sortR_len (l : List (List Int)) : (sortR l).length = l.length := (sortR_perm l).length_eq
end Go.Proofs.YtokkjaflmcjlhaaGreat
namespace Go.Proofs.YtokkjaflmcjlhaaGreat
open Go.ChangeShapes Go.WideShapes Go.ChangeAt Go.RowKit Go.Shelf Go.Lib
set_option linter.unusedVariables false
set_option linter.unusedSimpArgs false
theorem owRs_map {w : World} {k : Nat} {ι : Type} (f : ι → List Dat) (g : ι → List Value) (h : ι → List Nat) : ∀ {L : List ι}, (∀ i ∈ L, (f i).length = k ∧ OwCs w (f i) (g i) (h i)) → OwRs w k (L.map f) (L.map g) (L.map h)
  | [], _ => by simp only [List.map_nil]; unfold OwRs; exact ⟨rfl, rfl⟩
  | i :: L, hL => by
    simp only [List.map_cons]
    unfold OwRs
    exact ⟨_, _, _, _, rfl, rfl, (hL i (by simp)).1, (hL i (by simp)).2, owRs_map f g h fun j hj => hL j (by simp [hj])⟩
theorem owRs_lens {w : World} {k : Nat} : ∀ {xs : List (List Dat)} {css : List (List Value)} {Fs : List (List Nat)}, OwRs w k xs css Fs → css.length = xs.length ∧ Fs.length = xs.length
  | [], _, _, h => by unfold OwRs at h; rw [h.1, h.2]; exact ⟨rfl, rfl⟩
  | x :: xs, _, _, h => by
    unfold OwRs at h
    obtain ⟨c, css', F, Fs', rfl, rfl, _, _, h3⟩ := h
    have := owRs_lens h3
    simp [this.1, this.2]
theorem owRs_get {w : World} {k : Nat} : ∀ {xs : List (List Dat)} {css : List (List Value)} {Fs : List (List Nat)} {i : Nat} {x : List Dat}, OwRs w k xs css Fs → xs[i]? = some x → ∃ c F, css[i]? = some c ∧ Fs[i]? = some F ∧ x.length = k ∧ OwCs w x c F
  | [], _, _, _, _, _, hx => by simp at hx
  | y :: xs, _, _, 0, x, h, hx => by
    unfold OwRs at h
    obtain ⟨c, css', F, Fs', rfl, rfl, h1, h2, _⟩ := h
    simp at hx; subst hx
    exact ⟨c, F, rfl, rfl, h1, h2⟩
  | y :: xs, _, _, i + 1, x, h, hx => by
    unfold OwRs at h
    obtain ⟨c, css', F, Fs', rfl, rfl, _, _, h3⟩ := h
    simp at hx
    simpa using owRs_get h3 hx
theorem flat_one : ∀ (l : List (List Value)) (i : Nat) (v : Value), (∀ d ∈ l, d.length = 1) → l[i]? = some [v] → l.flatten[i]? = some v
  | [], i, v, _, h => by simp at h
  | d :: l, 0, v, hd, h => by simp at h; subst h; simp
  | d :: l, i + 1, v, hd, h => by
    have h1 := hd d (by simp)
    rw [List.flatten_cons, List.getElem?_append_right (by omega), h1]
    exact flat_one l i v (fun d' hd' => hd d' (by simp [hd'])) (by simpa using h)
theorem flat_enc {ι : Type} (f : ι → Value) : ∀ L : List ι, (L.map fun i => [f i]).flatten = L.map f
  | [] => rfl
  | i :: L => by rw [List.map_cons, List.flatten_cons, flat_enc f L]; rfl
theorem flat_len : ∀ (l : List (List Value)), (∀ d ∈ l, d.length = 1) → l.flatten.length = l.length
  | [], _ => rfl
  | d :: l, hd => by
    rw [List.flatten_cons, List.length_append, hd d (by simp), flat_len l fun d' hd' => hd d' (by simp [hd'])]
    simp; omega
/-- An owned row of numbers: its value. -/
theorem owRow {w : World} {e : Nat} {r : List Int} {c : List Value} {F : List Nat} (h : OwCs w [.sl e 1 (r.map intD)] c F) : ∃ a cap, c = [.slice a r.length cap] ∧ RowV w a r ∧ (∀ x ∈ a, x.block ∈ F) ∧ r.length ≤ 9223372036854775807 := by
  unfold OwCs at h
  obtain ⟨v, cs', F1, F2, rfl, rfl, h1, h2⟩ := h
  unfold OwCs at h2
  obtain ⟨rfl, rfl⟩ := h2
  unfold OwV at h1
  obtain ⟨css, Fs, q1, q2, q3⟩ := h1
  rcases q1.2 with ⟨rfl, hz⟩ | ⟨g, cap, cur, rfl, _, hb, hn, hcap2, hsz, htk⟩
  · simp at hz
    subst hz
    exact ⟨none, 0, rfl, fun j x hx => by simp at hx, by simp, by simp⟩
  · refine ⟨some ⟨g, 0, none⟩, cap, by simp, fun j x hx => ⟨g, 0, rfl, ?_⟩, fun x hx => ?_, by have : cap ≤ maxLen := hcap2; unfold maxLen at this; simp at hn; omega⟩
    · obtain ⟨c0, F0, g1, _, _, g4⟩ := owRs_get q3 (show (r.map intD)[j]? = some (intD x) by rw [List.getElem?_map, hx]; rfl)
      unfold intD OwCs at g4
      obtain ⟨v0, cs0, _, _, rfl, _, g5, g6⟩ := g4
      unfold OwCs at g6
      obtain ⟨rfl, _⟩ := g6
      unfold OwV at g5
      obtain ⟨rfl, _⟩ := g5
      have hlen : ∀ d ∈ css, d.length = 1 := fun d hd => by
        obtain ⟨i, hi⟩ := List.getElem?_of_mem hd
        have hil : i < (r.map intD).length := by
          have := (owRs_lens q3).1
          have := (List.getElem?_eq_some_iff.1 hi).1
          omega
        obtain ⟨c1, F1, k1, _, k3, k4⟩ := owRs_get q3 (List.getElem?_eq_getElem hil)
        rw [hi] at k1
        injection k1 with k1; subst k1
        rw [List.getElem_map] at k4
        unfold intD OwCs at k4
        obtain ⟨_, _, _, _, rfl, _, _, k6⟩ := k4
        unfold OwCs at k6
        rw [k6.1]; rfl
      have hflat : css.flatten[j]? = some (.int .i64 x) := by
        exact flat_one css j _ hlen g1
      have hj : j < r.length := (List.getElem?_eq_some_iff.1 hx).1
      simp only [World.cell?, hb, Nat.zero_add, Option.isSome_none, Bool.false_eq_true, if_false]
      rw [← Array.getElem?_toList, ← hflat, ← htk, List.getElem?_take_of_lt (by simpa using hj)]
    · simp at hx
      subst hx
      rw [q2]
      simp [Value.ownBlock]
theorem cells_put {w : World} {enc : Nat → Value} {g n : Nat} {os : Array Obj} {cur : Array Value} {e : TypeId} {fr : Nat × Nat} (d : Array Nat) (hb : w.heap[g]? = some (.cells cur e fr)) :
    (sortWorld enc w g 0 n d os).heap[g]? = some (.cells (Go.Sort.putCells enc 0 d cur) e fr) := by
  have hg : g < w.heap.size := (Array.getElem?_eq_some_iff.1 hb).1
  unfold sortWorld
  rw [Go.Sort.heap_grow_old _ _ (by simpa using hg)]
  simp [Go.Sort.putRow, Go.Sort.mapBlock, Go.Sort.ahead, Array.getElem?_modify, hb, Go.Sort.onCells]
theorem cells_kept {w : World} {enc : Nat → Value} {g n k : Nat} {os : Array Obj} (d : Array Nat) (hk : k < w.heap.size) (hne : k ≠ g) : (sortWorld enc w g 0 n d os).heap[k]? = w.heap[k]? := by
  unfold sortWorld
  rw [Go.Sort.heap_grow_old _ _ (by simpa using hk)]
  simp [Go.Sort.putRow, Go.Sort.mapBlock, Go.Sort.ahead, Array.getElem?_modify, Ne.symm hne]
theorem put_take (enc : Nat → Value) (cur : Array Value) (ts : List Nat) (h : ts.length ≤ cur.size) : (Go.Sort.putCells enc 0 ts.toArray cur).toList.take ts.length = ts.map enc := by
  apply List.ext_getElem?
  intro j
  by_cases hj : j < ts.length
  · rw [List.getElem?_take_of_lt hj, Array.getElem?_toList]
    simp [Go.Sort.putCells, hj, show j < cur.size by omega]
  · rw [List.getElem?_take_eq_none (by omega), List.getElem?_eq_none (by simp; omega)]
theorem rowV_kept {w w' : World} {a : Option Addr} {r : List Int} (h : RowV w a r) (hk : ∀ x ∈ a, w'.heap[x.block]? = w.heap[x.block]?) : RowV w' a r := fun j x hx => by
  obtain ⟨b, o, rfl, hc⟩ := h j x hx
  refine ⟨b, o, rfl, ?_⟩
  have := hk ⟨b, o, none⟩ rfl
  unfold World.cell? at *
  simp only at *
  rw [this]; exact hc
end Go.Proofs.YtokkjaflmcjlhaaGreat

