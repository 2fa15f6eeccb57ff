/-
  Contracts and plain laws, joined: part 11.
-/
import Derived.Test.YtokkjaflmcjlhaaGreatQAtomDegree9
import Derived.Shelf.SlicesE.Compact
import Derived.Ground.SlgnProg
import Derived.Test.YtokkjaflmcjlhaaGreatQAtomDegree7
import Derived.Test.YtokkjaflmcjlhaaGreatQAtomDegree4
import Derived.Shelf.SlicesE.Reverse
import Derived.Test.YtokkjaflmcjlhaaGreatQAtomDegree8
namespace Go.Proofs
open Go.Shelf
namespace YtokkjaflmcjlhaaGreat
def Tryz.compInts_ren : Go.Shelf.Ren := ⟨fun | 43 => 273 | n => n, fun | 22 => 32 | 23 => 3 | 3 => 3 | 4 => 4 | 0 => 0 | n => n, fun | n => n⟩
theorem Tryz.compInts : Go.Proofs.SlLaysE.n43 Tryz.prog Tryz.compInts_ren := {
  mixed := by kernel_rfl
  f43 := ⟨Tryz.f273.name, by decide, Tryz.func273.trans (congrArg some (by kernel_rfl))⟩
  t0 := Tryz.underlying0
  a0 := Tryz.isAgg0
  z0 := Tryz.sizeOf0
  v0 := Tryz.zeroValue0
  t3 := Tryz.underlying3
  a3 := Tryz.isAgg3
  z3 := Tryz.sizeOf3
  v3 := Tryz.zeroValue3
  t4 := Tryz.underlying4
  a4 := Tryz.isAgg4
  z4 := Tryz.sizeOf4
  v4 := Tryz.zeroValue4
  t22 := Tryz.underlying32
  a22 := Tryz.isAgg32
  z22 := Tryz.sizeOf32
  v22 := Tryz.zeroValue32
  a23 := Tryz.isAgg3
  z23 := Tryz.sizeOf3 }
end YtokkjaflmcjlhaaGreat
end Go.Proofs
namespace Go.Proofs.YtokkjaflmcjlhaaGreat
open Go.ChangeShapes Go.WideShapes Go.ChangeAt Go.RowKit Go.Lib
set_option linter.unusedVariables false
set_option linter.unusedSimpArgs false
theorem con2_intsC {P : Program} {f : FuncId} {e : Nat} (l m : List Int) (hc : callable P f = true) (hm : m.length ≤ l.length) (hm0 : l = [] → m = [])
    (hn0 : l = [] → ∀ w, Calls P f #[.slice none 0 0] w (fun ex w' => ex = .returned (.slice none 0 0) ∧ w' = w))
    (hs : ∀ (blk cap : Nat) (w : World), Go.Sort.Holds (Value.int .i64) w blk 0 l.toArray → blk < w.heap.size → l.length ≤ cap → Calls P f #[.slice (some ⟨blk, 0, none⟩) l.length cap] w (fun ex w' => ex = .returned (.slice (some ⟨blk, 0, none⟩) m.length cap) ∧ ∃ n os z, (m ++ z).length = l.length ∧ w' = Go.Sort.grow (Go.Sort.putRow (Value.int .i64) (Go.Sort.ahead w n) blk 0 (m ++ z).toArray) os)) :
    Con2 P f [.own 0] [(0, .arr e 1 true (l.map intD))] (.own 1) [(1, .arr e 1 true (m.map intD))] := by
  refine ⟨hc, by simp, fun A φ w vs hI hM => ?_⟩
  obtain ⟨pl, hp, css, Fs, q1, q2, q3, q4⟩ := hI.dom 0 _ rfl
  unfold MatchL at hM
  obtain ⟨v, us, e1, m1, hM⟩ := hM
  unfold MatchL at hM
  unfold MatchV at m1
  have hv := m1 pl hp
  have ev : vs = #[pl.val] := by apply Array.ext'; rw [e1, hM, hv]
  rw [ev]
  obtain ⟨c1, c2⟩ := owRs_ints q4
  rw [c1, List.length_map] at q1
  have hge := hI.ge 0 pl hp
  have hsub : pl.sub = [] := by rw [q3, c2]
  have hfoot : ∀ b ∈ pl.F, AllF φ b := fun b hb => ⟨0, pl, trivial, hp, hb⟩
  have h1 : φ 1 = none := hI.non 1 rfl
  have hend : ∀ (v' : Value) (w' : World), Only pl.F w w' → (∀ b ∈ v'.ownBlock, b ∈ pl.val.ownBlock) → w'.ownsRow 0 e 1 v' m.length (m.map (Value.int .i64)) →
      ∃ v K φ', Ending.returned v' = .returned v ∧ Out2 A φ w [(1, .arr e 1 true (m.map intD))] K φ' w' ∧ MatchV K φ' w' (.own 1) v := by
    intro v' w' hon hvb howns
    let pl' : Pl := ⟨v', v'.ownBlock.toList, []⟩
    have hmem : ∀ g, g ∈ pl'.F → g ∈ pl.F := fun g hg => by
      unfold Pl.F
      simp only [pl', Pl.F, List.append_nil, Option.mem_toList] at hg
      rw [q2]
      exact List.mem_append_left _ (by rw [Option.mem_toList]; exact hvb g hg)
    have hnd' : pl'.F.Nodup := by simp only [pl', Pl.F, List.append_nil]; cases v'.ownBlock <;> simp
    refine ⟨_, A, fun h => if h = 1 then some pl' else none, rfl, ⟨⟨hon.os, hon.tape, hon.output, hon.size, fun b hb hn => hon.block b hb (fun hm => hn (hfoot b hm))⟩, fun _ h => h, fun b hb => ⟨Nat.lt_of_lt_of_le (hI.lt b hb) hon.size, .inl hb⟩, fun b hb h pl1 e' hm' => ?_, fun h r hr => ?_, fun h hr => ?_, fun h h' pl1 pl2 hne ea eb => ?_, fun h pl1 e' => ?_, fun h pl1 e' g hg => ?_, fun h pl1 pl0 e' e0 => ?_⟩, ?_⟩
    · split at e'
      · injection e' with e'; subst e'
        exact hI.out b hb 0 pl hp (hmem b hm')
      · cases e'
    · simp only [findH] at hr
      split at hr
      · rename_i eh
        subst eh
        injection hr with hr
        subst hr
        refine ⟨pl', by simp, m.map fun n => [Value.int .i64 n], m.map fun _ => [], ?_, rfl, ?_, owRs_of_ints _ m⟩
        · rw [flat_ints, List.length_map]; exact howns
        · simp [pl']
      · cases hr
    · simp only [findH] at hr
      split at hr
      · cases hr
      · rename_i eh; exact if_neg eh
    · split at ea
      · split at eb
        · rename_i x y; exact absurd (x.trans y.symm) hne
        · cases eb
      · cases ea
    · split at e'
      · injection e' with e'; subst e'; exact hnd'
      · cases e'
    · split at e'
      · injection e' with e'; subst e'
        have := hmem g hg
        exact ⟨.inr (hfoot g this), Nat.lt_of_lt_of_le (hge g this) hon.size⟩
      · cases e'
    · split at e'
      · rename_i eh
        subst eh
        rw [h1] at e0; cases e0
      · cases e'
    · unfold MatchV
      intro pl1 e'
      simp at e'
      subst e'
      rfl
  rcases q1.2 with ⟨hvn, hz⟩ | ⟨g, cap, cur, hvv, hg0, hb, hn, hcap, hsz, htk⟩
  · have hz' : l = [] := List.eq_nil_of_length_eq_zero hz
    rw [hvn]
    refine (hn0 hz' w).mono ?_
    rintro en w' ⟨rfl, rfl⟩
    refine hend (.slice none 0 0) w' (Only.refl _ _) (fun b hb => by cases hb) ?_
    rw [hm0 hz']
    exact ⟨by simp, .inl ⟨rfl, rfl⟩⟩
  · have hlt : g < w.heap.size := (Array.getElem?_eq_some_iff.1 hb).1
    have hH : Go.Sort.Holds (Value.int .i64) w g 0 l.toArray := holds_of_blockI hb (by rw [Nat.mul_one] at htk; exact htk)
    rw [hvv]
    refine (hs g cap w hH hlt hn).mono ?_
    rintro en w' ⟨rfl, n, os, z, hz, rfl⟩
    have hgb := grownBy_sortedI (w := w) (g := g) (n := n) (os := os) (m ++ z).toArray
    have hown := ownsRow_sortedI (n := n) (os := os) hz hg0 hb hn hcap hsz
    refine hend _ _ ⟨hgb.os, hgb.tape, hgb.output, hgb.size, fun k hk hne => hgb.block k hk (fun e => hne (by injection e with e; subst e; unfold Pl.F; rw [q2, hvv]; simp [Value.ownBlock]))⟩ (fun b hb' => by rw [hvv]; exact hb') ?_
    rcases hown.2 with ⟨hvn, _⟩ | ⟨g', cap', cur', hv', hg', hb', hn', hcap', hsz', htk'⟩
    · cases hvn
    · simp only [Value.slice.injEq, Option.some.injEq, Addr.mk.injEq, and_true] at hv'
      obtain ⟨rfl, _, rfl⟩ := hv'
      refine ⟨by simp, .inr ⟨g, cap, cur', rfl, hg', hb', by omega, hcap', hsz', ?_⟩⟩
      rw [Nat.mul_one] at *
      have h3 := congrArg (List.take m.length) htk'
      rw [List.take_take, Nat.min_eq_left hm, List.map_append, List.take_append_of_le_length (by simp)] at h3
      rw [h3, List.take_of_length_le (by simp)]
def compI (l : List Int) : List Int := compactUpTo l.toArray l.toArray.size
theorem compI_le (l : List Int) : (compI l).length ≤ l.length := by
  unfold compI compactUpTo
  rw [List.length_map]
  have := (List.filter_sublist (l := List.range l.toArray.size) (p := keeps l.toArray)).length_le
  simpa using this
theorem compI_nil {l : List Int} : compI l = [] ↔ l = [] := by
  constructor
  · intro h
    by_cases e : l = []
    · exact e
    · exfalso
      have hp : 0 < l.length := List.length_pos_iff.2 e
      unfold compI compactUpTo at h
      rw [List.map_eq_nil_iff, List.filter_eq_nil_iff] at h
      exact h 0 (List.mem_range.2 (by simpa using hp)) (keeps_lt_one _ 0 (by omega))
  · rintro rfl; rfl
theorem tyI : tyOf Tryz.prog 3 = some (false, 1, 8, .int .i64 0) := by kernel_rfl
theorem zeroI (w : World) : (zeroValue 3).run Tryz.prog w = .ok (.int .i64 0) w := (tyOf_spec tyI w).2.2.1
theorem con_compI (l : List Int) (hl : l.length < 4611686018427387904) : Con2 Tryz.prog 273 [.own 0] [(0, .arr 3 1 true (l.map intD))] (.own 1) [(1, .arr 3 1 true ((compI l).map intD))] :=
  con2_intsC l (compI l) (by kernel_rfl) (compI_le l) (fun h => compI_nil.2 h)
    (fun h w => by
      go_enter Tryz.func273, Tryz.ntmps273
      go_wp2
      go_ret
      exact ⟨rfl, rfl⟩)
    (fun blk cap w hH hblk hn => (AnyE.slices_Compact Tryz.compInts (Value.int .i64) (fun _ => rfl) (EqlAt.intD _ _ .i64) (NeqAt.intD _ _ .i64) 0 (fun w => zeroI w) blk 0 cap l.toArray w hH (by rw [List.size_toArray]; omega) (by rw [List.size_toArray]; exact hn)).mono fun e w' ⟨he, q, hw⟩ =>
      ⟨by have e1 : l.toArray.size = l.length := by simp
          rw [e1] at he; unfold compI; rw [e1]; exact he, q, #[], List.replicate (l.length - (compI l).length) 0, by have := compI_le l; simp; omega, by rw [hw, Go.Sort.grow_empty]; simp [compI]⟩)
end Go.Proofs.YtokkjaflmcjlhaaGreat
namespace Go.Proofs.YtokkjaflmcjlhaaGreat
open Go.ChangeShapes Go.WideShapes Go.ChangeAt Go.RowKit
set_option linter.unusedVariables false
set_option linter.unusedSimpArgs false
set_option maxRecDepth 100000
set_option maxHeartbeats 4000000
def okInc (d : DatabaseD) (x : InclusionD) : Bool := (lookT d x.name).2 && ((lookT d x.into).2 && (inB x.column 0 ((lookT d x.name).1.arity - 1) && inB x.intoColumn 0 ((lookT d x.into).1.arity - 1)))
def colOf (rows : List (List Int)) (c : Int) : List Int := rows.map fun r => r.getD c.toNat 0
def missL (d : DatabaseD) (x : InclusionD) : List Int := (colOf (lookT d x.name).1.rows x.column).filter fun v => !decide (v ∈ colOf (lookT d x.into).1.rows x.intoColumn)
def missI (d : DatabaseD) (x : InclusionD) : List Int := if okInc d x = true then compI (sortI (missL d x)) else []
def missB (d : DatabaseD) (x : InclusionD) (v : Nat) : Bool := decide ((v : Int) ∈ colOf (lookT d x.name).1.rows x.column) && !decide ((v : Int) ∈ colOf (lookT d x.into).1.rows x.intoColumn)
def missN (d : DatabaseD) (x : InclusionD) (n : Nat) : List Int := ((List.range n).filter (missB d x)).map fun v : Nat => (v : Int)
def missS (d : DatabaseD) (x : InclusionD) : List Int := if okInc d x = true then missN d x 10 else []
def incOk (d : DatabaseD) (x : InclusionD) : Bool := okInc d x && decide (missL d x = [])
theorem missN_yes {d : DatabaseD} {x : InclusionD} {v : Nat} (h : missB d x v = true) : missN d x (v + 1) = missN d x v ++ [(v : Int)] := by
  rw [missN, List.range_succ, List.filter_append, List.map_append]
  simp [missN, h]
theorem missN_no {d : DatabaseD} {x : InclusionD} {v : Nat} (h : missB d x v = false) : missN d x (v + 1) = missN d x v := by
  rw [missN, List.range_succ, List.filter_append, List.map_append]
  simp [missN, h]
theorem missN_len (d : DatabaseD) (x : InclusionD) (v : Nat) : (missN d x v).length ≤ v := by
  rw [missN, List.length_map]
  have := List.length_filter_le (missB d x) (List.range v)
  rwa [List.length_range] at this
theorem colOf_snoc (rows : List (List Int)) (c : Int) {k : Nat} {r : List Int} (h : rows[k]? = some r) : colOf (rows.take (k + 1)) c = colOf (rows.take k) c ++ [r.getD c.toNat 0] := by rw [take_snoc h, colOf, List.map_append]; rfl
theorem mem_snoc {l : List Int} {v y : Int} : decide (v ∈ l ++ [y]) = (decide (v ∈ l) || decide (v = y)) := by simp [Bool.decide_or]
theorem colOf_val {t : TableD} {c : Int} {v : Int} (h : okTable t = true) (hc : 0 ≤ c ∧ c ≤ t.arity - 1) (hv : v ∈ colOf t.rows c) : 0 ≤ v ∧ v ≤ 9 := by
  obtain ⟨r, hr, rfl⟩ := List.mem_map.1 hv
  have hl := row_len h hr
  have hk := List.all_eq_true.1 (okTable_parts h).1 r hr
  simp only [okRow, Bool.and_eq_true, decide_eq_true_eq] at hk
  have hlt : c.toNat < r.length := by omega
  have hm : r.getD c.toNat 0 ∈ r := by rw [List.getD_eq_getElem?_getD, List.getElem?_eq_getElem hlt]; exact List.getElem_mem hlt
  exact inB_true (List.all_eq_true.1 hk.1 _ hm)
theorem okInc_parts {d : DatabaseD} {x : InclusionD} (h : okInc d x = true) : okTable (lookT d x.name).1 = true ∧ okTable (lookT d x.into).1 = true ∧ (0 ≤ x.column ∧ x.column ≤ (lookT d x.name).1.arity - 1) ∧ (0 ≤ x.intoColumn ∧ x.intoColumn ≤ (lookT d x.into).1.arity - 1) := by
  simp only [okInc, Bool.and_eq_true] at h
  obtain ⟨h1, h2, h3, h4⟩ := h
  exact ⟨(lookT_ok h1).1, (lookT_ok h2).1, inB_true h3, inB_true h4⟩
theorem missI_nil {d : DatabaseD} {x : InclusionD} (h : okInc d x = true) : decide (missI d x = []) = decide (missL d x = []) := by
  rw [missI, if_pos h]
  apply Bool.eq_iff_iff.2
  rw [decide_eq_true_eq, decide_eq_true_eq, compI_nil]
  constructor
  · intro q
    have := sortI_len (missL d x)
    rw [q] at this
    exact List.eq_nil_of_length_eq_zero this.symm
  · intro q
    have := sortI_len (missL d x)
    rw [q] at this
    rw [q]
    exact List.eq_nil_of_length_eq_zero this
theorem missS_nil {d : DatabaseD} {x : InclusionD} (h : okInc d x = true) : decide (missS d x = []) = decide (missL d x = []) := by
  obtain ⟨h1, _, h3, _⟩ := okInc_parts h
  rw [missS, if_pos h]
  apply Bool.eq_iff_iff.2
  rw [decide_eq_true_eq, decide_eq_true_eq, missN, List.map_eq_nil_iff, List.filter_eq_nil_iff, missL, List.filter_eq_nil_iff]
  constructor
  · intro q v hv hb
    have hr := colOf_val h1 h3 hv
    refine q v.toNat (List.mem_range.2 (by omega)) ?_
    rw [missB, Int.toNat_of_nonneg hr.1]
    simp only [Bool.and_eq_true, decide_eq_true_eq]
    exact ⟨hv, hb⟩
  · intro q v _ hb
    rw [missB, Bool.and_eq_true, decide_eq_true_eq] at hb
    exact q _ hb.1 hb.2
abbrev K_okInc_impl (d : DatabaseD) (x : InclusionD) : Prop := Con Tryz.prog 233 [.agg [.sl 162 3 (d.tables.map eTable)], .agg [.str x.name, .int .i64 x.column, .str x.into, .int .i64 x.intoColumn]] (vB (okInc d x)) []
theorem okInc_impl (d : DatabaseD) (x : InclusionD) (hc : cDatabase d ≤ 1048576) : K_okInc_impl d x := by
 refine con_x tbOk mixedW Tryz.func233 (by kernel_rfl) (.call (.tup [.agg [.p none (.str (((lookT d x.name).1).name)), vI (((lookT d x.name).1).arity), .p none (.sl 32 1 ((((lookT d x.name).1).rows).map eIntS))], vB ((lookT d x.name).2)]) [] <| .call (.tup [.agg [.p none (.str (((lookT d x.into).1).name)), vI (((lookT d x.into).1).arity), .p none (.sl 32 1 ((((lookT d x.into).1).rows).map eIntS))], vB ((lookT d x.into).2)]) [] <| .br (.lit <| .br (.raw <| .call (vB (inB x.column (0 : Int) (IntKind.i64.wrap ((((lookT d x.name).1).arity) - (1 : Int))))) [] <| .lit <| .br (.raw <| .call (vB (inB x.intoColumn (0 : Int) (IntKind.i64.wrap ((((lookT d x.into).1).arity) - (1 : Int))))) [] <| .fin []) (.fin [])) (.fin [])) (.fin [])) ?_
 refine Eq.mpr (by kernel_rfl : _ = ((d.tables.map eTable).length ≤ 9223372036854775807 → Con Tryz.prog 148 [.agg [.sl 162 3 (d.tables.map eTable)], .one (.str x.name)] (.tup [.agg [.p none (.str (((lookT d x.name).1).name)), vI (((lookT d x.name).1).arity), .p none (.sl 32 1 ((((lookT d x.name).1).rows).map eIntS))], vB ((lookT d x.name).2)]) [] ∧ (Con Tryz.prog 148 [.agg [.sl 162 3 (d.tables.map eTable)], .one (.str x.into)] (.tup [.agg [.p none (.str (((lookT d x.into).1).name)), vI (((lookT d x.into).1).arity), .p none (.sl 32 1 ((((lookT d x.into).1).rows).map eIntS))], vB ((lookT d x.into).2)]) [] ∧ ((((lookT d x.name).2) = true → (((lookT d x.into).2) = true → K_in_impl x.column (0 : Int) (IntKind.i64.wrap ((((lookT d x.name).1).arity) - (1 : Int))) ∧ (((inB x.column (0 : Int) (IntKind.i64.wrap ((((lookT d x.name).1).arity) - (1 : Int)))) = true → K_in_impl x.intoColumn (0 : Int) (IntKind.i64.wrap ((((lookT d x.into).1).arity) - (1 : Int))) ∧ (inB x.intoColumn (0 : Int) (IntKind.i64.wrap ((((lookT d x.into).1).arity) - (1 : Int)))) = (okInc d x) ∧ True) ∧ ((inB x.column (0 : Int) (IntKind.i64.wrap ((((lookT d x.name).1).arity) - (1 : Int)))) = false → (false) = (okInc d x) ∧ True))) ∧ (((lookT d x.into).2) = false → (false) = (okInc d x) ∧ True)) ∧ (((lookT d x.name).2) = false → (false) = (okInc d x) ∧ True))))) ?_
 intro n0
 simp only [List.length_map] at n0
 refine ⟨con_stl (lkT_impl _ x.name (by omega)) rfl, con_stl (lkT_impl _ x.into (by omega)) rfl, fun g24 => ?_, fun g24 => ?_⟩
 ·have hT := (lookT_ok g24).1
  have hA := okTable_arity hT
  have hw : IntKind.i64.wrap ((lookT d x.name).1.arity - 1) = (lookT d x.name).1.arity - 1 := IntWalk.i64_in _ ⟨by omega, by omega⟩
  try rw [hw]
  refine ⟨fun g27 => ?_, fun g27 => ?_⟩
  ·have hT2 := (lookT_ok g27).1
   have hA2 := okTable_arity hT2
   have hw2 : IntKind.i64.wrap ((lookT d x.into).1.arity - 1) = (lookT d x.into).1.arity - 1 := IntWalk.i64_in _ ⟨by omega, by omega⟩
   try rw [hw2]
   refine ⟨in_impl _ _ _, fun g35 => ?_, fun g35 => ?_⟩
   ·refine ⟨in_impl _ _ _, ?_, trivial⟩
    ·first | (simp [okInc, *]; done) | (simp [okInc, *] at *; simp [*]; done) | (simp_all [okInc]; done)
   ·refine ⟨?_, trivial⟩
    ·first | (simp [okInc, *]; done) | (simp [okInc, *] at *; simp [*]; done) | (simp_all [okInc]; done)
  ·refine ⟨?_, trivial⟩
   ·first | (simp [okInc, *]; done) | (simp [okInc, *] at *; simp [*]; done) | (simp_all [okInc]; done)
 ·refine ⟨?_, trivial⟩
  ·first | (simp [okInc, *]; done) | (simp [okInc, *] at *; simp [*]; done) | (simp_all [okInc]; done)
abbrev K_okInc_spec (d : DatabaseD) (x : InclusionD) : Prop := Con Tryz.prog 214 [.agg [.sl 162 3 (d.tables.map eTable)], .agg [.str x.name, .int .i64 x.column, .str x.into, .int .i64 x.intoColumn]] (vB (okInc d x)) []
theorem okInc_spec (d : DatabaseD) (x : InclusionD) (hc : cDatabase d ≤ 1048576) : K_okInc_spec d x := by
 refine con_x tbOk mixedW Tryz.func214 (by kernel_rfl) (.call (.tup [.agg [.p none (.str (((lookT d x.name).1).name)), vI (((lookT d x.name).1).arity), .p none (.sl 32 1 ((((lookT d x.name).1).rows).map eIntS))], vB ((lookT d x.name).2)]) [] <| .call (.tup [.agg [.p none (.str (((lookT d x.into).1).name)), vI (((lookT d x.into).1).arity), .p none (.sl 32 1 ((((lookT d x.into).1).rows).map eIntS))], vB ((lookT d x.into).2)]) [] <| .br (.lit <| .br (.raw <| .call (vB (inB x.column (0 : Int) (IntKind.i64.wrap ((((lookT d x.name).1).arity) - (1 : Int))))) [] <| .lit <| .br (.raw <| .call (vB (inB x.intoColumn (0 : Int) (IntKind.i64.wrap ((((lookT d x.into).1).arity) - (1 : Int))))) [] <| .fin []) (.fin [])) (.fin [])) (.fin [])) ?_
 refine Eq.mpr (by kernel_rfl : _ = ((d.tables.map eTable).length ≤ 9223372036854775807 → Con Tryz.prog 132 [.agg [.sl 162 3 (d.tables.map eTable)], .one (.str x.name)] (.tup [.agg [.p none (.str (((lookT d x.name).1).name)), vI (((lookT d x.name).1).arity), .p none (.sl 32 1 ((((lookT d x.name).1).rows).map eIntS))], vB ((lookT d x.name).2)]) [] ∧ (Con Tryz.prog 132 [.agg [.sl 162 3 (d.tables.map eTable)], .one (.str x.into)] (.tup [.agg [.p none (.str (((lookT d x.into).1).name)), vI (((lookT d x.into).1).arity), .p none (.sl 32 1 ((((lookT d x.into).1).rows).map eIntS))], vB ((lookT d x.into).2)]) [] ∧ ((((lookT d x.name).2) = true → (((lookT d x.into).2) = true → K_in_spec x.column (0 : Int) (IntKind.i64.wrap ((((lookT d x.name).1).arity) - (1 : Int))) ∧ (((inB x.column (0 : Int) (IntKind.i64.wrap ((((lookT d x.name).1).arity) - (1 : Int)))) = true → K_in_spec x.intoColumn (0 : Int) (IntKind.i64.wrap ((((lookT d x.into).1).arity) - (1 : Int))) ∧ (inB x.intoColumn (0 : Int) (IntKind.i64.wrap ((((lookT d x.into).1).arity) - (1 : Int)))) = (okInc d x) ∧ True) ∧ ((inB x.column (0 : Int) (IntKind.i64.wrap ((((lookT d x.name).1).arity) - (1 : Int)))) = false → (false) = (okInc d x) ∧ True))) ∧ (((lookT d x.into).2) = false → (false) = (okInc d x) ∧ True)) ∧ (((lookT d x.name).2) = false → (false) = (okInc d x) ∧ True))))) ?_
 intro n0
 simp only [List.length_map] at n0
 refine ⟨con_stl (lkT_spec _ x.name (by omega)) rfl, con_stl (lkT_spec _ x.into (by omega)) rfl, fun g24 => ?_, fun g24 => ?_⟩
 ·have hT := (lookT_ok g24).1
  have hA := okTable_arity hT
  have hw : IntKind.i64.wrap ((lookT d x.name).1.arity - 1) = (lookT d x.name).1.arity - 1 := IntWalk.i64_in _ ⟨by omega, by omega⟩
  try rw [hw]
  refine ⟨fun g27 => ?_, fun g27 => ?_⟩
  ·have hT2 := (lookT_ok g27).1
   have hA2 := okTable_arity hT2
   have hw2 : IntKind.i64.wrap ((lookT d x.into).1.arity - 1) = (lookT d x.into).1.arity - 1 := IntWalk.i64_in _ ⟨by omega, by omega⟩
   try rw [hw2]
   refine ⟨in_spec _ _ _, fun g35 => ?_, fun g35 => ?_⟩
   ·refine ⟨in_spec _ _ _, ?_, trivial⟩
    ·first | (simp [okInc, *]; done) | (simp [okInc, *] at *; simp [*]; done) | (simp_all [okInc]; done)
   ·refine ⟨?_, trivial⟩
    ·first | (simp [okInc, *]; done) | (simp [okInc, *] at *; simp [*]; done) | (simp_all [okInc]; done)
  ·refine ⟨?_, trivial⟩
   ·first | (simp [okInc, *]; done) | (simp [okInc, *] at *; simp [*]; done) | (simp_all [okInc]; done)
 ·refine ⟨?_, trivial⟩
  ·first | (simp [okInc, *]; done) | (simp [okInc, *] at *; simp [*]; done) | (simp_all [okInc]; done)
/-- Masks of four bits. -/
def b4 (a b c d : Bool) : Int := (if a then 1 else 0) + (if b then 2 else 0) + (if c then 4 else 0) + (if d then 8 else 0)
def m4 (p : Nat → Bool) : Int := b4 (p 0) (p 1) (p 2) (p 3)
theorem lt4 {P : Nat → Prop} (h0 : P 0) (h1 : P 1) (h2 : P 2) (h3 : P 3) {i : Nat} (hi : i < 4) : P i := by
  have h : i = 0 ∨ i = 1 ∨ i = 2 ∨ i = 3 := by omega
  rcases h with rfl | rfl | rfl | rfl <;> assumption
theorem b4_or (a b c d : Bool) : bitI .or .i64 (b4 a b c d) (1 * 2 ^ 0) = b4 true b c d ∧ bitI .or .i64 (b4 a b c d) (1 * 2 ^ 1) = b4 a true c d ∧ bitI .or .i64 (b4 a b c d) (1 * 2 ^ 2) = b4 a b true d ∧ bitI .or .i64 (b4 a b c d) (1 * 2 ^ 3) = b4 a b c true := by
  cases a <;> cases b <;> cases c <;> cases d <;> decide
theorem m4_or {p : Nat → Bool} {v : Nat} (hv : v < 4) : bitI .or .i64 (m4 p) ((1 : Int) * 2 ^ v) = m4 (fun i => p i || decide (i = v)) := by
  have h := b4_or (p 0) (p 1) (p 2) (p 3)
  refine lt4 (P := fun v => bitI .or .i64 (m4 p) ((1 : Int) * 2 ^ v) = m4 (fun i => p i || decide (i = v))) ?_ ?_ ?_ ?_ hv
  · simpa [m4] using h.1
  · simpa [m4] using h.2.1
  · simpa [m4] using h.2.2.1
  · simpa [m4] using h.2.2.2
theorem b4_full (a b c d : Bool) : decide (b4 a b c d = (1 : Int) * 2 ^ (4 : Int).toNat - 1) = (a && (b && (c && (d && true)))) := by cases a <;> cases b <;> cases c <;> cases d <;> decide
theorem m4_full {p : Nat → Bool} {n : Int} (hn : 1 ≤ n ∧ n ≤ 4) (hp : ∀ i, n.toNat ≤ i → p i = false) : decide (m4 p = (1 : Int) * 2 ^ n.toNat - 1) = (List.range n.toNat).all p := by
  have h : n = 1 ∨ n = 2 ∨ n = 3 ∨ n = 4 := by omega
  rcases h with rfl | rfl | rfl | rfl
  · have h1 := hp 1 (by decide); have h2 := hp 2 (by decide); have h3 := hp 3 (by decide)
    simp only [m4, h1, h2, h3]; show _ = (List.range 1).all p
    simp only [List.range, List.range.loop, List.all_cons, List.all_nil]
    cases p 0 <;> decide
  · have h2 := hp 2 (by decide); have h3 := hp 3 (by decide)
    simp only [m4, h2, h3]; show _ = (List.range 2).all p
    simp only [List.range, List.range.loop, List.all_cons, List.all_nil]
    cases p 0 <;> cases p 1 <;> decide
  · have h3 := hp 3 (by decide)
    simp only [m4, h3]; show _ = (List.range 3).all p
    simp only [List.range, List.range.loop, List.all_cons, List.all_nil]
    cases p 0 <;> cases p 1 <;> cases p 2 <;> decide
  · simp only [m4]; show _ = (List.range 4).all p
    simp only [List.range, List.range.loop, List.all_cons, List.all_nil]
    exact b4_full _ _ _ _
def selN (p : Nat → Bool) (k : Nat) : List Int := ((List.range k).filter p).map fun v : Nat => (v : Int)
theorem selN_yes {p : Nat → Bool} {k : Nat} (h : p k = true) : selN p (k + 1) = selN p k ++ [(k : Int)] := by
  rw [selN, List.range_succ, List.filter_append, List.map_append]
  simp [selN, h]
theorem selN_no {p : Nat → Bool} {k : Nat} (h : p k = false) : selN p (k + 1) = selN p k := by
  rw [selN, List.range_succ, List.filter_append, List.map_append]
  simp [selN, h]
theorem selN_len (p : Nat → Bool) (k : Nat) : (selN p k).length ≤ k := by
  rw [selN, List.length_map]
  have := (List.filter_sublist (l := List.range k) (p := p)).length_le
  rw [List.length_range] at this
  exact this
def varAt (n : Int) (l : List Int) (k : Nat) : Bool := inB (l.getD k 0) 0 (n - 1) && !decide (l.getD k 0 ∈ l.take k)
def varsOk (n : Int) (l : List Int) : Bool := (List.range l.length).all (varAt n l)
def atomOk (n : Int) (a : AtomD) : Bool := okName a.name && (inB (a.vars.length : Nat) 1 3 && varsOk n a.vars)
def hasV (l : List AtomD) (v : Nat) : Bool := l.any fun a => decide ((v : Int) ∈ a.vars)
def okQuery (q : QueryD) : Bool := (inB q.variableCount 1 4 && inB (q.atoms.length : Nat) 1 4) && (q.atoms.all (atomOk q.variableCount) && (List.range q.variableCount.toNat).all (hasV q.atoms))
def seenP (l : List AtomD) (k : Nat) (a : List Int) (i v : Nat) : Bool := hasV (l.take k) v || decide ((v : Int) ∈ a.take i)
theorem seenP_zero (l : List AtomD) (k : Nat) (a b : List Int) : seenP l k a 0 = seenP l k b 0 := by funext v; simp [seenP]
theorem seenP_step {l : List AtomD} {k i : Nat} {a : List Int} {x : Int} (h : a[i]? = some x) (hx : 0 ≤ x) : (fun v => seenP l k a i v || decide (v = x.toNat)) = seenP l k a (i + 1) := by
  funext v
  rw [seenP, seenP, take_snoc h, mem_snoc, Bool.or_assoc]
  congr 2
  exact decide_eq_decide.2 (by omega)
theorem hasV_snoc {l : List AtomD} {k : Nat} {a : AtomD} (h : l[k]? = some a) (v : Nat) : hasV (l.take (k + 1)) v = (hasV (l.take k) v || decide ((v : Int) ∈ a.vars)) := by
  rw [hasV, take_snoc h, List.any_append]
  simp [hasV]
theorem seenP_next {l : List AtomD} {k i : Nat} {a : AtomD} (h : l[k]? = some a) (hi : a.vars.length ≤ i) (b : List Int) : seenP l k a.vars i = seenP l (k + 1) b 0 := by
  funext v
  rw [seenP, seenP, hasV_snoc h, List.take_of_length_le hi]
  simp
theorem seenP_end {l : List AtomD} {k : Nat} (hk : l.length ≤ k) (b : List Int) : seenP l k b 0 = hasV l := by
  funext v
  rw [seenP, List.take_of_length_le hk]
  simp
theorem seen_set {n v : Nat} (p : Nat → Bool) : ((List.range n).map p).set v true = (List.range n).map fun i => p i || decide (i = v) := by
  apply List.ext_getElem?
  intro i
  rw [List.getElem?_set, List.getElem?_map, List.getElem?_map]
  by_cases hi : i < n
  · rw [List.getElem?_range hi, List.length_map, List.length_range]
    by_cases e : v = i
    · subst e; simp [hi]
    · simp [e, show ¬ i = v from fun q => e q.symm]
  · rw [show (List.range n)[i]? = none from List.getElem?_eq_none (by simp; omega)]
    by_cases e : v = i
    · subst e; simp [hi]
    · simp [e]
theorem seen_all {n : Nat} (p : Nat → Bool) : (!decide (false ∈ (List.range n).map p)) = (List.range n).all p := by
  apply Bool.eq_iff_iff.2
  rw [Bool.not_eq_true', decide_eq_false_iff_not, List.all_eq_true]
  constructor
  · intro h x hx
    cases e : p x with
    | true => rfl
    | false => exact absurd (List.mem_map.2 ⟨x, hx, e⟩) h
  · intro h hm
    obtain ⟨x, hx, e⟩ := List.mem_map.1 hm
    rw [h x hx] at e; cases e
theorem okQ_no {q : QueryD} (h : (inB q.variableCount 1 4 && inB (q.atoms.length : Nat) 1 4) = false) : okQuery q = false := by rw [okQuery, h]; rfl
theorem okQ_stop {q : QueryD} {k : Nat} {a : AtomD} (h : q.atoms[k]? = some a) (ha : atomOk q.variableCount a = false) : okQuery q = false := by rw [okQuery, all_stop h ha]; simp
theorem okQ_yes {q : QueryD} (h : (inB q.variableCount 1 4 && inB (q.atoms.length : Nat) 1 4) = true) (ha : q.atoms.all (atomOk q.variableCount) = true) : okQuery q = (List.range q.variableCount.toNat).all (hasV q.atoms) := by rw [okQuery, h, ha]; rfl
theorem varsOk_in {n : Int} {l : List Int} (h : varsOk n l = true) {x : Int} (hx : x ∈ l) : 0 ≤ x ∧ x ≤ n - 1 := by
  obtain ⟨i, hi, rfl⟩ := List.mem_iff_getElem.1 hx
  have := List.all_eq_true.1 h i (List.mem_range.2 hi)
  simp only [varAt, Bool.and_eq_true] at this
  have := inB_true this.1
  rwa [List.getD_eq_getElem?_getD, List.getElem?_eq_getElem hi, Option.getD_some] at this
theorem atom_parts {n : Int} {a : AtomD} (h : atomOk n a = true) : okName a.name = true ∧ (1 ≤ a.vars.length ∧ a.vars.length ≤ 3) ∧ ∀ x ∈ a.vars, 0 ≤ x ∧ x ≤ n - 1 := by
  simp only [atomOk, Bool.and_eq_true] at h
  have h2 := inB_true h.2.1
  exact ⟨h.1, ⟨by omega, by omega⟩, fun x hx => varsOk_in h.2.2 hx⟩
theorem okQ_parts {q : QueryD} (h : okQuery q = true) : (1 ≤ q.variableCount ∧ q.variableCount ≤ 4) ∧ (1 ≤ q.atoms.length ∧ q.atoms.length ≤ 4) ∧ ∀ a ∈ q.atoms, atomOk q.variableCount a = true := by
  simp only [okQuery, Bool.and_eq_true] at h
  have h1 := inB_true h.1.1
  have h2 := inB_true h.1.2
  exact ⟨h1, ⟨by omega, by omega⟩, fun a ha => List.all_eq_true.1 h.2.1 a ha⟩
theorem hasV_out {n : Int} {l : List AtomD} (h : l.all (atomOk n) = true) (h0 : 1 ≤ n) {v : Nat} (hv : n.toNat ≤ v) : hasV l v = false := by
  rw [hasV, List.any_eq_false]
  intro a ha hm
  have := (atom_parts (List.all_eq_true.1 h a ha)).2.2 v (by simpa using hm)
  omega
def okMask (q : QueryD) (m : Int) : Bool := okQuery q && inB m 0 ((1 : Int) * 2 ^ q.atoms.length - 1)
def atomCols (a : AtomD) (l : List Int) : List Int := selN (fun i => decide (a.vars.getD i 0 ∈ l)) a.vars.length
def fullM (q : QueryD) : Int := if okQuery q = true then (1 : Int) * 2 ^ q.atoms.length - 1 else 0
theorem fullM_yes {q : QueryD} (h : okQuery q = true) : fullM q = (1 : Int) * 2 ^ q.atoms.length - 1 := by rw [fullM, if_pos h]
theorem fullM_no {q : QueryD} (h : okQuery q = false) : fullM q = 0 := by rw [fullM, if_neg (by rw [h]; decide)]
theorem full_small {n : Nat} (h : 1 ≤ n ∧ n ≤ 4) : 1 ≤ (1 : Int) * 2 ^ n - 1 ∧ (1 : Int) * 2 ^ n - 1 ≤ 15 := by
  have : n = 1 ∨ n = 2 ∨ n = 3 ∨ n = 4 := by omega
  rcases this with rfl | rfl | rfl | rfl <;> decide
theorem atomCols_len (a : AtomD) (l : List Int) : (atomCols a l).length ≤ a.vars.length := selN_len _ _
end Go.Proofs.YtokkjaflmcjlhaaGreat
namespace Go.Proofs
open Go.Shelf
namespace YtokkjaflmcjlhaaGreat
def Tryz.revInts_ren : Go.Shelf.Ren := ⟨fun | 35 => 249 | n => n, fun | 22 => 32 | 23 => 3 | 3 => 3 | 4 => 4 | 0 => 0 | n => n, fun | n => n⟩
theorem Tryz.revInts : Go.Proofs.SlLaysE.n35 Tryz.prog Tryz.revInts_ren := {
  mixed := by kernel_rfl
  f35 := ⟨Tryz.f249.name, by decide, Tryz.func249.trans (congrArg some (by kernel_rfl))⟩
  t0 := Tryz.underlying0
  a0 := Tryz.isAgg0
  z0 := Tryz.sizeOf0
  v0 := Tryz.zeroValue0
  t3 := Tryz.underlying3
  a3 := Tryz.isAgg3
  z3 := Tryz.sizeOf3
  v3 := Tryz.zeroValue3
  t4 := Tryz.underlying4
  a4 := Tryz.isAgg4
  z4 := Tryz.sizeOf4
  v4 := Tryz.zeroValue4
  t22 := Tryz.underlying32
  a22 := Tryz.isAgg32
  z22 := Tryz.sizeOf32
  v22 := Tryz.zeroValue32
  a23 := Tryz.isAgg3
  z23 := Tryz.sizeOf3 }
end YtokkjaflmcjlhaaGreat
end Go.Proofs
namespace Go.Proofs.YtokkjaflmcjlhaaGreat
open Go.ChangeShapes Go.WideShapes Go.ChangeAt Go.RowKit
set_option linter.unusedVariables false
theorem con_revI (l : List Int) (hl : l.length < 4611686018427387904) : Con2 Tryz.prog 249 [.own 0] [(0, .arr 3 1 true (l.map intD))] (.tup []) [(0, .arr 3 1 true (l.reverse.map intD))] :=
  con2_ints l l.reverse (by kernel_rfl) List.length_reverse
    (fun h w => AnyE.slices_Reverse_empty Tryz.revInts none 0 w)
    (fun blk cap w hH hblk hn => (AnyE.slices_Reverse Tryz.revInts (Value.int .i64) (fun _ => rfl) blk 0 cap l w hH (by omega)).mono fun e w' ⟨he, q, hw⟩ => ⟨he, q, #[], by rw [hw, Go.Sort.grow_empty]⟩)
end Go.Proofs.YtokkjaflmcjlhaaGreat
namespace Go.Proofs.YtokkjaflmcjlhaaGreat
open Go.ChangeShapes Go.WideShapes Go.ChangeAt Go.RowKit
set_option linter.unusedVariables false
set_option linter.unusedSimpArgs false
set_option maxRecDepth 100000
set_option maxHeartbeats 4000000
abbrev DescL (l : List Int) : Prop := l.Pairwise fun a b => b ≤ a
def downL (l : List Int) : List Int := (sortI l).reverse
theorem downL_perm (l : List Int) : (downL l).Perm l := (List.reverse_perm _).trans (sortI_perm l)
theorem downL_len (l : List Int) : (downL l).length = l.length := (downL_perm l).length_eq
theorem downL_desc (l : List Int) : DescL (downL l) := List.pairwise_reverse.2 (sortI_pair l)
theorem desc_unique {l m : List Int} (hp : l.Perm m) (h1 : DescL l) (h2 : DescL m) : l = m :=
  List.Perm.eq_of_pairwise (le := fun a b : Int => b ≤ a) (fun a b _ _ h1 h2 => by omega) h1 h2 hp
theorem ins_perm {l out : List Int} {k j : Nat} {x : Int} (hp : out.Perm (l.take k)) (hx : l[k]? = some x) : ((([] : List Int) ++ out.take j) ++ [x] ++ out.drop j).Perm (l.take (k + 1)) := by
  rw [take_snoc hx, List.nil_append]
  have h1 : (out.take j ++ [x] ++ out.drop j).Perm (out.take j ++ out.drop j ++ [x]) := by
    rw [List.append_assoc, List.append_assoc]
    exact List.Perm.append_left _ List.perm_append_comm
  rw [List.take_append_drop] at h1
  exact h1.trans (hp.append_right _)
theorem ins_desc {out : List Int} {j : Nat} {x : Int} (hd : DescL out) (hj : j ≤ out.length) (hs : ∀ i, j ≤ i → i < out.length → out.getD i 0 < x) (hx : j = 0 ∨ ¬ out.getD (j - 1) 0 < x) : DescL ((([] : List Int) ++ out.take j) ++ [x] ++ out.drop j) := by
  rw [List.nil_append, List.append_assoc]
  have hd' := hd
  rw [← List.take_append_drop j out] at hd'
  obtain ⟨d1, d2, d3⟩ := List.pairwise_append.1 hd'
  have hlo : ∀ a ∈ out.drop j, a ≤ x := fun a ha => by
    obtain ⟨i, hi, rfl⟩ := List.mem_iff_getElem.1 ha
    have hi' : i < out.length - j := by simpa using hi
    have := hs (j + i) (by omega) (by omega)
    rw [List.getElem_drop]
    rw [List.getD_eq_getElem?_getD, List.getElem?_eq_getElem (by omega)] at this
    simp only [Option.getD_some] at this
    omega
  have hhi : ∀ a ∈ out.take j, x ≤ a := fun a ha => by
    obtain ⟨i, hi, rfl⟩ := List.mem_iff_getElem.1 ha
    have hi' : i < j := by
      have := hi
      rw [List.length_take] at this
      omega
    rcases hx with h | h
    · omega
    · have hp := List.pairwise_iff_getElem.1 hd
      rw [List.getD_eq_getElem?_getD, List.getElem?_eq_getElem (by omega)] at h
      simp only [Option.getD_some] at h
      rw [List.getElem_take]
      by_cases e : i = j - 1
      · subst e; omega
      · have := hp i (j - 1) (by omega) (by omega) (by omega)
        omega
  refine List.pairwise_append.2 ⟨d1, List.pairwise_append.2 ⟨List.pairwise_singleton _ _, d2, fun a ha b hb => ?_⟩, fun a ha b hb => ?_⟩
  · rw [List.mem_singleton] at ha
    subst ha; exact hlo b hb
  · rcases List.mem_append.1 hb with q | q
    · rw [List.mem_singleton] at q
      subst q; exact hhi a ha
    · exact d3 a ha b q
theorem desc_down {out : List Int} {j : Nat} {x e : Int} (h : out[j - 1]? = some e) (hc : e < x) (hs : ∀ i, j ≤ i → i < out.length → out.getD i 0 < x) : ∀ i, j - 1 ≤ i → i < out.length → out.getD i 0 < x := fun i h1 h2 => by
  by_cases q : i = j - 1
  · rw [q, getD_at h]; exact hc
  · exact hs i (by omega) h2
abbrev k_deg_impl (t : TableD) (cols : List Int) : AV × List (Nat × Rs) := (.own 0, [(0, .arr 3 1 true ((downL (grpR t cols).2).map intD))])
abbrev K_deg_impl (t : TableD) (cols : List Int) : Prop := Con Tryz.prog 182 [.agg [.str t.name, .int .i64 t.arity, .sl 32 1 (t.rows.map eIntS)], .one (.sl 3 1 (cols.map intD))] (k_deg_impl t cols).1 (k_deg_impl t cols).2
theorem deg_impl (t : TableD) (cols : List Int) (hl : cols.length ≤ 1048576) : K_deg_impl t cols := by
 refine con_x tbOk mixedW Tryz.func182 (by kernel_rfl) (callP (k_grp_impl t cols) <| callP (k_cpI ((grpR t cols).2)) <| .callx [.own 0] [(0, .arr 3 1 true (((grpR t cols).2).map intD))] [(0, 1500)] (.tup []) [(0, .arr 3 1 true ((sortI ((grpR t cols).2)).map intD))] <| .callx [.own 0] [(0, .arr 3 1 true ((sortI ((grpR t cols).2)).map intD))] [(0, 1500)] (.tup []) [(0, .arr 3 1 true (((sortI ((grpR t cols).2)).reverse).map intD))] <| .fin [(0, 1500)]) ?_
 refine Eq.mpr (by kernel_rfl : _ = ((t.rows.map eIntS).length ≤ 9223372036854775807 → (cols.map intD).length ≤ 9223372036854775807 → K_grp_impl t cols ∧ K_cpI ((grpR t cols).2) ∧ Con2 Tryz.prog 248 [.own 0] [(0, .arr 3 1 true (((grpR t cols).2).map intD))] (.tup []) [(0, .arr 3 1 true ((sortI ((grpR t cols).2)).map intD))] ∧ ((grpR t cols).2).map intD = ((grpR t cols).2).map intD ∧ Con2 Tryz.prog 249 [.own 0] [(0, .arr 3 1 true ((sortI ((grpR t cols).2)).map intD))] (.tup []) [(0, .arr 3 1 true (((sortI ((grpR t cols).2)).reverse).map intD))] ∧ (sortI ((grpR t cols).2)).map intD = (sortI ((grpR t cols).2)).map intD ∧ ((sortI ((grpR t cols).2)).reverse).map intD = (downL (grpR t cols).2).map intD ∧ True)) ?_
 intro n0 n1
 simp only [List.length_map] at n0 n1
 have hg := grp_small t cols
 refine ⟨grp_impl t cols (by omega), cpI _ (by omega), con_sortI ((grpR t cols).2) (by omega), rfl, con_revI (sortI ((grpR t cols).2)) (by first | omega | (rw [sortI_len]; omega)), rfl, ?_, trivial⟩
 ·rfl
abbrev K_down_spec (l : List Int) : Prop := Con Tryz.prog 244 [.one (.sl 3 1 (l.map intD))] (.p none (.sl 3 1 ((downL l).map intD))) []
theorem down_spec (l : List Int) (hc : l.length ≤ 1048576) : K_down_spec l := by
 refine con_x tbOk mixedW Tryz.func244 (by kernel_rfl) (.stl 3 <| .loop (Nat × (List Int)) (Q2 Nat (List Int)) [3, 4, 5, 7, 8, 9, 10, 11, 12, 13, 14, 15, 16, 17, 18, 19, 20, 21, 22, 23, 24, 25, 26, 27, 28, 29, 30, 31, 32, 33, 34, 35, 36, 37, 38, 39, 40, 41, 42, 43, 44, 45] [3100, 3500, 4000, 4100, 4500] (fun yy0 => [(4, vI (yy0.1 : Int)), (3, .p none (.sl 3 1 (yy0.2.map intD)))]) (fun yy0 => []) (fun yy0 => yy0.1 ≤ l.length ∧ yy0.2.Perm (l.take yy0.1) ∧ DescL yy0.2) (fun yy0 => l.length - yy0.1) (fun yy0 => .len l.length <| .br (.len yy0.2.length <| .loop Nat (Q1 Nat) [5, 15, 16, 17, 18, 19, 20, 21, 22, 23, 24, 25, 26, 27, 28, 29, 30] [] (fun j => [(5, vI (j : Int))]) (fun j => []) (fun j => j ≤ yy0.2.length ∧ (∀ i, j ≤ i → i < yy0.2.length → yy0.2.getD i 0 < l.getD yy0.1 0)) (fun j => j) (fun j => .br (.elem _ intD yy0.2 (fun e21 => .elem _ intD l (fun e25 => .lit <| .lit <| .lit <| .br (.back []) (.sub Int intD yy0.2 <| .app Int intD ([] : List Int) (yy0.2.take j) <| .elem _ intD l (fun e38 => .app Int intD (([] : List Int) ++ (yy0.2.take j)) ([e38] : List Int) <| .sub Int intD yy0.2 <| .app Int intD ((([] : List Int) ++ (yy0.2.take j)) ++ [e38]) (yy0.2.drop j) <| .stl 3 <| .back []))))) (.sub Int intD yy0.2 <| .app Int intD ([] : List Int) (yy0.2.take j) <| .elem _ intD l (fun e38 => .app Int intD (([] : List Int) ++ (yy0.2.take j)) ([e38] : List Int) <| .sub Int intD yy0.2 <| .app Int intD ((([] : List Int) ++ (yy0.2.take j)) ++ [e38]) (yy0.2.drop j) <| .stl 3 <| .back [])))) (.fin []))) ?_
 refine Eq.mpr (by kernel_rfl : _ = ((l.map intD).length ≤ 9223372036854775807 → (∃ (k : Nat) (out : List Int), (0 : Int) = (k : Int) ∧ [] = out.map intD ∧ k ≤ l.length ∧ out.Perm (l.take k) ∧ DescL out) ∧ ∀ (k : Nat) (out : List Int), (k ≤ l.length ∧ out.Perm (l.take k) ∧ DescL out) → Lm intD l ∧ (((decide ((k : Int) < ((l.length : Nat) : Int))) = true → Lm intD out ∧ ((∃ (j : Nat), ((out.length : Nat) : Int) = (j : Int) ∧ j ≤ out.length ∧ (∀ i, j ≤ i → i < out.length → out.getD i 0 < l.getD k 0)) ∧ ∀ (j : Nat), (j ≤ out.length ∧ (∀ i, j ≤ i → i < out.length → out.getD i 0 < l.getD k 0)) → ((decide ((0 : Int) < (j : Int))) = true → inR ((j : Int) - (1 : Int)) ∧ (0 ≤ ((j : Int) - (1 : Int)) ∧ Em intD out (((j : Int) - (1 : Int)).toNat) fun e21 => 0 ≤ (k : Int) ∧ Em intD l k fun e25 => ((decide (e21 < e25)) = true → inR ((j : Int) - (1 : Int)) ∧ ∃ (j' : Nat), ((j : Int) - (1 : Int)) = (j' : Int) ∧ (j' ≤ out.length ∧ (∀ i, j' ≤ i → i < out.length → out.getD i 0 < l.getD k 0)) ∧ j' < j) ∧ ((decide (e21 < e25)) = false → out.map intD = out.map intD ∧ 0 ≤ (j : Int) ∧ (j : Int) ≤ ((out.length : Nat) : Int) ∧ [] = ([] : List Int).map intD ∧ (out.take j).map intD = (out.take j).map intD ∧ (∀ x, flatB (intD x) = true) ∧ (([] : List Int).length + (out.take j).length) * 8 ≤ 140737488355328 ∧ 0 ≤ (k : Int) ∧ Em intD l k fun e38 => (([] : List Int) ++ (out.take j)).map intD = (([] : List Int) ++ (out.take j)).map intD ∧ [[.int .i64 e38]] = ([e38] : List Int).map intD ∧ (∀ x, flatB (intD x) = true) ∧ ((([] : List Int) ++ (out.take j)).length + ([e38] : List Int).length) * 8 ≤ 140737488355328 ∧ out.map intD = out.map intD ∧ 0 ≤ (j : Int) ∧ (j : Int) ≤ ((out.length : Nat) : Int) ∧ ((([] : List Int) ++ (out.take j)) ++ [e38]).map intD = ((([] : List Int) ++ (out.take j)) ++ [e38]).map intD ∧ (out.drop j).map intD = (out.drop j).map intD ∧ (∀ x, flatB (intD x) = true) ∧ (((([] : List Int) ++ (out.take j)) ++ [e38]).length + (out.drop j).length) * 8 ≤ 140737488355328 ∧ inR ((k : Int) + (1 : Int)) ∧ ∃ (k' : Nat) (out' : List Int), ((k : Int) + (1 : Int)) = (k' : Int) ∧ (((([] : List Int) ++ (out.take j)) ++ [e38]) ++ (out.drop j)).map intD = out'.map intD ∧ (k' ≤ l.length ∧ out'.Perm (l.take k') ∧ DescL out') ∧ l.length - k' < l.length - k))) ∧ ((decide ((0 : Int) < (j : Int))) = false → out.map intD = out.map intD ∧ 0 ≤ (j : Int) ∧ (j : Int) ≤ ((out.length : Nat) : Int) ∧ [] = ([] : List Int).map intD ∧ (out.take j).map intD = (out.take j).map intD ∧ (∀ x, flatB (intD x) = true) ∧ (([] : List Int).length + (out.take j).length) * 8 ≤ 140737488355328 ∧ 0 ≤ (k : Int) ∧ Em intD l k fun e38 => (([] : List Int) ++ (out.take j)).map intD = (([] : List Int) ++ (out.take j)).map intD ∧ [[.int .i64 e38]] = ([e38] : List Int).map intD ∧ (∀ x, flatB (intD x) = true) ∧ ((([] : List Int) ++ (out.take j)).length + ([e38] : List Int).length) * 8 ≤ 140737488355328 ∧ out.map intD = out.map intD ∧ 0 ≤ (j : Int) ∧ (j : Int) ≤ ((out.length : Nat) : Int) ∧ ((([] : List Int) ++ (out.take j)) ++ [e38]).map intD = ((([] : List Int) ++ (out.take j)) ++ [e38]).map intD ∧ (out.drop j).map intD = (out.drop j).map intD ∧ (∀ x, flatB (intD x) = true) ∧ (((([] : List Int) ++ (out.take j)) ++ [e38]).length + (out.drop j).length) * 8 ≤ 140737488355328 ∧ inR ((k : Int) + (1 : Int)) ∧ ∃ (k' : Nat) (out' : List Int), ((k : Int) + (1 : Int)) = (k' : Int) ∧ (((([] : List Int) ++ (out.take j)) ++ [e38]) ++ (out.drop j)).map intD = out'.map intD ∧ (k' ≤ l.length ∧ out'.Perm (l.take k') ∧ DescL out') ∧ l.length - k' < l.length - k))) ∧ ((decide ((k : Int) < ((l.length : Nat) : Int))) = false → out.map intD = (downL l).map intD ∧ True)))) ?_
 intro n0
 simp only [List.length_map] at n0
 refine ⟨⟨0, ([] : List Int), rfl, rfl, Nat.zero_le _, List.Perm.refl _, List.Pairwise.nil⟩, fun k out ⟨hk, hp, hd⟩ => ?_⟩
 have hpl := hp.length_eq
 rw [List.length_take] at hpl
 refine ⟨List.length_map _, fun c0 => ?_, fun c0 => ?_⟩
 ·replace c0 := yq c0
  refine ⟨List.length_map _, ⟨out.length, (by first | rfl | omega), Nat.le_refl _, fun i h1 h2 => by omega⟩, fun j ⟨hj, hs⟩ => ?_⟩
  refine ⟨fun g17 => ?_, fun g17 => ?_⟩
  ·replace g17 := yq g17
   refine ⟨⟨by omega, by omega⟩, by omega, rfl, by omega, fun e21 h21 => ?_⟩
   have i21 : out[j - 1]? = some e21 := by rw [← h21]; congr 1; omega
   refine ⟨by omega, rfl, by omega, fun e25 h25 => ?_⟩
   refine ⟨fun c1 => ?_, fun c1 => ?_⟩
   ·replace c1 := yq c1
    have hlt := desc_down i21 (by rw [getD_at h25]; exact c1 : e21 < l.getD k 0) hs
    refine ⟨⟨by omega, by omega⟩, ?_⟩
    exact ⟨j - 1, (by first | rfl | omega), ⟨by omega, hlt⟩, by omega⟩
   ·replace c1 := nq c1
    have hx : j = 0 ∨ ¬ out.getD (j - 1) 0 < l.getD k 0 := by first | (left; omega) | (right; rw [getD_at i21, getD_at h25]; exact c1)
    refine ⟨rfl, by omega, by omega, rfl, rfl, fun _ => rfl, by first | omega | (simp; omega), ?_⟩
    refine ⟨by omega, rfl, by omega, fun e38 h38 => ?_⟩
    rw [getD_at h38] at hx hs
    refine ⟨rfl, rfl, fun _ => rfl, by first | omega | (simp; omega), ?_⟩
    refine ⟨rfl, by omega, by omega, rfl, rfl, fun _ => rfl, by first | omega | (simp; omega), ?_⟩
    refine ⟨⟨by omega, by omega⟩, ?_⟩
    exact ⟨k + 1, ((([] : List Int) ++ (out.take j)) ++ [e38]) ++ (out.drop j), rfl, rfl, ⟨by omega, ins_perm hp h38, ins_desc hd hj hs hx⟩, by omega⟩
  ·replace g17 := nq g17
   have hx : j = 0 ∨ ¬ out.getD (j - 1) 0 < l.getD k 0 := by first | (left; omega) | (right; rw [getD_at i21, getD_at h25]; exact c1)
   refine ⟨rfl, by omega, by omega, rfl, rfl, fun _ => rfl, by first | omega | (simp; omega), ?_⟩
   refine ⟨by omega, rfl, by omega, fun e38 h38 => ?_⟩
   rw [getD_at h38] at hx hs
   refine ⟨rfl, rfl, fun _ => rfl, by first | omega | (simp; omega), ?_⟩
   refine ⟨rfl, by omega, by omega, rfl, rfl, fun _ => rfl, by first | omega | (simp; omega), ?_⟩
   refine ⟨⟨by omega, by omega⟩, ?_⟩
   exact ⟨k + 1, ((([] : List Int) ++ (out.take j)) ++ [e38]) ++ (out.drop j), rfl, rfl, ⟨by omega, ins_perm hp h38, ins_desc hd hj hs hx⟩, by omega⟩
 ·replace c0 := nq c0
  have hE : out = downL l := desc_unique ((by rw [List.take_of_length_le (by omega)] at hp; exact hp : out.Perm l).trans (downL_perm l).symm) hd (downL_desc l)
  refine ⟨?_, trivial⟩
  ·rw [hE]
abbrev k_newT_spec (name : ByteArray) (arity : Int) (rows : List (List Int)) : AV × List (Nat × Rs) := (.tup [.agg [.p none (.str (((newT name arity rows).1).name)), vI (((newT name arity rows).1).arity), .own 0], vB ((newT name arity rows).2)], [(0, .arr 32 1 true ((((newT name arity rows).1).rows).map eIntS))])
abbrev K_newT_spec (name : ByteArray) (arity : Int) (rows : List (List Int)) : Prop := Con Tryz.prog 276 [.one (.str name), .one (.int .i64 arity), .one (.sl 32 1 (rows.map eIntS))] (k_newT_spec name arity rows).1 (k_newT_spec name arity rows).2
theorem newT_spec (name : ByteArray) (arity : Int) (rows : List (List Int)) (hc : cIntSS rows ≤ 1048576) : K_newT_spec name arity rows := by
 refine con_x tbOk mixedW Tryz.func276 (by kernel_rfl) (.loop (Nat × (List (List Int))) (Q2 Nat (List (List Int))) [9, 13, 14, 15, 16, 17, 18, 19, 20, 21, 22, 23, 24, 25, 26, 27, 28, 29, 30, 31, 32] [800, 3100, 9000] (fun yy0 => [(9, vI (yy0.1 : Int))]) (fun yy0 => [(800, some (.box 162 [.p none (.str name), vI arity, .own 9000])), (9000, some (.arr 32 1 true (yy0.2.map eIntS)))]) (fun yy0 => yy0.1 ≤ rows.length ∧ yy0.2 = foldPut (rows.take yy0.1)) (fun yy0 => rows.length - yy0.1) (fun yy0 => .len rows.length <| .br (.len yy0.2.length <| .lit <| .lit <| .br (.elem _ eIntS rows (fun e29 => callP (k_put_spec yy0.2 e29) <| .back [(800, 800), (9000, 3100)])) (.call (vB (okTable (⟨name, arity, yy0.2⟩ : TableD))) [] <| .br (.fin []) (.fin [(0, 9000)]))) (.call (vB (okTable (⟨name, arity, yy0.2⟩ : TableD))) [] <| .br (.fin []) (.fin [(0, 9000)])))) ?_
 refine Eq.mpr (by kernel_rfl : _ = ((rows.map eIntS).length ≤ 9223372036854775807 → (∃ (k : Nat) (acc : List (List Int)), (0 : Int) = (k : Int) ∧ name = name ∧ arity = arity ∧ [] = acc.map eIntS ∧ k ≤ rows.length ∧ acc = foldPut (rows.take k)) ∧ ∀ (k : Nat) (acc : List (List Int)), (k ≤ rows.length ∧ acc = foldPut (rows.take k)) → Lm eIntS rows ∧ (((decide ((k : Int) < ((rows.length : Nat) : Int))) = true → Lm eIntS acc ∧ (((decide (((acc.length : Nat) : Int) ≤ (8 : Int))) = true → 0 ≤ (k : Int) ∧ Em eIntS rows k fun e29 => K_put_spec acc e29 ∧ inR ((k : Int) + (1 : Int)) ∧ ∃ (k' : Nat) (acc' : List (List Int)), ((k : Int) + (1 : Int)) = (k' : Int) ∧ name = name ∧ arity = arity ∧ (putR e29 acc).map eIntS = acc'.map eIntS ∧ (k' ≤ rows.length ∧ acc' = foldPut (rows.take k')) ∧ rows.length - k' < rows.length - k) ∧ ((decide (((acc.length : Nat) : Int) ≤ (8 : Int))) = false → K_tab_spec (⟨name, arity, acc⟩ : TableD) ∧ (((!(okTable (⟨name, arity, acc⟩ : TableD))) = true → ByteArray.empty = (((newT name arity rows).1).name) ∧ (0 : Int) = (((newT name arity rows).1).arity) ∧ (false) = ((newT name arity rows).2) ∧ [] = (((newT name arity rows).1).rows).map eIntS ∧ True) ∧ ((!(okTable (⟨name, arity, acc⟩ : TableD))) = false → name = (((newT name arity rows).1).name) ∧ arity = (((newT name arity rows).1).arity) ∧ (true) = ((newT name arity rows).2) ∧ acc.map eIntS = (((newT name arity rows).1).rows).map eIntS ∧ True))))) ∧ ((decide ((k : Int) < ((rows.length : Nat) : Int))) = false → K_tab_spec (⟨name, arity, acc⟩ : TableD) ∧ (((!(okTable (⟨name, arity, acc⟩ : TableD))) = true → ByteArray.empty = (((newT name arity rows).1).name) ∧ (0 : Int) = (((newT name arity rows).1).arity) ∧ (false) = ((newT name arity rows).2) ∧ [] = (((newT name arity rows).1).rows).map eIntS ∧ True) ∧ ((!(okTable (⟨name, arity, acc⟩ : TableD))) = false → name = (((newT name arity rows).1).name) ∧ arity = (((newT name arity rows).1).arity) ∧ (true) = ((newT name arity rows).2) ∧ acc.map eIntS = (((newT name arity rows).1).rows).map eIntS ∧ True)))))) ?_
 intro n0
 simp only [List.length_map] at n0
 have hlen := cIntSS_len rows
 refine ⟨⟨0, ([] : List (List Int)), rfl, rfl, rfl, rfl, Nat.zero_le _, rfl⟩, fun k acc ⟨hk, ha⟩ => ?_⟩
 refine ⟨List.length_map _, fun g17 => ?_, fun g17 => ?_⟩
 ·replace g17 := yq g17
  refine ⟨List.length_map _, fun c0 => ?_, fun c0 => ?_⟩
  ·replace c0 := yq c0
   have hp := foldPut_cnt rows k
   rw [← ha] at hp
   refine ⟨by omega, rfl, by omega, fun e29 h29 => ?_⟩
   have hp3 := cIntSS_at h29
   refine ⟨put_spec acc e29 (by omega) (by omega) (by omega), ⟨by omega, by omega⟩, ?_⟩
   exact ⟨k + 1, _, rfl, rfl, rfl, rfl, ⟨by omega, by rw [ha, take_snoc h29, foldPut_snoc]⟩, by omega⟩
  ·replace c0 := nq c0
   have hend := newT_end (name := name) (arity := arity) ha (by omega)
   refine ⟨tab_spec (⟨name, arity, acc⟩ : TableD), fun c1 => ?_, fun c1 => ?_⟩
   ·replace c1 := nt c1
    have hbad : okTable ⟨name, arity, foldPut rows⟩ = false := by rw [← hend.1]; simpa using c1
    refine ⟨?_, ?_, ?_, ?_, trivial⟩
    ·first | (rw [newT_no hbad] <;> rfl) | (rw [newT_yes hok] <;> rfl) | (rw [newT_yes hok]; exact congrArg (List.map eIntS) hacc)
    ·first | (rw [newT_no hbad] <;> rfl) | (rw [newT_yes hok] <;> rfl) | (rw [newT_yes hok]; exact congrArg (List.map eIntS) hacc)
    ·first | (rw [newT_no hbad] <;> rfl) | (rw [newT_yes hok] <;> rfl) | (rw [newT_yes hok]; exact congrArg (List.map eIntS) hacc)
    ·first | (rw [newT_no hbad] <;> rfl) | (rw [newT_yes hok] <;> rfl) | (rw [newT_yes hok]; exact congrArg (List.map eIntS) hacc)
   ·replace c1 := nf c1
    have hok0 : okTable ⟨name, arity, acc⟩ = true := by simpa using c1
    have hok : okTable ⟨name, arity, foldPut rows⟩ = true := by rw [← hend.1]; exact hok0
    have hacc := hend.2 hok0
    refine ⟨?_, ?_, ?_, ?_, trivial⟩
    ·first | (rw [newT_no hbad] <;> rfl) | (rw [newT_yes hok] <;> rfl) | (rw [newT_yes hok]; exact congrArg (List.map eIntS) hacc)
    ·first | (rw [newT_no hbad] <;> rfl) | (rw [newT_yes hok] <;> rfl) | (rw [newT_yes hok]; exact congrArg (List.map eIntS) hacc)
    ·first | (rw [newT_no hbad] <;> rfl) | (rw [newT_yes hok] <;> rfl) | (rw [newT_yes hok]; exact congrArg (List.map eIntS) hacc)
    ·first | (rw [newT_no hbad] <;> rfl) | (rw [newT_yes hok] <;> rfl) | (rw [newT_yes hok]; exact congrArg (List.map eIntS) hacc)
 ·replace g17 := nq g17
  have hend := newT_end (name := name) (arity := arity) ha (by omega)
  refine ⟨tab_spec (⟨name, arity, acc⟩ : TableD), fun c1 => ?_, fun c1 => ?_⟩
  ·replace c1 := nt c1
   have hbad : okTable ⟨name, arity, foldPut rows⟩ = false := by rw [← hend.1]; simpa using c1
   refine ⟨?_, ?_, ?_, ?_, trivial⟩
   ·first | (rw [newT_no hbad] <;> rfl) | (rw [newT_yes hok] <;> rfl) | (rw [newT_yes hok]; exact congrArg (List.map eIntS) hacc)
   ·first | (rw [newT_no hbad] <;> rfl) | (rw [newT_yes hok] <;> rfl) | (rw [newT_yes hok]; exact congrArg (List.map eIntS) hacc)
   ·first | (rw [newT_no hbad] <;> rfl) | (rw [newT_yes hok] <;> rfl) | (rw [newT_yes hok]; exact congrArg (List.map eIntS) hacc)
   ·first | (rw [newT_no hbad] <;> rfl) | (rw [newT_yes hok] <;> rfl) | (rw [newT_yes hok]; exact congrArg (List.map eIntS) hacc)
  ·replace c1 := nf c1
   have hok0 : okTable ⟨name, arity, acc⟩ = true := by simpa using c1
   have hok : okTable ⟨name, arity, foldPut rows⟩ = true := by rw [← hend.1]; exact hok0
   have hacc := hend.2 hok0
   refine ⟨?_, ?_, ?_, ?_, trivial⟩
   ·first | (rw [newT_no hbad] <;> rfl) | (rw [newT_yes hok] <;> rfl) | (rw [newT_yes hok]; exact congrArg (List.map eIntS) hacc)
   ·first | (rw [newT_no hbad] <;> rfl) | (rw [newT_yes hok] <;> rfl) | (rw [newT_yes hok]; exact congrArg (List.map eIntS) hacc)
   ·first | (rw [newT_no hbad] <;> rfl) | (rw [newT_yes hok] <;> rfl) | (rw [newT_yes hok]; exact congrArg (List.map eIntS) hacc)
   ·first | (rw [newT_no hbad] <;> rfl) | (rw [newT_yes hok] <;> rfl) | (rw [newT_yes hok]; exact congrArg (List.map eIntS) hacc)
abbrev k_tabS_spec (x : TableStatsD) : AV × List (Nat × Rs) := (.tup [.agg [.p none (.str (((tabS x).1).name)), vI (((tabS x).1).arity), .own 0], vB ((tabS x).2)], [(0, .arr 32 1 true ((((tabS x).1).rows).map eIntS))])
abbrev K_tabS_spec (x : TableStatsD) : Prop := Con Tryz.prog 245 [.agg [.str x.name, .int .i64 x.arity, .int .i64 x.rowCount, .sl 218 3 (x.groups.map eGroupStats)]] (k_tabS_spec x).1 (k_tabS_spec x).2
theorem tabS_spec (x : TableStatsD) (hc : cTableStats x ≤ 1048576) : K_tabS_spec x := by
 refine con_x tbOk mixedW Tryz.func245 (by kernel_rfl) (.len x.groups.length <| .br (.fin []) (.len x.groups.length <| .elem _ eGroupStats x.groups (fun e22 => callP (k_newT_spec x.name x.arity e22.values) <| .fin [(0, 2500)]))) ?_
 refine Eq.mpr (by kernel_rfl : _ = ((x.groups.map eGroupStats).length ≤ 9223372036854775807 → Lm eGroupStats x.groups ∧ (((decide (((x.groups.length : Nat) : Int) = (0 : Int))) = true → ByteArray.empty = (((tabS x).1).name) ∧ (0 : Int) = (((tabS x).1).arity) ∧ (false) = ((tabS x).2) ∧ [] = (((tabS x).1).rows).map eIntS ∧ True) ∧ ((decide (((x.groups.length : Nat) : Int) = (0 : Int))) = false → Lm eGroupStats x.groups ∧ inR (((x.groups.length : Nat) : Int) - (1 : Int)) ∧ 0 ≤ (((x.groups.length : Nat) : Int) - (1 : Int)) ∧ Em eGroupStats x.groups ((((x.groups.length : Nat) : Int) - (1 : Int)).toNat) fun e22 => K_newT_spec x.name x.arity e22.values ∧ (((newT x.name x.arity e22.values).1).name) = (((tabS x).1).name) ∧ (((newT x.name x.arity e22.values).1).arity) = (((tabS x).1).arity) ∧ ((newT x.name x.arity e22.values).2) = ((tabS x).2) ∧ (((newT x.name x.arity e22.values).1).rows).map eIntS = (((tabS x).1).rows).map eIntS ∧ True)))) ?_
 intro n0
 simp only [List.length_map] at n0
 have q2 : cTableStats x = x.name.size + cGroupStatsS x.groups := rfl
 have q5 := cGroupStatsS_len x.groups
 refine ⟨List.length_map _, fun c0 => ?_, fun c0 => ?_⟩
 ·replace c0 := yq c0
  have hT : tabS x = (zTable, false) := by rw [tabS, if_pos (by omega)]
  refine ⟨?_, ?_, ?_, ?_, trivial⟩
  ·(rw [hT] <;> rfl)
  ·(rw [hT] <;> rfl)
  ·(rw [hT] <;> rfl)
  ·(rw [hT] <;> rfl)
 ·replace c0 := nq c0
  have hT : tabS x = newT x.name x.arity (lastV x) := by rw [tabS, if_neg (by omega)]
  refine ⟨List.length_map _, ⟨by omega, by omega⟩, by omega, rfl, by omega, fun e22 h22 => ?_⟩
  have i22 : x.groups[x.groups.length - 1]? = some e22 := by rw [← h22]; congr 1; omega
  have hL : lastV x = e22.values := lastV_at i22
  rw [hL] at hT
  have q1 := cGroupStatsS_el i22
  have q3 : cGroupStats e22 = cIntS e22.columns + cIntSS e22.values + cIntS e22.counts := rfl
  have q6 : cIntS e22.columns = e22.columns.length := rfl
  have q7 : cIntS e22.counts = e22.counts.length := rfl
  have q8 := cIntSS_len e22.values
  refine ⟨newT_spec _ _ _ (by omega), ?_, ?_, ?_, ?_, trivial⟩
  ·(rw [hT] <;> rfl)
  ·(rw [hT] <;> rfl)
  ·(rw [hT] <;> rfl)
  ·(rw [hT] <;> rfl)
abbrev K_okS_spec (x : TableStatsD) : Prop := Con Tryz.prog 178 [.agg [.str x.name, .int .i64 x.arity, .int .i64 x.rowCount, .sl 218 3 (x.groups.map eGroupStats)]] (vB (okStats x)) []
theorem okS_spec (x : TableStatsD) (hc : cTableStats x ≤ 1048576) : K_okS_spec x := by
 refine con_x tbOk mixedW Tryz.func178 (by kernel_rfl) (callP (k_tabS_spec x) <| .br (callP (k_st_spec ((tabS x).1)) <| .call (vB (decide ((statsOf ((tabS x).1)) = x))) [] <| .fin []) (.fin [])) ?_
 refine Eq.mpr (by kernel_rfl : _ = ((x.groups.map eGroupStats).length ≤ 9223372036854775807 → K_tabS_spec x ∧ ((((tabS x).2) = true → K_st_spec ((tabS x).1) ∧ K_eqStats_spec (statsOf ((tabS x).1)) x ∧ (decide ((statsOf ((tabS x).1)) = x)) = (okStats x) ∧ True) ∧ (((tabS x).2) = false → (false) = (okStats x) ∧ True)))) ?_
 intro n0
 simp only [List.length_map] at n0
 have hst := stats_small (tabS x).1
 have hsame := tabS_same x
 refine ⟨tabS_spec x (by omega), fun g11 => ?_, fun g11 => ?_⟩
 ·refine ⟨st_spec ((tabS x).1), eqStats_spec _ _ (by omega), ?_, trivial⟩
  ·first | (rw [← hsame, g11]; simp; done) | (rw [← hsame]; simp [*]; done)
 ·refine ⟨?_, trivial⟩
  ·first | (rw [← hsame, g11]; simp; done) | (rw [← hsame]; simp [*]; done)
end Go.Proofs.YtokkjaflmcjlhaaGreat
