/-
  Rows of numbers turned in place by the library: each of equal neighbours once, as a contract.
-/
import Derived.Test.YtjlagjhmlmfjeaaGreatSi
import Derived.Shelf.SlicesE.Compact
import Derived.Ground.SlgnProg
namespace Go.Proofs
open Go.Shelf
namespace YtjlagjhmlmfjeaaGreat
def Tryz.compInts_ren : Go.Shelf.Ren := ⟨fun | 43 => 215 | n => n, fun | 22 => 25 | 23 => 3 | 3 => 3 | 4 => 4 | 0 => 0 | n => n, fun | n => n⟩
theorem Tryz.compInts : Go.Proofs.SlLaysE.n43 Tryz.prog Tryz.compInts_ren := {
  mixed := by kernel_rfl
  f43 := ⟨Tryz.f215.name, by decide, Tryz.func215.trans (congrArg some (by kernel_rfl))⟩
  t0 := Tryz.underlying0
  a0 := Tryz.isAgg0
  z0 := Tryz.sizeOf0
  v0 := Tryz.zeroValue0
  t3 := Tryz.underlying3
  a3 := Tryz.isAgg3
  z3 := Tryz.sizeOf3
  v3 := Tryz.zeroValue3
  t4 := Tryz.underlying4
  a4 := Tryz.isAgg4
  z4 := Tryz.sizeOf4
  v4 := Tryz.zeroValue4
  t22 := Tryz.underlying25
  a22 := Tryz.isAgg25
  z22 := Tryz.sizeOf25
  v22 := Tryz.zeroValue25
  a23 := Tryz.isAgg3
  z23 := Tryz.sizeOf3 }
end YtjlagjhmlmfjeaaGreat
end Go.Proofs
namespace Go.Proofs.YtjlagjhmlmfjeaaGreat
open Go.ChangeShapes Go.WideShapes Go.ChangeAt Go.RowKit Go.Lib
set_option linter.unusedVariables false
set_option linter.unusedSimpArgs false
theorem con2_intsC {P : Program} {f : FuncId} {e : Nat} (l m : List Int) (hc : callable P f = true) (hm : m.length ≤ l.length) (hm0 : l = [] → m = [])
    (hn0 : l = [] → ∀ w, Calls P f #[.slice none 0 0] w (fun ex w' => ex = .returned (.slice none 0 0) ∧ w' = w))
    (hs : ∀ (blk cap : Nat) (w : World), Go.Sort.Holds (Value.int .i64) w blk 0 l.toArray → blk < w.heap.size → l.length ≤ cap → Calls P f #[.slice (some ⟨blk, 0, none⟩) l.length cap] w (fun ex w' => ex = .returned (.slice (some ⟨blk, 0, none⟩) m.length cap) ∧ ∃ n os z, (m ++ z).length = l.length ∧ w' = Go.Sort.grow (Go.Sort.putRow (Value.int .i64) (Go.Sort.ahead w n) blk 0 (m ++ z).toArray) os)) :
    Con2 P f [.own 0] [(0, .arr e 1 true (l.map intD))] (.own 1) [(1, .arr e 1 true (m.map intD))] := by
  refine ⟨hc, by simp, fun A φ w vs hI hM => ?_⟩
  obtain ⟨pl, hp, css, Fs, q1, q2, q3, q4⟩ := hI.dom 0 _ rfl
  unfold MatchL at hM
  obtain ⟨v, us, e1, m1, hM⟩ := hM
  unfold MatchL at hM
  unfold MatchV at m1
  have hv := m1 pl hp
  have ev : vs = #[pl.val] := by apply Array.ext'; rw [e1, hM, hv]
  rw [ev]
  obtain ⟨c1, c2⟩ := owRs_ints q4
  rw [c1, List.length_map] at q1
  have hge := hI.ge 0 pl hp
  have hsub : pl.sub = [] := by rw [q3, c2]
  have hfoot : ∀ b ∈ pl.F, AllF φ b := fun b hb => ⟨0, pl, trivial, hp, hb⟩
  have h1 : φ 1 = none := hI.non 1 rfl
  have hend : ∀ (v' : Value) (w' : World), Only pl.F w w' → (∀ b ∈ v'.ownBlock, b ∈ pl.val.ownBlock) → w'.ownsRow 0 e 1 v' m.length (m.map (Value.int .i64)) →
      ∃ v K φ', Ending.returned v' = .returned v ∧ Out2 A φ w [(1, .arr e 1 true (m.map intD))] K φ' w' ∧ MatchV K φ' w' (.own 1) v := by
    intro v' w' hon hvb howns
    let pl' : Pl := ⟨v', v'.ownBlock.toList, []⟩
    have hmem : ∀ g, g ∈ pl'.F → g ∈ pl.F := fun g hg => by
      unfold Pl.F
      simp only [pl', Pl.F, List.append_nil, Option.mem_toList] at hg
      rw [q2]
      exact List.mem_append_left _ (by rw [Option.mem_toList]; exact hvb g hg)
    have hnd' : pl'.F.Nodup := by simp only [pl', Pl.F, List.append_nil]; cases v'.ownBlock <;> simp
    refine ⟨_, A, fun h => if h = 1 then some pl' else none, rfl, ⟨⟨hon.os, hon.tape, hon.output, hon.size, fun b hb hn => hon.block b hb (fun hm => hn (hfoot b hm))⟩, fun _ h => h, fun b hb => ⟨Nat.lt_of_lt_of_le (hI.lt b hb) hon.size, .inl hb⟩, fun b hb h pl1 e' hm' => ?_, fun h r hr => ?_, fun h hr => ?_, fun h h' pl1 pl2 hne ea eb => ?_, fun h pl1 e' => ?_, fun h pl1 e' g hg => ?_, fun h pl1 pl0 e' e0 => ?_⟩, ?_⟩
    · split at e'
      · injection e' with e'; subst e'
        exact hI.out b hb 0 pl hp (hmem b hm')
      · cases e'
    · simp only [findH] at hr
      split at hr
      · rename_i eh
        subst eh
        injection hr with hr
        subst hr
        refine ⟨pl', by simp, m.map fun n => [Value.int .i64 n], m.map fun _ => [], ?_, rfl, ?_, owRs_of_ints _ m⟩
        · rw [flat_ints, List.length_map]; exact howns
        · simp [pl']
      · cases hr
    · simp only [findH] at hr
      split at hr
      · cases hr
      · rename_i eh; exact if_neg eh
    · split at ea
      · split at eb
        · rename_i x y; exact absurd (x.trans y.symm) hne
        · cases eb
      · cases ea
    · split at e'
      · injection e' with e'; subst e'; exact hnd'
      · cases e'
    · split at e'
      · injection e' with e'; subst e'
        have := hmem g hg
        exact ⟨.inr (hfoot g this), Nat.lt_of_lt_of_le (hge g this) hon.size⟩
      · cases e'
    · split at e'
      · rename_i eh
        subst eh
        rw [h1] at e0; cases e0
      · cases e'
    · unfold MatchV
      intro pl1 e'
      simp at e'
      subst e'
      rfl
  rcases q1.2 with ⟨hvn, hz⟩ | ⟨g, cap, cur, hvv, hg0, hb, hn, hcap, hsz, htk⟩
  · have hz' : l = [] := List.eq_nil_of_length_eq_zero hz
    rw [hvn]
    refine (hn0 hz' w).mono ?_
    rintro en w' ⟨rfl, rfl⟩
    refine hend (.slice none 0 0) w' (Only.refl _ _) (fun b hb => by cases hb) ?_
    rw [hm0 hz']
    exact ⟨by simp, .inl ⟨rfl, rfl⟩⟩
  · have hlt : g < w.heap.size := (Array.getElem?_eq_some_iff.1 hb).1
    have hH : Go.Sort.Holds (Value.int .i64) w g 0 l.toArray := holds_of_blockI hb (by rw [Nat.mul_one] at htk; exact htk)
    rw [hvv]
    refine (hs g cap w hH hlt hn).mono ?_
    rintro en w' ⟨rfl, n, os, z, hz, rfl⟩
    have hgb := grownBy_sortedI (w := w) (g := g) (n := n) (os := os) (m ++ z).toArray
    have hown := ownsRow_sortedI (n := n) (os := os) hz hg0 hb hn hcap hsz
    refine hend _ _ ⟨hgb.os, hgb.tape, hgb.output, hgb.size, fun k hk hne => hgb.block k hk (fun e => hne (by injection e with e; subst e; unfold Pl.F; rw [q2, hvv]; simp [Value.ownBlock]))⟩ (fun b hb' => by rw [hvv]; exact hb') ?_
    rcases hown.2 with ⟨hvn, _⟩ | ⟨g', cap', cur', hv', hg', hb', hn', hcap', hsz', htk'⟩
    · cases hvn
    · simp only [Value.slice.injEq, Option.some.injEq, Addr.mk.injEq, and_true] at hv'
      obtain ⟨rfl, _, rfl⟩ := hv'
      refine ⟨by simp, .inr ⟨g, cap, cur', rfl, hg', hb', by omega, hcap', hsz', ?_⟩⟩
      rw [Nat.mul_one] at *
      have h3 := congrArg (List.take m.length) htk'
      rw [List.take_take, Nat.min_eq_left hm, List.map_append, List.take_append_of_le_length (by simp)] at h3
      rw [h3, List.take_of_length_le (by simp)]
def compI (l : List Int) : List Int := compactUpTo l.toArray l.toArray.size
theorem compI_le (l : List Int) : (compI l).length ≤ l.length := by
  unfold compI compactUpTo
  rw [List.length_map]
  have := (List.filter_sublist (l := List.range l.toArray.size) (p := keeps l.toArray)).length_le
  simpa using this
theorem compI_nil {l : List Int} : compI l = [] ↔ l = [] := by
  constructor
  · intro h
    by_cases e : l = []
    · exact e
    · exfalso
      have hp : 0 < l.length := List.length_pos_iff.2 e
      unfold compI compactUpTo at h
      rw [List.map_eq_nil_iff, List.filter_eq_nil_iff] at h
      exact h 0 (List.mem_range.2 (by simpa using hp)) (keeps_lt_one _ 0 (by omega))
  · rintro rfl; rfl
theorem tyI : tyOf Tryz.prog 3 = some (false, 1, 8, .int .i64 0) := by kernel_rfl
theorem zeroI (w : World) : (zeroValue 3).run Tryz.prog w = .ok (.int .i64 0) w := (tyOf_spec tyI w).2.2.1
theorem con_compI (l : List Int) (hl : l.length < 4611686018427387904) : Con2 Tryz.prog 215 [.own 0] [(0, .arr 3 1 true (l.map intD))] (.own 1) [(1, .arr 3 1 true ((compI l).map intD))] :=
  con2_intsC l (compI l) (by kernel_rfl) (compI_le l) (fun h => compI_nil.2 h)
    (fun h w => by
      go_enter Tryz.func215, Tryz.ntmps215
      go_wp2
      go_ret
      exact ⟨rfl, rfl⟩)
    (fun blk cap w hH hblk hn => (AnyE.slices_Compact Tryz.compInts (Value.int .i64) (fun _ => rfl) (EqlAt.intD _ _ .i64) (NeqAt.intD _ _ .i64) 0 (fun w => zeroI w) blk 0 cap l.toArray w hH (by rw [List.size_toArray]; omega) (by rw [List.size_toArray]; exact hn)).mono fun e w' ⟨he, q, hw⟩ =>
      ⟨by have e1 : l.toArray.size = l.length := by simp
          rw [e1] at he; unfold compI; rw [e1]; exact he, q, #[], List.replicate (l.length - (compI l).length) 0, by have := compI_le l; simp; omega, by rw [hw, Go.Sort.grow_empty]; simp [compI]⟩)
end Go.Proofs.YtjlagjhmlmfjeaaGreat
