/-
  slices.SortFunc at rows: a contract with memory handed in and back.
-/
import Derived.Test.YtjlagjhmlmfjeaaSg
import Derived.Shelf.SlSortCmp.Whole1
import Derived.Shelf.SlSortCmp.NoneTotal
import Derived.Ground.SlsfProg
namespace Go.Proofs
open Go.Shelf
namespace Ytjlagjhmlmfjeaa
def Try.sortRows_ren : Go.Shelf.Ren := ⟨fun | 6 => 128 | 15 => 133 | 14 => 132 | 28 => 143 | 29 => 144 | 20 => 135 | 21 => 136 | 22 => 137 | 23 => 138 | 24 => 139 | 25 => 140 | 26 => 141 | 27 => 142 | 46 => 146 | 47 => 147 | 48 => 148 | 49 => 149 | 50 => 150 | 57 => 151 | n => n, fun | 22 => 88 | 24 => 72 | 25 => 75 | 3 => 3 | 39 => 153 | 0 => 0 | 53 => 164 | 55 => 166 | 4 => 4 | 46 => 157 | 45 => 156 | 50 => 161 | 5 => 5 | 9 => 9 | 66 => 168 | 70 => 172 | 76 => 174 | 77 => 175 | n => n, fun | n => n⟩
theorem Try.sortRows : Go.Proofs.SlLaysF.n6 Try.prog Try.sortRows_ren := {
  mixed := by kernel_rfl
  f6 := ⟨Try.f128.name, by decide, Try.func128.trans (congrArg some (by kernel_rfl))⟩
  f14 := ⟨Try.f132.name, by decide, Try.func132.trans (congrArg some (by kernel_rfl))⟩
  f15 := Try.func133.trans (congrArg some (by kernel_rfl))
  f20 := ⟨Try.f135.name, by decide, Try.func135.trans (congrArg some (by kernel_rfl))⟩
  f21 := ⟨Try.f136.name, by decide, Try.func136.trans (congrArg some (by kernel_rfl))⟩
  f22 := ⟨Try.f137.name, by decide, Try.func137.trans (congrArg some (by kernel_rfl))⟩
  f23 := ⟨Try.f138.name, by decide, Try.func138.trans (congrArg some (by kernel_rfl))⟩
  f24 := ⟨Try.f139.name, by decide, Try.func139.trans (congrArg some (by kernel_rfl))⟩
  f25 := ⟨Try.f140.name, by decide, Try.func140.trans (congrArg some (by kernel_rfl))⟩
  f26 := ⟨Try.f141.name, by decide, Try.func141.trans (congrArg some (by kernel_rfl))⟩
  f27 := ⟨Try.f142.name, by decide, Try.func142.trans (congrArg some (by kernel_rfl))⟩
  f28 := Try.func143.trans (congrArg some (by kernel_rfl))
  f29 := Try.func144.trans (congrArg some (by kernel_rfl))
  f46 := ⟨Try.f146.name, by decide, Try.func146.trans (congrArg some (by kernel_rfl))⟩
  f47 := Try.func147.trans (congrArg some (by kernel_rfl))
  f48 := Try.func148.trans (congrArg some (by kernel_rfl))
  f49 := ⟨Try.f149.name, by decide, Try.func149.trans (congrArg some (by kernel_rfl))⟩
  f50 := ⟨Try.f150.name, by decide, Try.func150.trans (congrArg some (by kernel_rfl))⟩
  f57 := ⟨Try.f151.name, by decide, Try.func151.trans (congrArg some (by kernel_rfl))⟩
  t0 := Try.underlying0
  a0 := Try.isAgg0
  z0 := Try.sizeOf0
  v0 := Try.zeroValue0
  t3 := Try.underlying3
  a3 := Try.isAgg3
  z3 := Try.sizeOf3
  v3 := Try.zeroValue3
  t4 := Try.underlying4
  a4 := Try.isAgg4
  z4 := Try.sizeOf4
  v4 := Try.zeroValue4
  t5 := Try.underlying5
  a5 := Try.isAgg5
  z5 := Try.sizeOf5
  v5 := Try.zeroValue5
  t9 := Try.underlying9
  a9 := Try.isAgg9
  z9 := Try.sizeOf9
  v9 := Try.zeroValue9
  t22 := Try.underlying88
  a22 := Try.isAgg88
  z22 := Try.sizeOf88
  v22 := Try.zeroValue88
  a24 := Try.isAgg72
  z24 := Try.sizeOf72
  t25 := Try.underlying75
  a25 := Try.isAgg75
  z25 := Try.sizeOf75
  v25 := Try.zeroValue75
  t39 := Try.underlying153
  a39 := Try.isAgg153
  z39 := Try.sizeOf153
  v39 := Try.zeroValue153
  t45 := Try.underlying156
  a45 := Try.isAgg156
  z45 := Try.sizeOf156
  v45 := Try.zeroValue156
  t46 := Try.underlying157
  a46 := Try.isAgg157
  z46 := Try.sizeOf157
  v46 := Try.zeroValue157
  t50 := Try.underlying161
  a50 := Try.isAgg161
  z50 := Try.sizeOf161
  v50 := Try.zeroValue161
  t53 := Try.underlying164
  a53 := Try.isAgg164
  z53 := Try.sizeOf164
  v53 := Try.zeroValue164
  t55 := Try.underlying166
  a55 := Try.isAgg166
  z55 := Try.sizeOf166
  v55 := Try.zeroValue166
  t66 := Try.underlying168
  a66 := Try.isAgg168
  z66 := Try.sizeOf168
  v66 := Try.zeroValue168
  t70 := Try.underlying172
  a70 := Try.isAgg172
  z70 := Try.sizeOf172
  v70 := Try.zeroValue172
  t76 := Try.underlying174
  a76 := Try.isAgg174
  z76 := Try.sizeOf174
  v76 := Try.zeroValue174
  t77 := Try.underlying175
  a77 := Try.isAgg175
  z77 := Try.sizeOf175
  v77 := Try.zeroValue175 }
end Ytjlagjhmlmfjeaa
end Go.Proofs
namespace Go.Proofs.Ytjlagjhmlmfjeaa
open Go.ChangeShapes Go.WideShapes Go.ChangeAt Go.RowKit Go.Shelf Go.Lib
set_option linter.unusedVariables false
set_option linter.unusedSimpArgs false
set_option maxHeartbeats 2000000 in
theorem con_sort (l : List (List Int)) (hl : l.length < 4611686018427387904) : Con2 Try.prog 128 [.own 0, .fn 127 []] [(0, .arr 72 1 true (l.map eIntS))] (.tup []) [(0, .arr 72 1 true ((sortR l).map eIntS))] := by
  refine ⟨by kernel_rfl, by simp, fun A φ w vs hI hm => ?_⟩
  obtain ⟨pl, hp, css, Fs, q1, q2, q3, q4⟩ := hI.dom 0 _ rfl
  unfold MatchL at hm
  obtain ⟨v, us, e1, m1, hm⟩ := hm
  unfold MatchL at hm
  obtain ⟨v2, us2, e2, m2, hm⟩ := hm
  unfold MatchL at hm
  unfold MatchV at m1 m2
  obtain ⟨vs2, ev2, m3⟩ := m2
  unfold MatchL at m3
  have hv := m1 pl hp
  have e3 : vs2 = #[] := by apply Array.ext'; simpa using m3
  have ev : vs = #[pl.val, .func (.func 127) #[] #[]] := by apply Array.ext'; rw [e1, e2, hm, hv, ev2, e3]
  rw [ev]
  have hnd := hI.nodup 0 pl hp
  have hge := hI.ge 0 pl hp
  have hFe : pl.F = pl.val.ownBlock.toList ++ Fs.flatten := by unfold Pl.F; rw [q2, q3]
  have hfoot : ∀ b ∈ pl.F, AllF φ b := fun b hb => ⟨0, pl, trivial, hp, hb⟩
  have h0 : ∀ h pl', φ h = some pl' → h = 0 := fun h pl' e' => by
    cases hr : findH [(0, Rs.arr 72 1 true (l.map eIntS))] h with
    | none => rw [hI.non h hr] at e'; cases e'
    | some r =>
      simp only [findH] at hr
      split at hr
      · assumption
      · cases hr
  obtain ⟨lc, lF⟩ := owRs_lens q4
  rw [List.length_map] at lc lF
  -- the rows, one by one
  have hrow : ∀ i, i < l.length → ∃ a cap F, css[i]? = some [.slice a (l.getD i []).length cap] ∧ Fs[i]? = some F ∧ RowV w a (l.getD i []) ∧ (∀ x ∈ a, x.block ∈ F) ∧ (l.getD i []).length ≤ 9223372036854775807 ∧ OwCs w (eIntS (l.getD i [])) [.slice a (l.getD i []).length cap] F := fun i hi => by
    obtain ⟨r, hr⟩ := at_some hi
    have hg : l.getD i [] = r := by simp [List.getD_eq_getElem?_getD, hr]
    obtain ⟨c, F, g1, g2, _, g4⟩ := owRs_get q4 (show (l.map eIntS)[i]? = some (eIntS r) by rw [List.getElem?_map, hr]; rfl)
    obtain ⟨a, cap, rfl, k1, k2, k3⟩ := owRow g4
    rw [hg]
    exact ⟨a, cap, F, g1, g2, k1, k2, k3, g4⟩
  have hone : ∀ d ∈ css, d.length = 1 := fun d hd => by
    obtain ⟨i, hi⟩ := List.getElem?_of_mem hd
    obtain ⟨a, cap, F, g1, _⟩ := hrow i (by have := (List.getElem?_eq_some_iff.1 hi).1; omega)
    rw [hi] at g1
    injection g1 with g1
    rw [g1]; rfl
  let enc : Nat → Value := fun i => css.flatten.getD i (.slice none 0 0)
  have henc : ∀ i, ∃ a cap, enc i = .slice a (l.getD i []).length cap ∧ RowV w a (l.getD i []) ∧ (∀ x ∈ a, x.block ∈ Fs.flatten) ∧ (l.getD i []).length ≤ 9223372036854775807 := fun i => by
    by_cases hi : i < l.length
    · obtain ⟨a, cap, F, g1, g2, g3, g4, g5, _⟩ := hrow i hi
      refine ⟨a, cap, ?_, g3, fun x hx => List.mem_flatten.2 ⟨F, List.mem_of_getElem? g2, g4 x hx⟩, g5⟩
      show css.flatten.getD i _ = _
      rw [List.getD_eq_getElem?_getD, flat_one css i _ hone g1]; rfl
    · have hg : l.getD i [] = [] := by rw [List.getD_eq_getElem?_getD, List.getElem?_eq_none (by omega)]; rfl
      rw [hg]
      refine ⟨none, 0, ?_, fun j x hx => by simp at hx, by simp, by simp⟩
      show css.flatten.getD i _ = _
      rw [List.getD_eq_getElem?_getD, List.getElem?_eq_none (by rw [flat_len css hone]; omega)]; rfl
  have hend : ∀ (d' : List Nat) (w' : World), d'.Perm (List.range l.length) → (d'.map fun i => l.getD i []).Pairwise (fun a b => leR a b = true) → Only pl.F w w' → (∀ F ∈ Fs, KeptOn F w w') → w'.ownsRow 0 72 1 pl.val l.length (d'.map enc) →
      ∃ v K φ', Ending.returned (.tuple #[]) = .returned v ∧ Out2 A φ w [(0, .arr 72 1 true ((sortR l).map eIntS))] K φ' w' ∧ MatchV K φ' w' (.tup []) v := by
    intro d' w' hperm hsort hon hkeep howns
    have hrange : (List.range l.length).map (fun i => l.getD i []) = l := by
      apply List.ext_getElem?
      intro i
      by_cases hi : i < l.length
      · simp [hi]
      · simp [hi]
    have hl' : d'.map (fun i => l.getD i []) = sortR l := sortR_eq (by have := hperm.map (fun i => l.getD i []); rwa [hrange] at this) hsort
    have hFr : (List.range l.length).map (fun i => Fs.getD i []) = Fs := by
      apply List.ext_getElem?
      intro i
      by_cases hi : i < l.length
      · simp [hi, show i < Fs.length by omega]
      · simp [hi, show ¬ i < Fs.length by omega]
    have hFp : (d'.map fun i => Fs.getD i []).flatten.Perm Fs.flatten := by
      have := (hperm.map (fun i => Fs.getD i [])).flatten
      rwa [hFr] at this
    let pl' : Pl := ⟨pl.val, pl.top, (d'.map fun i => Fs.getD i []).flatten⟩
    have hmem : ∀ g, g ∈ pl'.F ↔ g ∈ pl.F := fun g => by
      simp only [pl', Pl.F, List.mem_append, q3, hFp.mem_iff]
    have hnd' : pl'.F.Nodup := by
      have : pl'.F.Perm pl.F := by simp only [pl', Pl.F, q3]; exact (List.Perm.refl _).append hFp
      exact this.nodup_iff.2 hnd
    refine ⟨_, A, fun h => if h = 0 then some pl' else none, rfl, ⟨⟨hon.os, hon.tape, hon.output, hon.size, fun b hb hn => hon.block b hb (fun hm => hn (hfoot b hm))⟩, fun _ h => h, fun b hb => ⟨Nat.lt_of_lt_of_le (hI.lt b hb) hon.size, .inl hb⟩, fun b hb h pl1 e' hm' => ?_, fun h r hr => ?_, fun h hr => ?_, fun h h' pl1 pl2 hne ea eb => ?_, fun h pl1 e' => ?_, fun h pl1 e' g hg => ?_, fun h pl1 pl0 e' e0 => ?_⟩, ?_⟩
    · split at e'
      · injection e' with e'; subst e'
        exact hI.out b hb 0 pl hp ((hmem b).1 hm')
      · cases e'
    · simp only [findH] at hr
      split at hr
      · rename_i eh
        subst eh
        injection hr with hr
        subst hr
        refine ⟨pl', by simp, d'.map (fun i => [enc i]), d'.map (fun i => Fs.getD i []), ?_, q2, rfl, ?_⟩
        · have e4 : (d'.map fun i => [enc i]).flatten = d'.map enc := flat_enc enc d'
          rw [e4, List.length_map, sortR_len]; exact howns
        · rw [← hl', List.map_map]
          refine owRs_map (fun i => eIntS (l.getD i [])) (fun i => [enc i]) (fun i => Fs.getD i []) fun i hi => ⟨rfl, ?_⟩
          have hil : i < l.length := by simpa using hperm.mem_iff.1 hi
          obtain ⟨a, cap, F, g1, g2, g3, g4, g5, g6⟩ := hrow i hil
          have ee : enc i = .slice a (l.getD i []).length cap := by
            show css.flatten.getD i _ = _
            rw [List.getD_eq_getElem?_getD, flat_one css i _ hone g1]; rfl
          have eF : Fs.getD i [] = F := by simp [List.getD_eq_getElem?_getD, g2]
          rw [ee, eF]
          exact OwCs.kept _ _ _ (hkeep F (List.mem_of_getElem? g2)) g6
      · cases hr
    · simp only [findH] at hr
      split at hr
      · cases hr
      · rename_i eh; exact if_neg eh
    · split at ea
      · split at eb
        · rename_i x y; exact absurd (x.trans y.symm) hne
        · cases eb
      · cases ea
    · split at e'
      · injection e' with e'; subst e'; exact hnd'
      · cases e'
    · split at e'
      · injection e' with e'; subst e'
        have := (hmem g).1 hg
        exact ⟨.inr (hfoot g this), Nat.lt_of_lt_of_le (hge g this) hon.size⟩
      · cases e'
    · split at e'
      · rename_i eh
        subst eh
        rw [hp] at e0
        injection e0 with e0; injection e' with e'
        subst e0; subst e'
        exact ⟨rfl, rfl⟩
      · cases e'
    · unfold MatchV
      exact ⟨#[], rfl, by unfold MatchL; rfl⟩
  rw [List.length_map] at q1
  rcases q1.2 with ⟨hvn, hz⟩ | ⟨g, cap, cur, hvv, hg0, hb, hn, hcap, hsz, htk⟩
  · have hcon := AnyF.slices_SortFunc_none { Try.sortRows with } none 0 (.func (.func 127) #[] #[]) w
    change Calls Try.prog 128 _ _ _ at hcon
    rw [hvn]
    refine hcon.mono ?_
    rintro en w' ⟨rfl, rfl⟩
    have hz' : l = [] := List.eq_nil_of_length_eq_zero hz
    subst hz'
    exact hend [] w' (by simp) (by simp) (Only.refl _ _) (fun F hF g hg => rfl) (by rw [hvn]; exact ⟨by simp, .inl ⟨rfl, rfl⟩⟩)
  · have hgF : g ∉ Fs.flatten := fun hm => by
      rw [hFe, hvv] at hnd
      simp only [Value.ownBlock, Option.toList_some, List.cons_append, List.nil_append, List.nodup_cons] at hnd
      exact hnd.1 hm
    have hgs : g < w.heap.size := (Array.getElem?_eq_some_iff.1 hb).1
    have hin : ∀ b ∈ Fs.flatten, b < w.heap.size ∧ b ≠ g := fun b hb' => ⟨hge b (by rw [hFe]; exact List.mem_append_right _ hb'), fun e => hgF (e ▸ hb')⟩
    have hO : Go.Sort.SWO (ltOf fun x y : Nat => cmpR (l.getD x []) (l.getD y [])) :=
      { irrefl := fun x => by show decide (cmpR (l.getD x []) (l.getD x []) < 0) = false; rw [cmpR_self]; rfl
        trans := fun x y z h1 h2 => by unfold ltOf at *; rw [decide_eq_true_eq] at *; exact cmpR_trans h1 h2
        ntrans := fun x y z h1 h2 => by unfold ltOf at *; rw [decide_eq_false_iff_not] at *; exact cmpR_ntrans h1 h2 }
    have hcmp : CmpLays1 Try.prog 127 #[] enc (fun x y : Nat => cmpR (l.getD x []) (l.getD y [])) g 0 (List.range l.length).toArray.size w := fun m os dk hs x y => by
      obtain ⟨a1, c1, ex, r1, k1, b1⟩ := henc x
      obtain ⟨a2, c2, ey, r2, k2, b2⟩ := henc y
      rw [ex, ey]
      refine (rows_raw a1 a2 c1 c2 _ _ _ b1 b2 (rowV_kept r1 fun q hq => cells_kept dk (hin _ (k1 q hq)).1 (hin _ (k1 q hq)).2) (rowV_kept r2 fun q hq => cells_kept dk (hin _ (k2 q hq)).1 (hin _ (k2 q hq)).2)).mono ?_
      rintro en w' ⟨rfl, rfl⟩
      exact ⟨rfl, 0, #[], by simp [Go.Sort.grow_empty, World.drewN]⟩
    have htk' : cur.toList.take l.length = css.flatten := by rw [Nat.mul_one] at htk; exact htk
    have hH : Go.Sort.Holds enc w g 0 (List.range l.length).toArray := fun j hj => by
      have hj' : j < l.length := by simpa using hj
      refine ⟨?_, by simp [World.frozen?, hb]⟩
      have h1 : (cur.toList.take l.length)[j]? = css.flatten[j]? := by rw [htk']
      rw [List.getElem?_take_of_lt hj'] at h1
      simp only [World.cell?, hb, Nat.zero_add, Option.isSome_none, Bool.false_eq_true, if_false]
      rw [← Array.getElem?_toList, h1]
      obtain ⟨a, cap', F, g1, _⟩ := hrow j hj'
      have h2 := flat_one css j _ hone g1
      have ee : enc j = .slice a (l.getD j []).length cap' := by
        show css.flatten.getD j _ = _
        rw [List.getD_eq_getElem?_getD, h2]; rfl
      have ej : (List.range l.length).toArray[j]! = j := by simp [hj']
      rw [h2, ej, ee]
    have hone1 : OneCell enc := fun x => by
      obtain ⟨a, c, ex, _⟩ := henc x
      rw [ex]; rfl
    have eg : ∀ args w, (callFunc 127 args).run Try.prog w = .ok (.enter 127 args) w := enters_of Try.func127 (by kernel_rfl) rfl
    have hcon := Any.slices_SortFunc Try.sortRows enc hone1 (fun x y : Nat => cmpR (l.getD x []) (l.getD y [])) hO 127 #[] g 0 cap (List.range l.length).toArray w eg hcmp hH hgs (by simpa using hl)
    change Calls Try.prog 128 _ _ _ at hcon
    have hsz1 : ((List.range l.length).toArray.size : Nat) = l.length := by simp
    rw [hsz1] at hcon
    rw [hvv]
    refine hcon.mono ?_
    rintro en w' ⟨rfl, d', n, os, hpm, hsd, rfl⟩
    obtain ⟨p1, _, p3⟩ := hpm
    have hds : d'.size = l.length := by simpa using p1
    have hperm : d'.toList.Perm (List.range l.length) := by
      have e1 : (d'.extract 0 l.length).toList = d'.toList := by rw [← hds]; simp
      have e2 : ((List.range l.length).toArray.extract 0 l.length).toList = List.range l.length := by simp
      rw [e1, e2] at p3; exact p3
    have hkb : ∀ k, k < w.heap.size → k ≠ g → (sortWorld enc w g 0 n d' os).heap[k]? = w.heap[k]? := fun k hk hne => cells_kept d' hk hne
    have := hend d'.toList (sortWorld enc w g 0 n d' os) hperm (by
        rw [List.pairwise_map, List.pairwise_iff_getElem]
        intro i j hi hj hij
        have := hsd i j (Nat.zero_le _) hij (by simpa [hds] using hj)
        unfold ltOf at this
        rw [decide_eq_false_iff_not] at this
        rw [leR_iff]
        have ei : d'[i]! = d'.toList[i] := by simp at hi; simp [hi]
        have ej : d'[j]! = d'.toList[j] := by simp at hj; simp [hj]
        rw [← ei, ← ej]; exact this)
      ⟨rfl, rfl, rfl, by simp [sortWorld], fun k hk hne => hkb k hk (fun e => hne (by rw [hFe, hvv, e]; simp [Value.ownBlock]))⟩
      (fun F hF b hb' => hkb b (hin b (List.mem_flatten.2 ⟨F, hF, hb'⟩)).1 (hin b (List.mem_flatten.2 ⟨F, hF, hb'⟩)).2)
      (by
        rw [hvv]
        refine ⟨by simp [hds], .inr ⟨g, cap, _, rfl, hg0, cells_put d' hb, hn, hcap, by simp [Go.Sort.putCells, hsz], ?_⟩⟩
        rw [Nat.mul_one]
        have := put_take enc cur d'.toList (by rw [Array.length_toList, hds]; omega)
        rw [Array.length_toList, hds] at this
        simpa using this)
    exact this
end Go.Proofs.Ytjlagjhmlmfjeaa
