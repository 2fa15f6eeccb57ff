/-
  slices.SortFunc at rows: a contract with memory handed in and back.
-/
import Derived.Test.YtjlagjhmlmfjeaaGreatSg
import Derived.Shelf.SlSortCmp.Whole1
import Derived.Shelf.SlSortCmp.NoneTotal
import Derived.Ground.SlsfProg
namespace Go.Proofs
open Go.Shelf
namespace YtjlagjhmlmfjeaaGreat
def Tryz.sortRows_ren : Go.Shelf.Ren := ⟨fun | 6 => 181 | 15 => 188 | 14 => 198 | 28 => 209 | 29 => 210 | 20 => 218 | 21 => 219 | 22 => 220 | 23 => 221 | 24 => 222 | 25 => 223 | 26 => 224 | 27 => 225 | 46 => 236 | 47 => 228 | 48 => 229 | 49 => 237 | 50 => 238 | 57 => 240 | n => n, fun | 22 => 105 | 24 => 25 | 25 => 163 | 3 => 3 | 39 => 199 | 0 => 0 | 53 => 213 | 55 => 215 | 4 => 4 | 46 => 205 | 45 => 204 | 50 => 210 | 5 => 5 | 9 => 9 | 66 => 224 | 70 => 228 | 76 => 234 | 77 => 235 | n => n, fun | n => n⟩
theorem Tryz.sortRows : Go.Proofs.SlLaysF.n6 Tryz.prog Tryz.sortRows_ren := {
  mixed := by kernel_rfl
  f6 := ⟨Tryz.f181.name, by decide, Tryz.func181.trans (congrArg some (by kernel_rfl))⟩
  f14 := ⟨Tryz.f198.name, by decide, Tryz.func198.trans (congrArg some (by kernel_rfl))⟩
  f15 := Tryz.func188.trans (congrArg some (by kernel_rfl))
  f20 := ⟨Tryz.f218.name, by decide, Tryz.func218.trans (congrArg some (by kernel_rfl))⟩
  f21 := ⟨Tryz.f219.name, by decide, Tryz.func219.trans (congrArg some (by kernel_rfl))⟩
  f22 := ⟨Tryz.f220.name, by decide, Tryz.func220.trans (congrArg some (by kernel_rfl))⟩
  f23 := ⟨Tryz.f221.name, by decide, Tryz.func221.trans (congrArg some (by kernel_rfl))⟩
  f24 := ⟨Tryz.f222.name, by decide, Tryz.func222.trans (congrArg some (by kernel_rfl))⟩
  f25 := ⟨Tryz.f223.name, by decide, Tryz.func223.trans (congrArg some (by kernel_rfl))⟩
  f26 := ⟨Tryz.f224.name, by decide, Tryz.func224.trans (congrArg some (by kernel_rfl))⟩
  f27 := ⟨Tryz.f225.name, by decide, Tryz.func225.trans (congrArg some (by kernel_rfl))⟩
  f28 := Tryz.func209.trans (congrArg some (by kernel_rfl))
  f29 := Tryz.func210.trans (congrArg some (by kernel_rfl))
  f46 := ⟨Tryz.f236.name, by decide, Tryz.func236.trans (congrArg some (by kernel_rfl))⟩
  f47 := Tryz.func228.trans (congrArg some (by kernel_rfl))
  f48 := Tryz.func229.trans (congrArg some (by kernel_rfl))
  f49 := ⟨Tryz.f237.name, by decide, Tryz.func237.trans (congrArg some (by kernel_rfl))⟩
  f50 := ⟨Tryz.f238.name, by decide, Tryz.func238.trans (congrArg some (by kernel_rfl))⟩
  f57 := ⟨Tryz.f240.name, by decide, Tryz.func240.trans (congrArg some (by kernel_rfl))⟩
  t0 := Tryz.underlying0
  a0 := Tryz.isAgg0
  z0 := Tryz.sizeOf0
  v0 := Tryz.zeroValue0
  t3 := Tryz.underlying3
  a3 := Tryz.isAgg3
  z3 := Tryz.sizeOf3
  v3 := Tryz.zeroValue3
  t4 := Tryz.underlying4
  a4 := Tryz.isAgg4
  z4 := Tryz.sizeOf4
  v4 := Tryz.zeroValue4
  t5 := Tryz.underlying5
  a5 := Tryz.isAgg5
  z5 := Tryz.sizeOf5
  v5 := Tryz.zeroValue5
  t9 := Tryz.underlying9
  a9 := Tryz.isAgg9
  z9 := Tryz.sizeOf9
  v9 := Tryz.zeroValue9
  t22 := Tryz.underlying105
  a22 := Tryz.isAgg105
  z22 := Tryz.sizeOf105
  v22 := Tryz.zeroValue105
  a24 := Tryz.isAgg25
  z24 := Tryz.sizeOf25
  t25 := Tryz.underlying163
  a25 := Tryz.isAgg163
  z25 := Tryz.sizeOf163
  v25 := Tryz.zeroValue163
  t39 := Tryz.underlying199
  a39 := Tryz.isAgg199
  z39 := Tryz.sizeOf199
  v39 := Tryz.zeroValue199
  t45 := Tryz.underlying204
  a45 := Tryz.isAgg204
  z45 := Tryz.sizeOf204
  v45 := Tryz.zeroValue204
  t46 := Tryz.underlying205
  a46 := Tryz.isAgg205
  z46 := Tryz.sizeOf205
  v46 := Tryz.zeroValue205
  t50 := Tryz.underlying210
  a50 := Tryz.isAgg210
  z50 := Tryz.sizeOf210
  v50 := Tryz.zeroValue210
  t53 := Tryz.underlying213
  a53 := Tryz.isAgg213
  z53 := Tryz.sizeOf213
  v53 := Tryz.zeroValue213
  t55 := Tryz.underlying215
  a55 := Tryz.isAgg215
  z55 := Tryz.sizeOf215
  v55 := Tryz.zeroValue215
  t66 := Tryz.underlying224
  a66 := Tryz.isAgg224
  z66 := Tryz.sizeOf224
  v66 := Tryz.zeroValue224
  t70 := Tryz.underlying228
  a70 := Tryz.isAgg228
  z70 := Tryz.sizeOf228
  v70 := Tryz.zeroValue228
  t76 := Tryz.underlying234
  a76 := Tryz.isAgg234
  z76 := Tryz.sizeOf234
  v76 := Tryz.zeroValue234
  t77 := Tryz.underlying235
  a77 := Tryz.isAgg235
  z77 := Tryz.sizeOf235
  v77 := Tryz.zeroValue235 }
end YtjlagjhmlmfjeaaGreat
end Go.Proofs
namespace Go.Proofs.YtjlagjhmlmfjeaaGreat
open Go.ChangeShapes Go.WideShapes Go.ChangeAt Go.RowKit Go.Shelf Go.Lib
set_option linter.unusedVariables false
set_option linter.unusedSimpArgs false
set_option maxHeartbeats 2000000 in
theorem con_sort (l : List (List Int)) (hl : l.length < 4611686018427387904) : Con2 Tryz.prog 181 [.own 0, .fn 182 []] [(0, .arr 25 1 true (l.map eIntS))] (.tup []) [(0, .arr 25 1 true ((sortR l).map eIntS))] := by
  refine ⟨by kernel_rfl, by simp, fun A φ w vs hI hm => ?_⟩
  obtain ⟨pl, hp, css, Fs, q1, q2, q3, q4⟩ := hI.dom 0 _ rfl
  unfold MatchL at hm
  obtain ⟨v, us, e1, m1, hm⟩ := hm
  unfold MatchL at hm
  obtain ⟨v2, us2, e2, m2, hm⟩ := hm
  unfold MatchL at hm
  unfold MatchV at m1 m2
  obtain ⟨vs2, ev2, m3⟩ := m2
  unfold MatchL at m3
  have hv := m1 pl hp
  have e3 : vs2 = #[] := by apply Array.ext'; simpa using m3
  have ev : vs = #[pl.val, .func (.func 182) #[] #[]] := by apply Array.ext'; rw [e1, e2, hm, hv, ev2, e3]
  rw [ev]
  have hnd := hI.nodup 0 pl hp
  have hge := hI.ge 0 pl hp
  have hFe : pl.F = pl.val.ownBlock.toList ++ Fs.flatten := by unfold Pl.F; rw [q2, q3]
  have hfoot : ∀ b ∈ pl.F, AllF φ b := fun b hb => ⟨0, pl, trivial, hp, hb⟩
  have h0 : ∀ h pl', φ h = some pl' → h = 0 := fun h pl' e' => by
    cases hr : findH [(0, Rs.arr 25 1 true (l.map eIntS))] h with
    | none => rw [hI.non h hr] at e'; cases e'
    | some r =>
      simp only [findH] at hr
      split at hr
      · assumption
      · cases hr
  obtain ⟨lc, lF⟩ := owRs_lens q4
  rw [List.length_map] at lc lF
  -- the rows, one by one
  have hrow : ∀ i, i < l.length → ∃ a cap F, css[i]? = some [.slice a (l.getD i []).length cap] ∧ Fs[i]? = some F ∧ RowV w a (l.getD i []) ∧ (∀ x ∈ a, x.block ∈ F) ∧ (l.getD i []).length ≤ 9223372036854775807 ∧ OwCs w (eIntS (l.getD i [])) [.slice a (l.getD i []).length cap] F := fun i hi => by
    obtain ⟨r, hr⟩ := at_some hi
    have hg : l.getD i [] = r := by simp [List.getD_eq_getElem?_getD, hr]
    obtain ⟨c, F, g1, g2, _, g4⟩ := owRs_get q4 (show (l.map eIntS)[i]? = some (eIntS r) by rw [List.getElem?_map, hr]; rfl)
    obtain ⟨a, cap, rfl, k1, k2, k3⟩ := owRow g4
    rw [hg]
    exact ⟨a, cap, F, g1, g2, k1, k2, k3, g4⟩
  have hone : ∀ d ∈ css, d.length = 1 := fun d hd => by
    obtain ⟨i, hi⟩ := List.getElem?_of_mem hd
    obtain ⟨a, cap, F, g1, _⟩ := hrow i (by have := (List.getElem?_eq_some_iff.1 hi).1; omega)
    rw [hi] at g1
    injection g1 with g1
    rw [g1]; rfl
  let enc : Nat → Value := fun i => css.flatten.getD i (.slice none 0 0)
  have henc : ∀ i, ∃ a cap, enc i = .slice a (l.getD i []).length cap ∧ RowV w a (l.getD i []) ∧ (∀ x ∈ a, x.block ∈ Fs.flatten) ∧ (l.getD i []).length ≤ 9223372036854775807 := fun i => by
    by_cases hi : i < l.length
    · obtain ⟨a, cap, F, g1, g2, g3, g4, g5, _⟩ := hrow i hi
      refine ⟨a, cap, ?_, g3, fun x hx => List.mem_flatten.2 ⟨F, List.mem_of_getElem? g2, g4 x hx⟩, g5⟩
      show css.flatten.getD i _ = _
      rw [List.getD_eq_getElem?_getD, flat_one css i _ hone g1]; rfl
    · have hg : l.getD i [] = [] := by rw [List.getD_eq_getElem?_getD, List.getElem?_eq_none (by omega)]; rfl
      rw [hg]
      refine ⟨none, 0, ?_, fun j x hx => by simp at hx, by simp, by simp⟩
      show css.flatten.getD i _ = _
      rw [List.getD_eq_getElem?_getD, List.getElem?_eq_none (by rw [flat_len css hone]; omega)]; rfl
  have hend : ∀ (d' : List Nat) (w' : World), d'.Perm (List.range l.length) → (d'.map fun i => l.getD i []).Pairwise (fun a b => leR a b = true) → Only pl.F w w' → (∀ F ∈ Fs, KeptOn F w w') → w'.ownsRow 0 25 1 pl.val l.length (d'.map enc) →
      ∃ v K φ', Ending.returned (.tuple #[]) = .returned v ∧ Out2 A φ w [(0, .arr 25 1 true ((sortR l).map eIntS))] K φ' w' ∧ MatchV K φ' w' (.tup []) v := by
    intro d' w' hperm hsort hon hkeep howns
    have hrange : (List.range l.length).map (fun i => l.getD i []) = l := by
      apply List.ext_getElem?
      intro i
      by_cases hi : i < l.length
      · simp [hi]
      · simp [hi]
    have hl' : d'.map (fun i => l.getD i []) = sortR l := sortR_eq (by have := hperm.map (fun i => l.getD i []); rwa [hrange] at this) hsort
    have hFr : (List.range l.length).map (fun i => Fs.getD i []) = Fs := by
      apply List.ext_getElem?
      intro i
      by_cases hi : i < l.length
      · simp [hi, show i < Fs.length by omega]
      · simp [hi, show ¬ i < Fs.length by omega]
    have hFp : (d'.map fun i => Fs.getD i []).flatten.Perm Fs.flatten := by
      have := (hperm.map (fun i => Fs.getD i [])).flatten
      rwa [hFr] at this
    let pl' : Pl := ⟨pl.val, pl.top, (d'.map fun i => Fs.getD i []).flatten⟩
    have hmem : ∀ g, g ∈ pl'.F ↔ g ∈ pl.F := fun g => by
      simp only [pl', Pl.F, List.mem_append, q3, hFp.mem_iff]
    have hnd' : pl'.F.Nodup := by
      have : pl'.F.Perm pl.F := by simp only [pl', Pl.F, q3]; exact (List.Perm.refl _).append hFp
      exact this.nodup_iff.2 hnd
    refine ⟨_, A, fun h => if h = 0 then some pl' else none, rfl, ⟨⟨hon.os, hon.tape, hon.output, hon.size, fun b hb hn => hon.block b hb (fun hm => hn (hfoot b hm))⟩, fun _ h => h, fun b hb => ⟨Nat.lt_of_lt_of_le (hI.lt b hb) hon.size, .inl hb⟩, fun b hb h pl1 e' hm' => ?_, fun h r hr => ?_, fun h hr => ?_, fun h h' pl1 pl2 hne ea eb => ?_, fun h pl1 e' => ?_, fun h pl1 e' g hg => ?_, fun h pl1 pl0 e' e0 => ?_⟩, ?_⟩
    · split at e'
      · injection e' with e'; subst e'
        exact hI.out b hb 0 pl hp ((hmem b).1 hm')
      · cases e'
    · simp only [findH] at hr
      split at hr
      · rename_i eh
        subst eh
        injection hr with hr
        subst hr
        refine ⟨pl', by simp, d'.map (fun i => [enc i]), d'.map (fun i => Fs.getD i []), ?_, q2, rfl, ?_⟩
        · have e4 : (d'.map fun i => [enc i]).flatten = d'.map enc := flat_enc enc d'
          rw [e4, List.length_map, sortR_len]; exact howns
        · rw [← hl', List.map_map]
          refine owRs_map (fun i => eIntS (l.getD i [])) (fun i => [enc i]) (fun i => Fs.getD i []) fun i hi => ⟨rfl, ?_⟩
          have hil : i < l.length := by simpa using hperm.mem_iff.1 hi
          obtain ⟨a, cap, F, g1, g2, g3, g4, g5, g6⟩ := hrow i hil
          have ee : enc i = .slice a (l.getD i []).length cap := by
            show css.flatten.getD i _ = _
            rw [List.getD_eq_getElem?_getD, flat_one css i _ hone g1]; rfl
          have eF : Fs.getD i [] = F := by simp [List.getD_eq_getElem?_getD, g2]
          rw [ee, eF]
          exact OwCs.kept _ _ _ (hkeep F (List.mem_of_getElem? g2)) g6
      · cases hr
    · simp only [findH] at hr
      split at hr
      · cases hr
      · rename_i eh; exact if_neg eh
    · split at ea
      · split at eb
        · rename_i x y; exact absurd (x.trans y.symm) hne
        · cases eb
      · cases ea
    · split at e'
      · injection e' with e'; subst e'; exact hnd'
      · cases e'
    · split at e'
      · injection e' with e'; subst e'
        have := (hmem g).1 hg
        exact ⟨.inr (hfoot g this), Nat.lt_of_lt_of_le (hge g this) hon.size⟩
      · cases e'
    · split at e'
      · rename_i eh
        subst eh
        rw [hp] at e0
        injection e0 with e0; injection e' with e'
        subst e0; subst e'
        exact ⟨rfl, rfl⟩
      · cases e'
    · unfold MatchV
      exact ⟨#[], rfl, by unfold MatchL; rfl⟩
  rw [List.length_map] at q1
  rcases q1.2 with ⟨hvn, hz⟩ | ⟨g, cap, cur, hvv, hg0, hb, hn, hcap, hsz, htk⟩
  · have hcon := AnyF.slices_SortFunc_none { Tryz.sortRows with } none 0 (.func (.func 182) #[] #[]) w
    change Calls Tryz.prog 181 _ _ _ at hcon
    rw [hvn]
    refine hcon.mono ?_
    rintro en w' ⟨rfl, rfl⟩
    have hz' : l = [] := List.eq_nil_of_length_eq_zero hz
    subst hz'
    exact hend [] w' (by simp) (by simp) (Only.refl _ _) (fun F hF g hg => rfl) (by rw [hvn]; exact ⟨by simp, .inl ⟨rfl, rfl⟩⟩)
  · have hgF : g ∉ Fs.flatten := fun hm => by
      rw [hFe, hvv] at hnd
      simp only [Value.ownBlock, Option.toList_some, List.cons_append, List.nil_append, List.nodup_cons] at hnd
      exact hnd.1 hm
    have hgs : g < w.heap.size := (Array.getElem?_eq_some_iff.1 hb).1
    have hin : ∀ b ∈ Fs.flatten, b < w.heap.size ∧ b ≠ g := fun b hb' => ⟨hge b (by rw [hFe]; exact List.mem_append_right _ hb'), fun e => hgF (e ▸ hb')⟩
    have hO : Go.Sort.SWO (ltOf fun x y : Nat => cmpR (l.getD x []) (l.getD y [])) :=
      { irrefl := fun x => by show decide (cmpR (l.getD x []) (l.getD x []) < 0) = false; rw [cmpR_self]; rfl
        trans := fun x y z h1 h2 => by unfold ltOf at *; rw [decide_eq_true_eq] at *; exact cmpR_trans h1 h2
        ntrans := fun x y z h1 h2 => by unfold ltOf at *; rw [decide_eq_false_iff_not] at *; exact cmpR_ntrans h1 h2 }
    have hcmp : CmpLays1 Tryz.prog 182 #[] enc (fun x y : Nat => cmpR (l.getD x []) (l.getD y [])) g 0 (List.range l.length).toArray.size w := fun m os dk hs x y => by
      obtain ⟨a1, c1, ex, r1, k1, b1⟩ := henc x
      obtain ⟨a2, c2, ey, r2, k2, b2⟩ := henc y
      rw [ex, ey]
      refine (rows_raw a1 a2 c1 c2 _ _ _ b1 b2 (rowV_kept r1 fun q hq => cells_kept dk (hin _ (k1 q hq)).1 (hin _ (k1 q hq)).2) (rowV_kept r2 fun q hq => cells_kept dk (hin _ (k2 q hq)).1 (hin _ (k2 q hq)).2)).mono ?_
      rintro en w' ⟨rfl, rfl⟩
      exact ⟨rfl, 0, #[], by simp [Go.Sort.grow_empty, World.drewN]⟩
    have htk' : cur.toList.take l.length = css.flatten := by rw [Nat.mul_one] at htk; exact htk
    have hH : Go.Sort.Holds enc w g 0 (List.range l.length).toArray := fun j hj => by
      have hj' : j < l.length := by simpa using hj
      refine ⟨?_, by simp [World.frozen?, hb]⟩
      have h1 : (cur.toList.take l.length)[j]? = css.flatten[j]? := by rw [htk']
      rw [List.getElem?_take_of_lt hj'] at h1
      simp only [World.cell?, hb, Nat.zero_add, Option.isSome_none, Bool.false_eq_true, if_false]
      rw [← Array.getElem?_toList, h1]
      obtain ⟨a, cap', F, g1, _⟩ := hrow j hj'
      have h2 := flat_one css j _ hone g1
      have ee : enc j = .slice a (l.getD j []).length cap' := by
        show css.flatten.getD j _ = _
        rw [List.getD_eq_getElem?_getD, h2]; rfl
      have ej : (List.range l.length).toArray[j]! = j := by simp [hj']
      rw [h2, ej, ee]
    have hone1 : OneCell enc := fun x => by
      obtain ⟨a, c, ex, _⟩ := henc x
      rw [ex]; rfl
    have eg : ∀ args w, (callFunc 182 args).run Tryz.prog w = .ok (.enter 182 args) w := enters_of Tryz.func182 (by kernel_rfl) rfl
    have hcon := Any.slices_SortFunc Tryz.sortRows enc hone1 (fun x y : Nat => cmpR (l.getD x []) (l.getD y [])) hO 182 #[] g 0 cap (List.range l.length).toArray w eg hcmp hH hgs (by simpa using hl)
    change Calls Tryz.prog 181 _ _ _ at hcon
    have hsz1 : ((List.range l.length).toArray.size : Nat) = l.length := by simp
    rw [hsz1] at hcon
    rw [hvv]
    refine hcon.mono ?_
    rintro en w' ⟨rfl, d', n, os, hpm, hsd, rfl⟩
    obtain ⟨p1, _, p3⟩ := hpm
    have hds : d'.size = l.length := by simpa using p1
    have hperm : d'.toList.Perm (List.range l.length) := by
      have e1 : (d'.extract 0 l.length).toList = d'.toList := by rw [← hds]; simp
      have e2 : ((List.range l.length).toArray.extract 0 l.length).toList = List.range l.length := by simp
      rw [e1, e2] at p3; exact p3
    have hkb : ∀ k, k < w.heap.size → k ≠ g → (sortWorld enc w g 0 n d' os).heap[k]? = w.heap[k]? := fun k hk hne => cells_kept d' hk hne
    have := hend d'.toList (sortWorld enc w g 0 n d' os) hperm (by
        rw [List.pairwise_map, List.pairwise_iff_getElem]
        intro i j hi hj hij
        have := hsd i j (Nat.zero_le _) hij (by simpa [hds] using hj)
        unfold ltOf at this
        rw [decide_eq_false_iff_not] at this
        rw [leR_iff]
        have ei : d'[i]! = d'.toList[i] := by simp at hi; simp [hi]
        have ej : d'[j]! = d'.toList[j] := by simp at hj; simp [hj]
        rw [← ei, ← ej]; exact this)
      ⟨rfl, rfl, rfl, by simp [sortWorld], fun k hk hne => hkb k hk (fun e => hne (by rw [hFe, hvv, e]; simp [Value.ownBlock]))⟩
      (fun F hF b hb' => hkb b (hin b (List.mem_flatten.2 ⟨F, hF, hb'⟩)).1 (hin b (List.mem_flatten.2 ⟨F, hF, hb'⟩)).2)
      (by
        rw [hvv]
        refine ⟨by simp [hds], .inr ⟨g, cap, _, rfl, hg0, cells_put d' hb, hn, hcap, by simp [Go.Sort.putCells, hsz], ?_⟩⟩
        rw [Nat.mul_one]
        have := put_take enc cur d'.toList (by rw [Array.length_toList, hds]; omega)
        rw [Array.length_toList, hds] at this
        simpa using this)
    exact this
end Go.Proofs.YtjlagjhmlmfjeaaGreat
