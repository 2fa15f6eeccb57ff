/-
  Contracts and plain laws, joined: part 7.
-/
import Derived.Test.YtokkjaflmcjlhaaGreatQUpdateStore5
import Derived.Shelf.SlSortCmp.Whole1
import Derived.Shelf.SlSortCmp.NoneTotal
import Derived.Ground.SlsfProg
import Derived.Shelf.RegionOpenPlain
import Derived.Deep.Draws
import Derived.Lib.SlicesCompact
import Derived.Lib.SliceRun
import Derived.Sort.WalkB12
import Derived.Lib.Walk
import Derived.Shelf.SlicesE.Kit
import Derived.Deep.LoopGhost
import Derived.Shelf.SlSortCmp.Insertion
namespace Go.Proofs
open Go.Shelf
namespace YtokkjaflmcjlhaaGreat
def Tryz.sortRows_ren : Go.Shelf.Ren := ⟨fun | 6 => 268 | 15 => 278 | 14 => 284 | 28 => 296 | 29 => 297 | 20 => 300 | 21 => 301 | 22 => 302 | 23 => 303 | 24 => 304 | 25 => 305 | 26 => 306 | 27 => 307 | 46 => 315 | 47 => 310 | 48 => 311 | 49 => 316 | 50 => 317 | 57 => 319 | n => n, fun | 22 => 160 | 24 => 32 | 25 => 134 | 3 => 3 | 39 => 247 | 0 => 0 | 53 => 264 | 55 => 266 | 4 => 4 | 46 => 256 | 45 => 255 | 50 => 261 | 5 => 5 | 9 => 9 | 66 => 274 | 70 => 278 | 76 => 283 | 77 => 284 | n => n, fun | n => n⟩
theorem Tryz.sortRows : Go.Proofs.SlLaysF.n6 Tryz.prog Tryz.sortRows_ren := {
  mixed := by kernel_rfl
  f6 := ⟨Tryz.f268.name, by decide, Tryz.func268.trans (congrArg some (by kernel_rfl))⟩
  f14 := ⟨Tryz.f284.name, by decide, Tryz.func284.trans (congrArg some (by kernel_rfl))⟩
  f15 := Tryz.func278.trans (congrArg some (by kernel_rfl))
  f20 := ⟨Tryz.f300.name, by decide, Tryz.func300.trans (congrArg some (by kernel_rfl))⟩
  f21 := ⟨Tryz.f301.name, by decide, Tryz.func301.trans (congrArg some (by kernel_rfl))⟩
  f22 := ⟨Tryz.f302.name, by decide, Tryz.func302.trans (congrArg some (by kernel_rfl))⟩
  f23 := ⟨Tryz.f303.name, by decide, Tryz.func303.trans (congrArg some (by kernel_rfl))⟩
  f24 := ⟨Tryz.f304.name, by decide, Tryz.func304.trans (congrArg some (by kernel_rfl))⟩
  f25 := ⟨Tryz.f305.name, by decide, Tryz.func305.trans (congrArg some (by kernel_rfl))⟩
  f26 := ⟨Tryz.f306.name, by decide, Tryz.func306.trans (congrArg some (by kernel_rfl))⟩
  f27 := ⟨Tryz.f307.name, by decide, Tryz.func307.trans (congrArg some (by kernel_rfl))⟩
  f28 := Tryz.func296.trans (congrArg some (by kernel_rfl))
  f29 := Tryz.func297.trans (congrArg some (by kernel_rfl))
  f46 := ⟨Tryz.f315.name, by decide, Tryz.func315.trans (congrArg some (by kernel_rfl))⟩
  f47 := Tryz.func310.trans (congrArg some (by kernel_rfl))
  f48 := Tryz.func311.trans (congrArg some (by kernel_rfl))
  f49 := ⟨Tryz.f316.name, by decide, Tryz.func316.trans (congrArg some (by kernel_rfl))⟩
  f50 := ⟨Tryz.f317.name, by decide, Tryz.func317.trans (congrArg some (by kernel_rfl))⟩
  f57 := ⟨Tryz.f319.name, by decide, Tryz.func319.trans (congrArg some (by kernel_rfl))⟩
  t0 := Tryz.underlying0
  a0 := Tryz.isAgg0
  z0 := Tryz.sizeOf0
  v0 := Tryz.zeroValue0
  t3 := Tryz.underlying3
  a3 := Tryz.isAgg3
  z3 := Tryz.sizeOf3
  v3 := Tryz.zeroValue3
  t4 := Tryz.underlying4
  a4 := Tryz.isAgg4
  z4 := Tryz.sizeOf4
  v4 := Tryz.zeroValue4
  t5 := Tryz.underlying5
  a5 := Tryz.isAgg5
  z5 := Tryz.sizeOf5
  v5 := Tryz.zeroValue5
  t9 := Tryz.underlying9
  a9 := Tryz.isAgg9
  z9 := Tryz.sizeOf9
  v9 := Tryz.zeroValue9
  t22 := Tryz.underlying160
  a22 := Tryz.isAgg160
  z22 := Tryz.sizeOf160
  v22 := Tryz.zeroValue160
  a24 := Tryz.isAgg32
  z24 := Tryz.sizeOf32
  t25 := Tryz.underlying134
  a25 := Tryz.isAgg134
  z25 := Tryz.sizeOf134
  v25 := Tryz.zeroValue134
  t39 := Tryz.underlying247
  a39 := Tryz.isAgg247
  z39 := Tryz.sizeOf247
  v39 := Tryz.zeroValue247
  t45 := Tryz.underlying255
  a45 := Tryz.isAgg255
  z45 := Tryz.sizeOf255
  v45 := Tryz.zeroValue255
  t46 := Tryz.underlying256
  a46 := Tryz.isAgg256
  z46 := Tryz.sizeOf256
  v46 := Tryz.zeroValue256
  t50 := Tryz.underlying261
  a50 := Tryz.isAgg261
  z50 := Tryz.sizeOf261
  v50 := Tryz.zeroValue261
  t53 := Tryz.underlying264
  a53 := Tryz.isAgg264
  z53 := Tryz.sizeOf264
  v53 := Tryz.zeroValue264
  t55 := Tryz.underlying266
  a55 := Tryz.isAgg266
  z55 := Tryz.sizeOf266
  v55 := Tryz.zeroValue266
  t66 := Tryz.underlying274
  a66 := Tryz.isAgg274
  z66 := Tryz.sizeOf274
  v66 := Tryz.zeroValue274
  t70 := Tryz.underlying278
  a70 := Tryz.isAgg278
  z70 := Tryz.sizeOf278
  v70 := Tryz.zeroValue278
  t76 := Tryz.underlying283
  a76 := Tryz.isAgg283
  z76 := Tryz.sizeOf283
  v76 := Tryz.zeroValue283
  t77 := Tryz.underlying284
  a77 := Tryz.isAgg284
  z77 := Tryz.sizeOf284
  v77 := Tryz.zeroValue284 }
end YtokkjaflmcjlhaaGreat
end Go.Proofs
namespace Go.Proofs.YtokkjaflmcjlhaaGreat
open Go.ChangeShapes Go.WideShapes Go.ChangeAt Go.RowKit Go.Shelf Go.Lib
set_option linter.unusedVariables false
set_option linter.unusedSimpArgs false
set_option maxHeartbeats 2000000 in
theorem con_sort (l : List (List Int)) (hl : l.length < 4611686018427387904) : Con2 Tryz.prog 268 [.own 0, .fn 269 []] [(0, .arr 32 1 true (l.map eIntS))] (.tup []) [(0, .arr 32 1 true ((sortR l).map eIntS))] := by
  refine ⟨by kernel_rfl, by simp, fun A φ w vs hI hm => ?_⟩
  obtain ⟨pl, hp, css, Fs, q1, q2, q3, q4⟩ := hI.dom 0 _ rfl
  unfold MatchL at hm
  obtain ⟨v, us, e1, m1, hm⟩ := hm
  unfold MatchL at hm
  obtain ⟨v2, us2, e2, m2, hm⟩ := hm
  unfold MatchL at hm
  unfold MatchV at m1 m2
  obtain ⟨vs2, ev2, m3⟩ := m2
  unfold MatchL at m3
  have hv := m1 pl hp
  have e3 : vs2 = #[] := by apply Array.ext'; simpa using m3
  have ev : vs = #[pl.val, .func (.func 269) #[] #[]] := by apply Array.ext'; rw [e1, e2, hm, hv, ev2, e3]
  rw [ev]
  have hnd := hI.nodup 0 pl hp
  have hge := hI.ge 0 pl hp
  have hFe : pl.F = pl.val.ownBlock.toList ++ Fs.flatten := by unfold Pl.F; rw [q2, q3]
  have hfoot : ∀ b ∈ pl.F, AllF φ b := fun b hb => ⟨0, pl, trivial, hp, hb⟩
  have h0 : ∀ h pl', φ h = some pl' → h = 0 := fun h pl' e' => by
    cases hr : findH [(0, Rs.arr 32 1 true (l.map eIntS))] h with
    | none => rw [hI.non h hr] at e'; cases e'
    | some r =>
      simp only [findH] at hr
      split at hr
      · assumption
      · cases hr
  obtain ⟨lc, lF⟩ := owRs_lens q4
  rw [List.length_map] at lc lF
  -- the rows, one by one
  have hrow : ∀ i, i < l.length → ∃ a cap F, css[i]? = some [.slice a (l.getD i []).length cap] ∧ Fs[i]? = some F ∧ RowV w a (l.getD i []) ∧ (∀ x ∈ a, x.block ∈ F) ∧ (l.getD i []).length ≤ 9223372036854775807 ∧ OwCs w (eIntS (l.getD i [])) [.slice a (l.getD i []).length cap] F := fun i hi => by
    obtain ⟨r, hr⟩ := at_some hi
    have hg : l.getD i [] = r := by simp [List.getD_eq_getElem?_getD, hr]
    obtain ⟨c, F, g1, g2, _, g4⟩ := owRs_get q4 (show (l.map eIntS)[i]? = some (eIntS r) by rw [List.getElem?_map, hr]; rfl)
    obtain ⟨a, cap, rfl, k1, k2, k3⟩ := owRow g4
    rw [hg]
    exact ⟨a, cap, F, g1, g2, k1, k2, k3, g4⟩
  have hone : ∀ d ∈ css, d.length = 1 := fun d hd => by
    obtain ⟨i, hi⟩ := List.getElem?_of_mem hd
    obtain ⟨a, cap, F, g1, _⟩ := hrow i (by have := (List.getElem?_eq_some_iff.1 hi).1; omega)
    rw [hi] at g1
    injection g1 with g1
    rw [g1]; rfl
  let enc : Nat → Value := fun i => css.flatten.getD i (.slice none 0 0)
  have henc : ∀ i, ∃ a cap, enc i = .slice a (l.getD i []).length cap ∧ RowV w a (l.getD i []) ∧ (∀ x ∈ a, x.block ∈ Fs.flatten) ∧ (l.getD i []).length ≤ 9223372036854775807 := fun i => by
    by_cases hi : i < l.length
    · obtain ⟨a, cap, F, g1, g2, g3, g4, g5, _⟩ := hrow i hi
      refine ⟨a, cap, ?_, g3, fun x hx => List.mem_flatten.2 ⟨F, List.mem_of_getElem? g2, g4 x hx⟩, g5⟩
      show css.flatten.getD i _ = _
      rw [List.getD_eq_getElem?_getD, flat_one css i _ hone g1]; rfl
    · have hg : l.getD i [] = [] := by rw [List.getD_eq_getElem?_getD, List.getElem?_eq_none (by omega)]; rfl
      rw [hg]
      refine ⟨none, 0, ?_, fun j x hx => by simp at hx, by simp, by simp⟩
      show css.flatten.getD i _ = _
      rw [List.getD_eq_getElem?_getD, List.getElem?_eq_none (by rw [flat_len css hone]; omega)]; rfl
  have hend : ∀ (d' : List Nat) (w' : World), d'.Perm (List.range l.length) → (d'.map fun i => l.getD i []).Pairwise (fun a b => leR a b = true) → Only pl.F w w' → (∀ F ∈ Fs, KeptOn F w w') → w'.ownsRow 0 32 1 pl.val l.length (d'.map enc) →
      ∃ v K φ', Ending.returned (.tuple #[]) = .returned v ∧ Out2 A φ w [(0, .arr 32 1 true ((sortR l).map eIntS))] K φ' w' ∧ MatchV K φ' w' (.tup []) v := by
    intro d' w' hperm hsort hon hkeep howns
    have hrange : (List.range l.length).map (fun i => l.getD i []) = l := by
      apply List.ext_getElem?
      intro i
      by_cases hi : i < l.length
      · simp [hi]
      · simp [hi]
    have hl' : d'.map (fun i => l.getD i []) = sortR l := sortR_eq (by have := hperm.map (fun i => l.getD i []); rwa [hrange] at this) hsort
    have hFr : (List.range l.length).map (fun i => Fs.getD i []) = Fs := by
      apply List.ext_getElem?
      intro i
      by_cases hi : i < l.length
      · simp [hi, show i < Fs.length by omega]
      · simp [hi, show ¬ i < Fs.length by omega]
    have hFp : (d'.map fun i => Fs.getD i []).flatten.Perm Fs.flatten := by
      have := (hperm.map (fun i => Fs.getD i [])).flatten
      rwa [hFr] at this
    let pl' : Pl := ⟨pl.val, pl.top, (d'.map fun i => Fs.getD i []).flatten⟩
    have hmem : ∀ g, g ∈ pl'.F ↔ g ∈ pl.F := fun g => by
      simp only [pl', Pl.F, List.mem_append, q3, hFp.mem_iff]
    have hnd' : pl'.F.Nodup := by
      have : pl'.F.Perm pl.F := by simp only [pl', Pl.F, q3]; exact (List.Perm.refl _).append hFp
      exact this.nodup_iff.2 hnd
    refine ⟨_, A, fun h => if h = 0 then some pl' else none, rfl, ⟨⟨hon.os, hon.tape, hon.output, hon.size, fun b hb hn => hon.block b hb (fun hm => hn (hfoot b hm))⟩, fun _ h => h, fun b hb => ⟨Nat.lt_of_lt_of_le (hI.lt b hb) hon.size, .inl hb⟩, fun b hb h pl1 e' hm' => ?_, fun h r hr => ?_, fun h hr => ?_, fun h h' pl1 pl2 hne ea eb => ?_, fun h pl1 e' => ?_, fun h pl1 e' g hg => ?_, fun h pl1 pl0 e' e0 => ?_⟩, ?_⟩
    · split at e'
      · injection e' with e'; subst e'
        exact hI.out b hb 0 pl hp ((hmem b).1 hm')
      · cases e'
    · simp only [findH] at hr
      split at hr
      · rename_i eh
        subst eh
        injection hr with hr
        subst hr
        refine ⟨pl', by simp, d'.map (fun i => [enc i]), d'.map (fun i => Fs.getD i []), ?_, q2, rfl, ?_⟩
        · have e4 : (d'.map fun i => [enc i]).flatten = d'.map enc := flat_enc enc d'
          rw [e4, List.length_map, sortR_len]; exact howns
        · rw [← hl', List.map_map]
          refine owRs_map (fun i => eIntS (l.getD i [])) (fun i => [enc i]) (fun i => Fs.getD i []) fun i hi => ⟨rfl, ?_⟩
          have hil : i < l.length := by simpa using hperm.mem_iff.1 hi
          obtain ⟨a, cap, F, g1, g2, g3, g4, g5, g6⟩ := hrow i hil
          have ee : enc i = .slice a (l.getD i []).length cap := by
            show css.flatten.getD i _ = _
            rw [List.getD_eq_getElem?_getD, flat_one css i _ hone g1]; rfl
          have eF : Fs.getD i [] = F := by simp [List.getD_eq_getElem?_getD, g2]
          rw [ee, eF]
          exact OwCs.kept _ _ _ (hkeep F (List.mem_of_getElem? g2)) g6
      · cases hr
    · simp only [findH] at hr
      split at hr
      · cases hr
      · rename_i eh; exact if_neg eh
    · split at ea
      · split at eb
        · rename_i x y; exact absurd (x.trans y.symm) hne
        · cases eb
      · cases ea
    · split at e'
      · injection e' with e'; subst e'; exact hnd'
      · cases e'
    · split at e'
      · injection e' with e'; subst e'
        have := (hmem g).1 hg
        exact ⟨.inr (hfoot g this), Nat.lt_of_lt_of_le (hge g this) hon.size⟩
      · cases e'
    · split at e'
      · rename_i eh
        subst eh
        rw [hp] at e0
        injection e0 with e0; injection e' with e'
        subst e0; subst e'
        exact ⟨rfl, rfl⟩
      · cases e'
    · unfold MatchV
      exact ⟨#[], rfl, by unfold MatchL; rfl⟩
  rw [List.length_map] at q1
  rcases q1.2 with ⟨hvn, hz⟩ | ⟨g, cap, cur, hvv, hg0, hb, hn, hcap, hsz, htk⟩
  · have hcon := AnyF.slices_SortFunc_none { Tryz.sortRows with } none 0 (.func (.func 269) #[] #[]) w
    change Calls Tryz.prog 268 _ _ _ at hcon
    rw [hvn]
    refine hcon.mono ?_
    rintro en w' ⟨rfl, rfl⟩
    have hz' : l = [] := List.eq_nil_of_length_eq_zero hz
    subst hz'
    exact hend [] w' (by simp) (by simp) (Only.refl _ _) (fun F hF g hg => rfl) (by rw [hvn]; exact ⟨by simp, .inl ⟨rfl, rfl⟩⟩)
  · have hgF : g ∉ Fs.flatten := fun hm => by
      rw [hFe, hvv] at hnd
      simp only [Value.ownBlock, Option.toList_some, List.cons_append, List.nil_append, List.nodup_cons] at hnd
      exact hnd.1 hm
    have hgs : g < w.heap.size := (Array.getElem?_eq_some_iff.1 hb).1
    have hin : ∀ b ∈ Fs.flatten, b < w.heap.size ∧ b ≠ g := fun b hb' => ⟨hge b (by rw [hFe]; exact List.mem_append_right _ hb'), fun e => hgF (e ▸ hb')⟩
    have hO : Go.Sort.SWO (ltOf fun x y : Nat => cmpR (l.getD x []) (l.getD y [])) :=
      { irrefl := fun x => by show decide (cmpR (l.getD x []) (l.getD x []) < 0) = false; rw [cmpR_self]; rfl
        trans := fun x y z h1 h2 => by unfold ltOf at *; rw [decide_eq_true_eq] at *; exact cmpR_trans h1 h2
        ntrans := fun x y z h1 h2 => by unfold ltOf at *; rw [decide_eq_false_iff_not] at *; exact cmpR_ntrans h1 h2 }
    have hcmp : CmpLays1 Tryz.prog 269 #[] enc (fun x y : Nat => cmpR (l.getD x []) (l.getD y [])) g 0 (List.range l.length).toArray.size w := fun m os dk hs x y => by
      obtain ⟨a1, c1, ex, r1, k1, b1⟩ := henc x
      obtain ⟨a2, c2, ey, r2, k2, b2⟩ := henc y
      rw [ex, ey]
      refine (rows_raw a1 a2 c1 c2 _ _ _ b1 b2 (rowV_kept r1 fun q hq => cells_kept dk (hin _ (k1 q hq)).1 (hin _ (k1 q hq)).2) (rowV_kept r2 fun q hq => cells_kept dk (hin _ (k2 q hq)).1 (hin _ (k2 q hq)).2)).mono ?_
      rintro en w' ⟨rfl, rfl⟩
      exact ⟨rfl, 0, #[], by simp [Go.Sort.grow_empty, World.drewN]⟩
    have htk' : cur.toList.take l.length = css.flatten := by rw [Nat.mul_one] at htk; exact htk
    have hH : Go.Sort.Holds enc w g 0 (List.range l.length).toArray := fun j hj => by
      have hj' : j < l.length := by simpa using hj
      refine ⟨?_, by simp [World.frozen?, hb]⟩
      have h1 : (cur.toList.take l.length)[j]? = css.flatten[j]? := by rw [htk']
      rw [List.getElem?_take_of_lt hj'] at h1
      simp only [World.cell?, hb, Nat.zero_add, Option.isSome_none, Bool.false_eq_true, if_false]
      rw [← Array.getElem?_toList, h1]
      obtain ⟨a, cap', F, g1, _⟩ := hrow j hj'
      have h2 := flat_one css j _ hone g1
      have ee : enc j = .slice a (l.getD j []).length cap' := by
        show css.flatten.getD j _ = _
        rw [List.getD_eq_getElem?_getD, h2]; rfl
      have ej : (List.range l.length).toArray[j]! = j := by simp [hj']
      rw [h2, ej, ee]
    have hone1 : OneCell enc := fun x => by
      obtain ⟨a, c, ex, _⟩ := henc x
      rw [ex]; rfl
    have eg : ∀ args w, (callFunc 269 args).run Tryz.prog w = .ok (.enter 269 args) w := enters_of Tryz.func269 (by kernel_rfl) rfl
    have hcon := Any.slices_SortFunc Tryz.sortRows enc hone1 (fun x y : Nat => cmpR (l.getD x []) (l.getD y [])) hO 269 #[] g 0 cap (List.range l.length).toArray w eg hcmp hH hgs (by simpa using hl)
    change Calls Tryz.prog 268 _ _ _ at hcon
    have hsz1 : ((List.range l.length).toArray.size : Nat) = l.length := by simp
    rw [hsz1] at hcon
    rw [hvv]
    refine hcon.mono ?_
    rintro en w' ⟨rfl, d', n, os, hpm, hsd, rfl⟩
    obtain ⟨p1, _, p3⟩ := hpm
    have hds : d'.size = l.length := by simpa using p1
    have hperm : d'.toList.Perm (List.range l.length) := by
      have e1 : (d'.extract 0 l.length).toList = d'.toList := by rw [← hds]; simp
      have e2 : ((List.range l.length).toArray.extract 0 l.length).toList = List.range l.length := by simp
      rw [e1, e2] at p3; exact p3
    have hkb : ∀ k, k < w.heap.size → k ≠ g → (sortWorld enc w g 0 n d' os).heap[k]? = w.heap[k]? := fun k hk hne => cells_kept d' hk hne
    have := hend d'.toList (sortWorld enc w g 0 n d' os) hperm (by
        rw [List.pairwise_map, List.pairwise_iff_getElem]
        intro i j hi hj hij
        have := hsd i j (Nat.zero_le _) hij (by simpa [hds] using hj)
        unfold ltOf at this
        rw [decide_eq_false_iff_not] at this
        rw [leR_iff]
        have ei : d'[i]! = d'.toList[i] := by simp at hi; simp [hi]
        have ej : d'[j]! = d'.toList[j] := by simp at hj; simp [hj]
        rw [← ei, ← ej]; exact this)
      ⟨rfl, rfl, rfl, by simp [sortWorld], fun k hk hne => hkb k hk (fun e => hne (by rw [hFe, hvv, e]; simp [Value.ownBlock]))⟩
      (fun F hF b hb' => hkb b (hin b (List.mem_flatten.2 ⟨F, hF, hb'⟩)).1 (hin b (List.mem_flatten.2 ⟨F, hF, hb'⟩)).2)
      (by
        rw [hvv]
        refine ⟨by simp [hds], .inr ⟨g, cap, _, rfl, hg0, cells_put d' hb, hn, hcap, by simp [Go.Sort.putCells, hsz], ?_⟩⟩
        rw [Nat.mul_one]
        have := put_take enc cur d'.toList (by rw [Array.length_toList, hds]; omega)
        rw [Array.length_toList, hds] at this
        simpa using this)
    exact this
end Go.Proofs.YtokkjaflmcjlhaaGreat
namespace Go.Proofs.YtokkjaflmcjlhaaGreat
open Go.ChangeShapes Go.WideShapes Go.ChangeAt Go.RowKit
set_option linter.unusedVariables false
set_option linter.unusedSimpArgs false
theorem eq_stop {l m : List Int} {k : Nat} {x y : Int} (hx : l[k]? = some x) (hy : m[k]? = some y) (h : (x == y) = false) : decide (l = m) = false := by
  rw [decide_eq_false_iff_not]
  rintro rfl
  rw [hx] at hy
  injection hy with hy
  subst hy
  simp at h
set_option maxHeartbeats 1000000 in
theorem equal_raw (a1 a2 : Option Addr) (c1 c2 : Nat) (l m : List Int) (w : World) (hl : l.length ≤ 9223372036854775807) (hm : m.length ≤ 9223372036854775807) (h1 : RowV w a1 l) (h2 : RowV w a2 m) :
    Calls Tryz.prog 267 #[.slice a1 l.length c1, .slice a2 m.length c2] w fun e w' => e = .returned (.bool (decide (l = m))) ∧ ∃ q, w' = w.drewN q := by
  have mixed := mixedW
  have H1 := Lib.hid h1
  have H2 := Lib.hid h2
  clear h1 h2
  by_cases hlm : l.length = m.length
  · have HL := Lib.hid hlm
    go_enter Tryz.func267, Tryz.ntmps267
    go_wp2
    go_loopg [13] l.length (fun g s wr => ∃ k q : Nat, k ≤ l.length ∧ l.length - k ≤ g ∧ s = .int .i64 k ∧ wr = w.drewN q ∧ Aside (l.take k = m.take k))
    case atStart => exact ⟨0, 0, Nat.zero_le _, by omega, rfl, rfl, rfl⟩
    case round =>
      obtain ⟨k, q, hk, hg, rfl, rfl, A⟩ := hrel
      by_cases hlt : k < l.length
      · obtain ⟨x, hx⟩ := at_some hlt
        obtain ⟨b1, o1, rfl, g1⟩ := H1.out k x hx
        obtain ⟨y, hy⟩ := at_some (l := m) (k := k) (by omega)
        obtain ⟨b2, o2, rfl, g2⟩ := H2.out k y hy
        have HX := Lib.hid hx
        have HY := Lib.hid hy
        clear hx hy
        cases hxy : (x == y) with
        | true =>
          have hne : (x != y) = false := by rw [bne, hxy]; rfl
          go_wp2_with fail
          go_region_o
          go_wp2
          go_roundg (l.length - (k + 1))
          case measure => omega
          case rel => exact ⟨k + 1, q + 1, by omega, by omega, by go_num, rfl, (show Aside _ from take_same HX.out (by rw [HY.out, show x = y by simpa using hxy]) A.out)⟩
        | false =>
          have hne : (x != y) = true := by rw [bne, hxy]; rfl
          go_wp2_with fail
          go_region_o
          go_wp2
          go_ret
          refine ⟨?_, q + 1, rfl⟩
          rw [eq_stop HX.out HY.out hxy]
          rfl
      · go_wp2
        go_ret
        refine ⟨?_, q, rfl⟩
        rw [decide_eq_true (same_take (by omega) HL.out A.out)]
        rfl
  · have hnm : ¬ (l.length : Int) = (m.length : Int) := by omega
    go_enter Tryz.func267, Tryz.ntmps267
    go_wp2
    go_ret
    refine ⟨?_, 0, rfl⟩
    rw [decide_eq_false (ne_len hnm)]
    rfl
theorem eqc_raw (a1 a2 : Option Addr) (c1 c2 : Nat) (l m : List Int) (w : World) (hl : l.length ≤ 9223372036854775807) (hm : m.length ≤ 9223372036854775807) (h1 : RowV w a1 l) (h2 : RowV w a2 m) :
    Calls Tryz.prog 271 #[.slice a1 l.length c1, .slice a2 m.length c2] w fun e w' => e = .returned (.bool (decide (l = m))) ∧ ∃ q, w' = w.drewN q := by
  have HC := Lib.hid (equal_raw a1 a2 c1 c2 l m w hl hm h1 h2)
  clear h1 h2
  go_enter Tryz.func271, Tryz.ntmps271
  go_wp2_with (go_at_call 267; refine HC.out.mono ?_; rintro e w' ⟨rfl, q, hw⟩; rw [hw])
  go_ret
  exact ⟨rfl, _, rfl⟩
end Go.Proofs.YtokkjaflmcjlhaaGreat
namespace Go.Proofs.YtokkjaflmcjlhaaGreat
open Go.ChangeShapes Go.WideShapes Go.ChangeAt Go.RowKit Go.Shelf Go.Lib
set_option linter.unusedVariables false
set_option linter.unusedSimpArgs false
section
variable (eq : Nat → Nat → Bool)
def keepC (d : Array Nat) (j : Nat) : Bool := decide (j = 0) || !eq d[j]! d[j - 1]!
def compC (d : Array Nat) (m : Nat) : List Nat := ((List.range m).filter (keepC eq d)).map (d[·]!)
theorem keepC_one (d : Array Nat) : ∀ j, j < 1 → keepC eq d j = true := by
  intro j hj
  obtain rfl : j = 0 := by omega
  simp [keepC]
theorem keepC_pos {d : Array Nat} {m : Nat} (h : eq d[m]! d[m - 1]! = false) : keepC eq d m = true := by simp [keepC, h]
theorem keepC_neg {d : Array Nat} {m : Nat} (hm : 0 < m) (h : eq d[m]! d[m - 1]! = true) : keepC eq d m = false := by
  have : m ≠ 0 := by omega
  simp [keepC, h, this]
theorem compC_succ (d : Array Nat) (m : Nat) : compC eq d (m + 1) = compC eq d m ++ (if keepC eq d m = true then [d[m]!] else []) := by
  unfold compC
  rw [List.range_succ, List.filter_append, List.map_append]
  congr 1
  by_cases h : keepC eq d m = true <;> simp [h]
theorem compC_all (d : Array Nat) (m : Nat) (h : ∀ j, j < m → keepC eq d j = true) : compC eq d m = (List.range m).map (d[·]!) := by
  unfold compC
  rw [List.filter_eq_self.2 (fun j hj => h j (List.mem_range.1 hj))]
theorem compC_whole (d : Array Nat) (h : ∀ j, j < d.size → keepC eq d j = true) : compC eq d d.size = d.toList := by
  rw [compC_all eq d _ h]
  exact range_map_get d
/-- m places have been looked at; the k that are kept lie at the head; from k on the row is as it was. -/
structure CompC (d : Array Nat) (m k : Nat) (dk : Array Nat) : Prop where
  size : dk.size = d.size
  len : (compC eq d m).length = k
  lt : k < m
  low : ∀ j, j < k → (compC eq d m)[j]? = some dk[j]!
  high : ∀ j, k ≤ j → dk[j]! = d[j]!
variable {eq}
theorem CompC.start {d : Array Nat} {k0 : Nat} (hall : ∀ j, j < k0 → keepC eq d j = true) (hdup : keepC eq d k0 = false) : CompC eq d (k0 + 1) k0 d where
  size := rfl
  len := by rw [compC_succ, hdup, compC_all eq d k0 hall]; simp
  lt := Nat.lt_succ_self _
  low := fun j hj => by rw [compC_succ, hdup, compC_all eq d k0 hall]; simp [hj]
  high := fun _ _ => rfl
theorem CompC.keep {d dk : Array Nat} {m k : Nat} (h : CompC eq d m k dk) (hm : m < d.size) (hk : keepC eq d m = true) : CompC eq d (m + 1) (k + 1) (dk.setIfInBounds k d[m]!) where
  size := by simp [h.size]
  len := by rw [compC_succ, hk]; simp [h.len]
  lt := by have := h.lt; omega
  low := fun j hj => by
    rw [compC_succ, hk, if_pos rfl]
    by_cases e : j = k
    · subst e
      rw [List.getElem?_append_right (by rw [h.len]; exact Nat.le_refl _), h.len, Nat.sub_self, Go.Sort.getElem!_set_same dk j _ (by have := h.lt; have := h.size; omega)]
      rfl
    · rw [List.getElem?_append_left (by rw [h.len]; omega), h.low j (by omega), Go.Sort.getElem!_set_other dk k j _ e]
  high := fun j hj => by rw [Go.Sort.getElem!_set_other dk k j _ (by omega), h.high j (by omega)]
theorem CompC.skip {d dk : Array Nat} {m k : Nat} (h : CompC eq d m k dk) (hk : keepC eq d m = false) : CompC eq d (m + 1) k dk where
  size := h.size
  len := by rw [compC_succ, hk]; simpa using h.len
  lt := by have := h.lt; omega
  low := fun j hj => by rw [compC_succ, hk]; simpa using h.low j hj
  high := h.high
theorem CompC.done {d dk : Array Nat} {k : Nat} (h : CompC eq d d.size k dk) (z : Nat) :
    lay dk k (List.replicate (d.size - k) z) = (compC eq d d.size ++ List.replicate (d.size - k) z).toArray := by
  have hk := h.lt
  have hs := h.size
  apply Array.ext_getElem?
  intro j
  rw [lay_get? _ _ _ _ (by simp; omega), show (compC eq d d.size ++ List.replicate (d.size - k) z).toArray[j]? = (compC eq d d.size ++ List.replicate (d.size - k) z)[j]? from List.getElem?_toArray]
  simp only [List.length_replicate]
  by_cases c : j < k
  · rw [if_neg (by omega), List.getElem?_append_left (by rw [h.len]; exact c), h.low j c, getElem!_pos dk j (by omega), Array.getElem?_eq_getElem]
  · rw [List.getElem?_append_right (by rw [h.len]; omega), h.len]
    by_cases c2 : j < d.size
    · rw [if_pos (by omega)]
    · rw [if_neg (by omega), Array.getElem?_eq_none (by omega), List.getElem?_eq_none (by simp; omega)]
end
set_option maxHeartbeats 4000000 in
set_option maxRecDepth 1000000 in
theorem compact_raw (enc : Nat → Value) (eq : Nat → Nat → Bool) (hO : OneCell enc) (zr : Nat) (hz : enc zr = .slice none 0 0) (blk off cap : Nat) (d : Array Nat) (w : World) (hH : Go.Sort.Holds enc w blk off d) (hsz : d.size ≤ 9223372036854775807) (hcap : d.size ≤ cap)
    (hcmp : ∀ (dk : Array Nat) (q : Nat) (x y : Nat), dk.size = d.size → ∀ n, Calls Tryz.prog 271 #[enc x, enc y] ((Go.Sort.putRow enc (Go.Sort.ahead w q) blk off dk).drewN n) fun e w' => e = .returned (.bool (eq x y)) ∧ ∃ qq, w' = ((Go.Sort.putRow enc (Go.Sort.ahead w q) blk off dk).drewN n).drewN qq) :
    Calls Tryz.prog 270 #[.slice (some ⟨blk, off, none⟩) d.size cap, .func (.func 271) #[] #[]] w fun e w' => e = .returned (.slice (some ⟨blk, off, none⟩) (compC eq d d.size).length cap) ∧ ∃ q, w' = Go.Sort.putRow enc (Go.Sort.ahead w q) blk off (compC eq d d.size ++ List.replicate (d.size - (compC eq d d.size).length) zr).toArray := by
  have mixed := mixedW
  have hcl0 := hO.cells
  simp only [Value.cells] at hcl0
  have hst := hO.store Tryz.prog
  have same : ∀ q, (∀ j, j < d.size → keepC eq d j = true) → (compC eq d d.size).length = d.size ∧ w.drewN q = Go.Sort.putRow enc (Go.Sort.ahead w q) blk off (compC eq d d.size ++ List.replicate (d.size - (compC eq d d.size).length) zr).toArray := by
    intro q hall
    have e : compC eq d d.size = d.toList := compC_whole eq d hall
    rw [e]
    refine ⟨by simp, ?_⟩
    simp only [Array.length_toList, Nat.sub_self, List.replicate_zero, List.append_nil, Array.toArray_toList]
    exact (Go.Sort.putRow_self enc (Go.Sort.ahead w q) blk off d (Go.Sort.holds_ahead enc w q blk off d hH)).symm
  have HS : Aside _ := same
  have HC : Aside _ := hcmp
  clear same hcmp
  by_cases h2 : d.size < 2
  · have HH : Aside (Go.Sort.Holds enc w blk off d) := hH
    clear hH
    go_enter Tryz.func270, Tryz.ntmps270
    go_wp2
    go_ret
    obtain ⟨e1, e2⟩ := HS.out 0 (fun j hj => keepC_one eq d j (by omega))
    exact ⟨by rw [e1]; rfl, 0, e2⟩
  · go_enter Tryz.func270, Tryz.ntmps270
    go_wp2
    go_loopg [5] d.size (fun g s3 wr => ∃ k q : Nat, 1 ≤ k ∧ k ≤ d.size ∧ d.size - k ≤ g ∧ s3 = .int .i64 k ∧ wr = w.drewN q ∧ ∀ j, j < k → keepC eq d j = true)
    case atStart => exact ⟨1, 0, Nat.le_refl _, by omega, by omega, rfl, rfl, keepC_one eq d⟩
    case round =>
      obtain ⟨k, q, hk1, hk, hg, rfl, rfl, hall⟩ := hrel
      by_cases hlt : k < d.size
      · obtain ⟨c1, f1⟩ := hH k hlt
        obtain ⟨c0, f0⟩ := hH (k - 1) (by omega)
        have A : Aside (∀ j, j < k → keepC eq d j = true) := hall
        have HH : Aside (Go.Sort.Holds enc w blk off d) := hH
        have hc0 := HC.out d q d[k]! d[k - 1]! rfl
        have hself : Go.Sort.putRow enc (Go.Sort.ahead w q) blk off d = w.drewN q := Go.Sort.putRow_self enc (Go.Sort.ahead w q) blk off d (Go.Sort.holds_ahead enc w q blk off d hH)
        rw [hself] at hc0
        clear hall hH hself
        generalize hx : d[k]! = x at c1 hc0
        generalize hy : d[k - 1]! = y at c0 hc0
        have B : Aside (d[k]! = x ∧ d[k - 1]! = y) := ⟨hx, hy⟩
        clear hx hy
        obtain ⟨kp, rfl⟩ : ∃ kp, k = kp + 1 := ⟨k - 1, by omega⟩
        simp only [Nat.add_sub_cancel] at c0
        have hwp : IntKind.i64.wrap (kp : Int) = (kp : Int) := by rw [IntKind.wrap_i64]; omega
        have kz : (kp : Int) + 1 < (d.size : Int) := by omega
        have kz1 : (kp : Int) < (d.size : Int) := by omega
        have p0 : (0 : Int) ≤ (kp : Int) + 1 := by omega
        have e0 : ((kp : Int) + 1).toNat = kp + 1 := by omega
        have c1' : (w.drewN q).cell? ⟨blk, off + (kp + 1), none⟩ = some (enc x) := c1
        have c0' : (w.drewN q).cell? ⟨blk, off + kp, none⟩ = some (enc y) := c0
        clear c1 c0
        generalize hwq : w.drewN q = wq at c1' c0' hc0 ⊢
        have WQ : Hid (w.drewN q = wq) := hwq
        clear hwq
        cases hdup : eq x y with
        | true =>
          rw [hdup] at hc0
          go_wp2_with fail
          go_quiet ((first | (go_at_call 271; exact Calls.quiet_of (hc0 _)) | (go_at_fn 271; exact Calls.quiet_of (hc0 _))))
          go_wp2
          have W1 : Hid (wq.drewN nq = Go.Sort.putRow enc (Go.Sort.ahead w (q + nq)) blk off d) := by
            show _ = _
            rw [← WQ.out, World.drewN_drewN]
            exact (Go.Sort.putRow_self enc (Go.Sort.ahead w (q + nq)) blk off d (Go.Sort.holds_ahead enc w (q + nq) blk off d HH.out)).symm
          clear c1' c0' f0 f1 hc0
          go_loopg [5, 7] d.size (fun g s3 s5 wr => ∃ (kk k2 q2 : Nat) (dk : Array Nat), s3 = .int .i64 kk ∧ s5 = .int .i64 ((k2 : Int) + 1) ∧ kp + 1 + (k2 + 1) ≤ d.size ∧ d.size - (kp + 1 + (k2 + 1)) ≤ g ∧ wr = Go.Sort.putRow enc (Go.Sort.ahead w q2) blk off dk ∧ CompC eq d (kp + 1 + (k2 + 1)) kk dk)
          case atStart => exact ⟨kp + 1, 0, q + nq, d, by go_num, rfl, by omega, by omega, W1.out, CompC.start A.out (keepC_neg eq (by omega) (by rw [B.out.1, Nat.add_sub_cancel, show d[kp]! = y from B.out.2]; exact hdup))⟩
          case round =>
            obtain ⟨kk, k2, q2, dk, rfl, rfl, hle, hg2, hwr, hI⟩ := hrel
            have hkk := hI.lt
            have hds := hI.size
            have hHk : Go.Sort.Holds enc wr blk off dk := by rw [hwr]; exact Go.Sort.holds_putRow enc _ blk off d dk (Go.Sort.holds_ahead enc w q2 blk off d HH.out) hds
            have W2 : Aside (wr = Go.Sort.putRow enc (Go.Sort.ahead w q2) blk off dk) := hwr
            have I2 : Aside (CompC eq d (kp + 1 + (k2 + 1)) kk dk) := hI
            by_cases hlt2 : kp + 1 + (k2 + 1) < d.size
            · obtain ⟨cm, _⟩ := hHk (kp + 1 + (k2 + 1)) (by omega)
              obtain ⟨cp, _⟩ := hHk (kp + 1 + k2) (by omega)
              obtain ⟨ck, fk⟩ := hHk kk (by omega)
              rw [hI.high (kp + 1 + (k2 + 1)) (by omega), show off + (kp + 1 + (k2 + 1)) = off + (kp + 1) + (k2 + 1) by omega] at cm
              rw [hI.high (kp + 1 + k2) (by omega), show off + (kp + 1 + k2) = off + (kp + 1) + k2 by omega] at cp
              have hc1 := HC.out dk q2 d[kp + 1 + (k2 + 1)]! d[kp + 1 + k2]! hds
              rw [← hwr] at hc1
              clear hHk hI hwr
              generalize hu : d[kp + 1 + (k2 + 1)]! = u at cm hc1
              generalize hv : d[kp + 1 + k2]! = v at cp hc1
              generalize dk[kk]! = old at ck
              have C : Aside (d[kp + 1 + (k2 + 1)]! = u ∧ d[kp + 1 + k2]! = v) := ⟨hu, hv⟩
              clear hu hv
              have hwp2 : IntKind.i64.wrap (k2 : Int) = (k2 : Int) := by rw [IntKind.wrap_i64]; omega
              have jz : (k2 : Int) + 1 < (d.size : Int) - ((kp : Int) + 1) := by omega
              have jz1 : (k2 : Int) < (d.size : Int) - ((kp : Int) + 1) := by omega
              have j0 : (0 : Int) ≤ (k2 : Int) + 1 := by omega
              have je : ((k2 : Int) + 1).toNat = k2 + 1 := by omega
              cases huv : eq u v with
              | true =>
                rw [huv] at hc1
                go_wp2_with fail
                go_quiet ((first | (go_at_call 271; exact Calls.quiet_of (hc1 _)) | (go_at_fn 271; exact Calls.quiet_of (hc1 _))))
                go_wp2
                go_roundg (d.size - (kp + 1 + (k2 + 1 + 1)))
                case measure => omega
                case rel => exact ⟨kk, k2 + 1, q2 + nq, dk, rfl, by go_num, by omega, by omega, by rw [W2.out]; exact Go.Proofs.putRow_drewN _ _ _ _ _ _ _, I2.out.skip (keepC_neg eq (by omega) (by rw [C.out.1, show kp + 1 + (k2 + 1) - 1 = kp + 1 + k2 by omega, C.out.2]; exact huv))⟩
              | false =>
                rw [huv] at hc1
                go_wp2_with fail
                go_quiet ((first | (go_at_call 271; exact Calls.quiet_of (hc1 _)) | (go_at_fn 271; exact Calls.quiet_of (hc1 _))))
                go_wp2
                go_roundg (d.size - (kp + 1 + (k2 + 1 + 1)))
                case measure => omega
                case rel =>
                  refine ⟨kk + 1, k2 + 1, q2 + nq, dk.setIfInBounds kk u, by go_num, by go_num, by omega, by omega, ?_, ?_⟩
                  · rw [W2.out, show (Go.Sort.putRow enc (Go.Sort.ahead w q2) blk off dk).drewN nq = Go.Sort.putRow enc (Go.Sort.ahead w (q2 + nq)) blk off dk from Go.Proofs.putRow_drewN _ _ _ _ _ _ _, Go.Sort.putRow_set enc _ blk off dk kk u (by omega)]
                  · have := I2.out.keep hlt2 (keepC_pos eq (by rw [C.out.1, show kp + 1 + (k2 + 1) - 1 = kp + 1 + k2 by omega, C.out.2]; exact huv))
                    rwa [C.out.1] at this
            · have hend : kp + 1 + (k2 + 1) = d.size := by omega
              have hcl : ∀ ty, (Builtin.clear_ #[160] ty #[.slice (some ⟨blk, off + kk, none⟩) (d.size - kk) (cap - kk)]).run Tryz.prog wr = .ok (.tuple #[]) (wr.setCells blk (off + kk) (List.replicate (d.size - kk) (enc zr))) :=
                fun ty => Lib.run_clear_slice wr _ _ ty _ Tryz.underlying160 (fun w => by rw [hz]; rfl) (hO.cells zr) (hO zr) blk (off + kk) _ _ (by omega) (fun j hj => by rw [show off + kk + j = off + (kk + j) by omega, (hHk (kk + j) (by omega)).1]; rfl) (fun j hj => by rw [show off + kk + j = off + (kk + j) by omega]; exact (hHk (kk + j) (by omega)).2)
              clear hHk hI hwr
              go_wp2
              go_ret
              have hI := I2.out
              rw [hend] at hI
              refine ⟨by rw [hI.len]; rfl, q2, ?_⟩
              rw [hI.len, ← hI.done zr, ← putRow_setCells enc _ blk off _ dk kk (by simp; omega), ← W2.out, List.map_replicate, hz]
        | false =>
          rw [hdup] at hc0
          go_wp2_with fail
          go_quiet ((first | (go_at_call 271; exact Calls.quiet_of (hc0 _)) | (go_at_fn 271; exact Calls.quiet_of (hc0 _))))
          go_wp2
          go_roundg (d.size - (kp + 1 + 1))
          case measure => omega
          case rel =>
            refine ⟨kp + 1 + 1, q + nq, by omega, by omega, Nat.le_refl _, by go_num, by rw [← WQ.out, World.drewN_drewN], fun j hj => ?_⟩
            by_cases e : j = kp + 1
            · subst e
              exact keepC_pos eq (by rw [B.out.1, B.out.2]; exact hdup)
            · exact A.out j (by omega)
      · obtain rfl : k = d.size := by omega
        have HH : Aside (Go.Sort.Holds enc w blk off d) := hH
        clear hH
        go_wp2
        go_ret
        obtain ⟨e1, e2⟩ := HS.out q hall
        exact ⟨by rw [e1]; rfl, q, e2⟩
end Go.Proofs.YtokkjaflmcjlhaaGreat
namespace Go.Proofs.YtokkjaflmcjlhaaGreat
open Go.ChangeShapes Go.WideShapes Go.ChangeAt Go.RowKit Go.Shelf Go.Lib
set_option linter.unusedVariables false
set_option linter.unusedSimpArgs false
def dedI (l : List (List Int)) (i j : Nat) : Bool := decide (l.getD i [] = l.getD j [])
def dedL (l : List (List Int)) : List Nat := (List.range l.length).filter fun j => decide (j = 0) || !dedI l j (j - 1)
/-- Of neighbours that are equal the first. -/
def dedR (l : List (List Int)) : List (List Int) := (dedL l).map fun i => l.getD i []
theorem dedL_comp (l : List (List Int)) : compC (dedI l) (List.range l.length).toArray l.length = dedL l := by
  unfold compC dedL
  have e : ∀ j, j < l.length → (List.range l.length).toArray[j]! = j := fun j hj => by simp [hj]
  have e1 : (List.range l.length).filter (keepC (dedI l) (List.range l.length).toArray) = (List.range l.length).filter fun j => decide (j = 0) || !dedI l j (j - 1) := by
    apply List.filter_congr
    intro j hj
    have hj := List.mem_range.1 hj
    unfold keepC
    rw [e j hj, e (j - 1) (by omega)]
  rw [e1]
  conv => rhs; rw [← List.map_id (List.filter _ _)]
  apply List.map_congr_left
  intro j hj
  exact e j (List.mem_range.1 (List.mem_filter.1 hj).1)
theorem sub_flat {α : Type} {l m : List (List α)} (h : List.Sublist l m) : List.Sublist l.flatten m.flatten := by
  induction h with
  | slnil => exact List.Sublist.refl _
  | cons a _ ih => rw [List.flatten_cons]; exact ih.trans (List.sublist_append_right _ _)
  | cons_cons a _ ih => rw [List.flatten_cons, List.flatten_cons]; exact (List.Sublist.refl a).append ih
theorem dedL_lt {l : List (List Int)} {i : Nat} (h : i ∈ dedL l) : i < l.length := List.mem_range.1 (List.mem_filter.1 h).1
set_option maxHeartbeats 2000000 in
theorem con_compact (l : List (List Int)) (hl : l.length < 4611686018427387904) : Con2 Tryz.prog 270 [.own 0, .fn 271 []] [(0, .arr 32 1 true (l.map eIntS))] (.own 1) [(1, .arr 32 1 true ((dedR l).map eIntS))] := by
  refine ⟨by kernel_rfl, by simp, fun A φ w vs hI hm => ?_⟩
  obtain ⟨pl, hp, css, Fs, q1, q2, q3, q4⟩ := hI.dom 0 _ rfl
  unfold MatchL at hm
  obtain ⟨v, us, e1, m1, hm⟩ := hm
  unfold MatchL at hm
  obtain ⟨v2, us2, e2, m2, hm⟩ := hm
  unfold MatchL at hm
  unfold MatchV at m1 m2
  obtain ⟨vs2, ev2, m3⟩ := m2
  unfold MatchL at m3
  have hv := m1 pl hp
  have e3 : vs2 = #[] := by apply Array.ext'; simpa using m3
  have ev : vs = #[pl.val, .func (.func 271) #[] #[]] := by apply Array.ext'; rw [e1, e2, hm, hv, ev2, e3]
  rw [ev]
  have hnd := hI.nodup 0 pl hp
  have hge := hI.ge 0 pl hp
  have hFe : pl.F = pl.val.ownBlock.toList ++ Fs.flatten := by unfold Pl.F; rw [q2, q3]
  have hfoot : ∀ b ∈ pl.F, AllF φ b := fun b hb => ⟨0, pl, trivial, hp, hb⟩
  have h0 : ∀ h pl', φ h = some pl' → h = 0 := fun h pl' e' => by
    cases hr : findH [(0, Rs.arr 32 1 true (l.map eIntS))] h with
    | none => rw [hI.non h hr] at e'; cases e'
    | some r =>
      simp only [findH] at hr
      split at hr
      · assumption
      · cases hr
  obtain ⟨lc, lF⟩ := owRs_lens q4
  rw [List.length_map] at lc lF
  -- the rows, one by one
  have hrow : ∀ i, i < l.length → ∃ a cap F, css[i]? = some [.slice a (l.getD i []).length cap] ∧ Fs[i]? = some F ∧ RowV w a (l.getD i []) ∧ (∀ x ∈ a, x.block ∈ F) ∧ (l.getD i []).length ≤ 9223372036854775807 ∧ OwCs w (eIntS (l.getD i [])) [.slice a (l.getD i []).length cap] F := fun i hi => by
    obtain ⟨r, hr⟩ := at_some hi
    have hg : l.getD i [] = r := by simp [List.getD_eq_getElem?_getD, hr]
    obtain ⟨c, F, g1, g2, _, g4⟩ := owRs_get q4 (show (l.map eIntS)[i]? = some (eIntS r) by rw [List.getElem?_map, hr]; rfl)
    obtain ⟨a, cap, rfl, k1, k2, k3⟩ := owRow g4
    rw [hg]
    exact ⟨a, cap, F, g1, g2, k1, k2, k3, g4⟩
  have hone : ∀ d ∈ css, d.length = 1 := fun d hd => by
    obtain ⟨i, hi⟩ := List.getElem?_of_mem hd
    obtain ⟨a, cap, F, g1, _⟩ := hrow i (by have := (List.getElem?_eq_some_iff.1 hi).1; omega)
    rw [hi] at g1
    injection g1 with g1
    rw [g1]; rfl
  let enc : Nat → Value := fun i => css.flatten.getD i (.slice none 0 0)
  have henc : ∀ i, ∃ a cap, enc i = .slice a (l.getD i []).length cap ∧ RowV w a (l.getD i []) ∧ (∀ x ∈ a, x.block ∈ Fs.flatten) ∧ (l.getD i []).length ≤ 9223372036854775807 := fun i => by
    by_cases hi : i < l.length
    · obtain ⟨a, cap, F, g1, g2, g3, g4, g5, _⟩ := hrow i hi
      refine ⟨a, cap, ?_, g3, fun x hx => List.mem_flatten.2 ⟨F, List.mem_of_getElem? g2, g4 x hx⟩, g5⟩
      show css.flatten.getD i _ = _
      rw [List.getD_eq_getElem?_getD, flat_one css i _ hone g1]; rfl
    · have hg : l.getD i [] = [] := by rw [List.getD_eq_getElem?_getD, List.getElem?_eq_none (by omega)]; rfl
      rw [hg]
      refine ⟨none, 0, ?_, fun j x hx => by simp at hx, by simp, by simp⟩
      show css.flatten.getD i _ = _
      rw [List.getD_eq_getElem?_getD, List.getElem?_eq_none (by rw [flat_len css hone]; omega)]; rfl
  have h1 : φ 1 = none := hI.non 1 rfl
  have hend : ∀ (v' : Value) (w' : World), Only pl.F w w' → (∀ F ∈ Fs, KeptOn F w w') → (∀ b ∈ v'.ownBlock, b ∈ pl.val.ownBlock) → w'.ownsRow 0 32 1 v' (dedL l).length ((dedL l).map enc) →
      ∃ v K φ', Ending.returned v' = .returned v ∧ Out2 A φ w [(1, .arr 32 1 true ((dedR l).map eIntS))] K φ' w' ∧ MatchV K φ' w' (.own 1) v := by
    intro v' w' hon hkeep hvb howns
    have hFr : (List.range l.length).map (fun i => Fs.getD i []) = Fs := by
      apply List.ext_getElem?
      intro i
      by_cases hi : i < l.length
      · simp [hi, show i < Fs.length by omega]
      · simp [hi, show ¬ i < Fs.length by omega]
    have hsub : List.Sublist ((dedL l).map fun i => Fs.getD i []).flatten Fs.flatten := by
      have : List.Sublist ((dedL l).map fun i => Fs.getD i []) ((List.range l.length).map fun i => Fs.getD i []) := List.filter_sublist.map _
      rw [hFr] at this
      exact sub_flat this
    let pl' : Pl := ⟨v', v'.ownBlock.toList, ((dedL l).map fun i => Fs.getD i []).flatten⟩
    have hmem : ∀ g, g ∈ pl'.F → g ∈ pl.F := fun g hg => by
      rw [hFe]
      simp only [pl', Pl.F, List.mem_append, Option.mem_toList] at hg ⊢
      rcases hg with h | h
      · exact .inl (hvb g h)
      · exact .inr (List.Sublist.mem h hsub)
    have hnd' : pl'.F.Nodup := by
      rw [hFe] at hnd
      have hn := List.nodup_append.1 hnd
      simp only [pl', Pl.F]
      refine List.nodup_append.2 ⟨by cases v'.ownBlock <;> simp, hsub.nodup hn.2.1, fun x hx y hy => ?_⟩
      exact hn.2.2 x (by rw [Option.mem_toList] at hx ⊢; exact hvb x hx) y (List.Sublist.mem hy hsub)
    refine ⟨_, A, fun h => if h = 1 then some pl' else none, rfl, ⟨⟨hon.os, hon.tape, hon.output, hon.size, fun b hb hn => hon.block b hb (fun hm => hn (hfoot b hm))⟩, fun _ h => h, fun b hb => ⟨Nat.lt_of_lt_of_le (hI.lt b hb) hon.size, .inl hb⟩, fun b hb h pl1 e' hm' => ?_, fun h r hr => ?_, fun h hr => ?_, fun h h' pl1 pl2 hne ea eb => ?_, fun h pl1 e' => ?_, fun h pl1 e' g hg => ?_, fun h pl1 pl0 e' e0 => ?_⟩, ?_⟩
    · split at e'
      · injection e' with e'; subst e'
        exact hI.out b hb 0 pl hp (hmem b hm')
      · cases e'
    · simp only [findH] at hr
      split at hr
      · rename_i eh
        subst eh
        injection hr with hr
        subst hr
        refine ⟨pl', by simp, (dedL l).map (fun i => [enc i]), (dedL l).map (fun i => Fs.getD i []), ?_, rfl, rfl, ?_⟩
        · rw [flat_enc enc (dedL l), List.length_map, dedR, List.length_map]; exact howns
        · rw [dedR, List.map_map]
          refine owRs_map (fun i => eIntS (l.getD i [])) (fun i => [enc i]) (fun i => Fs.getD i []) fun i hi => ⟨rfl, ?_⟩
          obtain ⟨a, cap, F, g1, g2, g3, g4, g5, g6⟩ := hrow i (dedL_lt hi)
          have ee : enc i = .slice a (l.getD i []).length cap := by
            show css.flatten.getD i _ = _
            rw [List.getD_eq_getElem?_getD, flat_one css i _ hone g1]; rfl
          have eF : Fs.getD i [] = F := by simp [List.getD_eq_getElem?_getD, g2]
          rw [ee, eF]
          exact OwCs.kept _ _ _ (hkeep F (List.mem_of_getElem? g2)) g6
      · cases hr
    · simp only [findH] at hr
      split at hr
      · cases hr
      · rename_i eh; exact if_neg eh
    · split at ea
      · split at eb
        · rename_i x y; exact absurd (x.trans y.symm) hne
        · cases eb
      · cases ea
    · split at e'
      · injection e' with e'; subst e'; exact hnd'
      · cases e'
    · split at e'
      · injection e' with e'; subst e'
        have := hmem g hg
        exact ⟨.inr (hfoot g this), Nat.lt_of_lt_of_le (hge g this) hon.size⟩
      · cases e'
    · split at e'
      · rename_i eh
        subst eh
        rw [h1] at e0; cases e0
      · cases e'
    · unfold MatchV
      intro pl1 e'
      simp at e'
      subst e'
      rfl
  rw [List.length_map] at q1
  rcases q1.2 with ⟨hvn, hz⟩ | ⟨g, cap, cur, hvv, hg0, hb, hn, hcap, hsz, htk⟩
  · have hz' : l = [] := List.eq_nil_of_length_eq_zero hz
    subst hz'
    rw [hvn]
    have hcon : Calls Tryz.prog 270 #[.slice none 0 0, .func (.func 271) #[] #[]] w fun e w' => e = .returned (.slice none 0 0) ∧ w' = w := by
      clear hend
      go_enter Tryz.func270, Tryz.ntmps270
      go_wp2
      go_ret
      exact ⟨rfl, rfl⟩
    refine hcon.mono ?_
    rintro en w' ⟨rfl, rfl⟩
    exact hend (.slice none 0 0) w' (Only.refl _ _) (fun F hF g hg => rfl) (fun b hb => by cases hb) ⟨by simp [dedL], .inl ⟨rfl, by simp [dedL]⟩⟩
  · have hgF : g ∉ Fs.flatten := fun hm => by
      rw [hFe, hvv] at hnd
      simp only [Value.ownBlock, Option.toList_some, List.cons_append, List.nil_append, List.nodup_cons] at hnd
      exact hnd.1 hm
    have hgs : g < w.heap.size := (Array.getElem?_eq_some_iff.1 hb).1
    have hin : ∀ b ∈ Fs.flatten, b < w.heap.size ∧ b ≠ g := fun b hb' => ⟨hge b (by rw [hFe]; exact List.mem_append_right _ hb'), fun e => hgF (e ▸ hb')⟩
    have hw0 : ∀ (dk : Array Nat) (q : Nat), Go.Sort.putRow enc (Go.Sort.ahead w q) g 0 dk = sortWorld enc w g 0 q dk #[] := fun dk q => by unfold sortWorld; rw [Go.Sort.grow_empty]
    have hcmp : ∀ (dk : Array Nat) (q : Nat) (x y : Nat), dk.size = (List.range l.length).toArray.size → ∀ n, Calls Tryz.prog 271 #[enc x, enc y] ((Go.Sort.putRow enc (Go.Sort.ahead w q) g 0 dk).drewN n) fun e w' => e = .returned (.bool (dedI l x y)) ∧ ∃ qq, w' = ((Go.Sort.putRow enc (Go.Sort.ahead w q) g 0 dk).drewN n).drewN qq := fun dk q x y _ n => by
      obtain ⟨a1, c1, ex, r1, k1, b1⟩ := henc x
      obtain ⟨a2, c2, ey, r2, k2, b2⟩ := henc y
      rw [ex, ey]
      have hk : ∀ b, b ∈ Fs.flatten → ((Go.Sort.putRow enc (Go.Sort.ahead w q) g 0 dk).drewN n).heap[b]? = w.heap[b]? := fun b hb' => by
        show (Go.Sort.putRow enc (Go.Sort.ahead w q) g 0 dk).heap[b]? = _
        rw [hw0]
        exact cells_kept dk (hin b hb').1 (hin b hb').2
      exact eqc_raw a1 a2 c1 c2 _ _ _ b1 b2 (rowV_kept r1 fun q hq => hk _ (k1 q hq)) (rowV_kept r2 fun q hq => hk _ (k2 q hq))
    have htk' : cur.toList.take l.length = css.flatten := by rw [Nat.mul_one] at htk; exact htk
    have hH : Go.Sort.Holds enc w g 0 (List.range l.length).toArray := fun j hj => by
      have hj' : j < l.length := by simpa using hj
      refine ⟨?_, by simp [World.frozen?, hb]⟩
      have h1 : (cur.toList.take l.length)[j]? = css.flatten[j]? := by rw [htk']
      rw [List.getElem?_take_of_lt hj'] at h1
      simp only [World.cell?, hb, Nat.zero_add, Option.isSome_none, Bool.false_eq_true, if_false]
      rw [← Array.getElem?_toList, h1]
      obtain ⟨a, cap', F, g1, _⟩ := hrow j hj'
      have h2 := flat_one css j _ hone g1
      have ee : enc j = .slice a (l.getD j []).length cap' := by
        show css.flatten.getD j _ = _
        rw [List.getD_eq_getElem?_getD, h2]; rfl
      have ej : (List.range l.length).toArray[j]! = j := by simp [hj']
      rw [h2, ej, ee]
    have hone1 : OneCell enc := fun x => by
      obtain ⟨a, c, ex, _⟩ := henc x
      rw [ex]; rfl
    have hzr : enc l.length = .slice none 0 0 := by
      show css.flatten.getD l.length _ = _
      rw [List.getD_eq_getElem?_getD, List.getElem?_eq_none (by rw [flat_len css hone]; omega)]; rfl
    have hszd : (List.range l.length).toArray.size = l.length := by simp
    have hcon := compact_raw enc (dedI l) hone1 l.length hzr g 0 cap (List.range l.length).toArray w hH (by rw [hszd]; omega) (by rw [hszd]; exact hn) hcmp
    rw [hszd, dedL_comp] at hcon
    rw [hvv]
    refine hcon.mono ?_
    rintro en w' ⟨rfl, q, rfl⟩
    have hle : (dedL l).length ≤ l.length := by
      have := (List.filter_sublist (l := List.range l.length) (p := fun j => decide (j = 0) || !dedI l j (j - 1))).length_le
      simpa [dedL] using this
    have hkb : ∀ k, k < w.heap.size → k ≠ g → (Go.Sort.putRow enc (Go.Sort.ahead w q) g 0 (dedL l ++ List.replicate (l.length - (dedL l).length) l.length).toArray).heap[k]? = w.heap[k]? := fun k hk hne => by rw [hw0]; exact cells_kept _ hk hne
    refine hend _ _ ⟨rfl, rfl, rfl, by simp, fun k hk hne => hkb k hk (fun e => hne (by rw [hFe, hvv, e]; simp [Value.ownBlock]))⟩
      (fun F hF b hb' => hkb b (hin b (List.mem_flatten.2 ⟨F, hF, hb'⟩)).1 (hin b (List.mem_flatten.2 ⟨F, hF, hb'⟩)).2)
      (fun b hb' => by rw [hvv]; exact hb') ?_
    rw [hw0]
    refine ⟨by simp, .inr ⟨g, cap, _, rfl, hg0, cells_put _ hb, by omega, hcap, by simp [Go.Sort.putCells, hsz], ?_⟩⟩
    rw [Nat.mul_one]
    have := put_take enc cur (dedL l ++ List.replicate (l.length - (dedL l).length) l.length) (by simp; omega)
    have h3 := congrArg (List.take (dedL l).length) this
    rw [List.take_take, List.map_append, List.take_append_of_le_length (by simp)] at h3
    rw [show min (dedL l).length (dedL l ++ List.replicate (l.length - (dedL l).length) l.length).length = (dedL l).length by simp] at h3
    rw [h3, List.take_of_length_le (by simp)]
end Go.Proofs.YtokkjaflmcjlhaaGreat
namespace Go.Proofs.YtokkjaflmcjlhaaGreat
open Go.ChangeShapes Go.WideShapes Go.ChangeAt Go.RowKit
set_option linter.unusedVariables false
set_option linter.unusedSimpArgs false
set_option maxRecDepth 100000
set_option maxHeartbeats 4000000
abbrev k_sorted_impl (l : List (List Int)) : AV × List (Nat × Rs) := (.own 0, [(0, .arr 32 1 true ((dedR (sortR l)).map eIntS))])
abbrev K_sorted_impl (l : List (List Int)) : Prop := Con Tryz.prog 228 [.one (.sl 32 1 (l.map eIntS))] (k_sorted_impl l).1 (k_sorted_impl l).2
theorem sorted_impl (l : List (List Int)) (hc : cIntSS l ≤ 1048576) : K_sorted_impl l := by
 refine con_x tbOk mixedW Tryz.func228 (by kernel_rfl) (callP (k_cpR l) <| .callx [.own 0, .fn 269 []] [(0, .arr 32 1 true (l.map eIntS))] [(0, 500)] (.tup []) [(0, .arr 32 1 true ((sortR l).map eIntS))] <| .callx [.own 0, .fn 271 []] [(0, .arr 32 1 true ((sortR l).map eIntS))] [(0, 500)] (.own 1) [(1, .arr 32 1 true ((dedR (sortR l)).map eIntS))] <| .fin [(0, 901)]) ?_
 refine Eq.mpr (by kernel_rfl : _ = ((l.map eIntS).length ≤ 9223372036854775807 → K_cpR l ∧ Con2 Tryz.prog 268 [.own 0, .fn 269 []] [(0, .arr 32 1 true (l.map eIntS))] (.tup []) [(0, .arr 32 1 true ((sortR l).map eIntS))] ∧ l.map eIntS = l.map eIntS ∧ Con2 Tryz.prog 270 [.own 0, .fn 271 []] [(0, .arr 32 1 true ((sortR l).map eIntS))] (.own 1) [(1, .arr 32 1 true ((dedR (sortR l)).map eIntS))] ∧ (sortR l).map eIntS = (sortR l).map eIntS ∧ (dedR (sortR l)).map eIntS = (dedR (sortR l)).map eIntS ∧ True)) ?_
 intro n0
 simp only [List.length_map] at n0
 have hlen := cIntSS_len l
 refine ⟨cpR _ (by omega), con_sort l (by omega), rfl, con_compact (sortR l) (by first | omega | (rw [sortR_len]; omega)), rfl, ?_⟩
 exact ⟨rfl, trivial⟩
end Go.Proofs.YtokkjaflmcjlhaaGreat
