/-
  Contracts and plain laws, joined: part 11.
-/
import Derived.Test.YtokkjaflmcjlhaaGreatQUpdateStore3
import Derived.Shelf.Sort.Plain
import Derived.Shelf.Slices.In.SortNone
import Derived.Sort.OwnSortedInts
import Derived.Shelf.SlicesE.Compact
import Derived.Ground.SlgnProg
import Derived.Test.YtokkjaflmcjlhaaGreatQUpdateStore9
namespace Go.Proofs
open Go.Shelf
namespace YtokkjaflmcjlhaaGreat
def Tryz.lays189_ren : Go.Shelf.Ren := ⟨fun | 189 => 248 | 125 => 278 | 257 => 277 | 128 => 296 | 129 => 297 | 294 => 287 | 295 => 288 | 296 => 289 | 297 => 290 | 298 => 291 | 299 => 292 | 216 => 293 | 300 => 294 | 301 => 295 | 328 => 309 | 329 => 310 | 330 => 311 | 331 => 312 | 332 => 313 | 215 => 314 | 343 => 318 | n => n, fun | 28 => 32 | 3 => 3 | 46 => 247 | 0 => 0 | 51 => 264 | 53 => 266 | 4 => 4 | 183 => 256 | 182 => 255 | 131 => 261 | 5 => 5 | 9 => 9 | 218 => 274 | 222 => 278 | 228 => 283 | 229 => 284 | n => n, fun | n => n⟩
theorem Tryz.lays189 : Go.Proofs.Lays.n189 Tryz.prog Tryz.lays189_ren := {
  mixed := by kernel_rfl
  f125 := Tryz.func278.trans (congrArg some (by kernel_rfl))
  f128 := Tryz.func296.trans (congrArg some (by kernel_rfl))
  f129 := Tryz.func297.trans (congrArg some (by kernel_rfl))
  f189 := Tryz.func248.trans (congrArg some (by kernel_rfl))
  f215 := Tryz.func314.trans (congrArg some (by kernel_rfl))
  f216 := Tryz.func293.trans (congrArg some (by kernel_rfl))
  f257 := Tryz.func277.trans (congrArg some (by kernel_rfl))
  f294 := Tryz.func287.trans (congrArg some (by kernel_rfl))
  f295 := Tryz.func288.trans (congrArg some (by kernel_rfl))
  f296 := Tryz.func289.trans (congrArg some (by kernel_rfl))
  f297 := Tryz.func290.trans (congrArg some (by kernel_rfl))
  f298 := Tryz.func291.trans (congrArg some (by kernel_rfl))
  f299 := Tryz.func292.trans (congrArg some (by kernel_rfl))
  f300 := Tryz.func294.trans (congrArg some (by kernel_rfl))
  f301 := Tryz.func295.trans (congrArg some (by kernel_rfl))
  f328 := Tryz.func309.trans (congrArg some (by kernel_rfl))
  f329 := Tryz.func310.trans (congrArg some (by kernel_rfl))
  f330 := Tryz.func311.trans (congrArg some (by kernel_rfl))
  f331 := Tryz.func312.trans (congrArg some (by kernel_rfl))
  f332 := Tryz.func313.trans (congrArg some (by kernel_rfl))
  f343 := Tryz.func318.trans (congrArg some (by kernel_rfl))
  t0 := Tryz.underlying0
  a0 := Tryz.isAgg0
  z0 := Tryz.sizeOf0
  v0 := Tryz.zeroValue0
  t3 := Tryz.underlying3
  a3 := Tryz.isAgg3
  z3 := Tryz.sizeOf3
  v3 := Tryz.zeroValue3
  t4 := Tryz.underlying4
  a4 := Tryz.isAgg4
  z4 := Tryz.sizeOf4
  v4 := Tryz.zeroValue4
  t5 := Tryz.underlying5
  a5 := Tryz.isAgg5
  z5 := Tryz.sizeOf5
  v5 := Tryz.zeroValue5
  t9 := Tryz.underlying9
  a9 := Tryz.isAgg9
  z9 := Tryz.sizeOf9
  v9 := Tryz.zeroValue9
  t28 := Tryz.underlying32
  a28 := Tryz.isAgg32
  z28 := Tryz.sizeOf32
  v28 := Tryz.zeroValue32
  t46 := Tryz.underlying247
  a46 := Tryz.isAgg247
  z46 := Tryz.sizeOf247
  v46 := Tryz.zeroValue247
  t51 := Tryz.underlying264
  a51 := Tryz.isAgg264
  z51 := Tryz.sizeOf264
  v51 := Tryz.zeroValue264
  t53 := Tryz.underlying266
  a53 := Tryz.isAgg266
  z53 := Tryz.sizeOf266
  v53 := Tryz.zeroValue266
  t131 := Tryz.underlying261
  a131 := Tryz.isAgg261
  z131 := Tryz.sizeOf261
  v131 := Tryz.zeroValue261
  t182 := Tryz.underlying255
  a182 := Tryz.isAgg255
  z182 := Tryz.sizeOf255
  v182 := Tryz.zeroValue255
  t183 := Tryz.underlying256
  a183 := Tryz.isAgg256
  z183 := Tryz.sizeOf256
  v183 := Tryz.zeroValue256
  t218 := Tryz.underlying274
  a218 := Tryz.isAgg274
  z218 := Tryz.sizeOf274
  v218 := Tryz.zeroValue274
  t222 := Tryz.underlying278
  a222 := Tryz.isAgg278
  z222 := Tryz.sizeOf278
  v222 := Tryz.zeroValue278
  t228 := Tryz.underlying283
  a228 := Tryz.isAgg283
  z228 := Tryz.sizeOf283
  v228 := Tryz.zeroValue283
  t229 := Tryz.underlying284
  a229 := Tryz.isAgg284
  z229 := Tryz.sizeOf284
  v229 := Tryz.zeroValue284 }
end YtokkjaflmcjlhaaGreat
end Go.Proofs
namespace Go.Proofs.YtokkjaflmcjlhaaGreat
open Go.ChangeShapes Go.WideShapes Go.ChangeAt Go.RowKit
set_option linter.unusedVariables false
set_option linter.unusedSimpArgs false
theorem owRs_ints {w : World} : ∀ {l : List Int} {css : List (List Value)} {Fs : List (List Nat)}, OwRs w 1 (l.map intD) css Fs → css.flatten = l.map (Value.int .i64) ∧ Fs.flatten = []
  | [], css, Fs, h => by
    simp only [List.map_nil] at h
    unfold OwRs at h
    rw [h.1, h.2]; simp
  | n :: l, css, Fs, h => by
    simp only [List.map_cons] at h
    unfold OwRs at h
    obtain ⟨c, css', F, Fs', rfl, rfl, _, h1, h2⟩ := h
    obtain ⟨q1, q2⟩ := owRs_ints h2
    unfold intD OwCs at h1
    obtain ⟨v, cs', F1, F2, rfl, rfl, h3, h4⟩ := h1
    unfold OwCs at h4
    unfold OwV at h3
    simp [q1, q2, h4.1, h4.2, h3.1, h3.2]
theorem owRs_of_ints (w : World) : ∀ (l : List Int), OwRs w 1 (l.map intD) (l.map fun n => [Value.int .i64 n]) (l.map fun _ => [])
  | [] => by simp only [List.map_nil]; unfold OwRs; exact ⟨rfl, rfl⟩
  | n :: l => by
    simp only [List.map_cons]
    unfold OwRs
    refine ⟨_, _, _, _, rfl, rfl, rfl, ?_, owRs_of_ints w l⟩
    unfold intD OwCs
    refine ⟨_, _, [], [], rfl, rfl, ?_, ?_⟩
    · unfold OwV; exact ⟨rfl, rfl⟩
    · unfold OwCs; exact ⟨rfl, rfl⟩
theorem flat_ints : ∀ (m : List Int), (m.map fun n => [Value.int .i64 n]).flatten = m.map (Value.int .i64)
  | [] => rfl
  | a :: l => by simp only [List.map_cons, List.flatten_cons, flat_ints l]; rfl
theorem con2_ints {P : Program} {f : FuncId} {e : Nat} (l m : List Int) (hc : callable P f = true) (hm : m.length = l.length)
    (hn0 : l = [] → ∀ w, Calls P f #[.slice none 0 0] w (fun ex w' => ex = .returned (.tuple #[]) ∧ w' = w))
    (hs : ∀ (blk cap : Nat) (w : World), Go.Sort.Holds (Value.int .i64) w blk 0 l.toArray → blk < w.heap.size → l.length ≤ cap → Calls P f #[.slice (some ⟨blk, 0, none⟩) l.length cap] w (fun ex w' => ex = .returned (.tuple #[]) ∧ ∃ n os, w' = Go.Sort.grow (Go.Sort.putRow (Value.int .i64) (Go.Sort.ahead w n) blk 0 m.toArray) os)) :
    Con2 P f [.own 0] [(0, .arr e 1 true (l.map intD))] (.tup []) [(0, .arr e 1 true (m.map intD))] := by
  refine ⟨hc, by simp, fun A φ w vs hI hM => ?_⟩
  obtain ⟨pl, hp, css, Fs, q1, q2, q3, q4⟩ := hI.dom 0 _ rfl
  unfold MatchL at hM
  obtain ⟨v, us, e1, m1, hM⟩ := hM
  unfold MatchL at hM
  unfold MatchV at m1
  have hv := m1 pl hp
  have ev : vs = #[pl.val] := by apply Array.ext'; rw [e1, hM, hv]
  rw [ev]
  obtain ⟨c1, c2⟩ := owRs_ints q4
  rw [c1, List.length_map] at q1
  have hge := hI.ge 0 pl hp
  have hsub : pl.sub = [] := by rw [q3, c2]
  have hfoot : ∀ b ∈ pl.F, AllF φ b := fun b hb => ⟨0, pl, trivial, hp, hb⟩
  have hend : ∀ (w' : World), Only pl.F w w' → w'.ownsRow 0 e 1 pl.val l.length (m.map (Value.int .i64)) →
      ∃ v K φ', Ending.returned (.tuple #[]) = .returned v ∧ Out2 A φ w [(0, .arr e 1 true (m.map intD))] K φ' w' ∧ MatchV K φ' w' (.tup []) v := by
    intro w' hon howns
    refine ⟨_, A, fun h => if h = 0 then some pl else none, rfl, ⟨⟨hon.os, hon.tape, hon.output, hon.size, fun b hb hn => hon.block b hb (fun hm => hn (hfoot b hm))⟩, fun _ h => h, fun b hb => ⟨Nat.lt_of_lt_of_le (hI.lt b hb) hon.size, .inl hb⟩, fun b hb h pl1 e' hm' => ?_, fun h r hr => ?_, fun h hr => ?_, fun h h' pl1 pl2 hne ea eb => ?_, fun h pl1 e' => ?_, fun h pl1 e' g hg => ?_, fun h pl1 pl0 e' e0 => ?_⟩, ?_⟩
    · split at e'
      · injection e' with e'; subst e'
        exact hI.out b hb 0 pl hp hm'
      · cases e'
    · simp only [findH] at hr
      split at hr
      · rename_i eh
        subst eh
        injection hr with hr
        subst hr
        refine ⟨pl, by simp, m.map fun n => [Value.int .i64 n], m.map fun _ => [], ?_, q2, ?_, owRs_of_ints _ m⟩
        · rw [flat_ints, List.length_map, hm]; exact howns
        · rw [hsub]; simp
      · cases hr
    · simp only [findH] at hr
      split at hr
      · cases hr
      · rename_i eh; exact if_neg eh
    · split at ea
      · split at eb
        · rename_i x y; exact absurd (x.trans y.symm) hne
        · cases eb
      · cases ea
    · split at e'
      · injection e' with e'; subst e'; exact hI.nodup 0 pl hp
      · cases e'
    · split at e'
      · injection e' with e'; subst e'
        exact ⟨.inr (hfoot g hg), Nat.lt_of_lt_of_le (hge g hg) hon.size⟩
      · cases e'
    · split at e'
      · rename_i eh
        subst eh
        rw [hp] at e0
        injection e0 with e0; injection e' with e'
        subst e0; subst e'
        exact ⟨rfl, rfl⟩
      · cases e'
    · unfold MatchV
      exact ⟨#[], rfl, by unfold MatchL; rfl⟩
  rcases q1.2 with ⟨hvn, hz⟩ | ⟨g, cap, cur, hvv, hg0, hb, hn, hcap, hsz, htk⟩
  · have hz' : l = [] := List.eq_nil_of_length_eq_zero hz
    rw [hvn]
    refine (hn0 hz' w).mono ?_
    rintro en w' ⟨rfl, rfl⟩
    have hm0 : m = [] := List.eq_nil_of_length_eq_zero (by rw [hm, hz])
    refine hend w' (Only.refl _ _) ?_
    rw [hvn, hm0, hz]
    exact ⟨by simp, .inl ⟨rfl, rfl⟩⟩
  · have hlt : g < w.heap.size := (Array.getElem?_eq_some_iff.1 hb).1
    have hH : Go.Sort.Holds (Value.int .i64) w g 0 l.toArray := holds_of_blockI hb (by rw [Nat.mul_one] at htk; exact htk)
    rw [hvv]
    refine (hs g cap w hH hlt hn).mono ?_
    rintro en w' ⟨rfl, n, os, rfl⟩
    have hgb := grownBy_sortedI (w := w) (g := g) (n := n) (os := os) m.toArray
    have hown := ownsRow_sortedI (n := n) (os := os) hm hg0 hb hn hcap hsz
    refine hend _ ⟨hgb.os, hgb.tape, hgb.output, hgb.size, fun k hk hne => hgb.block k hk (fun e => hne (by injection e with e; subst e; unfold Pl.F; rw [q2, hvv]; simp [Value.ownBlock]))⟩ ?_
    rw [hvv]; exact hown
def sortI (l : List Int) : List Int := l.mergeSort fun x y => decide (x ≤ y)
theorem sortI_perm (l : List Int) : (sortI l).Perm l := List.mergeSort_perm l _
theorem sortI_len (l : List Int) : (sortI l).length = l.length := (sortI_perm l).length_eq
theorem con_sortI (l : List Int) (hl : l.length < 4611686018427387904) : Con2 Tryz.prog 248 [.own 0] [(0, .arr 3 1 true (l.map intD))] (.tup []) [(0, .arr 3 1 true ((sortI l).map intD))] :=
  con2_ints l (sortI l) (by kernel_rfl) (sortI_len l)
    (fun h w => Any.slices_Sort_int_none Tryz.lays189 none 0 w)
    (fun blk cap w hH hblk _ => Any.slices_Sort_int Tryz.lays189 blk 0 cap l w hH hblk hl)
end Go.Proofs.YtokkjaflmcjlhaaGreat
namespace Go.Proofs
open Go.Shelf
namespace YtokkjaflmcjlhaaGreat
def Tryz.compInts_ren : Go.Shelf.Ren := ⟨fun | 43 => 273 | n => n, fun | 22 => 32 | 23 => 3 | 3 => 3 | 4 => 4 | 0 => 0 | n => n, fun | n => n⟩
theorem Tryz.compInts : Go.Proofs.SlLaysE.n43 Tryz.prog Tryz.compInts_ren := {
  mixed := by kernel_rfl
  f43 := ⟨Tryz.f273.name, by decide, Tryz.func273.trans (congrArg some (by kernel_rfl))⟩
  t0 := Tryz.underlying0
  a0 := Tryz.isAgg0
  z0 := Tryz.sizeOf0
  v0 := Tryz.zeroValue0
  t3 := Tryz.underlying3
  a3 := Tryz.isAgg3
  z3 := Tryz.sizeOf3
  v3 := Tryz.zeroValue3
  t4 := Tryz.underlying4
  a4 := Tryz.isAgg4
  z4 := Tryz.sizeOf4
  v4 := Tryz.zeroValue4
  t22 := Tryz.underlying32
  a22 := Tryz.isAgg32
  z22 := Tryz.sizeOf32
  v22 := Tryz.zeroValue32
  a23 := Tryz.isAgg3
  z23 := Tryz.sizeOf3 }
end YtokkjaflmcjlhaaGreat
end Go.Proofs
namespace Go.Proofs.YtokkjaflmcjlhaaGreat
open Go.ChangeShapes Go.WideShapes Go.ChangeAt Go.RowKit Go.Lib
set_option linter.unusedVariables false
set_option linter.unusedSimpArgs false
theorem con2_intsC {P : Program} {f : FuncId} {e : Nat} (l m : List Int) (hc : callable P f = true) (hm : m.length ≤ l.length) (hm0 : l = [] → m = [])
    (hn0 : l = [] → ∀ w, Calls P f #[.slice none 0 0] w (fun ex w' => ex = .returned (.slice none 0 0) ∧ w' = w))
    (hs : ∀ (blk cap : Nat) (w : World), Go.Sort.Holds (Value.int .i64) w blk 0 l.toArray → blk < w.heap.size → l.length ≤ cap → Calls P f #[.slice (some ⟨blk, 0, none⟩) l.length cap] w (fun ex w' => ex = .returned (.slice (some ⟨blk, 0, none⟩) m.length cap) ∧ ∃ n os z, (m ++ z).length = l.length ∧ w' = Go.Sort.grow (Go.Sort.putRow (Value.int .i64) (Go.Sort.ahead w n) blk 0 (m ++ z).toArray) os)) :
    Con2 P f [.own 0] [(0, .arr e 1 true (l.map intD))] (.own 1) [(1, .arr e 1 true (m.map intD))] := by
  refine ⟨hc, by simp, fun A φ w vs hI hM => ?_⟩
  obtain ⟨pl, hp, css, Fs, q1, q2, q3, q4⟩ := hI.dom 0 _ rfl
  unfold MatchL at hM
  obtain ⟨v, us, e1, m1, hM⟩ := hM
  unfold MatchL at hM
  unfold MatchV at m1
  have hv := m1 pl hp
  have ev : vs = #[pl.val] := by apply Array.ext'; rw [e1, hM, hv]
  rw [ev]
  obtain ⟨c1, c2⟩ := owRs_ints q4
  rw [c1, List.length_map] at q1
  have hge := hI.ge 0 pl hp
  have hsub : pl.sub = [] := by rw [q3, c2]
  have hfoot : ∀ b ∈ pl.F, AllF φ b := fun b hb => ⟨0, pl, trivial, hp, hb⟩
  have h1 : φ 1 = none := hI.non 1 rfl
  have hend : ∀ (v' : Value) (w' : World), Only pl.F w w' → (∀ b ∈ v'.ownBlock, b ∈ pl.val.ownBlock) → w'.ownsRow 0 e 1 v' m.length (m.map (Value.int .i64)) →
      ∃ v K φ', Ending.returned v' = .returned v ∧ Out2 A φ w [(1, .arr e 1 true (m.map intD))] K φ' w' ∧ MatchV K φ' w' (.own 1) v := by
    intro v' w' hon hvb howns
    let pl' : Pl := ⟨v', v'.ownBlock.toList, []⟩
    have hmem : ∀ g, g ∈ pl'.F → g ∈ pl.F := fun g hg => by
      unfold Pl.F
      simp only [pl', Pl.F, List.append_nil, Option.mem_toList] at hg
      rw [q2]
      exact List.mem_append_left _ (by rw [Option.mem_toList]; exact hvb g hg)
    have hnd' : pl'.F.Nodup := by simp only [pl', Pl.F, List.append_nil]; cases v'.ownBlock <;> simp
    refine ⟨_, A, fun h => if h = 1 then some pl' else none, rfl, ⟨⟨hon.os, hon.tape, hon.output, hon.size, fun b hb hn => hon.block b hb (fun hm => hn (hfoot b hm))⟩, fun _ h => h, fun b hb => ⟨Nat.lt_of_lt_of_le (hI.lt b hb) hon.size, .inl hb⟩, fun b hb h pl1 e' hm' => ?_, fun h r hr => ?_, fun h hr => ?_, fun h h' pl1 pl2 hne ea eb => ?_, fun h pl1 e' => ?_, fun h pl1 e' g hg => ?_, fun h pl1 pl0 e' e0 => ?_⟩, ?_⟩
    · split at e'
      · injection e' with e'; subst e'
        exact hI.out b hb 0 pl hp (hmem b hm')
      · cases e'
    · simp only [findH] at hr
      split at hr
      · rename_i eh
        subst eh
        injection hr with hr
        subst hr
        refine ⟨pl', by simp, m.map fun n => [Value.int .i64 n], m.map fun _ => [], ?_, rfl, ?_, owRs_of_ints _ m⟩
        · rw [flat_ints, List.length_map]; exact howns
        · simp [pl']
      · cases hr
    · simp only [findH] at hr
      split at hr
      · cases hr
      · rename_i eh; exact if_neg eh
    · split at ea
      · split at eb
        · rename_i x y; exact absurd (x.trans y.symm) hne
        · cases eb
      · cases ea
    · split at e'
      · injection e' with e'; subst e'; exact hnd'
      · cases e'
    · split at e'
      · injection e' with e'; subst e'
        have := hmem g hg
        exact ⟨.inr (hfoot g this), Nat.lt_of_lt_of_le (hge g this) hon.size⟩
      · cases e'
    · split at e'
      · rename_i eh
        subst eh
        rw [h1] at e0; cases e0
      · cases e'
    · unfold MatchV
      intro pl1 e'
      simp at e'
      subst e'
      rfl
  rcases q1.2 with ⟨hvn, hz⟩ | ⟨g, cap, cur, hvv, hg0, hb, hn, hcap, hsz, htk⟩
  · have hz' : l = [] := List.eq_nil_of_length_eq_zero hz
    rw [hvn]
    refine (hn0 hz' w).mono ?_
    rintro en w' ⟨rfl, rfl⟩
    refine hend (.slice none 0 0) w' (Only.refl _ _) (fun b hb => by cases hb) ?_
    rw [hm0 hz']
    exact ⟨by simp, .inl ⟨rfl, rfl⟩⟩
  · have hlt : g < w.heap.size := (Array.getElem?_eq_some_iff.1 hb).1
    have hH : Go.Sort.Holds (Value.int .i64) w g 0 l.toArray := holds_of_blockI hb (by rw [Nat.mul_one] at htk; exact htk)
    rw [hvv]
    refine (hs g cap w hH hlt hn).mono ?_
    rintro en w' ⟨rfl, n, os, z, hz, rfl⟩
    have hgb := grownBy_sortedI (w := w) (g := g) (n := n) (os := os) (m ++ z).toArray
    have hown := ownsRow_sortedI (n := n) (os := os) hz hg0 hb hn hcap hsz
    refine hend _ _ ⟨hgb.os, hgb.tape, hgb.output, hgb.size, fun k hk hne => hgb.block k hk (fun e => hne (by injection e with e; subst e; unfold Pl.F; rw [q2, hvv]; simp [Value.ownBlock]))⟩ (fun b hb' => by rw [hvv]; exact hb') ?_
    rcases hown.2 with ⟨hvn, _⟩ | ⟨g', cap', cur', hv', hg', hb', hn', hcap', hsz', htk'⟩
    · cases hvn
    · simp only [Value.slice.injEq, Option.some.injEq, Addr.mk.injEq, and_true] at hv'
      obtain ⟨rfl, _, rfl⟩ := hv'
      refine ⟨by simp, .inr ⟨g, cap, cur', rfl, hg', hb', by omega, hcap', hsz', ?_⟩⟩
      rw [Nat.mul_one] at *
      have h3 := congrArg (List.take m.length) htk'
      rw [List.take_take, Nat.min_eq_left hm, List.map_append, List.take_append_of_le_length (by simp)] at h3
      rw [h3, List.take_of_length_le (by simp)]
def compI (l : List Int) : List Int := compactUpTo l.toArray l.toArray.size
theorem compI_le (l : List Int) : (compI l).length ≤ l.length := by
  unfold compI compactUpTo
  rw [List.length_map]
  have := (List.filter_sublist (l := List.range l.toArray.size) (p := keeps l.toArray)).length_le
  simpa using this
theorem compI_nil {l : List Int} : compI l = [] ↔ l = [] := by
  constructor
  · intro h
    by_cases e : l = []
    · exact e
    · exfalso
      have hp : 0 < l.length := List.length_pos_iff.2 e
      unfold compI compactUpTo at h
      rw [List.map_eq_nil_iff, List.filter_eq_nil_iff] at h
      exact h 0 (List.mem_range.2 (by simpa using hp)) (keeps_lt_one _ 0 (by omega))
  · rintro rfl; rfl
theorem tyI : tyOf Tryz.prog 3 = some (false, 1, 8, .int .i64 0) := by kernel_rfl
theorem zeroI (w : World) : (zeroValue 3).run Tryz.prog w = .ok (.int .i64 0) w := (tyOf_spec tyI w).2.2.1
theorem con_compI (l : List Int) (hl : l.length < 4611686018427387904) : Con2 Tryz.prog 273 [.own 0] [(0, .arr 3 1 true (l.map intD))] (.own 1) [(1, .arr 3 1 true ((compI l).map intD))] :=
  con2_intsC l (compI l) (by kernel_rfl) (compI_le l) (fun h => compI_nil.2 h)
    (fun h w => by
      go_enter Tryz.func273, Tryz.ntmps273
      go_wp2
      go_ret
      exact ⟨rfl, rfl⟩)
    (fun blk cap w hH hblk hn => (AnyE.slices_Compact Tryz.compInts (Value.int .i64) (fun _ => rfl) (EqlAt.intD _ _ .i64) (NeqAt.intD _ _ .i64) 0 (fun w => zeroI w) blk 0 cap l.toArray w hH (by rw [List.size_toArray]; omega) (by rw [List.size_toArray]; exact hn)).mono fun e w' ⟨he, q, hw⟩ =>
      ⟨by have e1 : l.toArray.size = l.length := by simp
          rw [e1] at he; unfold compI; rw [e1]; exact he, q, #[], List.replicate (l.length - (compI l).length) 0, by have := compI_le l; simp; omega, by rw [hw, Go.Sort.grow_empty]; simp [compI]⟩)
end Go.Proofs.YtokkjaflmcjlhaaGreat
namespace Go.Proofs.YtokkjaflmcjlhaaGreat
open Go.ChangeShapes Go.WideShapes Go.ChangeAt Go.RowKit
set_option linter.unusedVariables false
set_option linter.unusedSimpArgs false
set_option maxRecDepth 100000
set_option maxHeartbeats 4000000
def okInc (d : DatabaseD) (x : InclusionD) : Bool := (lookT d x.name).2 && ((lookT d x.into).2 && (inB x.column 0 ((lookT d x.name).1.arity - 1) && inB x.intoColumn 0 ((lookT d x.into).1.arity - 1)))
def colOf (rows : List (List Int)) (c : Int) : List Int := rows.map fun r => r.getD c.toNat 0
def missL (d : DatabaseD) (x : InclusionD) : List Int := (colOf (lookT d x.name).1.rows x.column).filter fun v => !decide (v ∈ colOf (lookT d x.into).1.rows x.intoColumn)
def missI (d : DatabaseD) (x : InclusionD) : List Int := if okInc d x = true then compI (sortI (missL d x)) else []
def missB (d : DatabaseD) (x : InclusionD) (v : Nat) : Bool := decide ((v : Int) ∈ colOf (lookT d x.name).1.rows x.column) && !decide ((v : Int) ∈ colOf (lookT d x.into).1.rows x.intoColumn)
def missN (d : DatabaseD) (x : InclusionD) (n : Nat) : List Int := ((List.range n).filter (missB d x)).map fun v : Nat => (v : Int)
def missS (d : DatabaseD) (x : InclusionD) : List Int := if okInc d x = true then missN d x 10 else []
def incOk (d : DatabaseD) (x : InclusionD) : Bool := okInc d x && decide (missL d x = [])
theorem missN_yes {d : DatabaseD} {x : InclusionD} {v : Nat} (h : missB d x v = true) : missN d x (v + 1) = missN d x v ++ [(v : Int)] := by
  rw [missN, List.range_succ, List.filter_append, List.map_append]
  simp [missN, h]
theorem missN_no {d : DatabaseD} {x : InclusionD} {v : Nat} (h : missB d x v = false) : missN d x (v + 1) = missN d x v := by
  rw [missN, List.range_succ, List.filter_append, List.map_append]
  simp [missN, h]
theorem missN_len (d : DatabaseD) (x : InclusionD) (v : Nat) : (missN d x v).length ≤ v := by
  rw [missN, List.length_map]
  have := List.length_filter_le (missB d x) (List.range v)
  rwa [List.length_range] at this
theorem colOf_snoc (rows : List (List Int)) (c : Int) {k : Nat} {r : List Int} (h : rows[k]? = some r) : colOf (rows.take (k + 1)) c = colOf (rows.take k) c ++ [r.getD c.toNat 0] := by rw [take_snoc h, colOf, List.map_append]; rfl
theorem mem_snoc {l : List Int} {v y : Int} : decide (v ∈ l ++ [y]) = (decide (v ∈ l) || decide (v = y)) := by simp [Bool.decide_or]
theorem colOf_val {t : TableD} {c : Int} {v : Int} (h : okTable t = true) (hc : 0 ≤ c ∧ c ≤ t.arity - 1) (hv : v ∈ colOf t.rows c) : 0 ≤ v ∧ v ≤ 9 := by
  obtain ⟨r, hr, rfl⟩ := List.mem_map.1 hv
  have hl := row_len h hr
  have hk := List.all_eq_true.1 (okTable_parts h).1 r hr
  simp only [okRow, Bool.and_eq_true, decide_eq_true_eq] at hk
  have hlt : c.toNat < r.length := by omega
  have hm : r.getD c.toNat 0 ∈ r := by rw [List.getD_eq_getElem?_getD, List.getElem?_eq_getElem hlt]; exact List.getElem_mem hlt
  exact inB_true (List.all_eq_true.1 hk.1 _ hm)
theorem okInc_parts {d : DatabaseD} {x : InclusionD} (h : okInc d x = true) : okTable (lookT d x.name).1 = true ∧ okTable (lookT d x.into).1 = true ∧ (0 ≤ x.column ∧ x.column ≤ (lookT d x.name).1.arity - 1) ∧ (0 ≤ x.intoColumn ∧ x.intoColumn ≤ (lookT d x.into).1.arity - 1) := by
  simp only [okInc, Bool.and_eq_true] at h
  obtain ⟨h1, h2, h3, h4⟩ := h
  exact ⟨(lookT_ok h1).1, (lookT_ok h2).1, inB_true h3, inB_true h4⟩
theorem missI_nil {d : DatabaseD} {x : InclusionD} (h : okInc d x = true) : decide (missI d x = []) = decide (missL d x = []) := by
  rw [missI, if_pos h]
  apply Bool.eq_iff_iff.2
  rw [decide_eq_true_eq, decide_eq_true_eq, compI_nil]
  constructor
  · intro q
    have := sortI_len (missL d x)
    rw [q] at this
    exact List.eq_nil_of_length_eq_zero this.symm
  · intro q
    have := sortI_len (missL d x)
    rw [q] at this
    rw [q]
    exact List.eq_nil_of_length_eq_zero this
theorem missS_nil {d : DatabaseD} {x : InclusionD} (h : okInc d x = true) : decide (missS d x = []) = decide (missL d x = []) := by
  obtain ⟨h1, _, h3, _⟩ := okInc_parts h
  rw [missS, if_pos h]
  apply Bool.eq_iff_iff.2
  rw [decide_eq_true_eq, decide_eq_true_eq, missN, List.map_eq_nil_iff, List.filter_eq_nil_iff, missL, List.filter_eq_nil_iff]
  constructor
  · intro q v hv hb
    have hr := colOf_val h1 h3 hv
    refine q v.toNat (List.mem_range.2 (by omega)) ?_
    rw [missB, Int.toNat_of_nonneg hr.1]
    simp only [Bool.and_eq_true, decide_eq_true_eq]
    exact ⟨hv, hb⟩
  · intro q v _ hb
    rw [missB, Bool.and_eq_true, decide_eq_true_eq] at hb
    exact q _ hb.1 hb.2
abbrev K_okInc_impl (d : DatabaseD) (x : InclusionD) : Prop := Con Tryz.prog 233 [.agg [.sl 162 3 (d.tables.map eTable)], .agg [.str x.name, .int .i64 x.column, .str x.into, .int .i64 x.intoColumn]] (vB (okInc d x)) []
theorem okInc_impl (d : DatabaseD) (x : InclusionD) (hc : cDatabase d ≤ 1048576) : K_okInc_impl d x := by
 refine con_x tbOk mixedW Tryz.func233 (by kernel_rfl) (.call (.tup [.agg [.p none (.str (((lookT d x.name).1).name)), vI (((lookT d x.name).1).arity), .p none (.sl 32 1 ((((lookT d x.name).1).rows).map eIntS))], vB ((lookT d x.name).2)]) [] <| .call (.tup [.agg [.p none (.str (((lookT d x.into).1).name)), vI (((lookT d x.into).1).arity), .p none (.sl 32 1 ((((lookT d x.into).1).rows).map eIntS))], vB ((lookT d x.into).2)]) [] <| .br (.lit <| .br (.raw <| .call (vB (inB x.column (0 : Int) (IntKind.i64.wrap ((((lookT d x.name).1).arity) - (1 : Int))))) [] <| .lit <| .br (.raw <| .call (vB (inB x.intoColumn (0 : Int) (IntKind.i64.wrap ((((lookT d x.into).1).arity) - (1 : Int))))) [] <| .fin []) (.fin [])) (.fin [])) (.fin [])) ?_
 refine Eq.mpr (by kernel_rfl : _ = ((d.tables.map eTable).length ≤ 9223372036854775807 → Con Tryz.prog 148 [.agg [.sl 162 3 (d.tables.map eTable)], .one (.str x.name)] (.tup [.agg [.p none (.str (((lookT d x.name).1).name)), vI (((lookT d x.name).1).arity), .p none (.sl 32 1 ((((lookT d x.name).1).rows).map eIntS))], vB ((lookT d x.name).2)]) [] ∧ (Con Tryz.prog 148 [.agg [.sl 162 3 (d.tables.map eTable)], .one (.str x.into)] (.tup [.agg [.p none (.str (((lookT d x.into).1).name)), vI (((lookT d x.into).1).arity), .p none (.sl 32 1 ((((lookT d x.into).1).rows).map eIntS))], vB ((lookT d x.into).2)]) [] ∧ ((((lookT d x.name).2) = true → (((lookT d x.into).2) = true → K_in_impl x.column (0 : Int) (IntKind.i64.wrap ((((lookT d x.name).1).arity) - (1 : Int))) ∧ (((inB x.column (0 : Int) (IntKind.i64.wrap ((((lookT d x.name).1).arity) - (1 : Int)))) = true → K_in_impl x.intoColumn (0 : Int) (IntKind.i64.wrap ((((lookT d x.into).1).arity) - (1 : Int))) ∧ (inB x.intoColumn (0 : Int) (IntKind.i64.wrap ((((lookT d x.into).1).arity) - (1 : Int)))) = (okInc d x) ∧ True) ∧ ((inB x.column (0 : Int) (IntKind.i64.wrap ((((lookT d x.name).1).arity) - (1 : Int)))) = false → (false) = (okInc d x) ∧ True))) ∧ (((lookT d x.into).2) = false → (false) = (okInc d x) ∧ True)) ∧ (((lookT d x.name).2) = false → (false) = (okInc d x) ∧ True))))) ?_
 intro n0
 simp only [List.length_map] at n0
 refine ⟨con_stl (lkT_impl _ x.name (by omega)) rfl, con_stl (lkT_impl _ x.into (by omega)) rfl, fun g24 => ?_, fun g24 => ?_⟩
 ·have hT := (lookT_ok g24).1
  have hA := okTable_arity hT
  have hw : IntKind.i64.wrap ((lookT d x.name).1.arity - 1) = (lookT d x.name).1.arity - 1 := IntWalk.i64_in _ ⟨by omega, by omega⟩
  try rw [hw]
  refine ⟨fun g27 => ?_, fun g27 => ?_⟩
  ·have hT2 := (lookT_ok g27).1
   have hA2 := okTable_arity hT2
   have hw2 : IntKind.i64.wrap ((lookT d x.into).1.arity - 1) = (lookT d x.into).1.arity - 1 := IntWalk.i64_in _ ⟨by omega, by omega⟩
   try rw [hw2]
   refine ⟨in_impl _ _ _, fun g35 => ?_, fun g35 => ?_⟩
   ·refine ⟨in_impl _ _ _, ?_, trivial⟩
    ·first | (simp [okInc, *]; done) | (simp [okInc, *] at *; simp [*]; done) | (simp_all [okInc]; done)
   ·refine ⟨?_, trivial⟩
    ·first | (simp [okInc, *]; done) | (simp [okInc, *] at *; simp [*]; done) | (simp_all [okInc]; done)
  ·refine ⟨?_, trivial⟩
   ·first | (simp [okInc, *]; done) | (simp [okInc, *] at *; simp [*]; done) | (simp_all [okInc]; done)
 ·refine ⟨?_, trivial⟩
  ·first | (simp [okInc, *]; done) | (simp [okInc, *] at *; simp [*]; done) | (simp_all [okInc]; done)
abbrev K_okInc_spec (d : DatabaseD) (x : InclusionD) : Prop := Con Tryz.prog 214 [.agg [.sl 162 3 (d.tables.map eTable)], .agg [.str x.name, .int .i64 x.column, .str x.into, .int .i64 x.intoColumn]] (vB (okInc d x)) []
theorem okInc_spec (d : DatabaseD) (x : InclusionD) (hc : cDatabase d ≤ 1048576) : K_okInc_spec d x := by
 refine con_x tbOk mixedW Tryz.func214 (by kernel_rfl) (.call (.tup [.agg [.p none (.str (((lookT d x.name).1).name)), vI (((lookT d x.name).1).arity), .p none (.sl 32 1 ((((lookT d x.name).1).rows).map eIntS))], vB ((lookT d x.name).2)]) [] <| .call (.tup [.agg [.p none (.str (((lookT d x.into).1).name)), vI (((lookT d x.into).1).arity), .p none (.sl 32 1 ((((lookT d x.into).1).rows).map eIntS))], vB ((lookT d x.into).2)]) [] <| .br (.lit <| .br (.raw <| .call (vB (inB x.column (0 : Int) (IntKind.i64.wrap ((((lookT d x.name).1).arity) - (1 : Int))))) [] <| .lit <| .br (.raw <| .call (vB (inB x.intoColumn (0 : Int) (IntKind.i64.wrap ((((lookT d x.into).1).arity) - (1 : Int))))) [] <| .fin []) (.fin [])) (.fin [])) (.fin [])) ?_
 refine Eq.mpr (by kernel_rfl : _ = ((d.tables.map eTable).length ≤ 9223372036854775807 → Con Tryz.prog 132 [.agg [.sl 162 3 (d.tables.map eTable)], .one (.str x.name)] (.tup [.agg [.p none (.str (((lookT d x.name).1).name)), vI (((lookT d x.name).1).arity), .p none (.sl 32 1 ((((lookT d x.name).1).rows).map eIntS))], vB ((lookT d x.name).2)]) [] ∧ (Con Tryz.prog 132 [.agg [.sl 162 3 (d.tables.map eTable)], .one (.str x.into)] (.tup [.agg [.p none (.str (((lookT d x.into).1).name)), vI (((lookT d x.into).1).arity), .p none (.sl 32 1 ((((lookT d x.into).1).rows).map eIntS))], vB ((lookT d x.into).2)]) [] ∧ ((((lookT d x.name).2) = true → (((lookT d x.into).2) = true → K_in_spec x.column (0 : Int) (IntKind.i64.wrap ((((lookT d x.name).1).arity) - (1 : Int))) ∧ (((inB x.column (0 : Int) (IntKind.i64.wrap ((((lookT d x.name).1).arity) - (1 : Int)))) = true → K_in_spec x.intoColumn (0 : Int) (IntKind.i64.wrap ((((lookT d x.into).1).arity) - (1 : Int))) ∧ (inB x.intoColumn (0 : Int) (IntKind.i64.wrap ((((lookT d x.into).1).arity) - (1 : Int)))) = (okInc d x) ∧ True) ∧ ((inB x.column (0 : Int) (IntKind.i64.wrap ((((lookT d x.name).1).arity) - (1 : Int)))) = false → (false) = (okInc d x) ∧ True))) ∧ (((lookT d x.into).2) = false → (false) = (okInc d x) ∧ True)) ∧ (((lookT d x.name).2) = false → (false) = (okInc d x) ∧ True))))) ?_
 intro n0
 simp only [List.length_map] at n0
 refine ⟨con_stl (lkT_spec _ x.name (by omega)) rfl, con_stl (lkT_spec _ x.into (by omega)) rfl, fun g24 => ?_, fun g24 => ?_⟩
 ·have hT := (lookT_ok g24).1
  have hA := okTable_arity hT
  have hw : IntKind.i64.wrap ((lookT d x.name).1.arity - 1) = (lookT d x.name).1.arity - 1 := IntWalk.i64_in _ ⟨by omega, by omega⟩
  try rw [hw]
  refine ⟨fun g27 => ?_, fun g27 => ?_⟩
  ·have hT2 := (lookT_ok g27).1
   have hA2 := okTable_arity hT2
   have hw2 : IntKind.i64.wrap ((lookT d x.into).1.arity - 1) = (lookT d x.into).1.arity - 1 := IntWalk.i64_in _ ⟨by omega, by omega⟩
   try rw [hw2]
   refine ⟨in_spec _ _ _, fun g35 => ?_, fun g35 => ?_⟩
   ·refine ⟨in_spec _ _ _, ?_, trivial⟩
    ·first | (simp [okInc, *]; done) | (simp [okInc, *] at *; simp [*]; done) | (simp_all [okInc]; done)
   ·refine ⟨?_, trivial⟩
    ·first | (simp [okInc, *]; done) | (simp [okInc, *] at *; simp [*]; done) | (simp_all [okInc]; done)
  ·refine ⟨?_, trivial⟩
   ·first | (simp [okInc, *]; done) | (simp [okInc, *] at *; simp [*]; done) | (simp_all [okInc]; done)
 ·refine ⟨?_, trivial⟩
  ·first | (simp [okInc, *]; done) | (simp [okInc, *] at *; simp [*]; done) | (simp_all [okInc]; done)
abbrev k_viol_impl (d : DatabaseD) (f : DependencyD) : AV × List (Nat × Rs) := (.own 0, [(0, .arr 3 1 true ((violL d f).map intD))])
abbrev K_viol_impl (d : DatabaseD) (f : DependencyD) : Prop := Con Tryz.prog 232 [.agg [.sl 162 3 (d.tables.map eTable)], .agg [.str f.name, .sl 3 1 (f.src.map intD), .int .i64 f.dst]] (k_viol_impl d f).1 (k_viol_impl d f).2
theorem viol_impl (d : DatabaseD) (f : DependencyD) (hc : cDatabase d ≤ 1048576) : K_viol_impl d f := by
 refine con_x tbOk mixedW Tryz.func232 (by kernel_rfl) (.call (vB (okDep d f)) [] <| .br (.fin []) (.call (.tup [.agg [.p none (.str (((lookT d f.name).1).name)), vI (((lookT d f.name).1).arity), .p none (.sl 32 1 ((((lookT d f.name).1).rows).map eIntS))], vB ((lookT d f.name).2)]) [] <| .len ((((lookT d f.name).1).rows).length) <| .loop Nat (Q1 Nat) [7, 8, 9, 10, 11, 12, 13, 14, 29, 30, 31, 32, 33, 34, 35, 36, 37, 38, 39, 40, 41, 42, 43, 44, 45, 46, 47, 48, 49, 50, 51, 52, 53, 54, 55, 56, 57, 58, 59, 60, 61, 62, 63, 64, 65, 66, 67, 68, 69, 70, 71, 72, 73, 77, 78] [4800, 5500] (fun k => [(29, vI (k : Int))]) (fun k => []) (fun k => k ≤ (lookT d f.name).1.rows.length ∧ violK (lookT d f.name).1.rows f.src f.dst k = []) (fun k => (lookT d f.name).1.rows.length - k) (fun k => .br (.elem _ eIntS (((lookT d f.name).1).rows) (fun e32 => .sub (List Int) eIntS (((lookT d f.name).1).rows) <| .len (((((lookT d f.name).1).rows).take k).length) <| .loop Nat (Q1 Nat) [9, 10, 11, 12, 13, 14, 39, 40, 41, 42, 43, 44, 45, 46, 47, 48, 49, 50, 51, 52, 53, 54, 55, 56, 57, 58, 59, 60, 61, 62, 63, 64, 65, 66, 67, 68, 69, 70, 71, 72, 73, 77] [4800, 5500] (fun i => [(39, vI (i : Int))]) (fun i => []) (fun i => i ≤ k ∧ violI (lookT d f.name).1.rows f.src f.dst k i = []) (fun i => k - i) (fun i => .br (.elem _ eIntS ((((lookT d f.name).1).rows).take k) (fun e42 => callP (k_sel_impl e42 f.src) <| callP (k_sel_impl e32 f.src) <| .call (vB (decide (((selR e42 f.src).1) = ((selR e32 f.src).1)))) [] <| .br (.elem _ intD e42 (fun e65 => .elem _ intD e32 (fun e70 => .lit <| .lit <| .lit <| .br (.fin [(0, 7600)]) (.back [])))) (.back []))) (.back [])))) (.fin [])))) ?_
 refine Eq.mpr (by kernel_rfl : _ = ((d.tables.map eTable).length ≤ 9223372036854775807 → (f.src.map intD).length ≤ 9223372036854775807 → K_okDep_impl d f ∧ (((!(okDep d f)) = true → [] = (violL d f).map intD ∧ True) ∧ ((!(okDep d f)) = false → Con Tryz.prog 148 [.agg [.sl 162 3 (d.tables.map eTable)], .one (.str f.name)] (.tup [.agg [.p none (.str (((lookT d f.name).1).name)), vI (((lookT d f.name).1).arity), .p none (.sl 32 1 ((((lookT d f.name).1).rows).map eIntS))], vB ((lookT d f.name).2)]) [] ∧ (Lm eIntS (((lookT d f.name).1).rows) ∧ ((∃ (k : Nat), (0 : Int) = (k : Int) ∧ k ≤ (lookT d f.name).1.rows.length ∧ violK (lookT d f.name).1.rows f.src f.dst k = []) ∧ ∀ (k : Nat), (k ≤ (lookT d f.name).1.rows.length ∧ violK (lookT d f.name).1.rows f.src f.dst k = []) → ((decide ((k : Int) < (((((lookT d f.name).1).rows).length : Nat) : Int))) = true → 0 ≤ (k : Int) ∧ Em eIntS (((lookT d f.name).1).rows) k fun e32 => (((lookT d f.name).1).rows).map eIntS = (((lookT d f.name).1).rows).map eIntS ∧ 0 ≤ (k : Int) ∧ (k : Int) ≤ (((((lookT d f.name).1).rows).length : Nat) : Int) ∧ (Lm eIntS ((((lookT d f.name).1).rows).take k) ∧ ((∃ (i : Nat), (0 : Int) = (i : Int) ∧ i ≤ k ∧ violI (lookT d f.name).1.rows f.src f.dst k i = []) ∧ ∀ (i : Nat), (i ≤ k ∧ violI (lookT d f.name).1.rows f.src f.dst k i = []) → ((decide ((i : Int) < ((((((lookT d f.name).1).rows).take k).length : Nat) : Int))) = true → 0 ≤ (i : Int) ∧ Em eIntS ((((lookT d f.name).1).rows).take k) i fun e42 => K_sel_impl e42 f.src ∧ (K_sel_impl e32 f.src ∧ (K_eqs_Int ((selR e42 f.src).1) ((selR e32 f.src).1) ∧ (((decide (((selR e42 f.src).1) = ((selR e32 f.src).1))) = true → 0 ≤ f.dst ∧ Em intD e42 ((f.dst).toNat) fun e65 => 0 ≤ f.dst ∧ Em intD e32 ((f.dst).toNat) fun e70 => ((!(decide (e65 = e70))) = true → [[.int .i64 (i : Int)], [.int .i64 (k : Int)]] = (violL d f).map intD ∧ True) ∧ ((!(decide (e65 = e70))) = false → inR ((i : Int) + (1 : Int)) ∧ ∃ (i' : Nat), ((i : Int) + (1 : Int)) = (i' : Int) ∧ (i' ≤ k ∧ violI (lookT d f.name).1.rows f.src f.dst k i' = []) ∧ k - i' < k - i)) ∧ ((decide (((selR e42 f.src).1) = ((selR e32 f.src).1))) = false → inR ((i : Int) + (1 : Int)) ∧ ∃ (i' : Nat), ((i : Int) + (1 : Int)) = (i' : Int) ∧ (i' ≤ k ∧ violI (lookT d f.name).1.rows f.src f.dst k i' = []) ∧ k - i' < k - i))))) ∧ ((decide ((i : Int) < ((((((lookT d f.name).1).rows).take k).length : Nat) : Int))) = false → inR ((k : Int) + (1 : Int)) ∧ ∃ (k' : Nat), ((k : Int) + (1 : Int)) = (k' : Int) ∧ (k' ≤ (lookT d f.name).1.rows.length ∧ violK (lookT d f.name).1.rows f.src f.dst k' = []) ∧ (lookT d f.name).1.rows.length - k' < (lookT d f.name).1.rows.length - k)))) ∧ ((decide ((k : Int) < (((((lookT d f.name).1).rows).length : Nat) : Int))) = false → [] = (violL d f).map intD ∧ True))))))) ?_
 intro n0 n1
 simp only [List.length_map] at n0 n1
 refine ⟨okDep_impl _ _ (by omega), fun c0 => ?_, fun c0 => ?_⟩
 ·replace c0 := nt c0
  have hbad : violL d f = [] := by rw [violL, if_neg (by simpa using c0)]
  refine ⟨?_, trivial⟩
  ·first | (rw [hbad] <;> rfl) | (rw [hE] <;> rfl) | (rw [hV, hE] <;> rfl)
 ·replace c0 := nf c0
  have hok : okDep d f = true := by simpa using c0
  obtain ⟨hT, hd0, hd1, hsl⟩ := okDep_parts hok
  have hT8 := okTable_arity hT
  have hV : violL d f = violK (lookT d f.name).1.rows f.src f.dst (lookT d f.name).1.rows.length := by rw [violL, if_pos hok]
  refine ⟨con_stl (lkT_impl _ f.name (by omega)) rfl, List.length_map _, ⟨0, rfl, Nat.zero_le _, rfl⟩, fun k ⟨hk, hv⟩ => ?_⟩
  refine ⟨fun c1 => ?_, fun c1 => ?_⟩
  ·replace c1 := yq c1
   refine ⟨by omega, rfl, by first | omega | (simp only [List.length_take]; omega), fun e32 h32 => ?_⟩
   have hl32 := row_len hT (List.mem_of_getElem? h32)
   refine ⟨rfl, by omega, by first | omega | (simp only [List.length_take]; omega), List.length_map _, ⟨0, rfl, Nat.zero_le _, rfl⟩, fun i ⟨hi, hw⟩ => ?_⟩
   have htl : ((lookT d f.name).1.rows.take k).length = k := by rw [List.length_take]; omega
   refine ⟨fun c2 => ?_, fun c2 => ?_⟩
   ·replace c2 := yq c2
    refine ⟨by omega, rfl, by first | omega | (simp only [List.length_take]; omega), fun e42 h42 => ?_⟩
    have hx : (lookT d f.name).1.rows[i]? = some e42 := by rw [List.getElem?_take_of_lt (by omega)] at h42; exact h42
    have hl42 := row_len hT (List.mem_of_getElem? hx)
    have hb := badP_at (cols := f.src) (c := f.dst) hx h32
    refine ⟨sel_impl _ _ (by omega), sel_impl _ _ (by omega), eqs_Int _ _, fun g61 => ?_, fun g61 => ?_⟩
    ·replace g61 := yq g61
     refine ⟨by omega, rfl, by first | omega | (simp only [List.length_take]; omega), fun e65 h65 => ?_⟩
     refine ⟨by omega, rfl, by first | omega | (simp only [List.length_take]; omega), fun e70 h70 => ?_⟩
     refine ⟨fun c3 => ?_, fun c3 => ?_⟩
     ·replace c3 := nq (nt c3)
      have hB : badP (lookT d f.name).1.rows f.src f.dst i k = true := by rw [hb, getD_at h65, getD_at h70]; simp [*]
      have hE := viol_found hv hw hB (by omega) (by omega : k < (lookT d f.name).1.rows.length)
      refine ⟨?_, trivial⟩
      ·first | (rw [hbad] <;> rfl) | (rw [hE] <;> rfl) | (rw [hV, hE] <;> rfl)
     ·replace c3 := yq (nf c3)
      refine ⟨⟨by omega, by omega⟩, ?_⟩
      exact ⟨i + 1, rfl, ⟨by omega, violI_no hw (by rw [hb]; first | (simp [g61]; done) | (rw [getD_at h65, getD_at h70]; simp [*]; done))⟩, by omega⟩
    ·replace g61 := nq g61
     refine ⟨⟨by omega, by omega⟩, ?_⟩
     exact ⟨i + 1, rfl, ⟨by omega, violI_no hw (by rw [hb]; first | (simp [g61]; done) | (rw [getD_at h65, getD_at h70]; simp [*]; done))⟩, by omega⟩
   ·replace c2 := nq c2
    refine ⟨⟨by omega, by omega⟩, ?_⟩
    exact ⟨k + 1, rfl, ⟨by omega, violK_next hv (by obtain rfl : i = k := (by omega); exact hw)⟩, by omega⟩
  ·replace c1 := nq c1
   have hE : violL d f = [] := by rw [hV, show (lookT d f.name).1.rows.length = k by omega, hv]
   refine ⟨?_, trivial⟩
   ·first | (rw [hbad] <;> rfl) | (rw [hE] <;> rfl) | (rw [hV, hE] <;> rfl)
abbrev k_viol_spec (d : DatabaseD) (f : DependencyD) : AV × List (Nat × Rs) := (.own 0, [(0, .arr 3 1 true ((violL d f).map intD))])
abbrev K_viol_spec (d : DatabaseD) (f : DependencyD) : Prop := Con Tryz.prog 213 [.agg [.sl 162 3 (d.tables.map eTable)], .agg [.str f.name, .sl 3 1 (f.src.map intD), .int .i64 f.dst]] (k_viol_spec d f).1 (k_viol_spec d f).2
theorem viol_spec (d : DatabaseD) (f : DependencyD) (hc : cDatabase d ≤ 1048576) : K_viol_spec d f := by
 refine con_x tbOk mixedW Tryz.func213 (by kernel_rfl) (.call (.tup [.agg [.p none (.str (((lookT d f.name).1).name)), vI (((lookT d f.name).1).arity), .p none (.sl 32 1 ((((lookT d f.name).1).rows).map eIntS))], vB ((lookT d f.name).2)]) [] <| .loop Nat (Q1 Nat) [7, 8, 9, 10, 11, 12, 20, 21, 22, 23, 24, 25, 26, 27, 28, 29, 30, 31, 32, 33, 34, 35, 36, 37, 38, 39, 40, 41, 42, 43, 44, 45, 46, 47, 48, 49, 50, 51, 52, 53, 54, 55, 56, 57, 58, 59, 60, 61, 62, 63, 64, 65, 66, 67, 68, 69, 70, 71, 72, 73, 74, 75, 76, 77, 78, 79, 80, 81, 82, 83] [4000, 5600] (fun k => [(7, vI (k : Int))]) (fun k => []) (fun k => k ≤ (lookT d f.name).1.rows.length ∧ violK (lookT d f.name).1.rows f.src f.dst k = []) (fun k => (lookT d f.name).1.rows.length - k) (fun k => .len ((((lookT d f.name).1).rows).length) <| .br (.call (vB (okDep d f)) [] <| .lit <| .br (.elem _ eIntS (((lookT d f.name).1).rows) (fun e36 => callP (k_sel_spec e36 f.src) <| .loop Nat (Q1 Nat) [10, 11, 12, 43, 44, 45, 46, 47, 48, 49, 50, 51, 52, 53, 54, 55, 56, 57, 58, 59, 60, 61, 62, 63, 64, 65, 66, 67, 68, 69, 70, 71, 72, 73, 74, 75, 76, 77, 78, 79, 80, 81, 82, 83] [5600] (fun i => [(10, vI (i : Int))]) (fun i => []) (fun i => i ≤ k ∧ violI (lookT d f.name).1.rows f.src f.dst k i = []) (fun i => k - i) (fun i => .br (.elem _ eIntS (((lookT d f.name).1).rows) (fun e52 => callP (k_sel_spec e52 f.src) <| .call (vI (cmpR ((selR e52 f.src).1) ((selR e36 f.src).1))) [] <| .br (.elem _ eIntS (((lookT d f.name).1).rows) (fun e67 => .elem _ intD e67 (fun e71 => .elem _ eIntS (((lookT d f.name).1).rows) (fun e76 => .elem _ intD e76 (fun e80 => .lit <| .lit <| .lit <| .br (.fin [(0, 8600)]) (.back [])))))) (.back []))) (.back [])))) (.fin [(0, 8700)])) (.fin [(0, 8700)]))) ?_
 refine Eq.mpr (by kernel_rfl : _ = ((d.tables.map eTable).length ≤ 9223372036854775807 → (f.src.map intD).length ≤ 9223372036854775807 → Con Tryz.prog 132 [.agg [.sl 162 3 (d.tables.map eTable)], .one (.str f.name)] (.tup [.agg [.p none (.str (((lookT d f.name).1).name)), vI (((lookT d f.name).1).arity), .p none (.sl 32 1 ((((lookT d f.name).1).rows).map eIntS))], vB ((lookT d f.name).2)]) [] ∧ ((∃ (k : Nat), (0 : Int) = (k : Int) ∧ k ≤ (lookT d f.name).1.rows.length ∧ violK (lookT d f.name).1.rows f.src f.dst k = []) ∧ ∀ (k : Nat), (k ≤ (lookT d f.name).1.rows.length ∧ violK (lookT d f.name).1.rows f.src f.dst k = []) → Lm eIntS (((lookT d f.name).1).rows) ∧ (((decide ((k : Int) < (((((lookT d f.name).1).rows).length : Nat) : Int))) = true → K_okDep_spec d f ∧ (((okDep d f) = true → 0 ≤ (k : Int) ∧ Em eIntS (((lookT d f.name).1).rows) k fun e36 => K_sel_spec e36 f.src ∧ ((∃ (i : Nat), (0 : Int) = (i : Int) ∧ i ≤ k ∧ violI (lookT d f.name).1.rows f.src f.dst k i = []) ∧ ∀ (i : Nat), (i ≤ k ∧ violI (lookT d f.name).1.rows f.src f.dst k i = []) → ((decide ((i : Int) < (k : Int))) = true → 0 ≤ (i : Int) ∧ Em eIntS (((lookT d f.name).1).rows) i fun e52 => K_sel_spec e52 f.src ∧ (K_cmpRows_spec ((selR e52 f.src).1) ((selR e36 f.src).1) ∧ (((decide ((cmpR ((selR e52 f.src).1) ((selR e36 f.src).1)) = (0 : Int))) = true → 0 ≤ (i : Int) ∧ Em eIntS (((lookT d f.name).1).rows) i fun e67 => 0 ≤ f.dst ∧ Em intD e67 ((f.dst).toNat) fun e71 => 0 ≤ (k : Int) ∧ Em eIntS (((lookT d f.name).1).rows) k fun e76 => 0 ≤ f.dst ∧ Em intD e76 ((f.dst).toNat) fun e80 => ((!(decide (e71 = e80))) = true → [[.int .i64 (i : Int)], [.int .i64 (k : Int)]] = (violL d f).map intD ∧ True) ∧ ((!(decide (e71 = e80))) = false → inR ((i : Int) + (1 : Int)) ∧ ∃ (i' : Nat), ((i : Int) + (1 : Int)) = (i' : Int) ∧ (i' ≤ k ∧ violI (lookT d f.name).1.rows f.src f.dst k i' = []) ∧ k - i' < k - i)) ∧ ((decide ((cmpR ((selR e52 f.src).1) ((selR e36 f.src).1)) = (0 : Int))) = false → inR ((i : Int) + (1 : Int)) ∧ ∃ (i' : Nat), ((i : Int) + (1 : Int)) = (i' : Int) ∧ (i' ≤ k ∧ violI (lookT d f.name).1.rows f.src f.dst k i' = []) ∧ k - i' < k - i)))) ∧ ((decide ((i : Int) < (k : Int))) = false → inR ((k : Int) + (1 : Int)) ∧ ∃ (k' : Nat), ((k : Int) + (1 : Int)) = (k' : Int) ∧ (k' ≤ (lookT d f.name).1.rows.length ∧ violK (lookT d f.name).1.rows f.src f.dst k' = []) ∧ (lookT d f.name).1.rows.length - k' < (lookT d f.name).1.rows.length - k))) ∧ ((okDep d f) = false → [] = (violL d f).map intD ∧ True))) ∧ ((decide ((k : Int) < (((((lookT d f.name).1).rows).length : Nat) : Int))) = false → [] = (violL d f).map intD ∧ True))))) ?_
 intro n0 n1
 simp only [List.length_map] at n0 n1
 refine ⟨con_stl (lkT_spec _ f.name (by omega)) rfl, ⟨0, rfl, Nat.zero_le _, rfl⟩, fun k ⟨hk, hv⟩ => ?_⟩
 refine ⟨List.length_map _, fun g25 => ?_, fun g25 => ?_⟩
 ·replace g25 := yq g25
  refine ⟨okDep_spec _ _ (by omega), fun c0 => ?_, fun c0 => ?_⟩
  ·have hok : okDep d f = true := c0
   obtain ⟨hT, hd0, hd1, hsl⟩ := okDep_parts hok
   have hT8 := okTable_arity hT
   have hV : violL d f = violK (lookT d f.name).1.rows f.src f.dst (lookT d f.name).1.rows.length := by rw [violL, if_pos hok]
   refine ⟨by omega, rfl, by omega, fun e36 h36 => ?_⟩
   have hl36 := row_len hT (List.mem_of_getElem? h36)
   refine ⟨sel_spec _ _ (by omega), ⟨0, rfl, Nat.zero_le _, rfl⟩, fun i ⟨hi, hw⟩ => ?_⟩
   refine ⟨fun c1 => ?_, fun c1 => ?_⟩
   ·replace c1 := yq c1
    refine ⟨by omega, rfl, by omega, fun e52 h52 => ?_⟩
    have hl52 := row_len hT (List.mem_of_getElem? h52)
    have hb := badP_at (cols := f.src) (c := f.dst) h52 h36
    refine ⟨sel_spec _ _ (by omega), cmpRows_spec _ _, fun g63 => ?_, fun g63 => ?_⟩
    ·replace g63 := yq g63
     refine ⟨by omega, rfl, by omega, fun e67 h67 => ?_⟩
     obtain rfl := (same_at h52 h67).symm
     refine ⟨by omega, rfl, by omega, fun e71 h71 => ?_⟩
     refine ⟨by omega, rfl, by omega, fun e76 h76 => ?_⟩
     obtain rfl := (same_at h36 h76).symm
     refine ⟨by omega, rfl, by omega, fun e80 h80 => ?_⟩
     refine ⟨fun c2 => ?_, fun c2 => ?_⟩
     ·replace c2 := nq (nt c2)
      have hB : badP (lookT d f.name).1.rows f.src f.dst i k = true := by rw [hb, getD_at h71, getD_at h80, cmpR_zero.1 g63]; simp [c2]
      have hE := viol_found hv hw hB (by omega) (by omega : k < (lookT d f.name).1.rows.length)
      refine ⟨?_, trivial⟩
      ·first | (rw [hE] <;> rfl) | (rw [hV, hE] <;> rfl)
     ·replace c2 := yq (nf c2)
      refine ⟨⟨by omega, by omega⟩, ?_⟩
      exact ⟨i + 1, rfl, ⟨by omega, violI_no hw (by rw [hb]; first | (simp [show ¬ (selR e52 f.src).1 = (selR e36 f.src).1 from fun q => g63 (cmpR_zero.2 q)]; done) | (rw [getD_at h71, getD_at h80]; simp [c2]; done))⟩, by omega⟩
    ·replace g63 := nq g63
     refine ⟨⟨by omega, by omega⟩, ?_⟩
     exact ⟨i + 1, rfl, ⟨by omega, violI_no hw (by rw [hb]; first | (simp [show ¬ (selR e52 f.src).1 = (selR e36 f.src).1 from fun q => g63 (cmpR_zero.2 q)]; done) | (rw [getD_at h71, getD_at h80]; simp [c2]; done))⟩, by omega⟩
   ·replace c1 := nq c1
    refine ⟨⟨by omega, by omega⟩, ?_⟩
    exact ⟨k + 1, rfl, ⟨by omega, violK_next hv (by obtain rfl : i = k := (by omega); exact hw)⟩, by omega⟩
  ·have hE : violL d f = [] := by first | (rw [violL, if_neg (by rw [c0]; decide)]; done) | (rw [violL]; split <;> first | (rw [show (lookT d f.name).1.rows.length = k by omega, hv]; done) | rfl)
   refine ⟨?_, trivial⟩
   ·first | (rw [hE] <;> rfl) | (rw [hV, hE] <;> rfl)
 ·replace g25 := nq g25
  have hE : violL d f = [] := by first | (rw [violL, if_neg (by rw [c0]; decide)]; done) | (rw [violL]; split <;> first | (rw [show (lookT d f.name).1.rows.length = k by omega, hv]; done) | rfl)
  refine ⟨?_, trivial⟩
  ·first | (rw [hE] <;> rfl) | (rw [hV, hE] <;> rfl)
abbrev K_depOk_impl (d : DatabaseD) (f : DependencyD) : Prop := Con Tryz.prog 152 [.agg [.sl 162 3 (d.tables.map eTable)], .agg [.str f.name, .sl 3 1 (f.src.map intD), .int .i64 f.dst]] (vB (depOk d f)) []
theorem depOk_impl (d : DatabaseD) (f : DependencyD) (hc : cDatabase d ≤ 1048576) : K_depOk_impl d f := by
 refine con_x tbOk mixedW Tryz.func152 (by kernel_rfl) (.call (vB (okDep d f)) [] <| .br (callP (k_viol_impl d f) <| .len ((violL d f).length) <| .fin []) (.fin [])) ?_
 refine Eq.mpr (by kernel_rfl : _ = ((d.tables.map eTable).length ≤ 9223372036854775807 → (f.src.map intD).length ≤ 9223372036854775807 → K_okDep_impl d f ∧ (((okDep d f) = true → K_viol_impl d f ∧ Lm intD (violL d f) ∧ (decide ((((violL d f).length : Nat) : Int) = (0 : Int))) = (depOk d f) ∧ True) ∧ ((okDep d f) = false → (false) = (depOk d f) ∧ True)))) ?_
 intro n0 n1
 simp only [List.length_map] at n0 n1
 refine ⟨okDep_impl _ _ (by omega), fun g8 => ?_, fun g8 => ?_⟩
 ·refine ⟨viol_impl _ _ (by omega), List.length_map _, ?_, trivial⟩
  ·first | (simp [depOk, *]; done) | (rw [depOk, g8, len_zero]; rfl)
 ·refine ⟨?_, trivial⟩
  ·first | (simp [depOk, *]; done) | (rw [depOk, g8, len_zero]; rfl)
abbrev K_depOk_spec (d : DatabaseD) (f : DependencyD) : Prop := Con Tryz.prog 136 [.agg [.sl 162 3 (d.tables.map eTable)], .agg [.str f.name, .sl 3 1 (f.src.map intD), .int .i64 f.dst]] (vB (depOk d f)) []
theorem depOk_spec (d : DatabaseD) (f : DependencyD) (hc : cDatabase d ≤ 1048576) : K_depOk_spec d f := by
 refine con_x tbOk mixedW Tryz.func136 (by kernel_rfl) (.call (vB (okDep d f)) [] <| .br (callP (k_viol_spec d f) <| .len ((violL d f).length) <| .fin []) (.fin [])) ?_
 refine Eq.mpr (by kernel_rfl : _ = ((d.tables.map eTable).length ≤ 9223372036854775807 → (f.src.map intD).length ≤ 9223372036854775807 → K_okDep_spec d f ∧ (((okDep d f) = true → K_viol_spec d f ∧ Lm intD (violL d f) ∧ (decide ((((violL d f).length : Nat) : Int) = (0 : Int))) = (depOk d f) ∧ True) ∧ ((okDep d f) = false → (false) = (depOk d f) ∧ True)))) ?_
 intro n0 n1
 simp only [List.length_map] at n0 n1
 refine ⟨okDep_spec _ _ (by omega), fun g8 => ?_, fun g8 => ?_⟩
 ·refine ⟨viol_spec _ _ (by omega), List.length_map _, ?_, trivial⟩
  ·first | (simp [depOk, *]; done) | (rw [depOk, g8, len_zero]; rfl)
 ·refine ⟨?_, trivial⟩
  ·first | (simp [depOk, *]; done) | (rw [depOk, g8, len_zero]; rfl)
abbrev k_miss_impl (d : DatabaseD) (x : InclusionD) : AV × List (Nat × Rs) := (.own 0, [(0, .arr 3 1 true ((missI d x).map intD))])
abbrev K_miss_impl (d : DatabaseD) (x : InclusionD) : Prop := Con Tryz.prog 234 [.agg [.sl 162 3 (d.tables.map eTable)], .agg [.str x.name, .int .i64 x.column, .str x.into, .int .i64 x.intoColumn]] (k_miss_impl d x).1 (k_miss_impl d x).2
theorem miss_impl (d : DatabaseD) (x : InclusionD) (hc : cDatabase d ≤ 1048576) : K_miss_impl d x := by
 refine con_x tbOk mixedW Tryz.func234 (by kernel_rfl) (.call (vB (okInc d x)) [] <| .br (.fin []) (.call (.tup [.agg [.p none (.str (((lookT d x.name).1).name)), vI (((lookT d x.name).1).arity), .p none (.sl 32 1 ((((lookT d x.name).1).rows).map eIntS))], vB ((lookT d x.name).2)]) [] <| .call (.tup [.agg [.p none (.str (((lookT d x.into).1).name)), vI (((lookT d x.into).1).arity), .p none (.sl 32 1 ((((lookT d x.into).1).rows).map eIntS))], vB ((lookT d x.into).2)]) [] <| .len ((((lookT d x.into).1).rows).length) <| .loop (Nat × (List Int)) (Q2 Nat (List Int)) [9, 11, 34, 38, 39, 40, 41, 42, 43, 44, 45, 46, 47, 48, 49, 50] [3400, 4800, 4900] (fun yy0 => [(38, vI (yy0.1 : Int)), (9, .own 3400)]) (fun yy0 => [(3400, some (.arr 3 1 true (yy0.2.map intD)))]) (fun yy0 => yy0.1 ≤ (lookT d x.into).1.rows.length ∧ yy0.2 = colOf ((lookT d x.into).1.rows.take yy0.1) x.intoColumn) (fun yy0 => (lookT d x.into).1.rows.length - yy0.1) (fun yy0 => .br (.elem _ eIntS (((lookT d x.into).1).rows) (fun e40 => .elem _ intD e40 (fun e46 => .app Int intD yy0.2 ([e46] : List Int) <| .back [(3400, 4900)]))) (.len ((((lookT d x.name).1).rows).length) <| .loop (Nat × (List Int)) (Q2 Nat (List Int)) [12, 14, 15, 51, 55, 56, 57, 58, 59, 60, 61, 62, 63, 64, 65, 66, 67, 68, 69, 70, 71, 72] [5100, 7000, 7100] (fun yy1 => [(55, vI (yy1.1 : Int)), (12, .own 5100)]) (fun yy1 => [(5100, some (.arr 3 1 true (yy1.2.map intD)))]) (fun yy1 => yy1.1 ≤ (lookT d x.name).1.rows.length ∧ yy1.2 = (colOf ((lookT d x.name).1.rows.take yy1.1) x.column).filter fun v => !decide (v ∈ yy0.2)) (fun yy1 => (lookT d x.name).1.rows.length - yy1.1) (fun yy1 => .br (.elem _ eIntS (((lookT d x.name).1).rows) (fun e57 => .elem _ intD e57 (fun e62 => .call (vB (decide (e62 ∈ yy0.2))) [] <| .br (.app Int intD yy1.2 ([e62] : List Int) <| .back [(5100, 7100)]) (.back [(5100, 5100)])))) (.callx [.own 0] [(0, .arr 3 1 true (yy1.2.map intD))] [(0, 5100)] (.tup []) [(0, .arr 3 1 true ((sortI yy1.2).map intD))] <| .callx [.own 0] [(0, .arr 3 1 true ((sortI yy1.2).map intD))] [(0, 5100)] (.own 1) [(1, .arr 3 1 true ((compI (sortI yy1.2)).map intD))] <| .fin [(0, 7601)])))))) ?_
 refine Eq.mpr (by kernel_rfl : _ = ((d.tables.map eTable).length ≤ 9223372036854775807 → K_okInc_impl d x ∧ (((!(okInc d x)) = true → [] = (missI d x).map intD ∧ True) ∧ ((!(okInc d x)) = false → Con Tryz.prog 148 [.agg [.sl 162 3 (d.tables.map eTable)], .one (.str x.name)] (.tup [.agg [.p none (.str (((lookT d x.name).1).name)), vI (((lookT d x.name).1).arity), .p none (.sl 32 1 ((((lookT d x.name).1).rows).map eIntS))], vB ((lookT d x.name).2)]) [] ∧ (Con Tryz.prog 148 [.agg [.sl 162 3 (d.tables.map eTable)], .one (.str x.into)] (.tup [.agg [.p none (.str (((lookT d x.into).1).name)), vI (((lookT d x.into).1).arity), .p none (.sl 32 1 ((((lookT d x.into).1).rows).map eIntS))], vB ((lookT d x.into).2)]) [] ∧ (Lm eIntS (((lookT d x.into).1).rows) ∧ ((∃ (k : Nat) (there : List Int), (0 : Int) = (k : Int) ∧ [] = there.map intD ∧ k ≤ (lookT d x.into).1.rows.length ∧ there = colOf ((lookT d x.into).1.rows.take k) x.intoColumn) ∧ ∀ (k : Nat) (there : List Int), (k ≤ (lookT d x.into).1.rows.length ∧ there = colOf ((lookT d x.into).1.rows.take k) x.intoColumn) → ((decide ((k : Int) < (((((lookT d x.into).1).rows).length : Nat) : Int))) = true → 0 ≤ (k : Int) ∧ Em eIntS (((lookT d x.into).1).rows) k fun e40 => 0 ≤ x.intoColumn ∧ Em intD e40 ((x.intoColumn).toNat) fun e46 => there.map intD = there.map intD ∧ [[.int .i64 e46]] = ([e46] : List Int).map intD ∧ (∀ x, flatB (intD x) = true) ∧ (there.length + ([e46] : List Int).length) * 8 ≤ 140737488355328 ∧ inR ((k : Int) + (1 : Int)) ∧ ∃ (k' : Nat) (there' : List Int), ((k : Int) + (1 : Int)) = (k' : Int) ∧ (there ++ [e46]).map intD = there'.map intD ∧ (k' ≤ (lookT d x.into).1.rows.length ∧ there' = colOf ((lookT d x.into).1.rows.take k') x.intoColumn) ∧ (lookT d x.into).1.rows.length - k' < (lookT d x.into).1.rows.length - k) ∧ ((decide ((k : Int) < (((((lookT d x.into).1).rows).length : Nat) : Int))) = false → Lm eIntS (((lookT d x.name).1).rows) ∧ ((∃ (j : Nat) (out : List Int), (0 : Int) = (j : Int) ∧ [] = out.map intD ∧ j ≤ (lookT d x.name).1.rows.length ∧ out = (colOf ((lookT d x.name).1.rows.take j) x.column).filter fun v => !decide (v ∈ there)) ∧ ∀ (j : Nat) (out : List Int), (j ≤ (lookT d x.name).1.rows.length ∧ out = (colOf ((lookT d x.name).1.rows.take j) x.column).filter fun v => !decide (v ∈ there)) → ((decide ((j : Int) < (((((lookT d x.name).1).rows).length : Nat) : Int))) = true → 0 ≤ (j : Int) ∧ Em eIntS (((lookT d x.name).1).rows) j fun e57 => 0 ≤ x.column ∧ Em intD e57 ((x.column).toNat) fun e62 => K_ctI there e62 ∧ (((!(decide (e62 ∈ there))) = true → out.map intD = out.map intD ∧ [[.int .i64 e62]] = ([e62] : List Int).map intD ∧ (∀ x, flatB (intD x) = true) ∧ (out.length + ([e62] : List Int).length) * 8 ≤ 140737488355328 ∧ inR ((j : Int) + (1 : Int)) ∧ ∃ (j' : Nat) (out' : List Int), ((j : Int) + (1 : Int)) = (j' : Int) ∧ (out ++ [e62]).map intD = out'.map intD ∧ (j' ≤ (lookT d x.name).1.rows.length ∧ out' = (colOf ((lookT d x.name).1.rows.take j') x.column).filter fun v => !decide (v ∈ there)) ∧ (lookT d x.name).1.rows.length - j' < (lookT d x.name).1.rows.length - j) ∧ ((!(decide (e62 ∈ there))) = false → inR ((j : Int) + (1 : Int)) ∧ ∃ (j' : Nat) (out' : List Int), ((j : Int) + (1 : Int)) = (j' : Int) ∧ out.map intD = out'.map intD ∧ (j' ≤ (lookT d x.name).1.rows.length ∧ out' = (colOf ((lookT d x.name).1.rows.take j') x.column).filter fun v => !decide (v ∈ there)) ∧ (lookT d x.name).1.rows.length - j' < (lookT d x.name).1.rows.length - j))) ∧ ((decide ((j : Int) < (((((lookT d x.name).1).rows).length : Nat) : Int))) = false → Con2 Tryz.prog 248 [.own 0] [(0, .arr 3 1 true (out.map intD))] (.tup []) [(0, .arr 3 1 true ((sortI out).map intD))] ∧ out.map intD = out.map intD ∧ Con2 Tryz.prog 273 [.own 0] [(0, .arr 3 1 true ((sortI out).map intD))] (.own 1) [(1, .arr 3 1 true ((compI (sortI out)).map intD))] ∧ (sortI out).map intD = (sortI out).map intD ∧ (compI (sortI out)).map intD = (missI d x).map intD ∧ True)))))))))) ?_
 intro n0
 simp only [List.length_map] at n0
 refine ⟨okInc_impl _ _ (by omega), fun c0 => ?_, fun c0 => ?_⟩
 ·replace c0 := nt c0
  have hbad : missI d x = [] := by rw [missI, if_neg (by simpa using c0)]
  refine ⟨?_, trivial⟩
  ·first | (rw [hbad] <;> rfl) | (rw [hE] <;> rfl)
 ·replace c0 := nf c0
  have hok : okInc d x = true := by simpa using c0
  obtain ⟨hTa, hTb, hca, hcb⟩ := okInc_parts hok
  have hA8 := okTable_arity hTa
  have hB8 := okTable_arity hTb
  refine ⟨con_stl (lkT_impl _ x.name (by omega)) rfl, con_stl (lkT_impl _ x.into (by omega)) rfl, List.length_map _, ⟨0, ([] : List Int), rfl, rfl, Nat.zero_le _, rfl⟩, fun k there ⟨hk, hth⟩ => ?_⟩
  have htl : there.length = k := by rw [hth, colOf, List.length_map, List.length_take]; omega
  refine ⟨fun c1 => ?_, fun c1 => ?_⟩
  ·replace c1 := yq c1
   refine ⟨by omega, rfl, by omega, fun e40 h40 => ?_⟩
   have hl40 := row_len hTb (List.mem_of_getElem? h40)
   refine ⟨by omega, rfl, by omega, fun e46 h46 => ?_⟩
   refine ⟨rfl, rfl, fun _ => rfl, by first | omega | (simp [hth]; omega) | (simp; omega), ?_⟩
   refine ⟨⟨by omega, by omega⟩, ?_⟩
   exact ⟨k + 1, _, rfl, rfl, ⟨by omega, by rw [colOf_snoc _ _ h40, ← hth, getD_at h46]⟩, by omega⟩
  ·replace c1 := nq c1
   have hTH : there = colOf (lookT d x.into).1.rows x.intoColumn := by rw [hth, List.take_of_length_le (by omega)]
   refine ⟨List.length_map _, ⟨0, ([] : List Int), rfl, rfl, Nat.zero_le _, rfl⟩, fun j out ⟨hj, ho⟩ => ?_⟩
   have hol : out.length ≤ j := by rw [ho]; refine Nat.le_trans (List.length_filter_le _ _) ?_; simp [colOf]; omega
   refine ⟨fun c2 => ?_, fun c2 => ?_⟩
   ·replace c2 := yq c2
    refine ⟨by omega, rfl, by omega, fun e57 h57 => ?_⟩
    have hl57 := row_len hTa (List.mem_of_getElem? h57)
    refine ⟨by omega, rfl, by omega, fun e62 h62 => ?_⟩
    refine ⟨ctI _ _, fun c3 => ?_, fun c3 => ?_⟩
    ·replace c3 := nt c3
     refine ⟨rfl, rfl, fun _ => rfl, by first | omega | (simp [hth]; omega) | (simp; omega), ?_⟩
     refine ⟨⟨by omega, by omega⟩, ?_⟩
     exact ⟨j + 1, _, rfl, rfl, ⟨by omega, by rw [colOf_snoc _ _ h57, List.filter_append, ← ho, getD_at h62, List.filter_cons_of_pos (by simpa using c3)]; rfl⟩, by omega⟩
    ·replace c3 := nf c3
     refine ⟨⟨by omega, by omega⟩, ?_⟩
     exact ⟨j + 1, _, rfl, rfl, ⟨by omega, by rw [colOf_snoc _ _ h57, List.filter_append, ← ho, getD_at h62, List.filter_cons_of_neg (by simpa using c3)]; simp⟩, by omega⟩
   ·replace c2 := nq c2
    have hE : missI d x = compI (sortI out) := by rw [missI, if_pos hok, missL, ho, hTH, List.take_of_length_le (by omega)]
    refine ⟨con_sortI out (by omega), rfl, con_compI (sortI out) (by first | omega | (rw [sortI_len]; omega)), rfl, ?_, trivial⟩
    ·first | (rw [hbad] <;> rfl) | (rw [hE] <;> rfl)
abbrev K_incOk_impl (d : DatabaseD) (x : InclusionD) : Prop := Con Tryz.prog 153 [.agg [.sl 162 3 (d.tables.map eTable)], .agg [.str x.name, .int .i64 x.column, .str x.into, .int .i64 x.intoColumn]] (vB (incOk d x)) []
theorem incOk_impl (d : DatabaseD) (x : InclusionD) (hc : cDatabase d ≤ 1048576) : K_incOk_impl d x := by
 refine con_x tbOk mixedW Tryz.func153 (by kernel_rfl) (.call (vB (okInc d x)) [] <| .br (callP (k_miss_impl d x) <| .len ((missI d x).length) <| .fin []) (.fin [])) ?_
 refine Eq.mpr (by kernel_rfl : _ = ((d.tables.map eTable).length ≤ 9223372036854775807 → K_okInc_impl d x ∧ (((okInc d x) = true → K_miss_impl d x ∧ Lm intD (missI d x) ∧ (decide ((((missI d x).length : Nat) : Int) = (0 : Int))) = (incOk d x) ∧ True) ∧ ((okInc d x) = false → (false) = (incOk d x) ∧ True)))) ?_
 intro n0
 simp only [List.length_map] at n0
 refine ⟨okInc_impl _ _ (by omega), fun g8 => ?_, fun g8 => ?_⟩
 ·refine ⟨miss_impl _ _ (by omega), List.length_map _, ?_, trivial⟩
  ·first | (simp [incOk, *]; done) | (rw [incOk, g8, len_zero, missI_nil g8]; rfl)
 ·refine ⟨?_, trivial⟩
  ·first | (simp [incOk, *]; done) | (rw [incOk, g8, len_zero, missI_nil g8]; rfl)
end Go.Proofs.YtokkjaflmcjlhaaGreat
