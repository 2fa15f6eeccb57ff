/-
  Rows of numbers turned in place by the library: sorted, as a contract.
-/
import Derived.Shelf.Sort.Plain
import Derived.Shelf.Slices.In.SortNone
import Derived.Sort.OwnSortedInts
import Derived.Test.YtepphdhnkaiamaaDa
namespace Go.Proofs
open Go.Shelf
namespace Ytepphdhnkaiamaa
def Try.lays189_ren : Go.Shelf.Ren := ⟨fun | 189 => 76 | 125 => 92 | 257 => 91 | 128 => 103 | 129 => 104 | 294 => 94 | 295 => 95 | 296 => 96 | 297 => 97 | 298 => 98 | 299 => 99 | 216 => 100 | 300 => 101 | 301 => 102 | 328 => 105 | 329 => 106 | 330 => 107 | 331 => 108 | 332 => 109 | 215 => 110 | 343 => 111 | n => n, fun | 28 => 24 | 3 => 3 | 46 => 94 | 0 => 0 | 51 => 105 | 53 => 107 | 4 => 4 | 183 => 97 | 182 => 96 | 131 => 102 | 5 => 5 | 9 => 9 | 218 => 108 | 222 => 112 | 228 => 115 | 229 => 116 | n => n, fun | n => n⟩
theorem Try.lays189 : Go.Proofs.Lays.n189 Try.prog Try.lays189_ren := {
  mixed := by kernel_rfl
  f125 := Try.func92.trans (congrArg some (by kernel_rfl))
  f128 := Try.func103.trans (congrArg some (by kernel_rfl))
  f129 := Try.func104.trans (congrArg some (by kernel_rfl))
  f189 := Try.func76.trans (congrArg some (by kernel_rfl))
  f215 := Try.func110.trans (congrArg some (by kernel_rfl))
  f216 := Try.func100.trans (congrArg some (by kernel_rfl))
  f257 := Try.func91.trans (congrArg some (by kernel_rfl))
  f294 := Try.func94.trans (congrArg some (by kernel_rfl))
  f295 := Try.func95.trans (congrArg some (by kernel_rfl))
  f296 := Try.func96.trans (congrArg some (by kernel_rfl))
  f297 := Try.func97.trans (congrArg some (by kernel_rfl))
  f298 := Try.func98.trans (congrArg some (by kernel_rfl))
  f299 := Try.func99.trans (congrArg some (by kernel_rfl))
  f300 := Try.func101.trans (congrArg some (by kernel_rfl))
  f301 := Try.func102.trans (congrArg some (by kernel_rfl))
  f328 := Try.func105.trans (congrArg some (by kernel_rfl))
  f329 := Try.func106.trans (congrArg some (by kernel_rfl))
  f330 := Try.func107.trans (congrArg some (by kernel_rfl))
  f331 := Try.func108.trans (congrArg some (by kernel_rfl))
  f332 := Try.func109.trans (congrArg some (by kernel_rfl))
  f343 := Try.func111.trans (congrArg some (by kernel_rfl))
  t0 := Try.underlying0
  a0 := Try.isAgg0
  z0 := Try.sizeOf0
  v0 := Try.zeroValue0
  t3 := Try.underlying3
  a3 := Try.isAgg3
  z3 := Try.sizeOf3
  v3 := Try.zeroValue3
  t4 := Try.underlying4
  a4 := Try.isAgg4
  z4 := Try.sizeOf4
  v4 := Try.zeroValue4
  t5 := Try.underlying5
  a5 := Try.isAgg5
  z5 := Try.sizeOf5
  v5 := Try.zeroValue5
  t9 := Try.underlying9
  a9 := Try.isAgg9
  z9 := Try.sizeOf9
  v9 := Try.zeroValue9
  t28 := Try.underlying24
  a28 := Try.isAgg24
  z28 := Try.sizeOf24
  v28 := Try.zeroValue24
  t46 := Try.underlying94
  a46 := Try.isAgg94
  z46 := Try.sizeOf94
  v46 := Try.zeroValue94
  t51 := Try.underlying105
  a51 := Try.isAgg105
  z51 := Try.sizeOf105
  v51 := Try.zeroValue105
  t53 := Try.underlying107
  a53 := Try.isAgg107
  z53 := Try.sizeOf107
  v53 := Try.zeroValue107
  t131 := Try.underlying102
  a131 := Try.isAgg102
  z131 := Try.sizeOf102
  v131 := Try.zeroValue102
  t182 := Try.underlying96
  a182 := Try.isAgg96
  z182 := Try.sizeOf96
  v182 := Try.zeroValue96
  t183 := Try.underlying97
  a183 := Try.isAgg97
  z183 := Try.sizeOf97
  v183 := Try.zeroValue97
  t218 := Try.underlying108
  a218 := Try.isAgg108
  z218 := Try.sizeOf108
  v218 := Try.zeroValue108
  t222 := Try.underlying112
  a222 := Try.isAgg112
  z222 := Try.sizeOf112
  v222 := Try.zeroValue112
  t228 := Try.underlying115
  a228 := Try.isAgg115
  z228 := Try.sizeOf115
  v228 := Try.zeroValue115
  t229 := Try.underlying116
  a229 := Try.isAgg116
  z229 := Try.sizeOf116
  v229 := Try.zeroValue116 }
end Ytepphdhnkaiamaa
end Go.Proofs
namespace Go.Proofs.Ytepphdhnkaiamaa
open Go.ChangeShapes Go.WideShapes Go.ChangeAt Go.RowKit
set_option linter.unusedVariables false
set_option linter.unusedSimpArgs false
theorem owRs_ints {w : World} : ∀ {l : List Int} {css : List (List Value)} {Fs : List (List Nat)}, OwRs w 1 (l.map intD) css Fs → css.flatten = l.map (Value.int .i64) ∧ Fs.flatten = []
  | [], css, Fs, h => by
    simp only [List.map_nil] at h
    unfold OwRs at h
    rw [h.1, h.2]; simp
  | n :: l, css, Fs, h => by
    simp only [List.map_cons] at h
    unfold OwRs at h
    obtain ⟨c, css', F, Fs', rfl, rfl, _, h1, h2⟩ := h
    obtain ⟨q1, q2⟩ := owRs_ints h2
    unfold intD OwCs at h1
    obtain ⟨v, cs', F1, F2, rfl, rfl, h3, h4⟩ := h1
    unfold OwCs at h4
    unfold OwV at h3
    simp [q1, q2, h4.1, h4.2, h3.1, h3.2]
theorem owRs_of_ints (w : World) : ∀ (l : List Int), OwRs w 1 (l.map intD) (l.map fun n => [Value.int .i64 n]) (l.map fun _ => [])
  | [] => by simp only [List.map_nil]; unfold OwRs; exact ⟨rfl, rfl⟩
  | n :: l => by
    simp only [List.map_cons]
    unfold OwRs
    refine ⟨_, _, _, _, rfl, rfl, rfl, ?_, owRs_of_ints w l⟩
    unfold intD OwCs
    refine ⟨_, _, [], [], rfl, rfl, ?_, ?_⟩
    · unfold OwV; exact ⟨rfl, rfl⟩
    · unfold OwCs; exact ⟨rfl, rfl⟩
theorem flat_ints : ∀ (m : List Int), (m.map fun n => [Value.int .i64 n]).flatten = m.map (Value.int .i64)
  | [] => rfl
  | a :: l => by simp only [List.map_cons, List.flatten_cons, flat_ints l]; rfl
theorem con2_ints {P : Program} {f : FuncId} {e : Nat} (l m : List Int) (hc : callable P f = true) (hm : m.length = l.length)
    (hn0 : l = [] → ∀ w, Calls P f #[.slice none 0 0] w (fun ex w' => ex = .returned (.tuple #[]) ∧ w' = w))
    (hs : ∀ (blk cap : Nat) (w : World), Go.Sort.Holds (Value.int .i64) w blk 0 l.toArray → blk < w.heap.size → l.length ≤ cap → Calls P f #[.slice (some ⟨blk, 0, none⟩) l.length cap] w (fun ex w' => ex = .returned (.tuple #[]) ∧ ∃ n os, w' = Go.Sort.grow (Go.Sort.putRow (Value.int .i64) (Go.Sort.ahead w n) blk 0 m.toArray) os)) :
    Con2 P f [.own 0] [(0, .arr e 1 true (l.map intD))] (.tup []) [(0, .arr e 1 true (m.map intD))] := by
  refine ⟨hc, by simp, fun A φ w vs hI hM => ?_⟩
  obtain ⟨pl, hp, css, Fs, q1, q2, q3, q4⟩ := hI.dom 0 _ rfl
  unfold MatchL at hM
  obtain ⟨v, us, e1, m1, hM⟩ := hM
  unfold MatchL at hM
  unfold MatchV at m1
  have hv := m1 pl hp
  have ev : vs = #[pl.val] := by apply Array.ext'; rw [e1, hM, hv]
  rw [ev]
  obtain ⟨c1, c2⟩ := owRs_ints q4
  rw [c1, List.length_map] at q1
  have hge := hI.ge 0 pl hp
  have hsub : pl.sub = [] := by rw [q3, c2]
  have hfoot : ∀ b ∈ pl.F, AllF φ b := fun b hb => ⟨0, pl, trivial, hp, hb⟩
  have hend : ∀ (w' : World), Only pl.F w w' → w'.ownsRow 0 e 1 pl.val l.length (m.map (Value.int .i64)) →
      ∃ v K φ', Ending.returned (.tuple #[]) = .returned v ∧ Out2 A φ w [(0, .arr e 1 true (m.map intD))] K φ' w' ∧ MatchV K φ' w' (.tup []) v := by
    intro w' hon howns
    refine ⟨_, A, fun h => if h = 0 then some pl else none, rfl, ⟨⟨hon.os, hon.tape, hon.output, hon.size, fun b hb hn => hon.block b hb (fun hm => hn (hfoot b hm))⟩, fun _ h => h, fun b hb => ⟨Nat.lt_of_lt_of_le (hI.lt b hb) hon.size, .inl hb⟩, fun b hb h pl1 e' hm' => ?_, fun h r hr => ?_, fun h hr => ?_, fun h h' pl1 pl2 hne ea eb => ?_, fun h pl1 e' => ?_, fun h pl1 e' g hg => ?_, fun h pl1 pl0 e' e0 => ?_⟩, ?_⟩
    · split at e'
      · injection e' with e'; subst e'
        exact hI.out b hb 0 pl hp hm'
      · cases e'
    · simp only [findH] at hr
      split at hr
      · rename_i eh
        subst eh
        injection hr with hr
        subst hr
        refine ⟨pl, by simp, m.map fun n => [Value.int .i64 n], m.map fun _ => [], ?_, q2, ?_, owRs_of_ints _ m⟩
        · rw [flat_ints, List.length_map, hm]; exact howns
        · rw [hsub]; simp
      · cases hr
    · simp only [findH] at hr
      split at hr
      · cases hr
      · rename_i eh; exact if_neg eh
    · split at ea
      · split at eb
        · rename_i x y; exact absurd (x.trans y.symm) hne
        · cases eb
      · cases ea
    · split at e'
      · injection e' with e'; subst e'; exact hI.nodup 0 pl hp
      · cases e'
    · split at e'
      · injection e' with e'; subst e'
        exact ⟨.inr (hfoot g hg), Nat.lt_of_lt_of_le (hge g hg) hon.size⟩
      · cases e'
    · split at e'
      · rename_i eh
        subst eh
        rw [hp] at e0
        injection e0 with e0; injection e' with e'
        subst e0; subst e'
        exact ⟨rfl, rfl⟩
      · cases e'
    · unfold MatchV
      exact ⟨#[], rfl, by unfold MatchL; rfl⟩
  rcases q1.2 with ⟨hvn, hz⟩ | ⟨g, cap, cur, hvv, hg0, hb, hn, hcap, hsz, htk⟩
  · have hz' : l = [] := List.eq_nil_of_length_eq_zero hz
    rw [hvn]
    refine (hn0 hz' w).mono ?_
    rintro en w' ⟨rfl, rfl⟩
    have hm0 : m = [] := List.eq_nil_of_length_eq_zero (by rw [hm, hz])
    refine hend w' (Only.refl _ _) ?_
    rw [hvn, hm0, hz]
    exact ⟨by simp, .inl ⟨rfl, rfl⟩⟩
  · have hlt : g < w.heap.size := (Array.getElem?_eq_some_iff.1 hb).1
    have hH : Go.Sort.Holds (Value.int .i64) w g 0 l.toArray := holds_of_blockI hb (by rw [Nat.mul_one] at htk; exact htk)
    rw [hvv]
    refine (hs g cap w hH hlt hn).mono ?_
    rintro en w' ⟨rfl, n, os, rfl⟩
    have hgb := grownBy_sortedI (w := w) (g := g) (n := n) (os := os) m.toArray
    have hown := ownsRow_sortedI (n := n) (os := os) hm hg0 hb hn hcap hsz
    refine hend _ ⟨hgb.os, hgb.tape, hgb.output, hgb.size, fun k hk hne => hgb.block k hk (fun e => hne (by injection e with e; subst e; unfold Pl.F; rw [q2, hvv]; simp [Value.ownBlock]))⟩ ?_
    rw [hvv]; exact hown
def sortI (l : List Int) : List Int := l.mergeSort fun x y => decide (x ≤ y)
theorem sortI_perm (l : List Int) : (sortI l).Perm l := List.mergeSort_perm l _
theorem sortI_len (l : List Int) : (sortI l).length = l.length := (sortI_perm l).length_eq
theorem sortI_pair (l : List Int) : (sortI l).Pairwise (· ≤ ·) := by
  have := List.pairwise_mergeSort (le := fun x y : Int => decide (x ≤ y)) (fun a b c h1 h2 => by simp at *; omega) (fun a b => by simp; omega) l
  exact this.imp (fun h => by simpa using h)
theorem con_sortI (l : List Int) (hl : l.length < 4611686018427387904) : Con2 Try.prog 76 [.own 0] [(0, .arr 3 1 true (l.map intD))] (.tup []) [(0, .arr 3 1 true ((sortI l).map intD))] :=
  con2_ints l (sortI l) (by kernel_rfl) (sortI_len l)
    (fun h w => Any.slices_Sort_int_none Try.lays189 none 0 w)
    (fun blk cap w hH hblk _ => Any.slices_Sort_int Try.lays189 blk 0 cap l w hH hblk hl)
end Go.Proofs.Ytepphdhnkaiamaa
