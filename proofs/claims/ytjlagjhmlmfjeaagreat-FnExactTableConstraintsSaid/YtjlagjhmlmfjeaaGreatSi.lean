/-
  Rows of numbers turned in place by the library: sorted, as a contract.
-/
import Derived.Shelf.Sort.Plain
import Derived.Shelf.Slices.In.SortNone
import Derived.Sort.OwnSortedInts
import Derived.Test.YtjlagjhmlmfjeaaGreatDa
namespace Go.Proofs
open Go.Shelf
namespace YtjlagjhmlmfjeaaGreat
def Tryz.lays189_ren : Go.Shelf.Ren := ⟨fun | 189 => 146 | 125 => 188 | 257 => 187 | 128 => 209 | 129 => 210 | 294 => 200 | 295 => 201 | 296 => 202 | 297 => 203 | 298 => 204 | 299 => 205 | 216 => 206 | 300 => 207 | 301 => 208 | 328 => 227 | 329 => 228 | 330 => 229 | 331 => 230 | 332 => 231 | 215 => 232 | 343 => 239 | n => n, fun | 28 => 25 | 3 => 3 | 46 => 199 | 0 => 0 | 51 => 213 | 53 => 215 | 4 => 4 | 183 => 205 | 182 => 204 | 131 => 210 | 5 => 5 | 9 => 9 | 218 => 224 | 222 => 228 | 228 => 234 | 229 => 235 | n => n, fun | n => n⟩
theorem Tryz.lays189 : Go.Proofs.Lays.n189 Tryz.prog Tryz.lays189_ren := {
  mixed := by kernel_rfl
  f125 := Tryz.func188.trans (congrArg some (by kernel_rfl))
  f128 := Tryz.func209.trans (congrArg some (by kernel_rfl))
  f129 := Tryz.func210.trans (congrArg some (by kernel_rfl))
  f189 := Tryz.func146.trans (congrArg some (by kernel_rfl))
  f215 := Tryz.func232.trans (congrArg some (by kernel_rfl))
  f216 := Tryz.func206.trans (congrArg some (by kernel_rfl))
  f257 := Tryz.func187.trans (congrArg some (by kernel_rfl))
  f294 := Tryz.func200.trans (congrArg some (by kernel_rfl))
  f295 := Tryz.func201.trans (congrArg some (by kernel_rfl))
  f296 := Tryz.func202.trans (congrArg some (by kernel_rfl))
  f297 := Tryz.func203.trans (congrArg some (by kernel_rfl))
  f298 := Tryz.func204.trans (congrArg some (by kernel_rfl))
  f299 := Tryz.func205.trans (congrArg some (by kernel_rfl))
  f300 := Tryz.func207.trans (congrArg some (by kernel_rfl))
  f301 := Tryz.func208.trans (congrArg some (by kernel_rfl))
  f328 := Tryz.func227.trans (congrArg some (by kernel_rfl))
  f329 := Tryz.func228.trans (congrArg some (by kernel_rfl))
  f330 := Tryz.func229.trans (congrArg some (by kernel_rfl))
  f331 := Tryz.func230.trans (congrArg some (by kernel_rfl))
  f332 := Tryz.func231.trans (congrArg some (by kernel_rfl))
  f343 := Tryz.func239.trans (congrArg some (by kernel_rfl))
  t0 := Tryz.underlying0
  a0 := Tryz.isAgg0
  z0 := Tryz.sizeOf0
  v0 := Tryz.zeroValue0
  t3 := Tryz.underlying3
  a3 := Tryz.isAgg3
  z3 := Tryz.sizeOf3
  v3 := Tryz.zeroValue3
  t4 := Tryz.underlying4
  a4 := Tryz.isAgg4
  z4 := Tryz.sizeOf4
  v4 := Tryz.zeroValue4
  t5 := Tryz.underlying5
  a5 := Tryz.isAgg5
  z5 := Tryz.sizeOf5
  v5 := Tryz.zeroValue5
  t9 := Tryz.underlying9
  a9 := Tryz.isAgg9
  z9 := Tryz.sizeOf9
  v9 := Tryz.zeroValue9
  t28 := Tryz.underlying25
  a28 := Tryz.isAgg25
  z28 := Tryz.sizeOf25
  v28 := Tryz.zeroValue25
  t46 := Tryz.underlying199
  a46 := Tryz.isAgg199
  z46 := Tryz.sizeOf199
  v46 := Tryz.zeroValue199
  t51 := Tryz.underlying213
  a51 := Tryz.isAgg213
  z51 := Tryz.sizeOf213
  v51 := Tryz.zeroValue213
  t53 := Tryz.underlying215
  a53 := Tryz.isAgg215
  z53 := Tryz.sizeOf215
  v53 := Tryz.zeroValue215
  t131 := Tryz.underlying210
  a131 := Tryz.isAgg210
  z131 := Tryz.sizeOf210
  v131 := Tryz.zeroValue210
  t182 := Tryz.underlying204
  a182 := Tryz.isAgg204
  z182 := Tryz.sizeOf204
  v182 := Tryz.zeroValue204
  t183 := Tryz.underlying205
  a183 := Tryz.isAgg205
  z183 := Tryz.sizeOf205
  v183 := Tryz.zeroValue205
  t218 := Tryz.underlying224
  a218 := Tryz.isAgg224
  z218 := Tryz.sizeOf224
  v218 := Tryz.zeroValue224
  t222 := Tryz.underlying228
  a222 := Tryz.isAgg228
  z222 := Tryz.sizeOf228
  v222 := Tryz.zeroValue228
  t228 := Tryz.underlying234
  a228 := Tryz.isAgg234
  z228 := Tryz.sizeOf234
  v228 := Tryz.zeroValue234
  t229 := Tryz.underlying235
  a229 := Tryz.isAgg235
  z229 := Tryz.sizeOf235
  v229 := Tryz.zeroValue235 }
end YtjlagjhmlmfjeaaGreat
end Go.Proofs
namespace Go.Proofs.YtjlagjhmlmfjeaaGreat
open Go.ChangeShapes Go.WideShapes Go.ChangeAt Go.RowKit
set_option linter.unusedVariables false
set_option linter.unusedSimpArgs false
theorem owRs_ints {w : World} : ∀ {l : List Int} {css : List (List Value)} {Fs : List (List Nat)}, OwRs w 1 (l.map intD) css Fs → css.flatten = l.map (Value.int .i64) ∧ Fs.flatten = []
  | [], css, Fs, h => by
    simp only [List.map_nil] at h
    unfold OwRs at h
    rw [h.1, h.2]; simp
  | n :: l, css, Fs, h => by
    simp only [List.map_cons] at h
    unfold OwRs at h
    obtain ⟨c, css', F, Fs', rfl, rfl, _, h1, h2⟩ := h
    obtain ⟨q1, q2⟩ := owRs_ints h2
    unfold intD OwCs at h1
    obtain ⟨v, cs', F1, F2, rfl, rfl, h3, h4⟩ := h1
    unfold OwCs at h4
    unfold OwV at h3
    simp [q1, q2, h4.1, h4.2, h3.1, h3.2]
theorem owRs_of_ints (w : World) : ∀ (l : List Int), OwRs w 1 (l.map intD) (l.map fun n => [Value.int .i64 n]) (l.map fun _ => [])
  | [] => by simp only [List.map_nil]; unfold OwRs; exact ⟨rfl, rfl⟩
  | n :: l => by
    simp only [List.map_cons]
    unfold OwRs
    refine ⟨_, _, _, _, rfl, rfl, rfl, ?_, owRs_of_ints w l⟩
    unfold intD OwCs
    refine ⟨_, _, [], [], rfl, rfl, ?_, ?_⟩
    · unfold OwV; exact ⟨rfl, rfl⟩
    · unfold OwCs; exact ⟨rfl, rfl⟩
theorem flat_ints : ∀ (m : List Int), (m.map fun n => [Value.int .i64 n]).flatten = m.map (Value.int .i64)
  | [] => rfl
  | a :: l => by simp only [List.map_cons, List.flatten_cons, flat_ints l]; rfl
theorem con2_ints {P : Program} {f : FuncId} {e : Nat} (l m : List Int) (hc : callable P f = true) (hm : m.length = l.length)
    (hn0 : l = [] → ∀ w, Calls P f #[.slice none 0 0] w (fun ex w' => ex = .returned (.tuple #[]) ∧ w' = w))
    (hs : ∀ (blk cap : Nat) (w : World), Go.Sort.Holds (Value.int .i64) w blk 0 l.toArray → blk < w.heap.size → l.length ≤ cap → Calls P f #[.slice (some ⟨blk, 0, none⟩) l.length cap] w (fun ex w' => ex = .returned (.tuple #[]) ∧ ∃ n os, w' = Go.Sort.grow (Go.Sort.putRow (Value.int .i64) (Go.Sort.ahead w n) blk 0 m.toArray) os)) :
    Con2 P f [.own 0] [(0, .arr e 1 true (l.map intD))] (.tup []) [(0, .arr e 1 true (m.map intD))] := by
  refine ⟨hc, by simp, fun A φ w vs hI hM => ?_⟩
  obtain ⟨pl, hp, css, Fs, q1, q2, q3, q4⟩ := hI.dom 0 _ rfl
  unfold MatchL at hM
  obtain ⟨v, us, e1, m1, hM⟩ := hM
  unfold MatchL at hM
  unfold MatchV at m1
  have hv := m1 pl hp
  have ev : vs = #[pl.val] := by apply Array.ext'; rw [e1, hM, hv]
  rw [ev]
  obtain ⟨c1, c2⟩ := owRs_ints q4
  rw [c1, List.length_map] at q1
  have hge := hI.ge 0 pl hp
  have hsub : pl.sub = [] := by rw [q3, c2]
  have hfoot : ∀ b ∈ pl.F, AllF φ b := fun b hb => ⟨0, pl, trivial, hp, hb⟩
  have hend : ∀ (w' : World), Only pl.F w w' → w'.ownsRow 0 e 1 pl.val l.length (m.map (Value.int .i64)) →
      ∃ v K φ', Ending.returned (.tuple #[]) = .returned v ∧ Out2 A φ w [(0, .arr e 1 true (m.map intD))] K φ' w' ∧ MatchV K φ' w' (.tup []) v := by
    intro w' hon howns
    refine ⟨_, A, fun h => if h = 0 then some pl else none, rfl, ⟨⟨hon.os, hon.tape, hon.output, hon.size, fun b hb hn => hon.block b hb (fun hm => hn (hfoot b hm))⟩, fun _ h => h, fun b hb => ⟨Nat.lt_of_lt_of_le (hI.lt b hb) hon.size, .inl hb⟩, fun b hb h pl1 e' hm' => ?_, fun h r hr => ?_, fun h hr => ?_, fun h h' pl1 pl2 hne ea eb => ?_, fun h pl1 e' => ?_, fun h pl1 e' g hg => ?_, fun h pl1 pl0 e' e0 => ?_⟩, ?_⟩
    · split at e'
      · injection e' with e'; subst e'
        exact hI.out b hb 0 pl hp hm'
      · cases e'
    · simp only [findH] at hr
      split at hr
      · rename_i eh
        subst eh
        injection hr with hr
        subst hr
        refine ⟨pl, by simp, m.map fun n => [Value.int .i64 n], m.map fun _ => [], ?_, q2, ?_, owRs_of_ints _ m⟩
        · rw [flat_ints, List.length_map, hm]; exact howns
        · rw [hsub]; simp
      · cases hr
    · simp only [findH] at hr
      split at hr
      · cases hr
      · rename_i eh; exact if_neg eh
    · split at ea
      · split at eb
        · rename_i x y; exact absurd (x.trans y.symm) hne
        · cases eb
      · cases ea
    · split at e'
      · injection e' with e'; subst e'; exact hI.nodup 0 pl hp
      · cases e'
    · split at e'
      · injection e' with e'; subst e'
        exact ⟨.inr (hfoot g hg), Nat.lt_of_lt_of_le (hge g hg) hon.size⟩
      · cases e'
    · split at e'
      · rename_i eh
        subst eh
        rw [hp] at e0
        injection e0 with e0; injection e' with e'
        subst e0; subst e'
        exact ⟨rfl, rfl⟩
      · cases e'
    · unfold MatchV
      exact ⟨#[], rfl, by unfold MatchL; rfl⟩
  rcases q1.2 with ⟨hvn, hz⟩ | ⟨g, cap, cur, hvv, hg0, hb, hn, hcap, hsz, htk⟩
  · have hz' : l = [] := List.eq_nil_of_length_eq_zero hz
    rw [hvn]
    refine (hn0 hz' w).mono ?_
    rintro en w' ⟨rfl, rfl⟩
    have hm0 : m = [] := List.eq_nil_of_length_eq_zero (by rw [hm, hz])
    refine hend w' (Only.refl _ _) ?_
    rw [hvn, hm0, hz]
    exact ⟨by simp, .inl ⟨rfl, rfl⟩⟩
  · have hlt : g < w.heap.size := (Array.getElem?_eq_some_iff.1 hb).1
    have hH : Go.Sort.Holds (Value.int .i64) w g 0 l.toArray := holds_of_blockI hb (by rw [Nat.mul_one] at htk; exact htk)
    rw [hvv]
    refine (hs g cap w hH hlt hn).mono ?_
    rintro en w' ⟨rfl, n, os, rfl⟩
    have hgb := grownBy_sortedI (w := w) (g := g) (n := n) (os := os) m.toArray
    have hown := ownsRow_sortedI (n := n) (os := os) hm hg0 hb hn hcap hsz
    refine hend _ ⟨hgb.os, hgb.tape, hgb.output, hgb.size, fun k hk hne => hgb.block k hk (fun e => hne (by injection e with e; subst e; unfold Pl.F; rw [q2, hvv]; simp [Value.ownBlock]))⟩ ?_
    rw [hvv]; exact hown
def sortI (l : List Int) : List Int := l.mergeSort fun x y => decide (x ≤ y)
theorem sortI_perm (l : List Int) : (sortI l).Perm l := List.mergeSort_perm l _
theorem sortI_len (l : List Int) : (sortI l).length = l.length := (sortI_perm l).length_eq
theorem sortI_pair (l : List Int) : (sortI l).Pairwise (· ≤ ·) := by
  have := List.pairwise_mergeSort (le := fun x y : Int => decide (x ≤ y)) (fun a b c h1 h2 => by simp at *; omega) (fun a b => by simp; omega) l
  exact this.imp (fun h => by simpa using h)
theorem con_sortI (l : List Int) (hl : l.length < 4611686018427387904) : Con2 Tryz.prog 146 [.own 0] [(0, .arr 3 1 true (l.map intD))] (.tup []) [(0, .arr 3 1 true ((sortI l).map intD))] :=
  con2_ints l (sortI l) (by kernel_rfl) (sortI_len l)
    (fun h w => Any.slices_Sort_int_none Tryz.lays189 none 0 w)
    (fun blk cap w hH hblk _ => Any.slices_Sort_int Tryz.lays189 blk 0 cap l w hH hblk hl)
end Go.Proofs.YtjlagjhmlmfjeaaGreat
