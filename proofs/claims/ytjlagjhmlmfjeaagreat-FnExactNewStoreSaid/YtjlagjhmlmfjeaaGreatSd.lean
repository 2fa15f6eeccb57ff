/-
  slices.CompactFunc at rows: a contract with memory handed in and back.
-/
import Derived.Test.YtjlagjhmlmfjeaaGreatSg
import Derived.Test.YtjlagjhmlmfjeaaGreatSc
namespace Go.Proofs.YtjlagjhmlmfjeaaGreat
open Go.ChangeShapes Go.WideShapes Go.ChangeAt Go.RowKit Go.Shelf Go.Lib
set_option linter.unusedVariables false
set_option linter.unusedSimpArgs false
def dedI (l : List (List Int)) (i j : Nat) : Bool := decide (l.getD i [] = l.getD j [])
def dedL (l : List (List Int)) : List Nat := (List.range l.length).filter fun j => decide (j = 0) || !dedI l j (j - 1)
/-- Of neighbours that are equal the first. -/
def dedR (l : List (List Int)) : List (List Int) := (dedL l).map fun i => l.getD i []
theorem dedL_comp (l : List (List Int)) : compC (dedI l) (List.range l.length).toArray l.length = dedL l := by
  unfold compC dedL
  have e : ∀ j, j < l.length → (List.range l.length).toArray[j]! = j := fun j hj => by simp [hj]
  have e1 : (List.range l.length).filter (keepC (dedI l) (List.range l.length).toArray) = (List.range l.length).filter fun j => decide (j = 0) || !dedI l j (j - 1) := by
    apply List.filter_congr
    intro j hj
    have hj := List.mem_range.1 hj
    unfold keepC
    rw [e j hj, e (j - 1) (by omega)]
  rw [e1]
  conv => rhs; rw [← List.map_id (List.filter _ _)]
  apply List.map_congr_left
  intro j hj
  exact e j (List.mem_range.1 (List.mem_filter.1 hj).1)
theorem sub_flat {α : Type} {l m : List (List α)} (h : List.Sublist l m) : List.Sublist l.flatten m.flatten := by
  induction h with
  | slnil => exact List.Sublist.refl _
  | cons a _ ih => rw [List.flatten_cons]; exact ih.trans (List.sublist_append_right _ _)
  | cons_cons a _ ih => rw [List.flatten_cons, List.flatten_cons]; exact (List.Sublist.refl a).append ih
theorem dedL_lt {l : List (List Int)} {i : Nat} (h : i ∈ dedL l) : i < l.length := List.mem_range.1 (List.mem_filter.1 h).1
set_option maxHeartbeats 2000000 in
theorem con_compact (l : List (List Int)) (hl : l.length < 4611686018427387904) : Con2 Tryz.prog 183 [.own 0, .fn 184 []] [(0, .arr 25 1 true (l.map eIntS))] (.own 1) [(1, .arr 25 1 true ((dedR l).map eIntS))] := by
  refine ⟨by kernel_rfl, by simp, fun A φ w vs hI hm => ?_⟩
  obtain ⟨pl, hp, css, Fs, q1, q2, q3, q4⟩ := hI.dom 0 _ rfl
  unfold MatchL at hm
  obtain ⟨v, us, e1, m1, hm⟩ := hm
  unfold MatchL at hm
  obtain ⟨v2, us2, e2, m2, hm⟩ := hm
  unfold MatchL at hm
  unfold MatchV at m1 m2
  obtain ⟨vs2, ev2, m3⟩ := m2
  unfold MatchL at m3
  have hv := m1 pl hp
  have e3 : vs2 = #[] := by apply Array.ext'; simpa using m3
  have ev : vs = #[pl.val, .func (.func 184) #[] #[]] := by apply Array.ext'; rw [e1, e2, hm, hv, ev2, e3]
  rw [ev]
  have hnd := hI.nodup 0 pl hp
  have hge := hI.ge 0 pl hp
  have hFe : pl.F = pl.val.ownBlock.toList ++ Fs.flatten := by unfold Pl.F; rw [q2, q3]
  have hfoot : ∀ b ∈ pl.F, AllF φ b := fun b hb => ⟨0, pl, trivial, hp, hb⟩
  have h0 : ∀ h pl', φ h = some pl' → h = 0 := fun h pl' e' => by
    cases hr : findH [(0, Rs.arr 25 1 true (l.map eIntS))] h with
    | none => rw [hI.non h hr] at e'; cases e'
    | some r =>
      simp only [findH] at hr
      split at hr
      · assumption
      · cases hr
  obtain ⟨lc, lF⟩ := owRs_lens q4
  rw [List.length_map] at lc lF
  -- the rows, one by one
  have hrow : ∀ i, i < l.length → ∃ a cap F, css[i]? = some [.slice a (l.getD i []).length cap] ∧ Fs[i]? = some F ∧ RowV w a (l.getD i []) ∧ (∀ x ∈ a, x.block ∈ F) ∧ (l.getD i []).length ≤ 9223372036854775807 ∧ OwCs w (eIntS (l.getD i [])) [.slice a (l.getD i []).length cap] F := fun i hi => by
    obtain ⟨r, hr⟩ := at_some hi
    have hg : l.getD i [] = r := by simp [List.getD_eq_getElem?_getD, hr]
    obtain ⟨c, F, g1, g2, _, g4⟩ := owRs_get q4 (show (l.map eIntS)[i]? = some (eIntS r) by rw [List.getElem?_map, hr]; rfl)
    obtain ⟨a, cap, rfl, k1, k2, k3⟩ := owRow g4
    rw [hg]
    exact ⟨a, cap, F, g1, g2, k1, k2, k3, g4⟩
  have hone : ∀ d ∈ css, d.length = 1 := fun d hd => by
    obtain ⟨i, hi⟩ := List.getElem?_of_mem hd
    obtain ⟨a, cap, F, g1, _⟩ := hrow i (by have := (List.getElem?_eq_some_iff.1 hi).1; omega)
    rw [hi] at g1
    injection g1 with g1
    rw [g1]; rfl
  let enc : Nat → Value := fun i => css.flatten.getD i (.slice none 0 0)
  have henc : ∀ i, ∃ a cap, enc i = .slice a (l.getD i []).length cap ∧ RowV w a (l.getD i []) ∧ (∀ x ∈ a, x.block ∈ Fs.flatten) ∧ (l.getD i []).length ≤ 9223372036854775807 := fun i => by
    by_cases hi : i < l.length
    · obtain ⟨a, cap, F, g1, g2, g3, g4, g5, _⟩ := hrow i hi
      refine ⟨a, cap, ?_, g3, fun x hx => List.mem_flatten.2 ⟨F, List.mem_of_getElem? g2, g4 x hx⟩, g5⟩
      show css.flatten.getD i _ = _
      rw [List.getD_eq_getElem?_getD, flat_one css i _ hone g1]; rfl
    · have hg : l.getD i [] = [] := by rw [List.getD_eq_getElem?_getD, List.getElem?_eq_none (by omega)]; rfl
      rw [hg]
      refine ⟨none, 0, ?_, fun j x hx => by simp at hx, by simp, by simp⟩
      show css.flatten.getD i _ = _
      rw [List.getD_eq_getElem?_getD, List.getElem?_eq_none (by rw [flat_len css hone]; omega)]; rfl
  have h1 : φ 1 = none := hI.non 1 rfl
  have hend : ∀ (v' : Value) (w' : World), Only pl.F w w' → (∀ F ∈ Fs, KeptOn F w w') → (∀ b ∈ v'.ownBlock, b ∈ pl.val.ownBlock) → w'.ownsRow 0 25 1 v' (dedL l).length ((dedL l).map enc) →
      ∃ v K φ', Ending.returned v' = .returned v ∧ Out2 A φ w [(1, .arr 25 1 true ((dedR l).map eIntS))] K φ' w' ∧ MatchV K φ' w' (.own 1) v := by
    intro v' w' hon hkeep hvb howns
    have hFr : (List.range l.length).map (fun i => Fs.getD i []) = Fs := by
      apply List.ext_getElem?
      intro i
      by_cases hi : i < l.length
      · simp [hi, show i < Fs.length by omega]
      · simp [hi, show ¬ i < Fs.length by omega]
    have hsub : List.Sublist ((dedL l).map fun i => Fs.getD i []).flatten Fs.flatten := by
      have : List.Sublist ((dedL l).map fun i => Fs.getD i []) ((List.range l.length).map fun i => Fs.getD i []) := List.filter_sublist.map _
      rw [hFr] at this
      exact sub_flat this
    let pl' : Pl := ⟨v', v'.ownBlock.toList, ((dedL l).map fun i => Fs.getD i []).flatten⟩
    have hmem : ∀ g, g ∈ pl'.F → g ∈ pl.F := fun g hg => by
      rw [hFe]
      simp only [pl', Pl.F, List.mem_append, Option.mem_toList] at hg ⊢
      rcases hg with h | h
      · exact .inl (hvb g h)
      · exact .inr (List.Sublist.mem h hsub)
    have hnd' : pl'.F.Nodup := by
      rw [hFe] at hnd
      have hn := List.nodup_append.1 hnd
      simp only [pl', Pl.F]
      refine List.nodup_append.2 ⟨by cases v'.ownBlock <;> simp, hsub.nodup hn.2.1, fun x hx y hy => ?_⟩
      exact hn.2.2 x (by rw [Option.mem_toList] at hx ⊢; exact hvb x hx) y (List.Sublist.mem hy hsub)
    refine ⟨_, A, fun h => if h = 1 then some pl' else none, rfl, ⟨⟨hon.os, hon.tape, hon.output, hon.size, fun b hb hn => hon.block b hb (fun hm => hn (hfoot b hm))⟩, fun _ h => h, fun b hb => ⟨Nat.lt_of_lt_of_le (hI.lt b hb) hon.size, .inl hb⟩, fun b hb h pl1 e' hm' => ?_, fun h r hr => ?_, fun h hr => ?_, fun h h' pl1 pl2 hne ea eb => ?_, fun h pl1 e' => ?_, fun h pl1 e' g hg => ?_, fun h pl1 pl0 e' e0 => ?_⟩, ?_⟩
    · split at e'
      · injection e' with e'; subst e'
        exact hI.out b hb 0 pl hp (hmem b hm')
      · cases e'
    · simp only [findH] at hr
      split at hr
      · rename_i eh
        subst eh
        injection hr with hr
        subst hr
        refine ⟨pl', by simp, (dedL l).map (fun i => [enc i]), (dedL l).map (fun i => Fs.getD i []), ?_, rfl, rfl, ?_⟩
        · rw [flat_enc enc (dedL l), List.length_map, dedR, List.length_map]; exact howns
        · rw [dedR, List.map_map]
          refine owRs_map (fun i => eIntS (l.getD i [])) (fun i => [enc i]) (fun i => Fs.getD i []) fun i hi => ⟨rfl, ?_⟩
          obtain ⟨a, cap, F, g1, g2, g3, g4, g5, g6⟩ := hrow i (dedL_lt hi)
          have ee : enc i = .slice a (l.getD i []).length cap := by
            show css.flatten.getD i _ = _
            rw [List.getD_eq_getElem?_getD, flat_one css i _ hone g1]; rfl
          have eF : Fs.getD i [] = F := by simp [List.getD_eq_getElem?_getD, g2]
          rw [ee, eF]
          exact OwCs.kept _ _ _ (hkeep F (List.mem_of_getElem? g2)) g6
      · cases hr
    · simp only [findH] at hr
      split at hr
      · cases hr
      · rename_i eh; exact if_neg eh
    · split at ea
      · split at eb
        · rename_i x y; exact absurd (x.trans y.symm) hne
        · cases eb
      · cases ea
    · split at e'
      · injection e' with e'; subst e'; exact hnd'
      · cases e'
    · split at e'
      · injection e' with e'; subst e'
        have := hmem g hg
        exact ⟨.inr (hfoot g this), Nat.lt_of_lt_of_le (hge g this) hon.size⟩
      · cases e'
    · split at e'
      · rename_i eh
        subst eh
        rw [h1] at e0; cases e0
      · cases e'
    · unfold MatchV
      intro pl1 e'
      simp at e'
      subst e'
      rfl
  rw [List.length_map] at q1
  rcases q1.2 with ⟨hvn, hz⟩ | ⟨g, cap, cur, hvv, hg0, hb, hn, hcap, hsz, htk⟩
  · have hz' : l = [] := List.eq_nil_of_length_eq_zero hz
    subst hz'
    rw [hvn]
    have hcon : Calls Tryz.prog 183 #[.slice none 0 0, .func (.func 184) #[] #[]] w fun e w' => e = .returned (.slice none 0 0) ∧ w' = w := by
      clear hend
      go_enter Tryz.func183, Tryz.ntmps183
      go_wp2
      go_ret
      exact ⟨rfl, rfl⟩
    refine hcon.mono ?_
    rintro en w' ⟨rfl, rfl⟩
    exact hend (.slice none 0 0) w' (Only.refl _ _) (fun F hF g hg => rfl) (fun b hb => by cases hb) ⟨by simp [dedL], .inl ⟨rfl, by simp [dedL]⟩⟩
  · have hgF : g ∉ Fs.flatten := fun hm => by
      rw [hFe, hvv] at hnd
      simp only [Value.ownBlock, Option.toList_some, List.cons_append, List.nil_append, List.nodup_cons] at hnd
      exact hnd.1 hm
    have hgs : g < w.heap.size := (Array.getElem?_eq_some_iff.1 hb).1
    have hin : ∀ b ∈ Fs.flatten, b < w.heap.size ∧ b ≠ g := fun b hb' => ⟨hge b (by rw [hFe]; exact List.mem_append_right _ hb'), fun e => hgF (e ▸ hb')⟩
    have hw0 : ∀ (dk : Array Nat) (q : Nat), Go.Sort.putRow enc (Go.Sort.ahead w q) g 0 dk = sortWorld enc w g 0 q dk #[] := fun dk q => by unfold sortWorld; rw [Go.Sort.grow_empty]
    have hcmp : ∀ (dk : Array Nat) (q : Nat) (x y : Nat), dk.size = (List.range l.length).toArray.size → ∀ n, Calls Tryz.prog 184 #[enc x, enc y] ((Go.Sort.putRow enc (Go.Sort.ahead w q) g 0 dk).drewN n) fun e w' => e = .returned (.bool (dedI l x y)) ∧ ∃ qq, w' = ((Go.Sort.putRow enc (Go.Sort.ahead w q) g 0 dk).drewN n).drewN qq := fun dk q x y _ n => by
      obtain ⟨a1, c1, ex, r1, k1, b1⟩ := henc x
      obtain ⟨a2, c2, ey, r2, k2, b2⟩ := henc y
      rw [ex, ey]
      have hk : ∀ b, b ∈ Fs.flatten → ((Go.Sort.putRow enc (Go.Sort.ahead w q) g 0 dk).drewN n).heap[b]? = w.heap[b]? := fun b hb' => by
        show (Go.Sort.putRow enc (Go.Sort.ahead w q) g 0 dk).heap[b]? = _
        rw [hw0]
        exact cells_kept dk (hin b hb').1 (hin b hb').2
      exact eqc_raw a1 a2 c1 c2 _ _ _ b1 b2 (rowV_kept r1 fun q hq => hk _ (k1 q hq)) (rowV_kept r2 fun q hq => hk _ (k2 q hq))
    have htk' : cur.toList.take l.length = css.flatten := by rw [Nat.mul_one] at htk; exact htk
    have hH : Go.Sort.Holds enc w g 0 (List.range l.length).toArray := fun j hj => by
      have hj' : j < l.length := by simpa using hj
      refine ⟨?_, by simp [World.frozen?, hb]⟩
      have h1 : (cur.toList.take l.length)[j]? = css.flatten[j]? := by rw [htk']
      rw [List.getElem?_take_of_lt hj'] at h1
      simp only [World.cell?, hb, Nat.zero_add, Option.isSome_none, Bool.false_eq_true, if_false]
      rw [← Array.getElem?_toList, h1]
      obtain ⟨a, cap', F, g1, _⟩ := hrow j hj'
      have h2 := flat_one css j _ hone g1
      have ee : enc j = .slice a (l.getD j []).length cap' := by
        show css.flatten.getD j _ = _
        rw [List.getD_eq_getElem?_getD, h2]; rfl
      have ej : (List.range l.length).toArray[j]! = j := by simp [hj']
      rw [h2, ej, ee]
    have hone1 : OneCell enc := fun x => by
      obtain ⟨a, c, ex, _⟩ := henc x
      rw [ex]; rfl
    have hzr : enc l.length = .slice none 0 0 := by
      show css.flatten.getD l.length _ = _
      rw [List.getD_eq_getElem?_getD, List.getElem?_eq_none (by rw [flat_len css hone]; omega)]; rfl
    have hszd : (List.range l.length).toArray.size = l.length := by simp
    have hcon := compact_raw enc (dedI l) hone1 l.length hzr g 0 cap (List.range l.length).toArray w hH (by rw [hszd]; omega) (by rw [hszd]; exact hn) hcmp
    rw [hszd, dedL_comp] at hcon
    rw [hvv]
    refine hcon.mono ?_
    rintro en w' ⟨rfl, q, rfl⟩
    have hle : (dedL l).length ≤ l.length := by
      have := (List.filter_sublist (l := List.range l.length) (p := fun j => decide (j = 0) || !dedI l j (j - 1))).length_le
      simpa [dedL] using this
    have hkb : ∀ k, k < w.heap.size → k ≠ g → (Go.Sort.putRow enc (Go.Sort.ahead w q) g 0 (dedL l ++ List.replicate (l.length - (dedL l).length) l.length).toArray).heap[k]? = w.heap[k]? := fun k hk hne => by rw [hw0]; exact cells_kept _ hk hne
    refine hend _ _ ⟨rfl, rfl, rfl, by simp, fun k hk hne => hkb k hk (fun e => hne (by rw [hFe, hvv, e]; simp [Value.ownBlock]))⟩
      (fun F hF b hb' => hkb b (hin b (List.mem_flatten.2 ⟨F, hF, hb'⟩)).1 (hin b (List.mem_flatten.2 ⟨F, hF, hb'⟩)).2)
      (fun b hb' => by rw [hvv]; exact hb') ?_
    rw [hw0]
    refine ⟨by simp, .inr ⟨g, cap, _, rfl, hg0, cells_put _ hb, by omega, hcap, by simp [Go.Sort.putCells, hsz], ?_⟩⟩
    rw [Nat.mul_one]
    have := put_take enc cur (dedL l ++ List.replicate (l.length - (dedL l).length) l.length) (by simp; omega)
    have h3 := congrArg (List.take (dedL l).length) this
    rw [List.take_take, List.map_append, List.take_append_of_le_length (by simp)] at h3
    rw [show min (dedL l).length (dedL l ++ List.replicate (l.length - (dedL l).length) l.length).length = (dedL l).length by simp] at h3
    rw [h3, List.take_of_length_le (by simp)]
end Go.Proofs.YtjlagjhmlmfjeaaGreat
