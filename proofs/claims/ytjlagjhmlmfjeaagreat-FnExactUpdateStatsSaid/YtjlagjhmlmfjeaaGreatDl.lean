/-
  slices.Delete of one row: a contract with memory handed in and back.
-/
import Derived.Test.YtjlagjhmlmfjeaaGreatSg
import Derived.Test.YtjlagjhmlmfjeaaGreatSd
import Derived.Shelf.SlicesE.Delete
import Derived.Ground.SlgnProg
namespace Go.Proofs
open Go.Shelf
namespace YtjlagjhmlmfjeaaGreat
def Tryz.dlRows_ren : Go.Shelf.Ren := ⟨fun | 45 => 139 | n => n, fun | 22 => 105 | 23 => 25 | 3 => 3 | 4 => 4 | 0 => 0 | n => n, fun | n => n⟩
theorem Tryz.dlRows : Go.Proofs.SlLaysE.n45 Tryz.prog Tryz.dlRows_ren := {
  mixed := by kernel_rfl
  f45 := ⟨Tryz.f139.name, by decide, Tryz.func139.trans (congrArg some (by kernel_rfl))⟩
  t0 := Tryz.underlying0
  a0 := Tryz.isAgg0
  z0 := Tryz.sizeOf0
  v0 := Tryz.zeroValue0
  t3 := Tryz.underlying3
  a3 := Tryz.isAgg3
  z3 := Tryz.sizeOf3
  v3 := Tryz.zeroValue3
  t4 := Tryz.underlying4
  a4 := Tryz.isAgg4
  z4 := Tryz.sizeOf4
  v4 := Tryz.zeroValue4
  t22 := Tryz.underlying105
  a22 := Tryz.isAgg105
  z22 := Tryz.sizeOf105
  v22 := Tryz.zeroValue105
  a23 := Tryz.isAgg25
  z23 := Tryz.sizeOf25 }
end YtjlagjhmlmfjeaaGreat
end Go.Proofs
namespace Go.Proofs.YtjlagjhmlmfjeaaGreat
open Go.ChangeShapes Go.WideShapes Go.ChangeAt Go.RowKit Go.Shelf Go.Lib
set_option linter.unusedVariables false
set_option linter.unusedSimpArgs false
noncomputable def elI : TypeInfo := (Tryz.prog.info? 25).get (by kernel_rfl)
theorem tyRow : tyOf Tryz.prog 25 = some (false, 1, 24, .slice none 0 0) := by kernel_rfl
theorem zeroRow (w : World) : (zeroValue 25).run Tryz.prog w = .ok (.slice none 0 0) w := (tyOf_spec tyRow w).2.2.1
def delL (l : List (List Int)) (k : Nat) : List Nat := (List.range l.length).eraseIdx k
theorem delL_lt {l : List (List Int)} {k i : Nat} (h : i ∈ delL l k) : i < l.length := List.mem_range.1 ((List.eraseIdx_sublist _ _).mem h)
theorem delL_map (l : List (List Int)) (k : Nat) : l.eraseIdx k = (delL l k).map fun i => l.getD i [] := by
  have e : l = (List.range l.length).map fun i => l.getD i [] := by
    apply List.ext_getElem?
    intro i
    by_cases hi : i < l.length
    · simp [hi]
    · simp [hi, List.getElem?_eq_none (show l.length ≤ i by omega)]
  conv => lhs; rw [e]
  rw [delL, List.eraseIdx_eq_take_drop_succ, List.eraseIdx_eq_take_drop_succ, List.map_append, List.map_take, List.map_drop]
set_option maxHeartbeats 2000000 in
theorem con_delete (l : List (List Int)) (i j : Int) (k : Nat) (hi : i = (k : Int)) (hj : j = (k : Int) + 1) (hk : k < l.length) (hl : l.length < 4611686018427387904) : Con2 Tryz.prog 139 [.own 0, vI i, vI j] [(0, .arr 25 1 true (l.map eIntS))] (.own 1) [(1, .arr 25 1 true ((l.eraseIdx k).map eIntS))] := by
  refine ⟨by kernel_rfl, by simp, fun A φ w vs hI hm => ?_⟩
  obtain ⟨pl, hp, css, Fs, q1, q2, q3, q4⟩ := hI.dom 0 _ rfl
  unfold MatchL at hm
  obtain ⟨v, us, e1, m1, hm⟩ := hm
  unfold MatchL at hm
  obtain ⟨v2, us2, e2, m2, hm⟩ := hm
  unfold MatchL at hm
  obtain ⟨v3, us3, e3, m3, hm⟩ := hm
  unfold MatchL at hm
  unfold MatchV at m1 m2 m3
  unfold RdV at m2 m3
  have hv := m1 pl hp
  subst hi hj
  have ev : vs = #[pl.val, .int .i64 (k : Int), .int .i64 ((k : Int) + 1)] := by apply Array.ext'; rw [e1, e2, e3, hm, hv, m2, m3]
  rw [ev]
  have hnd := hI.nodup 0 pl hp
  have hge := hI.ge 0 pl hp
  have hFe : pl.F = pl.val.ownBlock.toList ++ Fs.flatten := by unfold Pl.F; rw [q2, q3]
  have hfoot : ∀ b ∈ pl.F, AllF φ b := fun b hb => ⟨0, pl, trivial, hp, hb⟩
  have h0 : ∀ h pl', φ h = some pl' → h = 0 := fun h pl' e' => by
    cases hr : findH [(0, Rs.arr 25 1 true (l.map eIntS))] h with
    | none => rw [hI.non h hr] at e'; cases e'
    | some r =>
      simp only [findH] at hr
      split at hr
      · assumption
      · cases hr
  obtain ⟨lc, lF⟩ := owRs_lens q4
  rw [List.length_map] at lc lF
  -- the rows, one by one
  have hrow : ∀ i, i < l.length → ∃ a cap F, css[i]? = some [.slice a (l.getD i []).length cap] ∧ Fs[i]? = some F ∧ RowV w a (l.getD i []) ∧ (∀ x ∈ a, x.block ∈ F) ∧ (l.getD i []).length ≤ 9223372036854775807 ∧ OwCs w (eIntS (l.getD i [])) [.slice a (l.getD i []).length cap] F := fun i hi => by
    obtain ⟨r, hr⟩ := at_some hi
    have hg : l.getD i [] = r := by simp [List.getD_eq_getElem?_getD, hr]
    obtain ⟨c, F, g1, g2, _, g4⟩ := owRs_get q4 (show (l.map eIntS)[i]? = some (eIntS r) by rw [List.getElem?_map, hr]; rfl)
    obtain ⟨a, cap, rfl, k1, k2, k3⟩ := owRow g4
    rw [hg]
    exact ⟨a, cap, F, g1, g2, k1, k2, k3, g4⟩
  have hone : ∀ d ∈ css, d.length = 1 := fun d hd => by
    obtain ⟨i, hi⟩ := List.getElem?_of_mem hd
    obtain ⟨a, cap, F, g1, _⟩ := hrow i (by have := (List.getElem?_eq_some_iff.1 hi).1; omega)
    rw [hi] at g1
    injection g1 with g1
    rw [g1]; rfl
  let enc : Nat → Value := fun i => css.flatten.getD i (.slice none 0 0)
  have henc : ∀ i, ∃ a cap, enc i = .slice a (l.getD i []).length cap ∧ RowV w a (l.getD i []) ∧ (∀ x ∈ a, x.block ∈ Fs.flatten) ∧ (l.getD i []).length ≤ 9223372036854775807 := fun i => by
    by_cases hi : i < l.length
    · obtain ⟨a, cap, F, g1, g2, g3, g4, g5, _⟩ := hrow i hi
      refine ⟨a, cap, ?_, g3, fun x hx => List.mem_flatten.2 ⟨F, List.mem_of_getElem? g2, g4 x hx⟩, g5⟩
      show css.flatten.getD i _ = _
      rw [List.getD_eq_getElem?_getD, flat_one css i _ hone g1]; rfl
    · have hg : l.getD i [] = [] := by rw [List.getD_eq_getElem?_getD, List.getElem?_eq_none (by omega)]; rfl
      rw [hg]
      refine ⟨none, 0, ?_, fun j x hx => by simp at hx, by simp, by simp⟩
      show css.flatten.getD i _ = _
      rw [List.getD_eq_getElem?_getD, List.getElem?_eq_none (by rw [flat_len css hone]; omega)]; rfl
  have h1 : φ 1 = none := hI.non 1 rfl
  have hend : ∀ (v' : Value) (w' : World), Only pl.F w w' → (∀ F ∈ Fs, KeptOn F w w') → (∀ b ∈ v'.ownBlock, b ∈ pl.val.ownBlock) → w'.ownsRow 0 25 1 v' (delL l k).length ((delL l k).map enc) →
      ∃ v K φ', Ending.returned v' = .returned v ∧ Out2 A φ w [(1, .arr 25 1 true ((l.eraseIdx k).map eIntS))] K φ' w' ∧ MatchV K φ' w' (.own 1) v := by
    intro v' w' hon hkeep hvb howns
    have hFr : (List.range l.length).map (fun i => Fs.getD i []) = Fs := by
      apply List.ext_getElem?
      intro i
      by_cases hi : i < l.length
      · simp [hi, show i < Fs.length by omega]
      · simp [hi, show ¬ i < Fs.length by omega]
    have hsub : List.Sublist ((delL l k).map fun i => Fs.getD i []).flatten Fs.flatten := by
      have : List.Sublist ((delL l k).map fun i => Fs.getD i []) ((List.range l.length).map fun i => Fs.getD i []) := (List.eraseIdx_sublist _ _).map _
      rw [hFr] at this
      exact sub_flat this
    let pl' : Pl := ⟨v', v'.ownBlock.toList, ((delL l k).map fun i => Fs.getD i []).flatten⟩
    have hmem : ∀ g, g ∈ pl'.F → g ∈ pl.F := fun g hg => by
      rw [hFe]
      simp only [pl', Pl.F, List.mem_append, Option.mem_toList] at hg ⊢
      rcases hg with h | h
      · exact .inl (hvb g h)
      · exact .inr (List.Sublist.mem h hsub)
    have hnd' : pl'.F.Nodup := by
      rw [hFe] at hnd
      have hn := List.nodup_append.1 hnd
      simp only [pl', Pl.F]
      refine List.nodup_append.2 ⟨by cases v'.ownBlock <;> simp, hsub.nodup hn.2.1, fun x hx y hy => ?_⟩
      exact hn.2.2 x (by rw [Option.mem_toList] at hx ⊢; exact hvb x hx) y (List.Sublist.mem hy hsub)
    refine ⟨_, A, fun h => if h = 1 then some pl' else none, rfl, ⟨⟨hon.os, hon.tape, hon.output, hon.size, fun b hb hn => hon.block b hb (fun hm => hn (hfoot b hm))⟩, fun _ h => h, fun b hb => ⟨Nat.lt_of_lt_of_le (hI.lt b hb) hon.size, .inl hb⟩, fun b hb h pl1 e' hm' => ?_, fun h r hr => ?_, fun h hr => ?_, fun h h' pl1 pl2 hne ea eb => ?_, fun h pl1 e' => ?_, fun h pl1 e' g hg => ?_, fun h pl1 pl0 e' e0 => ?_⟩, ?_⟩
    · split at e'
      · injection e' with e'; subst e'
        exact hI.out b hb 0 pl hp (hmem b hm')
      · cases e'
    · simp only [findH] at hr
      split at hr
      · rename_i eh
        subst eh
        injection hr with hr
        subst hr
        refine ⟨pl', by simp, (delL l k).map (fun i => [enc i]), (delL l k).map (fun i => Fs.getD i []), ?_, rfl, rfl, ?_⟩
        · rw [flat_enc enc (delL l k), List.length_map, delL_map, List.length_map]; exact howns
        · rw [delL_map, List.map_map]
          refine owRs_map (fun i => eIntS (l.getD i [])) (fun i => [enc i]) (fun i => Fs.getD i []) fun i hi => ⟨rfl, ?_⟩
          obtain ⟨a, cap, F, g1, g2, g3, g4, g5, g6⟩ := hrow i (delL_lt hi)
          have ee : enc i = .slice a (l.getD i []).length cap := by
            show css.flatten.getD i _ = _
            rw [List.getD_eq_getElem?_getD, flat_one css i _ hone g1]; rfl
          have eF : Fs.getD i [] = F := by simp [List.getD_eq_getElem?_getD, g2]
          rw [ee, eF]
          exact OwCs.kept _ _ _ (hkeep F (List.mem_of_getElem? g2)) g6
      · cases hr
    · simp only [findH] at hr
      split at hr
      · cases hr
      · rename_i eh; exact if_neg eh
    · split at ea
      · split at eb
        · rename_i x y; exact absurd (x.trans y.symm) hne
        · cases eb
      · cases ea
    · split at e'
      · injection e' with e'; subst e'; exact hnd'
      · cases e'
    · split at e'
      · injection e' with e'; subst e'
        have := hmem g hg
        exact ⟨.inr (hfoot g this), Nat.lt_of_lt_of_le (hge g this) hon.size⟩
      · cases e'
    · split at e'
      · rename_i eh
        subst eh
        rw [h1] at e0; cases e0
      · cases e'
    · unfold MatchV
      intro pl1 e'
      simp at e'
      subst e'
      rfl
  rw [List.length_map] at q1
  rcases q1.2 with ⟨hvn, hz⟩ | ⟨g, cap, cur, hvv, hg0, hb, hn, hcap, hsz, htk⟩
  · omega
  · have hgF : g ∉ Fs.flatten := fun hm => by
      rw [hFe, hvv] at hnd
      simp only [Value.ownBlock, Option.toList_some, List.cons_append, List.nil_append, List.nodup_cons] at hnd
      exact hnd.1 hm
    have hgs : g < w.heap.size := (Array.getElem?_eq_some_iff.1 hb).1
    have hin : ∀ b ∈ Fs.flatten, b < w.heap.size ∧ b ≠ g := fun b hb' => ⟨hge b (by rw [hFe]; exact List.mem_append_right _ hb'), fun e => hgF (e ▸ hb')⟩
    have hw0 : ∀ (dk : Array Nat) (q : Nat), Go.Sort.putRow enc (Go.Sort.ahead w q) g 0 dk = sortWorld enc w g 0 q dk #[] := fun dk q => by unfold sortWorld; rw [Go.Sort.grow_empty]
    have htk' : cur.toList.take l.length = css.flatten := by rw [Nat.mul_one] at htk; exact htk
    have hH : Go.Sort.Holds enc w g 0 (List.range l.length).toArray := fun j hj => by
      have hj' : j < l.length := by simpa using hj
      refine ⟨?_, by simp [World.frozen?, hb]⟩
      have h1 : (cur.toList.take l.length)[j]? = css.flatten[j]? := by rw [htk']
      rw [List.getElem?_take_of_lt hj'] at h1
      simp only [World.cell?, hb, Nat.zero_add, Option.isSome_none, Bool.false_eq_true, if_false]
      rw [← Array.getElem?_toList, h1]
      obtain ⟨a, cap', F, g1, _⟩ := hrow j hj'
      have h2 := flat_one css j _ hone g1
      have ee : enc j = .slice a (l.getD j []).length cap' := by
        show css.flatten.getD j _ = _
        rw [List.getD_eq_getElem?_getD, h2]; rfl
      have ej : (List.range l.length).toArray[j]! = j := by simp [hj']
      rw [h2, ej, ee]
    have hone1 : OneCell enc := fun x => by
      obtain ⟨a, c, ex, _⟩ := henc x
      rw [ex]; rfl
    have hzr : enc l.length = .slice none 0 0 := by
      show css.flatten.getD l.length _ = _
      rw [List.getD_eq_getElem?_getD, List.getElem?_eq_none (by rw [flat_len css hone]; omega)]; rfl
    have hszd : (List.range l.length).toArray.size = l.length := by simp
    have hcon := AnyE.slices_Delete Tryz.dlRows enc hone1 l.length (fun w => by rw [hzr]; exact zeroRow w) elI (by kernel_rfl) (by kernel_rfl) g 0 cap k (k + 1) (List.range l.length).toArray w hH (by rw [hszd]; exact hn) hcap (by omega) (by rw [hszd]; omega)
    rw [hszd, show (k : Int) + 1 = ((k + 1 : Nat) : Int) by omega] at *
    rw [hvv]
    refine hcon.mono ?_
    rintro en w' ⟨rfl, q, rfl⟩
    have hdl : (delL l k).length = l.length - 1 := by simp [delL, List.length_eraseIdx, hk]
    have hls : (List.range l.length).toArray.toList.take k ++ (List.range l.length).toArray.toList.drop (k + 1) ++ List.replicate (k + 1 - k) l.length = delL l k ++ List.replicate (l.length - (delL l k).length) l.length := by
      rw [hdl, show k + 1 - k = l.length - (l.length - 1) by omega, delL, List.eraseIdx_eq_take_drop_succ]
    rw [hls]
    have hle : (delL l k).length ≤ l.length := by omega
    have hkb : ∀ b, b < w.heap.size → b ≠ g → (Go.Sort.putRow enc (Go.Sort.ahead w q) g 0 (delL l k ++ List.replicate (l.length - (delL l k).length) l.length).toArray).heap[b]? = w.heap[b]? := fun b hk hne => by rw [hw0]; exact cells_kept _ hk hne
    rw [show l.length - (k + 1 - k) = (delL l k).length by omega]
    refine hend _ _ ⟨rfl, rfl, rfl, by simp, fun b hk hne => hkb b hk (fun e => hne (by rw [hFe, hvv, e]; simp [Value.ownBlock]))⟩
      (fun F hF b hb' => hkb b (hin b (List.mem_flatten.2 ⟨F, hF, hb'⟩)).1 (hin b (List.mem_flatten.2 ⟨F, hF, hb'⟩)).2)
      (fun b hb' => by rw [hvv]; exact hb') ?_
    rw [hw0]
    refine ⟨by simp, .inr ⟨g, cap, _, rfl, hg0, cells_put _ hb, by omega, hcap, by simp [Go.Sort.putCells, hsz], ?_⟩⟩
    rw [Nat.mul_one]
    have := put_take enc cur (delL l k ++ List.replicate (l.length - (delL l k).length) l.length) (by simp; omega)
    have h3 := congrArg (List.take (delL l k).length) this
    rw [List.take_take, List.map_append, List.take_append_of_le_length (by simp)] at h3
    rw [show min (delL l k).length (delL l k ++ List.replicate (l.length - (delL l k).length) l.length).length = (delL l k).length by simp] at h3
    rw [h3, List.take_of_length_le (by simp)]
end Go.Proofs.YtjlagjhmlmfjeaaGreat
