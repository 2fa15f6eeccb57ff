/-
  Merged: RatD RatS RatSMark RatSSTo RatSSEq RatSSSz RatSSMark
-/
import Derived.Test.YtcgjlddpbkponaaBase
namespace Go.Proofs.Ytcgjlddpbkponaa
open Go.ChangeShapes Go.WideShapes Go.ChangeAt Go.RowKit
set_option linter.unusedVariables false
set_option linter.unusedSimpArgs false

/- Rationals: how they read; copying, comparing. -/
structure RationalD where
  num : Int
  den : Int
def RationalR : Rd RationalD := fun _ cs x => cs = [.int .i64 x.num, .int .i64 x.den] ∧ Fits x.num ∧ Fits x.den
def RationalO : Od RationalD := fun _ F cs x => F = [] ∧ cs = [.int .i64 x.num, .int .i64 x.den] ∧ Fits x.num ∧ Fits x.den
theorem mono_rational : Mono RationalR := fun _ _ _ _ _ h => h
theorem mono_rationalO : MonoO RationalO := fun _ _ _ _ _ _ h => h
theorem reads_rational : Reads RationalO RationalR := fun _ _ _ _ h => h.2
theorem inside_rational : Inside RationalO := by
  rintro w F cs x h g hg
  obtain ⟨rfl, _, _, _⟩ := h
  simp at hg
section
variable {H : Type} {enc : TypeId × Value → H} {w : World} {base : Nat} {spare : Nat → Bool} {held : Bool}
set_option maxRecDepth 100000 in
theorem open_rational {fuel : Nat} {cs : List Value} {x : DataW H × List MemPlace} (h : DataW.trod enc Try.prog w base spare held fuel 52 cs = some x) : ∃ b, RationalR w cs b := by
  obtain ⟨xs, n, _, _, hl, hxl, hf⟩ := DataW.trod_struct Try.underlying52 h
  have hl2 : cs.length = 2 := hl.trans (by kernel_rfl)
  match cs, hl2 with
  | [c0, c1], _ =>
    match xs, hxl with
    | [y0, y1], _ =>
      obtain ⟨l0, r0⟩ := trod_int Try.underlying3 (hf 0 _ rfl)
      obtain ⟨l1, r1⟩ := trod_int Try.underlying3 (hf 1 _ rfl)
      obtain ⟨q0, p0⟩ := r0
      obtain ⟨q1, p1⟩ := r1
      have z0 : c0 = .int .i64 l0 := by have q : [c0] = [.int .i64 l0] := q0; simpa using q
      have z1 : c1 = .int .i64 l1 := by have q : [c1] = [.int .i64 l1] := q1; simpa using q
      subst z0 z1
      exact ⟨⟨l0, l1⟩, rfl, p0, p1⟩
end
theorem rational_form {w : World} {F : List Nat} {cs : Array Value} {x : RationalD} (h : RationalO w F cs.toList x) : cs = #[.int .i64 x.num, .int .i64 x.den] := by
  obtain ⟨_, hcs, _, _⟩ := h
  obtain ⟨l⟩ := cs
  simp only at hcs
  subst hcs
  rfl
theorem rational_cells {w : World} {cs : Array Value} {x : RationalD} (h : RationalR w cs.toList x) : ∃ c0 c1, cs = #[c0, c1] ∧ RationalR w [c0, c1] x := by
  obtain ⟨hcs, e0, e1⟩ := h
  obtain ⟨l⟩ := cs
  simp only at hcs
  subst hcs
  exact ⟨_, _, rfl, rfl, e0, e1⟩
set_option maxRecDepth 100000 in
set_option maxHeartbeats 1600000 in
theorem toRational_new (c0 c1 : Value) (x : RationalD) (w : World) (h : RationalR w [c0, c1] x) : Calls Try.prog 66 #[.agg #[c0, c1]] w (NewA RationalO w x) := by
  obtain ⟨hcs, h_e0, h_e1⟩ := h
  simp only [List.cons.injEq, and_true] at hcs
  obtain ⟨rfl, rfl⟩ := hcs
  go_enter Try.func66, Try.ntmps66
  go_wp2_with fail
  exact bodyPost_ret (v := .agg #[.int .i64 x.num, .int .i64 x.den]) (by simp [results, Try.results66, go_sem]) rfl ⟨[], _, rfl, ⟨rfl, rfl, h_e0, h_e1⟩, by simp, by simp, (((Below.refl _ _).alloc (Nat.le_refl _) _).alloc (by simp) _).alloc (by simp; omega) _⟩
set_option maxRecDepth 100000 in
set_option maxHeartbeats 1600000 in
theorem eqRational_self (c0 c1 d0 d1 : Value) (x : RationalD) (w : World) (h : RationalR w [c0, c1] x) (g : RationalR w [d0, d1] x) : Calls Try.prog 24 #[.agg #[c0, c1], .agg #[d0, d1]] w fun e w' => e = .returned (.bool true) ∧ Below w.heap.size w w' := by
  obtain ⟨hcs, h_e0, h_e1⟩ := h
  simp only [List.cons.injEq, and_true] at hcs
  obtain ⟨rfl, rfl⟩ := hcs
  obtain ⟨hcs, g_e0, g_e1⟩ := g
  simp only [List.cons.injEq, and_true] at hcs
  obtain ⟨rfl, rfl⟩ := hcs
  go_enter Try.func24, Try.ntmps24
  go_wp2_with fail
  go_ret
  exact ⟨rfl, ((Below.refl _ _).alloc (Nat.le_refl _) _).alloc (by simp) _⟩
def encRational (x : RationalD) : List Value := [.int .i64 x.num, .int .i64 x.den]
def fitRational (x : RationalD) : Prop := Fits x.num ∧ Fits x.den
theorem plainRational : ∀ w F cs x, RationalO w F cs x ↔ F = [] ∧ cs = encRational x ∧ fitRational x := fun _ _ _ _ => Iff.rfl
theorem encRational_len : ∀ x, (encRational x).length = 2 := fun _ => rfl

/- Slices of rationals: copying, comparing, sizes. -/
theorem info_RationalS : (Try.prog.info? 35).map (fun i => (i.zero, i.size, i.bytes)) = some (some (.agg #[.int .i64 0, .int .i64 0]), 2, 16) := by kernel_rfl
set_option maxRecDepth 100000 in
theorem open_RationalS {H : Type} {enc : TypeId × Value → H} {w : World} {base : Nat} {spare : Nat → Bool} {held : Bool} {fuel : Nat} {cs : List Value} {x : DataW H × List MemPlace} (h : DataW.trod enc Try.prog w base spare held fuel 32 cs = some x) : ∃ l, SliceR 2 RationalR w cs l :=
  trod_slice Try.underlying32 (by kernel_rfl) (by omega) (fun _ _ _ h => open_rational h) h
set_option maxRecDepth 100000 in
set_option maxHeartbeats 1600000 in
theorem toRationalS_new (v : Value) (x : List RationalD) (w : World) (h : SliceR 2 RationalR w [v] x) (hc : x.length ≤ 1048576) : Calls Try.prog 22 #[v] w (NewS (SliceO 35 2 RationalO) w x) := by
  obtain ⟨i0, hi, hz0, hz1, hz2⟩ := info_parts info_RationalS
  obtain ⟨A, c, hv, hc1, hc2⟩ := slice_form h
  subst hv
  have H := Lib.hid h
  clear h
  have hlen : x.length ≤ 1048576 := hc
  have HC := Lib.hid hc
  clear hc
  go_enter Try.func22, Try.ntmps22
  go_wp2_with (at_make; refine wpList_make_full _ rfl _ _ 38 rfl w.heap.size 35 i0 (.agg #[.int .i64 0, .int .i64 0]) 2 Try.underlying38 hi hz0 hz1 .i64 .i64 _ _ x.length rfl rfl rfl rfl ?c1 ?c2 ?c3 ?_)
  case c1 => rw [hz2]; omega
  case c2 => unfold maxLen; omega
  case c3 => exact Nat.le_refl _
  intro w1 hown hg
  have hb1 := Lib.hid ((Below.refl w.heap.size w).grown hg (Nat.le_refl _) (by simp))
  have hp1 := Lib.hid (Pre.start (O := RationalO) hown)
  clear hg hown
  go_wp2_with fail
  go_loopw [4] (fun i wr => ∃ k : Nat, k ≤ x.length ∧ i = .int .i64 k ∧ Pre (RationalO) 35 2 w.heap.size wr w.heap.size x.length (x.take k) ∧ Below w.heap.size w wr) (fun i _ => x.length - (intOf i).toNat)
  case atStart => exact ⟨0, Nat.zero_le _, rfl, hp1.out, hb1.out⟩
  case round =>
    clear hb1 hp1 w1
    obtain ⟨k, hk, rfl, hp, hb⟩ := hrel
    have HP := Lib.hid hp
    have HB := Lib.hid hb
    clear hp hb
    have HT : Hid ((x.take k).length = k) := by show _ = _; simp; omega
    by_cases hlt : k < x.length
    · skip
      obtain ⟨b, off, cs, y, rfl, hy, hl, hc, hr⟩ := SliceR.at_ ((mono_slice mono_rational) _ _ _ _ (Kept.below HB.out (Nat.le_refl _)) H.out) hlt
      obtain ⟨rfl, _, _⟩ := id hr
      have qc_0 := hc 0 (.int .i64 y.num) rfl
      have qc_1 := hc 1 (.int .i64 y.den) rfl
      simp only [Nat.add_zero] at qc_0 qc_1
      have HR := Lib.hid hr
      clear hr hc hl
      go_wp2_with fail
      refine (toRational_new _ _ y _ HR.out).mono ?_
      rintro e w2 ⟨F, cc, rfl, oo, nd, lo, bb⟩
      have hcc := rational_form oo
      subst hcc
      have HS := Lib.hid (HP.out.step mono_rationalO inside_rational (by rw [HT.out]; exact hlt) bb oo nd lo rfl)
      have PG := HP.out.grow mono_rationalO bb
      obtain ⟨⟨u0, g0⟩, f0⟩ := PG.cell (by rw [HT.out]; exact hlt) 0 (by omega)
      obtain ⟨⟨u1, g1⟩, f1⟩ := PG.cell (by rw [HT.out]; exact hlt) 1 (by omega)
      rw [HT.out] at g0 f0 g1 f1
      simp only [Nat.add_zero] at g0 f0 g1 f1
      have HS2 : Hid (Pre (RationalO) 35 2 w.heap.size (setCells w2 w.heap.size (k * 2) [.int .i64 y.num, .int .i64 y.den]) w.heap.size x.length (x.take (k + 1))) := by have := HS.out; rw [HT.out, ← take_snoc hy.out] at this; exact this
      have HB2 := Lib.hid (setCells_below (g := w.heap.size) (o := k * 2) [.int .i64 y.num, .int .i64 y.den] (HB.out.trans (bb.mono HB.out.size)) (Nat.le_refl _))
      clear HS PG oo nd lo bb HP HB qc_0 qc_1
      go_wp2_with fail
      exact ⟨⟨k + 1, by omega, by go_num, HS2.out, HB2.out⟩, by simp [intOf]; omega⟩
    · have HE : Hid (x.take k = x) := by show _ = _; exact List.take_of_length_le (by omega)
      go_wp2_with fail
      go_ret
      have := HP.out
      rw [HE.out] at this
      exact this.done rfl HB.out (Nat.le_refl _)
set_option maxRecDepth 100000 in
set_option maxHeartbeats 1600000 in
theorem eqRationalS_self (v v' : Value) (x : List RationalD) (w : World) (h : SliceR 2 RationalR w [v] x) (g : SliceR 2 RationalR w [v'] x) : Calls Try.prog 25 #[v, v'] w fun e w' => e = .returned (.bool true) ∧ Below w.heap.size w w' := by
  obtain ⟨A, c, hv, hc1, hc2⟩ := slice_form h
  subst hv
  obtain ⟨A', c', hv, hc1', hc2'⟩ := slice_form g
  subst hv
  unfold maxLen at hc2
  have H := Lib.hid h
  have G := Lib.hid g
  clear h g
  go_enter Try.func25, Try.ntmps25
  go_wp2_with fail
  go_loopw [5] (fun i wr => ∃ k : Nat, k ≤ x.length ∧ i = .int .i64 k ∧ Below w.heap.size w wr) (fun i _ => x.length - (intOf i).toNat)
  case atStart => exact ⟨0, Nat.zero_le _, rfl, Below.refl _ _⟩
  case round =>
    obtain ⟨k, hk, rfl, hb⟩ := hrel
    have HB := Lib.hid hb
    clear hb
    by_cases hlt : k < x.length
    · skip
      obtain ⟨b, off, cs, y, rfl, hy, hl, hc, hr⟩ := SliceR.at_ ((mono_slice mono_rational) _ _ _ _ (Kept.below HB.out (Nat.le_refl _)) H.out) hlt
      obtain ⟨rfl, _, _⟩ := id hr
      have qc_0 := hc 0 (.int .i64 y.num) rfl
      have qc_1 := hc 1 (.int .i64 y.den) rfl
      simp only [Nat.add_zero] at qc_0 qc_1
      have HR := Lib.hid hr
      clear hr hc hl
      obtain ⟨b', off', cs', y', rfl, hy', hl', hc', hr'⟩ := SliceR.at_ ((mono_slice mono_rational) _ _ _ _ (Kept.below HB.out (Nat.le_refl _)) G.out) hlt
      obtain ⟨rfl, _, _⟩ := id hr'
      have qc'_0 := hc' 0 (.int .i64 y'.num) rfl
      have qc'_1 := hc' 1 (.int .i64 y'.den) rfl
      simp only [Nat.add_zero] at qc'_0 qc'_1
      have HR' := Lib.hid hr'
      clear hr' hc' hl'
      have HY : y = y' := by have := hy.out.symm.trans hy'.out; simp at this; exact this
      subst HY
      clear hy'
      have ik : (0 : Int) ≤ (k : Int) := by omega
      have il : (k : Int) < (x.length : Int) := by omega
      go_wp2_with fail
      go_region_held3 (fun w' => w'.cell? ⟨b, off + k * 2, none⟩ = some (.int .i64 y.num) ∧ w'.cell? ⟨b, off + k * 2 + 1, none⟩ = some (.int .i64 y.den) ∧ w'.cell? ⟨b', off' + k * 2, none⟩ = some (.int .i64 y.num) ∧ w'.cell? ⟨b', off' + k * 2 + 1, none⟩ = some (.int .i64 y.den))
        (first | exact ⟨qc_0, qc_1, qc'_0, qc'_1⟩ | exact ⟨keep_drew qc_0 bb, keep_drew qc_1 bb, keep_drew qc'_0 bb, keep_drew qc'_1 bb⟩)
        (first | (go_at_call 24; refine (eqRational_self _ _ _ _ y _ (mono_rational _ _ _ _ (Kept.drew _) HR.out) (mono_rational _ _ _ _ (Kept.drew _) HR'.out)).mono ?_; rintro e w2 ⟨rfl, bb⟩))
      have HB2 := Lib.hid (HB.out.drew.trans (bb.mono HB.out.drew.size))
      clear HB bb qc_0 qc_1 qc'_0 qc'_1
      go_wp2_with fail
      exact ⟨⟨k + 1, by omega, by go_num, HB2.out⟩, by simp [intOf]; omega⟩
    · go_wp2_with fail
      go_ret
      exact ⟨rfl, HB.out⟩
theorem szRationalS_any (v : Value) (x : List RationalD) (m : Int) (w : World) (h : SliceR 2 RationalR w [v] x) (hm : 0 ≤ m) (hm' : m ≤ 1048576) :
    Calls Try.prog 20 #[v, .int .i64 m] w fun e w' => e = .returned (.int .i64 (szStep x.length m)) ∧ Below w.heap.size w w' := by
  obtain ⟨A, c, rfl, hc1, hc2⟩ := slice_form h
  unfold maxLen at hc2
  rcases Int.lt_or_le m x.length with hlt | hlt
  · go_enter Try.func20, Try.ntmps20
    go_wp2
    go_ret
    exact ⟨ret_int (szStep_no (by omega)).symm, Below.refl _ _⟩
  · go_enter Try.func20, Try.ntmps20
    go_wp2
    go_ret
    exact ⟨ret_int (szStep_yes (by omega)).symm, Below.refl _ _⟩

/- Slices of rationals: marks. -/
def markRationalS (k : Int) (x : List RationalD) : List RationalD := (List.range x.length).map fun (i : Nat) => ⟨k + 2 * (i : Int), k + 2 * (i : Int) + 1⟩
theorem markRationalS_len (k : Int) (x : List RationalD) : (markRationalS k x).length = x.length := by simp [markRationalS]
theorem markRationalS_at {k : Int} {x : List RationalD} {i : Nat} {y : RationalD} (h : (markRationalS k x)[i]? = some y) : y = ⟨k + 2 * (i : Int), k + 2 * (i : Int) + 1⟩ := by
  simp only [markRationalS, List.getElem?_map, Option.map_eq_some_iff] at h
  obtain ⟨j, hj, rfl⟩ := h
  have := (List.getElem?_eq_some_iff.1 hj).2
  simp at this
  rw [this]
theorem markRationalS_get (k : Int) (x : List RationalD) (i : Nat) (h : i < x.length) : (markRationalS k x)[i]? = some ⟨k + 2 * (i : Int), k + 2 * (i : Int) + 1⟩ := by simp [markRationalS, h]
theorem markRationalS_fit {k : Int} {x : List RationalD} (h0 : 0 ≤ k) (hk : k + 2 * (x.length : Int) ≤ 4611686018427387904) : ∀ y ∈ markRationalS k x, fitRational y := by
  intro y hy
  obtain ⟨i, hi, rfl⟩ := List.getElem_of_mem hy
  have h1 := markRationalS_at (List.getElem?_eq_getElem hi)
  rw [markRationalS_len] at hi
  rw [h1]
  simp only [fitRational, Fits]
  omega
set_option maxRecDepth 100000 in
set_option maxHeartbeats 1600000 in
theorem markRationalS_own (v : Value) (x : List RationalD) (S : List Nat) (k : Int) (w : World) (h : SliceO 35 2 RationalO w S [v] x) (h0 : 0 ≤ k) (hk : k + 2 * (x.length : Int) ≤ 4611686018427387904) :
    Calls Try.prog 75 #[v, .int .i64 k] w (MarkO (SliceO 35 2 RationalO) S [v] (markRationalS k x) (k + 2 * (x.length : Int)) w) := by
  obtain ⟨ho, rfl, _⟩ := plain_elim plainRational h
  obtain ⟨A, c, rfl, hc1, hc2, hA⟩ := owns_shape ho
  have HF := Lib.hid (markRationalS_fit h0 hk)
  have HO := Lib.hid ho
  clear h ho
  have hln : ∀ zs : List Value, Hid (zs.length = zs.length) := fun _ => rfl
  clear hln
  go_enter Try.func75, Try.ntmps75
  go_wp2_with fail
  go_loopw [1, 5] (fun t i wr => ∃ j : Nat, j ≤ x.length ∧ i = .int .i64 j ∧ t = .int .i64 (k + 2 * (j : Int)) ∧ ∃ zs, wr.ownsRow 0 35 2 (.slice A x.length c) x.length zs ∧ zs.take (j * 2) = ((markRationalS k x).take j).flatMap encRational ∧ Only (Value.slice A x.length c).ownBlock.toList w wr) (fun _ i _ => x.length - (intOf i).toNat)
  case atStart => exact ⟨0, Nat.zero_le _, rfl, by simp, _, HO.out, by simp, Only.refl _ _⟩
  case round =>
    obtain ⟨i, hi, rfl, rfl, zs, hown, ht, hon⟩ := hrel
    have HN := Lib.hid hown
    have HT := Lib.hid ht
    have HU := Lib.hid hon
    clear hown ht hon
    by_cases hlt : i < x.length
    · obtain ⟨g, rfl, _, _⟩ := hA (by omega)
      have HS := Lib.hid (setCells_owns (o := i * 2) [.int .i64 (k + 2 * (i : Int)), .int .i64 (k + 2 * (i : Int) + 1)] HN.out)
      have HT2 : Hid ((setL zs (i * 2) [.int .i64 (k + 2 * (i : Int)), .int .i64 (k + 2 * (i : Int) + 1)]).take ((i + 1) * 2) = ((markRationalS k x).take (i + 1)).flatMap encRational) := by
        have := setL_flat (m := ⟨k + 2 * (i : Int), k + 2 * (i : Int) + 1⟩) encRational_len HN.out.1 hlt HT.out
        rw [take_snoc (markRationalS_get k x i hlt)]
        exact this
      have HU2 := Lib.hid (setCells_only (g := g) (o := i * 2) [.int .i64 (k + 2 * (i : Int)), .int .i64 (k + 2 * (i : Int) + 1)] HU.out (by simp [Value.ownBlock]))
      have hz := HN.out.1
      have q0 := (HN.out.cellAt (i * 2 + 0) (by omega)).trans (List.getElem?_eq_getElem (by omega))
      have f0 := HN.out.frozenAt (i * 2 + 0)
      have q1 := (HN.out.cellAt (i * 2 + 1) (by omega)).trans (List.getElem?_eq_getElem (by omega))
      have f1 := HN.out.frozenAt (i * 2 + 1)
      simp only [Nat.add_zero] at q0 f0
      generalize zs[i * 2] = z0 at q0
      generalize zs[i * 2 + 1] = z1 at q1
      clear hz HN HT HU hA HO
      go_wp2_with fail
      exact ⟨⟨i + 1, by omega, by go_num, by go_num, _, HS.out, HT2.out, HU2.out⟩, by simp [intOf]; omega⟩
    · obtain rfl : i = x.length := by omega
      have HE : Hid (zs = (markRationalS k x).flatMap encRational) := by
        have h1 := HN.out.1
        have h2 := HT.out
        rw [List.take_of_length_le (by omega), List.take_of_length_le (by rw [markRationalS_len]; omega)] at h2
        exact h2
      clear hA HO HT
      go_wp2_with fail
      go_ret
      refine ⟨rfl, plain_intro plainRational encRational_len ?_ HF.out, HU.out⟩
      rw [markRationalS_len, ← HE.out]
      exact HN.out
set_option maxRecDepth 100000 in
set_option maxHeartbeats 1600000 in
theorem heldRationalS_own (v : Value) (x : List RationalD) (k : Int) (w : World) (h : SliceR 2 RationalR w [v] (markRationalS k x)) (h0 : 0 ≤ k) (hk : k + 2 * (x.length : Int) ≤ 4611686018427387904) :
    Calls Try.prog 78 #[v, .int .i64 k] w fun e w' => e = .returned (.int .i64 (k + 2 * (x.length : Int))) ∧ Below w.heap.size w w' := by
  obtain ⟨A, c, rfl, hc1, hc2⟩ := slice_form h
  rw [markRationalS_len] at h hc1 ⊢
  have H := Lib.hid h
  clear h
  go_enter Try.func78, Try.ntmps78
  go_wp2_with fail
  go_loop [1, 5] (fun t i => ∃ j : Nat, j ≤ x.length ∧ i = .int .i64 j ∧ t = .int .i64 (k + 2 * (j : Int))) (fun _ i => x.length - (intOf i).toNat)
  case atStart => exact ⟨0, Nat.zero_le _, rfl, by simp⟩
  case round =>
    obtain ⟨i, hi, rfl, rfl⟩ := hrel
    by_cases hlt : i < x.length
    · obtain ⟨b, off, cs, y, rfl, hy, hl, hc, hr⟩ := SliceR.at_ H.out (k := i) (by rw [markRationalS_len]; exact hlt)
      obtain rfl := markRationalS_at hy.out
      obtain ⟨rfl, _⟩ := hr
      have q0 := hc 0 _ rfl
      have q1 := hc 1 _ rfl
      simp only [Nat.add_zero] at q0
      clear hc hy hl
      go_wp2_with fail
      exact ⟨⟨i + 1, by omega, by go_num, by go_num⟩, by simp [intOf]; omega⟩
    · obtain rfl : i = x.length := by omega
      go_wp2_with fail
      go_ret
      exact ⟨rfl, Below.refl _ _⟩

/- Slices of slices of rationals: copying. -/
theorem info_RationalSS : (Try.prog.info? 38).map (fun i => (i.zero, i.size, i.bytes)) = some (some (.slice none 0 0), 1, 24) := by kernel_rfl
set_option maxRecDepth 100000 in
theorem open_RationalSS {H : Type} {enc : TypeId × Value → H} {w : World} {base : Nat} {spare : Nat → Bool} {held : Bool} {fuel : Nat} {cs : List Value} {x : DataW H × List MemPlace} (h : DataW.trod enc Try.prog w base spare held fuel 62 cs = some x) : ∃ l, SliceR 1 (SliceR 2 RationalR) w cs l :=
  trod_slice Try.underlying62 (by kernel_rfl) (by omega) (fun _ _ _ h => open_RationalS h) h
set_option maxRecDepth 100000 in
set_option maxHeartbeats 1600000 in
theorem toRationalSS_new (v : Value) (x : List (List RationalD)) (w : World) (h : SliceR 1 (SliceR 2 RationalR) w [v] x) (hc : cntL List.length x ≤ 1048576) : Calls Try.prog 87 #[v] w (NewS (SliceO 38 1 (SliceO 35 2 RationalO)) w x) := by
  obtain ⟨i0, hi, hz0, hz1, hz2⟩ := info_parts info_RationalSS
  obtain ⟨A, c, hv, hc1, hc2⟩ := slice_form h
  subst hv
  have H := Lib.hid h
  clear h
  have hlen : x.length ≤ 1048576 := Nat.le_trans (cntL_len _ _) hc
  have HC := Lib.hid hc
  clear hc
  go_enter Try.func87, Try.ntmps87
  go_wp2_with (at_make; refine wpList_make_full _ rfl _ _ 43 rfl w.heap.size 38 i0 (.slice none 0 0) 1 Try.underlying43 hi hz0 hz1 .i64 .i64 _ _ x.length rfl rfl rfl rfl ?c1 ?c2 ?c3 ?_)
  case c1 => rw [hz2]; omega
  case c2 => unfold maxLen; omega
  case c3 => exact Nat.le_refl _
  intro w1 hown hg
  have hb1 := Lib.hid ((Below.refl w.heap.size w).grown hg (Nat.le_refl _) (by simp))
  have hp1 := Lib.hid (Pre.start (O := SliceO 35 2 RationalO) hown)
  clear hg hown
  go_wp2_with fail
  go_loopw [4] (fun i wr => ∃ k : Nat, k ≤ x.length ∧ i = .int .i64 k ∧ Pre (SliceO 35 2 RationalO) 38 1 w.heap.size wr w.heap.size x.length (x.take k) ∧ Below w.heap.size w wr) (fun i _ => x.length - (intOf i).toNat)
  case atStart => exact ⟨0, Nat.zero_le _, rfl, hp1.out, hb1.out⟩
  case round =>
    clear hb1 hp1 w1
    obtain ⟨k, hk, rfl, hp, hb⟩ := hrel
    have HP := Lib.hid hp
    have HB := Lib.hid hb
    clear hp hb
    have HT : Hid ((x.take k).length = k) := by show _ = _; simp; omega
    by_cases hlt : k < x.length
    · skip
      obtain ⟨b, off, cs, y, rfl, hy, hl, hc, hr⟩ := SliceR.at_ ((mono_slice (mono_slice mono_rational)) _ _ _ _ (Kept.below HB.out (Nat.le_refl _)) H.out) hlt
      obtain ⟨sa, sk, zz, nn, mm⟩ := slice_form' hr
      subst zz
      have qc_0 := hc 0 (.slice sa y.length sk) rfl
      simp only [Nat.add_zero, Nat.mul_one] at qc_0
      have HR := Lib.hid hr
      clear hr hc hl
      go_wp2_with fail
      refine (toRationalS_new _ y _ HR.out (Nat.le_trans (cntL_mem _ hy.out) HC.out)).mono ?_
      rintro e w2 ⟨F, av, kv, rfl, oo, nd, lo, bb⟩
      have HS := Lib.hid (HP.out.step (mono_sliceO mono_rationalO) (inside_sliceO inside_rational) (by rw [HT.out]; exact hlt) bb oo nd lo rfl)
      have PG := HP.out.grow (mono_sliceO mono_rationalO) bb
      obtain ⟨⟨u0, g0⟩, f0⟩ := PG.cell (by rw [HT.out]; exact hlt) 0 (by omega)
      rw [HT.out] at g0 f0
      simp only [Nat.add_zero, Nat.mul_one] at g0 f0
      have HS2 : Hid (Pre (SliceO 35 2 RationalO) 38 1 w.heap.size (setCells w2 w.heap.size (k * 1) [.slice av y.length kv]) w.heap.size x.length (x.take (k + 1))) := by have := HS.out; rw [HT.out, ← take_snoc hy.out] at this; exact this
      have HB2 := Lib.hid (setCells_below (g := w.heap.size) (o := k * 1) [.slice av y.length kv] (HB.out.trans (bb.mono HB.out.size)) (Nat.le_refl _))
      clear HS PG oo nd lo bb HP HB qc_0
      rw [Nat.mul_one] at HS2 HB2
      go_wp2_with fail
      exact ⟨⟨k + 1, by omega, by go_num, HS2.out, HB2.out⟩, by simp [intOf]; omega⟩
    · have HE : Hid (x.take k = x) := by show _ = _; exact List.take_of_length_le (by omega)
      go_wp2_with fail
      go_ret
      have := HP.out
      rw [HE.out] at this
      exact this.done rfl HB.out (Nat.le_refl _)

/- Slices of slices of rationals: comparing. -/
set_option maxRecDepth 100000 in
set_option maxHeartbeats 1600000 in
theorem eqRationalSS_self (v v' : Value) (x : List (List RationalD)) (w : World) (h : SliceR 1 (SliceR 2 RationalR) w [v] x) (g : SliceR 1 (SliceR 2 RationalR) w [v'] x) : Calls Try.prog 71 #[v, v'] w fun e w' => e = .returned (.bool true) ∧ Below w.heap.size w w' := by
  obtain ⟨A, c, hv, hc1, hc2⟩ := slice_form h
  subst hv
  obtain ⟨A', c', hv, hc1', hc2'⟩ := slice_form g
  subst hv
  unfold maxLen at hc2
  have H := Lib.hid h
  have G := Lib.hid g
  clear h g
  go_enter Try.func71, Try.ntmps71
  go_wp2_with fail
  go_loopw [5] (fun i wr => ∃ k : Nat, k ≤ x.length ∧ i = .int .i64 k ∧ Below w.heap.size w wr) (fun i _ => x.length - (intOf i).toNat)
  case atStart => exact ⟨0, Nat.zero_le _, rfl, Below.refl _ _⟩
  case round =>
    obtain ⟨k, hk, rfl, hb⟩ := hrel
    have HB := Lib.hid hb
    clear hb
    by_cases hlt : k < x.length
    · skip
      obtain ⟨b, off, cs, y, rfl, hy, hl, hc, hr⟩ := SliceR.at_ ((mono_slice (mono_slice mono_rational)) _ _ _ _ (Kept.below HB.out (Nat.le_refl _)) H.out) hlt
      obtain ⟨sa, sk, zz, nn, mm⟩ := slice_form' hr
      subst zz
      have qc_0 := hc 0 (.slice sa y.length sk) rfl
      simp only [Nat.add_zero, Nat.mul_one] at qc_0
      have HR := Lib.hid hr
      clear hr hc hl
      obtain ⟨b', off', cs', y', rfl, hy', hl', hc', hr'⟩ := SliceR.at_ ((mono_slice (mono_slice mono_rational)) _ _ _ _ (Kept.below HB.out (Nat.le_refl _)) G.out) hlt
      obtain ⟨sa', sk', zz', nn', mm'⟩ := slice_form' hr'
      subst zz'
      have qc'_0 := hc' 0 (.slice sa' y'.length sk') rfl
      simp only [Nat.add_zero, Nat.mul_one] at qc'_0
      have HR' := Lib.hid hr'
      clear hr' hc' hl'
      have HY : y = y' := by have := hy.out.symm.trans hy'.out; simp at this; exact this
      subst HY
      clear hy'
      have ik : (0 : Int) ≤ (k : Int) := by omega
      have il : (k : Int) < (x.length : Int) := by omega
      go_wp2_with fail
      go_region_held3 (fun w' => w'.cell? ⟨b, off + k, none⟩ = some (.slice sa y.length sk) ∧ w'.cell? ⟨b', off' + k, none⟩ = some (.slice sa' y.length sk'))
        (first | exact ⟨qc_0, qc'_0⟩ | exact ⟨keep_drew qc_0 bb, keep_drew qc'_0 bb⟩)
        (first | (go_at_call 25; refine (eqRationalS_self _ _ y _ ((mono_slice mono_rational) _ _ _ _ (Kept.drew _) HR.out) ((mono_slice mono_rational) _ _ _ _ (Kept.drew _) HR'.out)).mono ?_; rintro e w2 ⟨rfl, bb⟩))
      have HB2 := Lib.hid (HB.out.drew.trans (bb.mono HB.out.drew.size))
      clear HB bb qc_0 qc'_0
      go_wp2_with fail
      exact ⟨⟨k + 1, by omega, by go_num, HB2.out⟩, by simp [intOf]; omega⟩
    · go_wp2_with fail
      go_ret
      exact ⟨rfl, HB.out⟩

/- Slices of slices of rationals: sizes. -/
set_option maxRecDepth 100000 in
set_option maxHeartbeats 1600000 in
theorem szRationalSS_any (v : Value) (x : List (List RationalD)) (m : Int) (w : World) (h : SliceR 1 (SliceR 2 RationalR) w [v] x) (hm : 0 ≤ m) (hm' : m ≤ 1048576) :
    Calls Try.prog 83 #[v, .int .i64 m] w fun e w' => e = .returned (.int .i64 (szStep (cntL List.length x) m)) ∧ Below w.heap.size w w' := by
  obtain ⟨A, c, hv, hc1, hc2⟩ := slice_form h
  subst hv
  unfold maxLen at hc2
  have H := Lib.hid h
  clear h
  have hle := cntL_len List.length x
  have HC : Hid (cntL List.length x = x.length + sumL List.length x) := rfl
  rcases Int.lt_or_le m x.length with hlt | hlt
  · go_enter Try.func83, Try.ntmps83
    go_wp2_with fail
    go_ret
    exact ⟨ret_int (szStep_no (by omega)).symm, Below.refl _ _⟩
  generalize cntL List.length x = N at *
  go_enter Try.func83, Try.ntmps83
  go_wp2_with fail
  go_loopw [1, 5] (fun t i wr => ∃ k : Nat, k ≤ x.length ∧ i = .int .i64 k ∧ t = .int .i64 (m - x.length - (sumL List.length (x.take k) : Nat)) ∧ 0 ≤ m - x.length - (sumL List.length (x.take k) : Nat) ∧ Below w.heap.size w wr) (fun _ i _ => x.length - (intOf i).toNat)
  case atStart => exact ⟨0, Nat.zero_le _, rfl, by simp [sumL], by simp [sumL]; omega, Below.refl _ _⟩
  case round =>
    obtain ⟨k, hk, rfl, rfl, hpos, hb⟩ := hrel
    have HB := Lib.hid hb
    clear hb
    have hsl := sumL_le List.length x k
    by_cases hlt2 : k < x.length
    · skip
      obtain ⟨b, off, cs, y, rfl, hy, hl, hc, hr⟩ := SliceR.at_ ((mono_slice (mono_slice mono_rational)) _ _ _ _ (Kept.below HB.out (Nat.le_refl _)) H.out) hlt2
      obtain ⟨sa, sk, zz, nn, mm⟩ := slice_form' hr
      subst zz
      have qc_0 := hc 0 (.slice sa y.length sk) rfl
      simp only [Nat.add_zero, Nat.mul_one] at qc_0
      have HR := Lib.hid hr
      clear hr hc hl
      have HS := Lib.hid (sumL_snoc List.length hy.out)
      have hsl2 := sumL_le List.length x (k + 1)
      have HL : Hid (sumL List.length (x.take (k + 1)) ≤ sumL List.length x) := hsl2
      clear hsl2
      generalize sumL List.length (x.take k) = s at *
      go_wp2_with fail
      refine (szRationalS_any _ y (m - x.length - (s : Nat)) _ HR.out (by omega) (by omega)).mono ?_
      rintro e w2 ⟨rfl, bb⟩
      have HB2 := Lib.hid (HB.out.trans (bb.mono HB.out.size))
      clear HB bb qc_0
      rcases Int.lt_or_le (m - x.length - (s : Nat)) (List.length y : Nat) with hs | hs
      · rw [szStep_no (by omega)]
        go_wp2_with fail
        go_ret
        exact ⟨ret_int (szStep_no (by have := HC.out; have := HS.out; have := HL.out; omega)).symm, HB2.out⟩
      rw [szStep_yes (by omega)]
      go_wp2_with fail
      exact ⟨⟨k + 1, by omega, by go_num, by rw [HS.out]; congr 1; simp; omega, by rw [HS.out]; simp; omega, HB2.out⟩, by simp [intOf]; omega⟩
    · obtain rfl : k = x.length := by omega
      have HE : Hid (sumL List.length (x.take x.length) = sumL List.length x) := by show _ = _; rw [List.take_length]
      go_wp2_with fail
      go_ret
      exact ⟨ret_int (by have := HC.out; have := HE.out; rw [szStep_yes (by omega)]; omega), HB.out⟩

/- Slices of slices of rationals: marks. -/
def len2 (l : List RationalD) : Nat := 2 * l.length
abbrev markRationalSS (k : Int) (x : List (List RationalD)) : List (List RationalD) := markL markRationalS len2 k x
set_option maxRecDepth 100000 in
set_option maxHeartbeats 1600000 in
theorem markRationalSS_own (v : Value) (x : List (List RationalD)) (Q : List Nat) (k : Int) (w : World) (h : SliceO 38 1 (SliceO 35 2 RationalO) w Q [v] x) (nd : Q.Nodup) (h0 : 0 ≤ k) (hk : k + (sumL len2 x : Nat) ≤ 4611686018427387904) :
    Calls Try.prog 74 #[v, .int .i64 k] w (MarkO (SliceO 38 1 (SliceO 35 2 RationalO)) Q [v] (markL markRationalS len2 k x) (k + (sumL len2 x : Nat)) w) := by
  have H := Lib.hid h
  have hmax := slice_max h
  obtain ⟨A, c, hv⟩ := slice_shape h
  subst hv
  clear h
  have ND := Lib.hid nd
  clear nd
  go_enter Try.func74, Try.ntmps74
  go_wp2_with fail
  go_loopw [1, 5] (fun t i wr => ∃ j : Nat, j ≤ x.length ∧ i = .int .i64 j ∧ t = .int .i64 (k + (sumL len2 (x.take j) : Nat)) ∧ SliceO 38 1 (SliceO 35 2 RationalO) wr Q [.slice A x.length c] (markPre markRationalS len2 k x j) ∧ Only Q w wr) (fun _ i _ => x.length - (intOf i).toNat)
  case atStart => exact ⟨0, Nat.zero_le _, rfl, by simp [sumL], by rw [markPre_zero]; exact H.out, Only.refl _ _⟩
  case round =>
    obtain ⟨j, hj, rfl, rfl, hx, hon⟩ := hrel
    have HX := Lib.hid hx
    have HU := Lib.hid hon
    clear hx hon
    have hsl := sumL_le len2 x j
    by_cases hlt : j < x.length
    · skip
      have HY : Hid (x[j]? = some x[j]) := List.getElem?_eq_getElem hlt
      generalize x[j] = y at *
      obtain ⟨Fj, cj, oj, ndj, hlj, hsub, ⟨g, c', hv, hc⟩, hset⟩ := SliceO.focus (mono_sliceO mono_rationalO) (inside_sliceO inside_rational) HX.out ND.out ((markPre_get markRationalS len2 k x j (by omega)).trans HY.out)
      rw [markPre_len _ _ _ _ _ (by omega)] at hv
      simp only [Value.slice.injEq, true_and] at hv
      obtain ⟨rfl, rfl⟩ := hv
      obtain ⟨c0, rfl⟩ : ∃ c0, cj = [c0] := by match cj, hlj with | [c0], _ => exact ⟨c0, rfl⟩
      obtain ⟨a1, k1, hs1⟩ := slice_shape oj
      subst hs1
      have q0 := hc 0 _ rfl
      simp only [Nat.mul_one, Nat.add_zero, Nat.zero_add] at q0
      have OJ := Lib.hid oj
      have SET := Lib.hid hset
      have SUB := Lib.hid hsub
      have NJ := Lib.hid ndj
      clear oj hset hsub ndj hc
      have HS := Lib.hid (sumL_snoc len2 HY.out)
      have hsl2 := Lib.hid (sumL_le len2 x (j + 1))
      have HM := Lib.hid (markPre_set markRationalS len2 k x j y HY.out)
      generalize sumL len2 (x.take j) = s at *
      have hbnd : k + (s : Nat) + ((len2 y : Nat) : Int) ≤ 4611686018427387904 := by have := HS.out; have := hsl2.out; omega
      go_wp2_with fail
      refine (markRationalS_own _ y Fj (k + (s : Nat)) _ OJ.out (by omega) (by have hb := hbnd; simp only [len2] at hb; omega)).mono ?_
      rintro e w2 ⟨rfl, o2, u2⟩
      have HN := Lib.hid (SET.out w2 _ u2 o2)
      have HU2 := Lib.hid (HU.out.trans (u2.mono SUB.out))
      clear o2 u2 SET OJ HX HU q0
      go_wp2_with fail
      exact ⟨⟨j + 1, by omega, by go_num, by rw [HS.out]; congr 1; simp [len2]; omega, by rw [← HM.out]; exact HN.out, HU2.out⟩, by simp [intOf]; omega⟩
    · obtain rfl : j = x.length := by omega
      have HE : Hid (sumL len2 (x.take x.length) = sumL len2 x) := by show _ = _; rw [List.take_length]
      go_wp2_with fail
      go_ret
      exact ⟨ret_int (by rw [HE.out]), by have := HX.out; rw [markPre_done] at this; exact this, HU.out⟩
set_option maxRecDepth 100000 in
set_option maxHeartbeats 1600000 in
theorem heldRationalSS_own (v : Value) (x : List (List RationalD)) (k : Int) (w : World) (h : SliceR 1 (SliceR 2 RationalR) w [v] (markL markRationalS len2 k x)) (h0 : 0 ≤ k) (hk : k + (sumL len2 x : Nat) ≤ 4611686018427387904) :
    Calls Try.prog 77 #[v, .int .i64 k] w fun e w' => e = .returned (.int .i64 (k + (sumL len2 x : Nat))) ∧ Below w.heap.size w w' := by
  obtain ⟨A, c, hv, hc1, hc2⟩ := slice_form h
  rw [markL_len] at hv hc1
  unfold maxLen at hc2
  subst hv
  have H := Lib.hid h
  clear h
  go_enter Try.func77, Try.ntmps77
  go_wp2_with fail
  go_loopw [1, 5] (fun t i wr => ∃ j : Nat, j ≤ x.length ∧ i = .int .i64 j ∧ t = .int .i64 (k + (sumL len2 (x.take j) : Nat)) ∧ Below w.heap.size w wr) (fun _ i _ => x.length - (intOf i).toNat)
  case atStart => exact ⟨0, Nat.zero_le _, rfl, by simp [sumL], Below.refl _ _⟩
  case round =>
    obtain ⟨j, hj, rfl, rfl, hb⟩ := hrel
    have HB := Lib.hid hb
    clear hb
    have hsl := sumL_le len2 x j
    by_cases hlt : j < x.length
    · skip
      have HY : Hid (x[j]? = some x[j]) := List.getElem?_eq_getElem hlt
      generalize x[j] = y at *
      have HA := Lib.hid (markL_at markRationalS len2 x k j y HY.out)
      obtain ⟨b, off, cs, z, rfl, hz, hl, hc, hr⟩ := SliceR.at_ ((mono_slice (mono_slice mono_rational)) _ _ _ _ (Kept.below HB.out (Nat.le_refl _)) H.out) (k := j) (by rw [markL_len]; exact hlt)
      have hzz := Option.some.inj (hz.out.symm.trans HA.out)
      subst hzz
      obtain ⟨sa, sk, zz, _, _⟩ := slice_form' hr
      subst zz
      have q0 := hc 0 _ rfl
      simp only [Nat.mul_one, Nat.add_zero] at q0
      have HR := Lib.hid hr
      clear hr hc hl hz
      have HS := Lib.hid (sumL_snoc len2 HY.out)
      have hsl2 := Lib.hid (sumL_le len2 x (j + 1))
      generalize sumL len2 (x.take j) = s at *
      have hbnd : k + (s : Nat) + ((len2 y : Nat) : Int) ≤ 4611686018427387904 := by have := HS.out; have := hsl2.out; omega
      go_wp2_with fail
      refine (heldRationalS_own _ y (k + (s : Nat)) _ HR.out (by omega) (by have hb := hbnd; simp only [len2] at hb; omega)).mono ?_
      rintro e w2 ⟨rfl, bb⟩
      have HB2 := Lib.hid (HB.out.trans (bb.mono HB.out.size))
      clear HB bb q0
      go_wp2_with fail
      exact ⟨⟨j + 1, by omega, by go_num, by rw [HS.out]; congr 1; simp [len2]; omega, HB2.out⟩, by simp [intOf]; omega⟩
    · obtain rfl : j = x.length := by omega
      have HE : Hid (sumL len2 (x.take x.length) = sumL len2 x) := by show _ = _; rw [List.take_length]
      go_wp2_with fail
      go_ret
      exact ⟨ret_int (by rw [HE.out]), HB.out⟩

end Go.Proofs.Ytcgjlddpbkponaa
