/-
  The product of numbers and rationals, program and reference.
-/
import Derived.Test.YtcgjlddpbkponaaQ6
import Derived.Test.YtcgjlddpbkponaaRatS
import Derived.Deep.DeepCutAuto
namespace Go.Proofs.Ytcgjlddpbkponaa
open Go.ChangeShapes Go.WideShapes Go.ChangeAt Go.RowKit

def dotGo : List Int → List RationalD → Int → Int → Int × Int × Bool
  | n :: l, x :: xs, p, q => if (mulQ n 1 x.num x.den).2.2 = true ∧ (addQ p q (mulQ n 1 x.num x.den).1 (mulQ n 1 x.num x.den).2.1).2.2 = true then dotGo l xs (addQ p q (mulQ n 1 x.num x.den).1 (mulQ n 1 x.num x.den).2.1).1 (addQ p q (mulQ n 1 x.num x.den).1 (mulQ n 1 x.num x.den).2.1).2.1 else (0, 0, false)
  | [], _, p, q => (p, q, true)
  | _ :: _, [], p, q => (p, q, true)
theorem dotGo_cons {l : List Int} {xs : List RationalD} {k : Nat} {n : Int} {x : RationalD} {p q : Int} {m s : Int × Int × Bool} (hl : l[k]? = some n) (hx : xs[k]? = some x) (hm : mulQ n 1 x.num x.den = m) (hs : addQ p q m.1 m.2.1 = s) :
    dotGo (l.drop k) (xs.drop k) p q = if m.2.2 = true ∧ s.2.2 = true then dotGo (l.drop (k + 1)) (xs.drop (k + 1)) s.1 s.2.1 else (0, 0, false) := by
  subst hm
  subst hs
  obtain ⟨h1, rfl⟩ := List.getElem?_eq_some_iff.1 hl
  obtain ⟨h2, rfl⟩ := List.getElem?_eq_some_iff.1 hx
  rw [List.drop_eq_getElem_cons h1, List.drop_eq_getElem_cons h2, dotGo]
theorem dotGo_done {l : List Int} {xs : List RationalD} {k : Nat} {p q : Int} (h : l.length ≤ k ∨ xs.length ≤ k) : dotGo (l.drop k) (xs.drop k) p q = (p, q, true) := by
  rcases h with h | h
  · rw [List.drop_eq_nil_of_le h]; simp [dotGo]
  · rw [List.drop_eq_nil_of_le h]
    cases l.drop k <;> simp [dotGo]

set_option maxHeartbeats 400000 in
theorem l15Int_any (n : Int) (w : World) : Calls Try.prog 68 #[.int .i64 n] w fun e w' => e = .returned (qv n 1) ∧ Below w.heap.size w w' := by
  go_enter Try.func68, Try.ntmps68
  go_wp2_with fail
  exact bodyPost_ret (v := qv n 1) (by simp [results, Try.results68, go_sem]) rfl ⟨rfl, (Below.refl _ _).alloc (Nat.le_refl _) _⟩
set_option maxHeartbeats 400000 in
theorem whole_any (n : Int) (w : World) : Calls Try.prog 70 #[.int .i64 n] w fun e w' => e = .returned (qv n 1) ∧ Below w.heap.size w w' := by
  go_enter Try.func70, Try.ntmps70
  go_wp2_with fail
  exact bodyPost_ret (v := qv n 1) (by simp [results, Try.results70, go_sem]) rfl ⟨rfl, (Below.refl _ _).alloc (Nat.le_refl _) _⟩

set_option maxRecDepth 100000 in
set_option maxHeartbeats 3200000 in
theorem dot_spec (v v' : Value) (l : List Int) (xs : List RationalD) (w : World) (h : SliceR 1 IntR w [v] l) (h' : SliceR 2 RationalR w [v'] xs) :
    Calls Try.prog 65 #[v, v'] w (RetQ (dotGo l xs 0 1) w) := by
  obtain ⟨A, c, hv, hc1, hc2⟩ := slice_form h
  subst hv
  obtain ⟨A', c', hv, hc1', hc2'⟩ := slice_form h'
  subst hv
  unfold maxLen at hc2 hc2'
  have H := Lib.hid h
  have H' := Lib.hid h'
  clear h h'
  have B0 := Lib.hid ((Below.refl w.heap.size w).alloc (Nat.le_refl _) (.cells #[.int .i64 0, .int .i64 0] 35))
  have P0 := Lib.hid (Blk.at_ (g := w.heap.size) w 35 #[.int .i64 0, .int .i64 0] rfl)
  go_enter Try.func65, Try.ntmps65
  go_wp2_with fail
  generalize w.alloc (.cells #[.int .i64 0, .int .i64 0] 35) = W0 at *
  refine (l15Int_any 0 _).mono ?_
  rintro e w1 ⟨rfl, b1⟩
  have B1 := Lib.hid (B0.out.trans (b1.mono B0.out.size))
  have P1 := Lib.hid (P0.out.on b1)
  clear B0 P0 b1 W0
  go_wp2_with fail
  have B2 := Lib.hid (B1.out.alloc B1.out.size (.cells #[.int .i64 0, .int .i64 1] 35))
  have P2 := Lib.hid (P1.out.alloc (.cells #[.int .i64 0, .int .i64 1] 35))
  have S2 := Lib.hid (Blk.at_ (g := w1.heap.size) w1 35 #[.int .i64 0, .int .i64 1] rfl)
  have ql := P1.out.lt
  clear B1 P1
  generalize w1.alloc (.cells #[.int .i64 0, .int .i64 1] 35) = W2 at *
  go_loopw [7] (fun i wr => ∃ k : Nat, k ≤ l.length ∧ k ≤ xs.length ∧ i = .int .i64 k ∧ ∃ p q : Int, Blk wr w.heap.size 35 #[.int .i64 0, .int .i64 0] ∧ Blk wr w1.heap.size 35 #[.int .i64 p, .int .i64 q] ∧ dotGo (l.drop k) (xs.drop k) p q = dotGo l xs 0 1 ∧ Below w.heap.size w wr) (fun i _ => l.length - (intOf i).toNat)
  case atStart => exact ⟨0, Nat.zero_le _, Nat.zero_le _, rfl, 0, 1, P2.out, S2.out, rfl, B2.out⟩
  case round =>
    clear P2 S2 B2 W2
    obtain ⟨k, hk, hk', rfl, p, q, hP, hS, hd, hb⟩ := hrel
    have PP := Lib.hid hP
    have SS := Lib.hid hS
    have HD := Lib.hid hd
    have HB := Lib.hid hb
    clear hP hS hd hb
    by_cases hlt : k < l.length
    · by_cases hlt' : k < xs.length
      · obtain ⟨b, off, n, rfl, hn, hf, hbs, hcell⟩ := IntsR.at_ (mono_slice mono_int _ _ _ _ (Kept.below HB.out (Nat.le_refl _)) H.out) hlt
        obtain ⟨b', off', cs, x, rfl, hx, hl, hc, hr⟩ := SliceR.at_ (mono_slice mono_rational _ _ _ _ (Kept.below HB.out (Nat.le_refl _)) H'.out) hlt'
        obtain ⟨rfl, _⟩ := hr
        have r0 := hc 0 _ rfl
        have r1 := hc 1 _ rfl
        simp only [Nat.add_zero] at r0
        clear hc hl
        have ik : (0 : Int) ≤ (k : Int) := by omega
        have il : (k : Int) < (l.length : Int) := by omega
        have il' : (k : Int) < (xs.length : Int) := by omega
        go_upto_region 5 with fail
        go_cut [8, 9] (fun s8 s9 wx => ∃ g, s8 = .pointer (some ⟨g, 0, none⟩) ∧ s9 = .bool (mulQ n 1 x.num x.den).2.2 ∧ Blk wx g 35 #[.int .i64 (mulQ n 1 x.num x.den).1, .int .i64 (mulQ n 1 x.num x.den).2.1] ∧ wr.heap.size ≤ g ∧ Below wr.heap.size wr wx)
        case first =>
          have hb1 := World.block_lt_of_cell? _ _ r0
          simp only at hb1
          go_region_held3 (fun w' => w'.cell? ⟨b, off + k, none⟩ = some (.int .i64 n) ∧ w'.cell? ⟨b', off' + k * 2, none⟩ = some (.int .i64 x.num) ∧ w'.cell? ⟨b', off' + k * 2 + 1, none⟩ = some (.int .i64 x.den))
            (first | exact ⟨hcell, r0, r1⟩ | exact ⟨keep_newD (hcell), keep_newD (r0), keep_newD (r1)⟩ | exact ⟨keep_drew (keep_new (hcell)) bA, keep_drew (keep_new (r0)) bA, keep_drew (keep_new (r1)) bA⟩ | exact ⟨keep_cell (keep_drew (keep_new (hcell)) bA) bM, keep_cell (keep_drew (keep_new (r0)) bA) bM, keep_cell (keep_drew (keep_new (r1)) bA) bM⟩ | exact ⟨keep_set (keep_cell (keep_drew (keep_new (hcell)) bA) bM) (by show _ < wr.heap.size; first | exact hbs | exact Nat.lt_of_lt_of_le hbs bA.size), keep_set (keep_cell (keep_drew (keep_new (r0)) bA) bM) (by show _ < wr.heap.size; first | exact hb1 | exact Nat.lt_of_lt_of_le hb1 bA.size), keep_set (keep_cell (keep_drew (keep_new (r1)) bA) bM) (by show _ < wr.heap.size; first | exact hb1 | exact Nat.lt_of_lt_of_le hb1 bA.size)⟩ | exact ⟨keep_set (keep_set (keep_cell (keep_drew (keep_new (hcell)) bA) bM) (by show _ < wr.heap.size; first | exact hbs | exact Nat.lt_of_lt_of_le hbs bA.size)) (by show _ < wr.heap.size; first | exact hbs | exact Nat.lt_of_lt_of_le hbs bA.size), keep_set (keep_set (keep_cell (keep_drew (keep_new (r0)) bA) bM) (by show _ < wr.heap.size; first | exact hb1 | exact Nat.lt_of_lt_of_le hb1 bA.size)) (by show _ < wr.heap.size; first | exact hb1 | exact Nat.lt_of_lt_of_le hb1 bA.size), keep_set (keep_set (keep_cell (keep_drew (keep_new (r1)) bA) bM) (by show _ < wr.heap.size; first | exact hb1 | exact Nat.lt_of_lt_of_le hb1 bA.size)) (by show _ < wr.heap.size; first | exact hb1 | exact Nat.lt_of_lt_of_le hb1 bA.size)⟩ | exact ⟨keep_drew (hcell) bA, keep_drew (r0) bA, keep_drew (r1) bA⟩ | exact ⟨keep_new (keep_drew (hcell) bA), keep_new (keep_drew (r0) bA), keep_new (keep_drew (r1) bA)⟩ | exact ⟨keep_cell (keep_new (keep_drew (hcell) bA)) bM, keep_cell (keep_new (keep_drew (r0) bA)) bM, keep_cell (keep_new (keep_drew (r1) bA)) bM⟩ | exact ⟨keep_set (keep_cell (keep_new (keep_drew (hcell) bA)) bM) (by show _ < wA.heap.size; first | exact hbs | exact Nat.lt_of_lt_of_le hbs bA.size), keep_set (keep_cell (keep_new (keep_drew (r0) bA)) bM) (by show _ < wA.heap.size; first | exact hb1 | exact Nat.lt_of_lt_of_le hb1 bA.size), keep_set (keep_cell (keep_new (keep_drew (r1) bA)) bM) (by show _ < wA.heap.size; first | exact hb1 | exact Nat.lt_of_lt_of_le hb1 bA.size)⟩ | exact ⟨keep_set (keep_set (keep_cell (keep_new (keep_drew (hcell) bA)) bM) (by show _ < wA.heap.size; first | exact hbs | exact Nat.lt_of_lt_of_le hbs bA.size)) (by show _ < wA.heap.size; first | exact hbs | exact Nat.lt_of_lt_of_le hbs bA.size), keep_set (keep_set (keep_cell (keep_new (keep_drew (r0) bA)) bM) (by show _ < wA.heap.size; first | exact hb1 | exact Nat.lt_of_lt_of_le hb1 bA.size)) (by show _ < wA.heap.size; first | exact hb1 | exact Nat.lt_of_lt_of_le hb1 bA.size), keep_set (keep_set (keep_cell (keep_new (keep_drew (r1) bA)) bM) (by show _ < wA.heap.size; first | exact hb1 | exact Nat.lt_of_lt_of_le hb1 bA.size)) (by show _ < wA.heap.size; first | exact hb1 | exact Nat.lt_of_lt_of_le hb1 bA.size)⟩ | exact ⟨keep_cell (keep_drew (hcell) bA) bM, keep_cell (keep_drew (r0) bA) bM, keep_cell (keep_drew (r1) bA) bM⟩ | exact ⟨keep_new (keep_cell (keep_drew (hcell) bA) bM), keep_new (keep_cell (keep_drew (r0) bA) bM), keep_new (keep_cell (keep_drew (r1) bA) bM)⟩)
            (first | (go_at_call 68; refine (l15Int_any n _).mono ?_; rintro e wA ⟨rfl, bA⟩) | (go_at_call 98; refine (mul_spec n 1 x.num x.den _).mono ?_; rintro e wM ⟨rfl, bM⟩; (try (have Z0 := ((Blk.at_ (g := wr.heap.size) wr 35 #[.int .i64 0, .int .i64 0] rfl).onDrew bA).on bM; have z0_0 := Z0.get 0 (.int .i64 0) rfl; have y0_0 := Z0.frozen 0; have z0_1 := Z0.get 1 (.int .i64 0) rfl; have y0_1 := Z0.frozen 1; clear Z0)); (try (have Z1 := (Blk.at_ (g := wA.heap.size) wA 35 #[.int .i64 0, .int .i64 0] rfl).on bM; have z1_0 := Z1.get 0 (.int .i64 0) rfl; have y1_0 := Z1.frozen 0; have z1_1 := Z1.get 1 (.int .i64 0) rfl; have y1_1 := Z1.frozen 1; clear Z1))))
          all_goals
            go_wp2_with fail
            go_meet
            first
              | exact ⟨wr.heap.size, rfl, rfl, ((((Blk.at_ (g := wr.heap.size) wr 35 #[.int .i64 0, .int .i64 0] rfl).onDrew bA).on bM).store 0 (.int .i64 (mulQ n 1 x.num x.den).1)).store 1 (.int .i64 (mulQ n 1 x.num x.den).2.1), by first | exact Nat.le_refl _ | exact bA.size | exact Nat.le_trans bA.size bM.size, ((((((Below.refl wr.heap.size wr).alloc (Nat.le_refl _) _).drew.trans (bA.mono ((Below.refl wr.heap.size wr).alloc (Nat.le_refl _) _).drew.size)).trans (bM.mono (((Below.refl wr.heap.size wr).alloc (Nat.le_refl _) _).drew.trans (bA.mono ((Below.refl wr.heap.size wr).alloc (Nat.le_refl _) _).drew.size)).size)).setCell (p := ⟨wr.heap.size, 0, none⟩) (by show wr.heap.size ≤ wr.heap.size; first | exact Nat.le_refl _ | exact bA.size | exact Nat.le_trans bA.size bM.size) _).setCell (p := ⟨wr.heap.size, 1, none⟩) (by show wr.heap.size ≤ wr.heap.size; first | exact Nat.le_refl _ | exact bA.size | exact Nat.le_trans bA.size bM.size) _)⟩
              | exact ⟨wA.heap.size, rfl, rfl, (((Blk.at_ (g := wA.heap.size) wA 35 #[.int .i64 0, .int .i64 0] rfl).on bM).store 0 (.int .i64 (mulQ n 1 x.num x.den).1)).store 1 (.int .i64 (mulQ n 1 x.num x.den).2.1), by first | exact Nat.le_refl _ | exact bA.size | exact Nat.le_trans bA.size bM.size, ((((((Below.refl wr.heap.size wr).drew.trans (bA.mono (Below.refl wr.heap.size wr).drew.size)).alloc ((Below.refl wr.heap.size wr).drew.trans (bA.mono (Below.refl wr.heap.size wr).drew.size)).size _).trans (bM.mono (((Below.refl wr.heap.size wr).drew.trans (bA.mono (Below.refl wr.heap.size wr).drew.size)).alloc ((Below.refl wr.heap.size wr).drew.trans (bA.mono (Below.refl wr.heap.size wr).drew.size)).size _).size)).setCell (p := ⟨wA.heap.size, 0, none⟩) (by show wr.heap.size ≤ wA.heap.size; first | exact Nat.le_refl _ | exact bA.size | exact Nat.le_trans bA.size bM.size) _).setCell (p := ⟨wA.heap.size, 1, none⟩) (by show wr.heap.size ≤ wA.heap.size; first | exact Nat.le_refl _ | exact bA.size | exact Nat.le_trans bA.size bM.size) _)⟩
              | exact ⟨wM.heap.size, rfl, rfl, Blk.at_ (g := wM.heap.size) wM 35 #[.int .i64 (mulQ n 1 x.num x.den).1, .int .i64 (mulQ n 1 x.num x.den).2.1] rfl, by first | exact Nat.le_refl _ | exact bA.size | exact Nat.le_trans bA.size bM.size, ((((Below.refl wr.heap.size wr).drew.trans (bA.mono (Below.refl wr.heap.size wr).drew.size)).trans (bM.mono ((Below.refl wr.heap.size wr).drew.trans (bA.mono (Below.refl wr.heap.size wr).drew.size)).size)).alloc (((Below.refl wr.heap.size wr).drew.trans (bA.mono (Below.refl wr.heap.size wr).drew.size)).trans (bM.mono ((Below.refl wr.heap.size wr).drew.trans (bA.mono (Below.refl wr.heap.size wr).drew.size)).size)).size _)⟩
        case rest =>
          clear r0 r1 hcell
          obtain ⟨g, rfl, rfl, hBlk, hg, hbx⟩ := hcut
          have HX := Lib.hid (HB.out.trans (hbx.mono HB.out.size))
          have PX := Lib.hid (PP.out.on hbx)
          have SX := Lib.hid (SS.out.on hbx)
          have hne := Nat.lt_of_lt_of_le SS.out.lt hg
          clear HB PP SS hbx hg
          have HC := Lib.hid (fun s => dotGo_cons (p := p) (q := q) (s := s) hn hx rfl)
          generalize mulQ n 1 x.num x.den = m at *
          obtain ⟨m1, m2, m3⟩ := m
          simp only at hBlk HC
          have s0 := SX.out.get 0 _ rfl
          have s1 := SX.out.get 1 _ rfl
          have g0 := hBlk.get 0 _ rfl
          have g1 := hBlk.get 1 _ rfl
          go_wp2_with fail
          refine (add_spec p q m1 m2 _).mono ?_
          rintro e w3 ⟨rfl, b1⟩
          have HD2 := Lib.hid (HC.out _ rfl)
          clear HC s0 s1 g0 g1
          generalize addQ p q m1 m2 = s at *
          obtain ⟨a1, a2, a3⟩ := s
          simp only at HD2
          have HY := Lib.hid (HX.out.trans (b1.mono HX.out.size))
          have PY := Lib.hid (PX.out.on b1)
          have SY := Lib.hid (SX.out.on b1)
          clear HX PX SX b1 hBlk
          have HZ := Lib.hid (HY.out.alloc HY.out.size (.cells #[.int .i64 a1, .int .i64 a2] 35))
          have PZ := Lib.hid (PY.out.alloc (.cells #[.int .i64 a1, .int .i64 a2] 35))
          have SZ := Lib.hid (SY.out.alloc (.cells #[.int .i64 a1, .int .i64 a2] 35))
          have TZ := Lib.hid (Blk.at_ (g := w3.heap.size) w3 35 #[.int .i64 a1, .int .i64 a2] rfl)
          have zl := HY.out.size
          clear HY PY SY
          have q0 := PZ.out.get 0 _ rfl
          have q1 := PZ.out.get 1 _ rfl
          have f0 := PZ.out.frozen 0
          have f1 := PZ.out.frozen 1
          have s0 := SZ.out.get 0 _ rfl
          have s1 := SZ.out.get 1 _ rfl
          have u0 := SZ.out.frozen 0
          have u1 := SZ.out.frozen 1
          have t0 := TZ.out.get 0 _ rfl
          have t1 := TZ.out.get 1 _ rfl
          cases m3 <;> cases a3 <;> go_wp2_with fail
          · have R := (PZ.out.store 0 (.int .i64 0)).store 1 (.int .i64 0)
            have y0 := R.get 0 (.int .i64 0) rfl
            have y1 := R.get 1 (.int .i64 0) rfl
            refine bodyPost_ret (v := .tuple #[.agg #[.int .i64 0, .int .i64 0], .bool false]) (by simp [results, Try.results65, go_sem, y0, y1]) rfl ⟨by rw [← HD.out, HD2.out]; simp, ?_⟩
            exact (HZ.out.setCell (p := ⟨w.heap.size, 0, none⟩) (by show _ ≤ w.heap.size; omega) _).setCell (p := ⟨w.heap.size, 1, none⟩) (by show _ ≤ w.heap.size; omega) _
          · have R := (PZ.out.store 0 (.int .i64 0)).store 1 (.int .i64 0)
            have y0 := R.get 0 (.int .i64 0) rfl
            have y1 := R.get 1 (.int .i64 0) rfl
            refine bodyPost_ret (v := .tuple #[.agg #[.int .i64 0, .int .i64 0], .bool false]) (by simp [results, Try.results65, go_sem, y0, y1]) rfl ⟨by rw [← HD.out, HD2.out]; simp, ?_⟩
            exact (HZ.out.setCell (p := ⟨w.heap.size, 0, none⟩) (by show _ ≤ w.heap.size; omega) _).setCell (p := ⟨w.heap.size, 1, none⟩) (by show _ ≤ w.heap.size; omega) _
          · have R := (PZ.out.store 0 (.int .i64 0)).store 1 (.int .i64 0)
            have y0 := R.get 0 (.int .i64 0) rfl
            have y1 := R.get 1 (.int .i64 0) rfl
            refine bodyPost_ret (v := .tuple #[.agg #[.int .i64 0, .int .i64 0], .bool false]) (by simp [results, Try.results65, go_sem, y0, y1]) rfl ⟨by rw [← HD.out, HD2.out]; simp, ?_⟩
            exact (HZ.out.setCell (p := ⟨w.heap.size, 0, none⟩) (by show _ ≤ w.heap.size; omega) _).setCell (p := ⟨w.heap.size, 1, none⟩) (by show _ ≤ w.heap.size; omega) _
          · refine ⟨⟨k + 1, by omega, by omega, by go_num, a1, a2, ?_, (SZ.out.store 0 _).store 1 _, ?_, ?_⟩, by simp [intOf]; omega⟩
            · exact (PZ.out.far (p := ⟨w1.heap.size, 0, none⟩) (by show w.heap.size ≠ w1.heap.size; omega) _).far (p := ⟨w1.heap.size, 1, none⟩) (by show w.heap.size ≠ w1.heap.size; omega) _
            · rw [← HD.out, HD2.out]; simp
            · exact (HZ.out.setCell (p := ⟨w1.heap.size, 0, none⟩) (by show _ ≤ w1.heap.size; omega) _).setCell (p := ⟨w1.heap.size, 1, none⟩) (by show _ ≤ w1.heap.size; omega) _
      · have q0 := PP.out.get 0 _ rfl
        have q1 := PP.out.get 1 _ rfl
        have f0 := PP.out.frozen 0
        have f1 := PP.out.frozen 1
        have s0 := SS.out.get 0 _ rfl
        have s1 := SS.out.get 1 _ rfl
        have R := (PP.out.store 0 (.int .i64 p)).store 1 (.int .i64 q)
        have y0 := R.get 0 (.int .i64 p) rfl
        have y1 := R.get 1 (.int .i64 q) rfl
        go_wp2_with fail
        refine bodyPost_ret (v := .tuple #[.agg #[.int .i64 p, .int .i64 q], .bool true]) (by simp [results, Try.results65, go_sem, y0, y1]) rfl ⟨by rw [← HD.out, dotGo_done (by omega)], ?_⟩
        exact (HB.out.setCell (p := ⟨w.heap.size, 0, none⟩) (by show _ ≤ w.heap.size; omega) _).setCell (p := ⟨w.heap.size, 1, none⟩) (by show _ ≤ w.heap.size; omega) _
    · have q0 := PP.out.get 0 _ rfl
      have q1 := PP.out.get 1 _ rfl
      have f0 := PP.out.frozen 0
      have f1 := PP.out.frozen 1
      have s0 := SS.out.get 0 _ rfl
      have s1 := SS.out.get 1 _ rfl
      have R := (PP.out.store 0 (.int .i64 p)).store 1 (.int .i64 q)
      have y0 := R.get 0 (.int .i64 p) rfl
      have y1 := R.get 1 (.int .i64 q) rfl
      go_wp2_with fail
      refine bodyPost_ret (v := .tuple #[.agg #[.int .i64 p, .int .i64 q], .bool true]) (by simp [results, Try.results65, go_sem, y0, y1]) rfl ⟨by rw [← HD.out, dotGo_done (by omega)], ?_⟩
      exact (HB.out.setCell (p := ⟨w.heap.size, 0, none⟩) (by show _ ≤ w.heap.size; omega) _).setCell (p := ⟨w.heap.size, 1, none⟩) (by show _ ≤ w.heap.size; omega) _
end Go.Proofs.Ytcgjlddpbkponaa
