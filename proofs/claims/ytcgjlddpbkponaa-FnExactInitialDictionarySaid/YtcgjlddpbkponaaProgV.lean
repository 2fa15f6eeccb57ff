/-
  Merged: ProgV ProgV2
-/
import Derived.Test.YtcgjlddpbkponaaProgD
import Derived.Test.YtcgjlddpbkponaaBase
namespace Go.Proofs.Ytcgjlddpbkponaa
open Go.ChangeShapes Go.WideShapes Go.ChangeAt Go.RowKit
set_option linter.unusedVariables false
set_option linter.unusedSimpArgs false

/- Valid linear programs: the plain test, and the reference's contract. -/

def coefOk (x : Int) : Bool := inB x (-9) 9
def limOk (x : Int) : Bool := inB x 0 99
def okRow (n : Nat) (r : List Int) : Bool := decide (r.length = n) && r.all coefOk
def okProg (p : ProgramD) : Bool := inB p.objective.length 1 15 && decide (p.rows.length ≤ 64) && decide (p.limits.length = p.rows.length) && p.objective.all coefOk && p.rows.all (okRow p.objective.length) && p.limits.all limOk
theorem okProg_n {p : ProgramD} (h : inB p.objective.length 1 15 = false) : okProg p = false := by simp [okProg, h]
theorem okProg_m {p : ProgramD} (h : ¬ p.rows.length ≤ 64) : okProg p = false := by simp [okProg, h]
theorem okProg_l {p : ProgramD} (h : ¬ p.limits.length = p.rows.length) : okProg p = false := by simp [okProg, h]
theorem okProg_o {p : ProgramD} (h : p.objective.all coefOk = false) : okProg p = false := by simp [okProg, h]
theorem okProg_r {p : ProgramD} (h : p.rows.all (okRow p.objective.length) = false) : okProg p = false := by simp [okProg, h]
theorem okProg_b {p : ProgramD} (h : p.limits.all limOk = false) : okProg p = false := by simp [okProg, h]
theorem okProg_yes {p : ProgramD} (h1 : inB p.objective.length 1 15 = true) (h2 : p.rows.length ≤ 64) (h3 : p.limits.length = p.rows.length) (h4 : p.objective.all coefOk = true) (h5 : p.rows.all (okRow p.objective.length) = true) (h6 : p.limits.all limOk = true) : okProg p = true := by
  simp [okProg, h1, h2, h3, h4, h5, h6]
theorem okRow_len {n : Nat} {r : List Int} (h : ¬ r.length = n) : okRow n r = false := by simp [okRow, h]
theorem okRow_bad {n : Nat} {r : List Int} (h : r.all coefOk = false) : okRow n r = false := by simp [okRow, h]
theorem okRow_yes {n : Nat} {r : List Int} (h : r.length = n) (h' : r.all coefOk = true) : okRow n r = true := by simp [okRow, h, h']
theorem ProgramR.parts {w : World} {c0 c1 c2 : Value} {p : ProgramD} (h : ProgramR w [c0, c1, c2] p) : SliceR 1 IntR w [c0] p.objective ∧ SliceR 1 (SliceR 1 IntR) w [c1] p.rows ∧ SliceR 1 IntR w [c2] p.limits := by
  obtain ⟨_, _, _, hcs, h0, h1, h2⟩ := h
  simp only [List.cons.injEq, and_true] at hcs
  obtain ⟨rfl, rfl, rfl⟩ := hcs
  exact ⟨h0, h1, h2⟩

set_option maxRecDepth 100000 in
set_option maxHeartbeats 3200000 in
theorem isValidProgram_spec (c0 c1 c2 : Value) (p : ProgramD) (w : World) (h : ProgramR w [c0, c1, c2] p) :
    Calls Try.prog 16 #[.agg #[c0, c1, c2]] w fun e w' => e = .returned (.bool (okProg p)) ∧ Below w.heap.size w w' := by
  obtain ⟨h0, h1, h2⟩ := h.parts
  obtain ⟨A0, k0, hv, hn0, hm0⟩ := slice_form h0
  subst hv
  obtain ⟨A1, k1, hv, hn1, hm1⟩ := slice_form h1
  subst hv
  obtain ⟨A2, k2, hv, hn2, hm2⟩ := slice_form h2
  subst hv
  unfold maxLen at hm0 hm1 hm2
  have B0 := Lib.hid ((Below.refl w.heap.size w).alloc (Nat.le_refl _) (.cells #[.slice A0 p.objective.length k0, .slice A1 p.rows.length k1, .slice A2 p.limits.length k2] 28))
  have P0 := Lib.hid (Blk.at_ (g := w.heap.size) w 28 #[.slice A0 p.objective.length k0, .slice A1 p.rows.length k1, .slice A2 p.limits.length k2] rfl)
  have H0 := Lib.hid (mono_slice mono_int _ _ _ _ (Kept.below B0.out (Nat.le_refl _)) h0)
  have H1 := Lib.hid (mono_slice (mono_slice mono_int) _ _ _ _ (Kept.below B0.out (Nat.le_refl _)) h1)
  have H2 := Lib.hid (mono_slice mono_int _ _ _ _ (Kept.below B0.out (Nat.le_refl _)) h2)
  clear h0 h1 h2 h
  have q0 := P0.out.get 0 (.slice A0 p.objective.length k0) rfl
  have q1 := P0.out.get 1 (.slice A1 p.rows.length k1) rfl
  have q2 := P0.out.get 2 (.slice A2 p.limits.length k2) rfl
  cases hn : inB p.objective.length 1 15
  · have GN := Lib.hid hn
    clear hn
    go_enter Try.func16, Try.ntmps16
    go_wp2_with fail
    refine (l1In_any _ _ _ _).mono ?_
    rintro e w1 ⟨rfl, rfl⟩
    rw [GN.out]
    go_wp2_with fail
    go_ret
    exact ⟨ret_bool (okProg_n GN.out).symm, B0.out⟩
  have GN := Lib.hid hn
  clear hn
  by_cases hr : ¬ p.rows.length ≤ 64
  · have hr' : (64 : Int) < p.rows.length := by omega
    go_enter Try.func16, Try.ntmps16
    go_wp2_with fail
    refine (l1In_any _ _ _ _).mono ?_
    rintro e w1 ⟨rfl, rfl⟩
    rw [GN.out]
    go_wp2_with fail
    go_ret
    exact ⟨ret_bool (okProg_m (by omega)).symm, B0.out⟩
  by_cases hl : ¬ p.limits.length = p.rows.length
  · have hl' : ((p.rows.length : Int) != (p.limits.length : Int)) = true := by simp; omega
    have hr' : ¬ (64 : Int) < p.rows.length := by omega
    go_enter Try.func16, Try.ntmps16
    go_wp2_with fail
    refine (l1In_any _ _ _ _).mono ?_
    rintro e w1 ⟨rfl, rfl⟩
    rw [GN.out]
    go_wp2_with fail
    go_ret
    exact ⟨ret_bool (okProg_l hl).symm, B0.out⟩
  have hle : p.rows.length ≤ 64 := by omega
  have hll : p.limits.length = p.rows.length := by omega
  have HL := Lib.hid hll
  have hl' : ((p.rows.length : Int) != (p.limits.length : Int)) = false := by simp [hll]
  have hr' : ¬ (64 : Int) < p.rows.length := by omega
  clear hl hll hr
  go_enter Try.func16, Try.ntmps16
  go_wp2_with fail
  refine (l1In_any _ _ _ _).mono ?_
  rintro e w1 ⟨rfl, rfl⟩
  rw [GN.out]
  go_wp2_with fail
  generalize w.alloc (.cells #[.slice A0 p.objective.length k0, .slice A1 p.rows.length k1, .slice A2 p.limits.length k2] 28) = W at *
  go_loop [4] (fun i => ∃ k : Nat, k ≤ p.objective.length ∧ i = .int .i64 k ∧ (p.objective.take k).all coefOk = true) (fun i => p.objective.length - (intOf i).toNat)
  case atStart => exact ⟨0, Nat.zero_le _, rfl, by simp⟩
  case round =>
    obtain ⟨k, hk, rfl, ha⟩ := hrel
    have HA := Lib.hid ha
    clear ha
    by_cases hlt : k < p.objective.length
    · obtain ⟨b, off, x, rfl, hx, hf, hbs, hcell⟩ := IntsR.at_ H0.out hlt
      cases hin : inB x (-9) 9
      · have HI := Lib.hid hin
        clear hin
        go_wp2_with (go_at_call 59; refine (l1In_any _ _ _ _).mono ?_; rintro e w' ⟨rfl, rfl⟩; rw [HI.out])
        go_ret
        exact ⟨ret_bool (okProg_o (all_stop hx.out HI.out)).symm, B0.out⟩
      · have HI := Lib.hid hin
        clear hin
        go_wp2_with (go_at_call 59; refine (l1In_any _ _ _ _).mono ?_; rintro e w' ⟨rfl, rfl⟩; rw [HI.out])
        exact ⟨⟨k + 1, by omega, by go_num, all_snoc hx.out HA.out HI.out⟩, by simp [intOf]; omega⟩
    · have HO := Lib.hid (all_done (by omega) HA.out)
      clear HA
      go_wp2_with fail
      go_loop [5] (fun i => ∃ k : Nat, k ≤ p.rows.length ∧ i = .int .i64 k ∧ (p.rows.take k).all (okRow p.objective.length) = true ∧ (p.limits.take k).all limOk = true) (fun i => p.rows.length - (intOf i).toNat)
      case atStart => exact ⟨0, Nat.zero_le _, rfl, by simp, by simp⟩
      case round =>
        clear hk hlt
        obtain ⟨j, hj, rfl, ha, hb⟩ := hrel
        have HA := Lib.hid ha
        have HB := Lib.hid hb
        clear ha hb
        by_cases hlt : j < p.rows.length
        · obtain ⟨b, off, cs, r, rfl, hy, hlc, hc, hrd⟩ := SliceR.at_ H1.out hlt
          obtain ⟨b2, off2, z, rfl, hz, hf2, hbs2, hcell2⟩ := IntsR.at_ H2.out (k := j) (by have := HL.out; omega)
          obtain ⟨sa, sk, zz, nn, mm⟩ := slice_form' hrd
          subst zz
          have qr := hc 0 _ rfl
          simp only [Nat.add_zero, Nat.mul_one] at qr
          have HR := Lib.hid hrd
          clear hrd hc hlc
          have hjl : (j : Int) < p.limits.length := by have := HL.out; omega
          by_cases hrn : r.length = p.objective.length
          · have e1 : ((r.length : Int) != (p.objective.length : Int)) = false := by simp [hrn]
            have HRN := Lib.hid hrn
            clear hrn
            cases hin : inB z 0 99
            · have HI := Lib.hid hin
              clear hin
              go_wp2_with (go_at_call 59; refine (l1In_any _ _ _ _).mono ?_; rintro e w' ⟨rfl, rfl⟩; rw [HI.out])
              go_ret
              exact ⟨ret_bool (okProg_b (all_stop hz.out HI.out)).symm, B0.out⟩
            · have HI := Lib.hid hin
              clear hin
              go_wp2_with (go_at_call 59; refine (l1In_any _ _ _ _).mono ?_; rintro e w' ⟨rfl, rfl⟩; rw [HI.out])
              go_loop [6] (fun i => ∃ k : Nat, k ≤ p.objective.length ∧ i = .int .i64 k ∧ (r.take k).all coefOk = true) (fun i => p.objective.length - (intOf i).toNat)
              case atStart => exact ⟨0, Nat.zero_le _, rfl, by simp⟩
              case round =>
                obtain ⟨m, hm, rfl, hc⟩ := hrel
                have HC := Lib.hid hc
                clear hc
                by_cases hmt : m < p.objective.length
                · obtain ⟨b3, off3, y, rfl, hy3, hf3, hbs3, hcell3⟩ := IntsR.at_ HR.out (k := m) (by have := HRN.out; omega)
                  have hmr : (m : Int) < r.length := by have := HRN.out; omega
                  cases hin : inB y (-9) 9
                  · have HJ := Lib.hid hin
                    clear hin
                    go_wp2_with (go_at_call 59; refine (l1In_any _ _ _ _).mono ?_; rintro e w' ⟨rfl, rfl⟩; rw [HJ.out])
                    go_ret
                    exact ⟨ret_bool (okProg_r (all_stop hy.out (okRow_bad (all_stop hy3.out HJ.out)))).symm, B0.out⟩
                  · have HJ := Lib.hid hin
                    clear hin
                    go_wp2_with (go_at_call 59; refine (l1In_any _ _ _ _).mono ?_; rintro e w' ⟨rfl, rfl⟩; rw [HJ.out])
                    exact ⟨⟨m + 1, by omega, by go_num, all_snoc hy3.out HC.out HJ.out⟩, by simp [intOf]; omega⟩
                · go_wp2_with fail
                  exact ⟨⟨j + 1, by omega, by go_num, all_snoc hy.out HA.out (okRow_yes HRN.out (all_done (by have := HRN.out; omega) HC.out)), all_snoc hz.out HB.out HI.out⟩, by simp [intOf]; omega⟩
          · have e1 : ((r.length : Int) != (p.objective.length : Int)) = true := by simp; omega
            go_wp2_with fail
            go_ret
            exact ⟨ret_bool (okProg_r (all_stop hy.out (okRow_len hrn))).symm, B0.out⟩
        · go_wp2_with fail
          go_ret
          exact ⟨ret_bool (okProg_yes GN.out hle HL.out HO.out (all_done (by omega) HA.out) (all_done (by have := HL.out; omega) HB.out)).symm, B0.out⟩

/- The program's IsValidProgram. -/

theorem SliceR.of_owns {α : Type} {K base e : Nat} {R : Rd α} {w : World} {v : Value} {xs : List α} {css : List (List Value)} (ho : w.ownsRow base e K v xs.length css.flatten) (h1 : css.length = xs.length)
    (h3 : ∀ (i : Nat) x, xs[i]? = some x → ∃ c, css[i]? = some c ∧ c.length = K ∧ R w c x) : SliceR K R w [v] xs := by
  obtain ⟨A, c, rfl, hc1, hc2, hA⟩ := owns_shape ho
  have hlen : ∀ c ∈ css, c.length = K := by
    intro c hc
    obtain ⟨i, hi, rfl⟩ := List.getElem_of_mem hc
    obtain ⟨ci, hci, hl, _⟩ := h3 i _ (List.getElem?_eq_getElem (by omega : i < xs.length))
    rw [List.getElem?_eq_getElem hi] at hci
    injection hci with hci
    rw [hci]; exact hl
  refine ⟨A, c, rfl, hc1, hc2, fun i x hx => ?_⟩
  have hi : i < xs.length := (List.getElem?_eq_some_iff.1 hx).1
  obtain ⟨g, rfl, _, _⟩ := hA (by omega)
  obtain ⟨ci, hc, hl, hr⟩ := h3 i x hx
  refine ⟨g, 0, ci, rfl, hl, fun j u hu => ?_, hr⟩
  have hj : j < K := by
    have := (List.getElem?_eq_some_iff.1 hu).1
    omega
  have hik : i * K + j < xs.length * K := by
    have : (i + 1) * K ≤ xs.length * K := Nat.mul_le_mul_right K (by omega)
    rw [Nat.add_mul] at this; omega
  rw [Nat.zero_add, ho.cellAt (i * K + j) hik, flatten_at css hlen i j ci hc hj]
  exact hu
theorem slices_oneCell {α : Type} {K : Nat} {R : Rd α} {w : World} {xs : List (List α)} {css : List (List Value)} (hl : css.length = xs.length) (h : ∀ (i : Nat) x, xs[i]? = some x → ∃ c, css[i]? = some c ∧ c.length = 1 ∧ SliceR K R w c x) : ∀ u ∈ css.flatten, u.oneCell' = true := by
  intro u hu
  obtain ⟨c, hc, hu⟩ := List.mem_flatten.1 hu
  obtain ⟨i, hi, rfl⟩ := List.getElem_of_mem hc
  obtain ⟨c', hc', _, hr⟩ := h i _ (List.getElem?_eq_getElem (by omega : i < xs.length))
  rw [List.getElem?_eq_getElem hi] at hc'
  injection hc' with hc'
  obtain ⟨A, k, e, _⟩ := slice_form' hr
  rw [hc', e] at hu
  simp at hu
  subst hu
  rfl
theorem rows_snoc {w w' : World} {base : Nat} {v : Value} {xs : List (List Int)} {y : List Int} {c0 : Value} {css : List (List Value)} (ho : w'.ownsRow base 22 1 v (xs.length + 1) (css.flatten ++ [c0])) (hl : css.length = xs.length)
    (h : ∀ (i : Nat) x, xs[i]? = some x → ∃ c, css[i]? = some c ∧ c.length = 1 ∧ SliceR 1 IntR w c x) (hy : SliceR 1 IntR w [c0] y) (hk : Kept w w') : SliceR 1 (SliceR 1 IntR) w' [v] (xs ++ [y]) := by
  refine SliceR.of_owns (css := css ++ [[c0]]) (by simpa using ho) (by simp [hl]) (fun i x hx => ?_)
  by_cases hi : i < xs.length
  · rw [List.getElem?_append_left hi] at hx
    obtain ⟨c, hc, hcl, hr⟩ := h i x hx
    exact ⟨c, by rw [List.getElem?_append_left (by omega)]; exact hc, hcl, mono_slice mono_int _ _ _ _ hk hr⟩
  · rw [List.getElem?_append_right (by omega)] at hx
    have him : i = xs.length := by
      have := (List.getElem?_eq_some_iff.1 hx).1
      simp at this; omega
    subst him
    simp at hx
    subst hx
    exact ⟨[c0], by rw [List.getElem?_append_right (by omega)]; simp [hl], rfl, mono_slice mono_int _ _ _ _ hk hy⟩
theorem okProg_L {p : ProgramD} (h : (p.rows ++ [p.objective]).all (okRow p.objective.length) = false) : okProg p = false := by
  rw [List.all_append, Bool.and_eq_false_iff] at h
  rcases h with h | h
  · exact okProg_r h
  · refine okProg_o ?_
    simpa [okRow] using h
theorem okProg_all {p : ProgramD} (h1 : inB p.objective.length 1 15 = true) (h2 : p.rows.length ≤ 64) (h3 : p.limits.length = p.rows.length) (h : (p.rows ++ [p.objective]).all (okRow p.objective.length) = true) (h6 : p.limits.all limOk = true) : okProg p = true := by
  rw [List.all_append, Bool.and_eq_true] at h
  exact okProg_yes h1 h2 h3 (by simpa [okRow] using h.2) h.1 h6
theorem info_ints : (Try.prog.info? 22).map (fun i => (i.zero, i.size, i.bytes)) = some (some (.slice none 0 0), 1, 24) := by kernel_rfl
abbrev BOX (p : ProgramD) (A0 A1 A2 : Option Addr) (k0 k1 k2 : Nat) : Array Value := #[.slice A0 p.objective.length k0, .slice A1 p.rows.length k1, .slice A2 p.limits.length k2]

set_option maxRecDepth 100000 in
set_option maxHeartbeats 6400000 in
theorem isValidProgram_impl (c0 c1 c2 : Value) (p : ProgramD) (w : World) (h : ProgramR w [c0, c1, c2] p) :
    Calls Try.prog 18 #[.agg #[c0, c1, c2]] w fun e w' => e = .returned (.bool (okProg p)) ∧ Below w.heap.size w w' := by
  obtain ⟨i0, hi, hz0, hz1, hz2⟩ := info_parts info_ints
  obtain ⟨h0, h1, h2⟩ := h.parts
  obtain ⟨A0, k0, hv, hn0, hm0⟩ := slice_form h0
  subst hv
  obtain ⟨A1, k1, hv, hn1, hm1⟩ := slice_form h1
  subst hv
  obtain ⟨A2, k2, hv, hn2, hm2⟩ := slice_form h2
  subst hv
  unfold maxLen at hm0 hm1 hm2
  have B0 := Lib.hid ((Below.refl w.heap.size w).alloc (Nat.le_refl _) (.cells #[.slice A0 p.objective.length k0, .slice A1 p.rows.length k1, .slice A2 p.limits.length k2] 28))
  have P0 := Lib.hid (Blk.at_ (g := w.heap.size) w 28 #[.slice A0 p.objective.length k0, .slice A1 p.rows.length k1, .slice A2 p.limits.length k2] rfl)
  have H0 := Lib.hid (mono_slice mono_int _ _ _ _ (Kept.below B0.out (Nat.le_refl _)) h0)
  have H1 := Lib.hid (mono_slice (mono_slice mono_int) _ _ _ _ (Kept.below B0.out (Nat.le_refl _)) h1)
  have H2 := Lib.hid (mono_slice mono_int _ _ _ _ (Kept.below B0.out (Nat.le_refl _)) h2)
  clear h0 h1 h2 h
  have q0 := P0.out.get 0 (.slice A0 p.objective.length k0) rfl
  have q1 := P0.out.get 1 (.slice A1 p.rows.length k1) rfl
  have q2 := P0.out.get 2 (.slice A2 p.limits.length k2) rfl
  cases hn : inB p.objective.length 1 15
  · have GN := Lib.hid hn
    clear hn
    go_enter Try.func18, Try.ntmps18
    go_wp2_with fail
    refine (within_any _ _ _ _).mono ?_
    rintro e w1 ⟨rfl, rfl⟩
    rw [GN.out]
    go_wp2_with fail
    go_ret
    exact ⟨ret_bool (okProg_n GN.out).symm, B0.out⟩
  have GN := Lib.hid hn
  clear hn
  by_cases hr : ¬ p.rows.length ≤ 64
  · have hr' : (64 : Int) < p.rows.length := by omega
    go_enter Try.func18, Try.ntmps18
    go_wp2_with fail
    refine (within_any _ _ _ _).mono ?_
    rintro e w1 ⟨rfl, rfl⟩
    rw [GN.out]
    go_wp2_with fail
    go_ret
    exact ⟨ret_bool (okProg_m (by omega)).symm, B0.out⟩
  by_cases hl : ¬ p.limits.length = p.rows.length
  · have hl' : ((p.limits.length : Int) != (p.rows.length : Int)) = true := by simp; omega
    have hr' : ¬ (64 : Int) < p.rows.length := by omega
    go_enter Try.func18, Try.ntmps18
    go_wp2_with fail
    refine (within_any _ _ _ _).mono ?_
    rintro e w1 ⟨rfl, rfl⟩
    rw [GN.out]
    go_wp2_with fail
    go_ret
    exact ⟨ret_bool (okProg_l hl).symm, B0.out⟩
  have hle : p.rows.length ≤ 64 := by omega
  have hll : p.limits.length = p.rows.length := by omega
  have HL := Lib.hid hll
  have hl' : ((p.limits.length : Int) != (p.rows.length : Int)) = false := by simp [hll]
  have hr' : ¬ (64 : Int) < p.rows.length := by omega
  clear hl hll hr
  go_enter Try.func18, Try.ntmps18
  go_wp2_with fail
  refine (within_any _ _ _ _).mono ?_
  rintro e w1 ⟨rfl, rfl⟩
  rw [GN.out]
  have ql := P0.out.lt
  generalize w.alloc (.cells #[.slice A0 p.objective.length k0, .slice A1 p.rows.length k1, .slice A2 p.limits.length k2] 28) = W at *
  go_upto_region 4 with fail
  go_cut [38, 39, 40] (fun s38 s39 s40 wx => ∃ A c, s38 = .slice A (p.rows.length + 1) c ∧ s39 = .int .i64 (p.rows.length + 1) ∧ s40 = .int .i64 0 ∧ SliceR 1 (SliceR 1 IntR) wx [.slice A (p.rows.length + 1) c] (p.rows ++ [p.objective]) ∧ Below W.heap.size W wx)
  case first =>
    obtain ⟨css, hsrc, hcl, hel⟩ := SliceR.src H1.out
    have h1c := slices_oneCell hcl hel
    have kA := Lib.hid ((Below.refl W.heap.size W).alloc (Nat.le_refl _) (.cells #[] 22))
    have kB := Lib.hid (((Below.refl W.heap.size W).alloc (Nat.le_refl _) (.cells #[] 22)).alloc (by simp) (.cells #[.slice A0 p.objective.length k0] 22))
    have kC := Lib.hid (((Below.refl W.heap.size W).alloc (Nat.le_refl _) (.cells #[.slice A0 p.objective.length k0] 22)).alloc (by simp) (.cells #[] 22))
    have kD := Lib.hid ((Below.refl W.heap.size W).alloc (Nat.le_refl _) (.cells #[.slice A0 p.objective.length k0] 22))
    have oA := Lib.hid (made_row (w := W) (e := 22) (base := W.heap.size) 1 rfl (Nat.le_refl _))
    have oB := Lib.hid (oA.out.alloc (.cells #[.slice A0 p.objective.length k0] 22))
    have oC := Lib.hid (made_row (w := W.alloc (.cells #[.slice A0 p.objective.length k0] 22)) (e := 22) (base := W.heap.size) (n := W.heap.size + 1) 1 (by simp) (by simp))
    have sB := Lib.hid (Blk.at_ (g := W.heap.size + 1) (W.alloc (.cells #[] 22)) 22 #[.slice A0 p.objective.length k0] (by simp))
    have sC := Lib.hid ((Blk.at_ (g := W.heap.size) W 22 #[.slice A0 p.objective.length k0] rfl).alloc (.cells #[] 22))
    have hcl' := Lib.hid hcl
    have hel' := Lib.hid hel
    have hsrc' := Lib.hid hsrc
    have h1c' := Lib.hid h1c
    clear hcl hel hsrc h1c
    have tok : True := trivial
    go_region_held3 (fun w' => w'.cell? ⟨w.heap.size, 1, none⟩ = some (.slice A1 p.rows.length k1) ∧ w'.cell? ⟨w.heap.size, 0, none⟩ = some (.slice A0 p.objective.length k0))
      (first | exact ⟨q1, q0⟩ | exact ⟨keep_cell q1 kA.out.drew, keep_cell q0 kA.out.drew⟩ | exact ⟨keep_cell q1 kD.out.drew, keep_cell q0 kD.out.drew⟩ | exact ⟨keep_cell q1 kB.out.drew, keep_cell q0 kB.out.drew⟩ | exact ⟨keep_cell q1 kC.out.drew, keep_cell q0 kC.out.drew⟩ | exact ⟨keep_cell q1 be2, keep_cell q0 be2⟩ | exact ⟨keep_cell q1 be1, keep_cell q0 be1⟩ | exact ⟨keep_cell q1 (be1.alloc be1.size _), keep_cell q0 (be1.alloc be1.size _)⟩ | (trace_state; fail))
      (first
        | (have _t := tok; refine step_append_below _ rfl (.tmp 31) (.tmp 33) 23 rfl W W.heap.size (by first | exact kA.out.drew | exact kB.out.drew | exact kC.out.drew) 22 i0 (.slice none 0 0) 1 24 Try.underlying23 hi hz0 hz1 hz2 rfl (by decide) _ 0 [] rfl (by first | exact oA.out | exact oB.out | exact oC.out) _ p.rows.length css.flatten rfl (by first | exact hsrc'.out.kept (Kept.below kA.out.drew (Nat.le_refl _)) | exact hsrc'.out.kept (Kept.below kB.out.drew (Nat.le_refl _)) | exact hsrc'.out.kept (Kept.below kC.out.drew (Nat.le_refl _))) h1c'.out (by unfold maxLen; omega) (by omega) (by first | exact kA.out.drew.size | exact kB.out.drew.size | exact kC.out.drew.size) ?_; intro v1 w1 own1 grow1 be1; clear tok _t)
        | (refine step_append_below _ rfl (.tmp 34) (.tmp 37) 23 rfl W W.heap.size (by first | exact be1 | exact be1.alloc be1.size _) 22 i0 (.slice none 0 0) 1 24 Try.underlying23 hi hz0 hz1 hz2 rfl (by decide) _ (0 + p.rows.length) ([] ++ css.flatten) rfl (by first | exact own1 | exact own1.alloc _) _ 1 [.slice A0 p.objective.length k0] rfl (by first | exact Src.one (Blk.at_ (g := w1.heap.size) w1 22 #[.slice A0 p.objective.length k0] rfl) rfl | exact Src.one (show Blk w1 (W.heap.size + 1) 22 #[.slice A0 p.objective.length k0] from (grow1.block (W.heap.size + 1) (by simp) (by show some (W.heap.size + 1) ≠ some W.heap.size; simp)).trans sB.out) rfl | exact Src.one (show Blk w1 W.heap.size 22 #[.slice A0 p.objective.length k0] from (grow1.block W.heap.size (by simp; omega) (by show some W.heap.size ≠ some (W.heap.size + 1); simp)).trans sC.out) rfl) (by simp [Value.oneCell']) (by unfold maxLen; omega) (by omega) (by first | exact be1.size | (have := be1.size; simp; omega)) ?_; intro v2 w2 own2 grow2 be2; rw [Nat.zero_add, List.nil_append] at own2; obtain ⟨A3, c3, hv3, _⟩ := owns_shape own2; subst hv3))
    all_goals
      go_wp2_with fail
      go_meet
      exact ⟨A3, c3, rfl, by go_num, rfl, rows_snoc own2 hcl'.out hel'.out H0.out (Kept.below be2 (Nat.le_refl _)), be2⟩
  case rest =>
    obtain ⟨A, c, rfl, rfl, rfl, hL, hbx⟩ := hcut
    have HLL := Lib.hid hL
    have HBX := Lib.hid (B0.out.trans (hbx.mono B0.out.size))
    have H2' := Lib.hid (mono_slice mono_int _ _ _ _ (Kept.below hbx (Nat.le_refl _)) H2.out)
    have P1 := Lib.hid (P0.out.on hbx)
    clear hL hbx q0 q1 q2 H0 H1 H2 B0 P0 ql
    have q2 := P1.out.get 2 (.slice A2 p.limits.length k2) rfl
    have hLn : (p.rows ++ [p.objective]).length = p.rows.length + 1 := by simp
    have HLN := Lib.hid hLn
    clear hLn
    go_wp2_with fail
    go_loop [40] (fun i => ∃ k : Nat, k ≤ p.rows.length + 1 ∧ i = .int .i64 k ∧ ((p.rows ++ [p.objective]).take k).all (okRow p.objective.length) = true) (fun i => p.rows.length + 1 - (intOf i).toNat)
    case atStart => exact ⟨0, Nat.zero_le _, rfl, by simp⟩
    case round =>
      obtain ⟨j, hj, rfl, ha⟩ := hrel
      have HA := Lib.hid ha
      clear ha
      by_cases hlt : j < p.rows.length + 1
      · obtain ⟨b, off, cs, r, rfl, hy, hlc, hc, hrd⟩ := SliceR.at_ HLL.out (k := j) (by rw [HLN.out]; exact hlt)
        obtain ⟨sa, sk, zz, nn, mm⟩ := slice_form' hrd
        subst zz
        unfold maxLen at mm
        have qr := hc 0 _ rfl
        simp only [Nat.add_zero, Nat.mul_one] at qr
        have HR := Lib.hid hrd
        clear hrd hc hlc
        go_wp2_with fail
        go_loop [46] (fun i => ∃ k : Nat, k ≤ r.length ∧ i = .int .i64 k ∧ (r.take k).all coefOk = true) (fun i => r.length - (intOf i).toNat)
        case atStart => exact ⟨0, Nat.zero_le _, rfl, by simp⟩
        case round =>
          obtain ⟨m, hm, rfl, hc⟩ := hrel
          have HC := Lib.hid hc
          clear hc
          by_cases hmt : m < r.length
          · obtain ⟨b3, off3, y, rfl, hy3, hf3, hbs3, hcell3⟩ := IntsR.at_ HR.out (k := m) hmt
            cases hin : inB y (-9) 9
            · have HJ := Lib.hid hin
              clear hin
              go_wp2_with (go_at_call 62; refine (within_any _ _ _ _).mono ?_; rintro e w' ⟨rfl, rfl⟩; rw [HJ.out])
              go_ret
              exact ⟨ret_bool (okProg_L (all_stop hy.out (okRow_bad (all_stop hy3.out HJ.out)))).symm, HBX.out⟩
            · have HJ := Lib.hid hin
              clear hin
              go_wp2_with (go_at_call 62; refine (within_any _ _ _ _).mono ?_; rintro e w' ⟨rfl, rfl⟩; rw [HJ.out])
              exact ⟨⟨m + 1, by omega, by go_num, all_snoc hy3.out HC.out HJ.out⟩, by simp [intOf]; omega⟩
          · have HD := Lib.hid (all_done (by omega) HC.out)
            by_cases hrn : r.length = p.objective.length
            · have e1 : ((r.length : Int) != (p.objective.length : Int)) = false := by simp [hrn]
              have HRN := Lib.hid hrn
              clear hrn
              go_wp2_with fail
              exact ⟨⟨j + 1, by omega, by go_num, all_snoc hy.out HA.out (okRow_yes HRN.out HD.out)⟩, by simp [intOf]; omega⟩
            · have e1 : ((r.length : Int) != (p.objective.length : Int)) = true := by simp; omega
              go_wp2_with fail
              go_ret
              exact ⟨ret_bool (okProg_L (all_stop hy.out (okRow_len hrn))).symm, HBX.out⟩
      · have HD := Lib.hid (all_done (by rw [HLN.out]; omega) HA.out)
        clear HA
        go_wp2_with fail
        go_loop [62] (fun i => ∃ k : Nat, k ≤ p.limits.length ∧ i = .int .i64 k ∧ (p.limits.take k).all limOk = true) (fun i => p.limits.length - (intOf i).toNat)
        case atStart => exact ⟨0, Nat.zero_le _, rfl, by simp⟩
        case round =>
          obtain ⟨m, hm, rfl, hc⟩ := hrel
          have HC := Lib.hid hc
          clear hc
          by_cases hmt : m < p.limits.length
          · obtain ⟨b3, off3, y, rfl, hy3, hf3, hbs3, hcell3⟩ := IntsR.at_ H2'.out (k := m) hmt
            cases hin : inB y 0 99
            · have HJ := Lib.hid hin
              clear hin
              go_wp2_with (go_at_call 62; refine (within_any _ _ _ _).mono ?_; rintro e w' ⟨rfl, rfl⟩; rw [HJ.out])
              go_ret
              exact ⟨ret_bool (okProg_b (all_stop hy3.out HJ.out)).symm, HBX.out⟩
            · have HJ := Lib.hid hin
              clear hin
              go_wp2_with (go_at_call 62; refine (within_any _ _ _ _).mono ?_; rintro e w' ⟨rfl, rfl⟩; rw [HJ.out])
              exact ⟨⟨m + 1, by omega, by go_num, all_snoc hy3.out HC.out HJ.out⟩, by simp [intOf]; omega⟩
          · go_wp2_with fail
            go_ret
            exact ⟨ret_bool (okProg_all GN.out hle HL.out HD.out (all_done (by omega) HC.out)).symm, HBX.out⟩

end Go.Proofs.Ytcgjlddpbkponaa
