/-
  Valid linear programs: the plain test, and the reference's contract.
-/
import Derived.Test.YtcgjlddpbkponaaProgD
namespace Go.Proofs.Ytcgjlddpbkponaa
open Go.ChangeShapes Go.WideShapes Go.ChangeAt Go.RowKit

def coefOk (x : Int) : Bool := inB x (-9) 9
def limOk (x : Int) : Bool := inB x 0 99
def okRow (n : Nat) (r : List Int) : Bool := decide (r.length = n) && r.all coefOk
def okProg (p : ProgramD) : Bool := inB p.objective.length 1 15 && decide (p.rows.length ≤ 64) && decide (p.limits.length = p.rows.length) && p.objective.all coefOk && p.rows.all (okRow p.objective.length) && p.limits.all limOk
theorem okProg_n {p : ProgramD} (h : inB p.objective.length 1 15 = false) : okProg p = false := by simp [okProg, h]
theorem okProg_m {p : ProgramD} (h : ¬ p.rows.length ≤ 64) : okProg p = false := by simp [okProg, h]
theorem okProg_l {p : ProgramD} (h : ¬ p.limits.length = p.rows.length) : okProg p = false := by simp [okProg, h]
theorem okProg_o {p : ProgramD} (h : p.objective.all coefOk = false) : okProg p = false := by simp [okProg, h]
theorem okProg_r {p : ProgramD} (h : p.rows.all (okRow p.objective.length) = false) : okProg p = false := by simp [okProg, h]
theorem okProg_b {p : ProgramD} (h : p.limits.all limOk = false) : okProg p = false := by simp [okProg, h]
theorem okProg_yes {p : ProgramD} (h1 : inB p.objective.length 1 15 = true) (h2 : p.rows.length ≤ 64) (h3 : p.limits.length = p.rows.length) (h4 : p.objective.all coefOk = true) (h5 : p.rows.all (okRow p.objective.length) = true) (h6 : p.limits.all limOk = true) : okProg p = true := by
  simp [okProg, h1, h2, h3, h4, h5, h6]
theorem okRow_len {n : Nat} {r : List Int} (h : ¬ r.length = n) : okRow n r = false := by simp [okRow, h]
theorem okRow_bad {n : Nat} {r : List Int} (h : r.all coefOk = false) : okRow n r = false := by simp [okRow, h]
theorem okRow_yes {n : Nat} {r : List Int} (h : r.length = n) (h' : r.all coefOk = true) : okRow n r = true := by simp [okRow, h, h']
theorem ProgramR.parts {w : World} {c0 c1 c2 : Value} {p : ProgramD} (h : ProgramR w [c0, c1, c2] p) : SliceR 1 IntR w [c0] p.objective ∧ SliceR 1 (SliceR 1 IntR) w [c1] p.rows ∧ SliceR 1 IntR w [c2] p.limits := by
  obtain ⟨_, _, _, hcs, h0, h1, h2⟩ := h
  simp only [List.cons.injEq, and_true] at hcs
  obtain ⟨rfl, rfl, rfl⟩ := hcs
  exact ⟨h0, h1, h2⟩

set_option maxRecDepth 100000 in
set_option maxHeartbeats 3200000 in
theorem isValidProgram_spec (c0 c1 c2 : Value) (p : ProgramD) (w : World) (h : ProgramR w [c0, c1, c2] p) :
    Calls Try.prog 16 #[.agg #[c0, c1, c2]] w fun e w' => e = .returned (.bool (okProg p)) ∧ Below w.heap.size w w' := by
  obtain ⟨h0, h1, h2⟩ := h.parts
  obtain ⟨A0, k0, hv, hn0, hm0⟩ := slice_form h0
  subst hv
  obtain ⟨A1, k1, hv, hn1, hm1⟩ := slice_form h1
  subst hv
  obtain ⟨A2, k2, hv, hn2, hm2⟩ := slice_form h2
  subst hv
  unfold maxLen at hm0 hm1 hm2
  have B0 := Lib.hid ((Below.refl w.heap.size w).alloc (Nat.le_refl _) (.cells #[.slice A0 p.objective.length k0, .slice A1 p.rows.length k1, .slice A2 p.limits.length k2] 28))
  have P0 := Lib.hid (Blk.at_ (g := w.heap.size) w 28 #[.slice A0 p.objective.length k0, .slice A1 p.rows.length k1, .slice A2 p.limits.length k2] rfl)
  have H0 := Lib.hid (mono_slice mono_int _ _ _ _ (Kept.below B0.out (Nat.le_refl _)) h0)
  have H1 := Lib.hid (mono_slice (mono_slice mono_int) _ _ _ _ (Kept.below B0.out (Nat.le_refl _)) h1)
  have H2 := Lib.hid (mono_slice mono_int _ _ _ _ (Kept.below B0.out (Nat.le_refl _)) h2)
  clear h0 h1 h2 h
  have q0 := P0.out.get 0 (.slice A0 p.objective.length k0) rfl
  have q1 := P0.out.get 1 (.slice A1 p.rows.length k1) rfl
  have q2 := P0.out.get 2 (.slice A2 p.limits.length k2) rfl
  cases hn : inB p.objective.length 1 15
  · have GN := Lib.hid hn
    clear hn
    go_enter Try.func16, Try.ntmps16
    go_wp2_with fail
    refine (l1In_any _ _ _ _).mono ?_
    rintro e w1 ⟨rfl, rfl⟩
    rw [GN.out]
    go_wp2_with fail
    go_ret
    exact ⟨ret_bool (okProg_n GN.out).symm, B0.out⟩
  have GN := Lib.hid hn
  clear hn
  by_cases hr : ¬ p.rows.length ≤ 64
  · have hr' : (64 : Int) < p.rows.length := by omega
    go_enter Try.func16, Try.ntmps16
    go_wp2_with fail
    refine (l1In_any _ _ _ _).mono ?_
    rintro e w1 ⟨rfl, rfl⟩
    rw [GN.out]
    go_wp2_with fail
    go_ret
    exact ⟨ret_bool (okProg_m (by omega)).symm, B0.out⟩
  by_cases hl : ¬ p.limits.length = p.rows.length
  · have hl' : ((p.rows.length : Int) != (p.limits.length : Int)) = true := by simp; omega
    have hr' : ¬ (64 : Int) < p.rows.length := by omega
    go_enter Try.func16, Try.ntmps16
    go_wp2_with fail
    refine (l1In_any _ _ _ _).mono ?_
    rintro e w1 ⟨rfl, rfl⟩
    rw [GN.out]
    go_wp2_with fail
    go_ret
    exact ⟨ret_bool (okProg_l hl).symm, B0.out⟩
  have hle : p.rows.length ≤ 64 := by omega
  have hll : p.limits.length = p.rows.length := by omega
  have HL := Lib.hid hll
  have hl' : ((p.rows.length : Int) != (p.limits.length : Int)) = false := by simp [hll]
  have hr' : ¬ (64 : Int) < p.rows.length := by omega
  clear hl hll hr
  go_enter Try.func16, Try.ntmps16
  go_wp2_with fail
  refine (l1In_any _ _ _ _).mono ?_
  rintro e w1 ⟨rfl, rfl⟩
  rw [GN.out]
  go_wp2_with fail
  generalize w.alloc (.cells #[.slice A0 p.objective.length k0, .slice A1 p.rows.length k1, .slice A2 p.limits.length k2] 28) = W at *
  go_loop [4] (fun i => ∃ k : Nat, k ≤ p.objective.length ∧ i = .int .i64 k ∧ (p.objective.take k).all coefOk = true) (fun i => p.objective.length - (intOf i).toNat)
  case atStart => exact ⟨0, Nat.zero_le _, rfl, by simp⟩
  case round =>
    obtain ⟨k, hk, rfl, ha⟩ := hrel
    have HA := Lib.hid ha
    clear ha
    by_cases hlt : k < p.objective.length
    · obtain ⟨b, off, x, rfl, hx, hf, hbs, hcell⟩ := IntsR.at_ H0.out hlt
      cases hin : inB x (-9) 9
      · have HI := Lib.hid hin
        clear hin
        go_wp2_with (go_at_call 59; refine (l1In_any _ _ _ _).mono ?_; rintro e w' ⟨rfl, rfl⟩; rw [HI.out])
        go_ret
        exact ⟨ret_bool (okProg_o (all_stop hx.out HI.out)).symm, B0.out⟩
      · have HI := Lib.hid hin
        clear hin
        go_wp2_with (go_at_call 59; refine (l1In_any _ _ _ _).mono ?_; rintro e w' ⟨rfl, rfl⟩; rw [HI.out])
        exact ⟨⟨k + 1, by omega, by go_num, all_snoc hx.out HA.out HI.out⟩, by simp [intOf]; omega⟩
    · have HO := Lib.hid (all_done (by omega) HA.out)
      clear HA
      go_wp2_with fail
      go_loop [5] (fun i => ∃ k : Nat, k ≤ p.rows.length ∧ i = .int .i64 k ∧ (p.rows.take k).all (okRow p.objective.length) = true ∧ (p.limits.take k).all limOk = true) (fun i => p.rows.length - (intOf i).toNat)
      case atStart => exact ⟨0, Nat.zero_le _, rfl, by simp, by simp⟩
      case round =>
        clear hk hlt
        obtain ⟨j, hj, rfl, ha, hb⟩ := hrel
        have HA := Lib.hid ha
        have HB := Lib.hid hb
        clear ha hb
        by_cases hlt : j < p.rows.length
        · obtain ⟨b, off, cs, r, rfl, hy, hlc, hc, hrd⟩ := SliceR.at_ H1.out hlt
          obtain ⟨b2, off2, z, rfl, hz, hf2, hbs2, hcell2⟩ := IntsR.at_ H2.out (k := j) (by have := HL.out; omega)
          obtain ⟨sa, sk, zz, nn, mm⟩ := slice_form' hrd
          subst zz
          have qr := hc 0 _ rfl
          simp only [Nat.add_zero, Nat.mul_one] at qr
          have HR := Lib.hid hrd
          clear hrd hc hlc
          have hjl : (j : Int) < p.limits.length := by have := HL.out; omega
          by_cases hrn : r.length = p.objective.length
          · have e1 : ((r.length : Int) != (p.objective.length : Int)) = false := by simp [hrn]
            have HRN := Lib.hid hrn
            clear hrn
            cases hin : inB z 0 99
            · have HI := Lib.hid hin
              clear hin
              go_wp2_with (go_at_call 59; refine (l1In_any _ _ _ _).mono ?_; rintro e w' ⟨rfl, rfl⟩; rw [HI.out])
              go_ret
              exact ⟨ret_bool (okProg_b (all_stop hz.out HI.out)).symm, B0.out⟩
            · have HI := Lib.hid hin
              clear hin
              go_wp2_with (go_at_call 59; refine (l1In_any _ _ _ _).mono ?_; rintro e w' ⟨rfl, rfl⟩; rw [HI.out])
              go_loop [6] (fun i => ∃ k : Nat, k ≤ p.objective.length ∧ i = .int .i64 k ∧ (r.take k).all coefOk = true) (fun i => p.objective.length - (intOf i).toNat)
              case atStart => exact ⟨0, Nat.zero_le _, rfl, by simp⟩
              case round =>
                obtain ⟨m, hm, rfl, hc⟩ := hrel
                have HC := Lib.hid hc
                clear hc
                by_cases hmt : m < p.objective.length
                · obtain ⟨b3, off3, y, rfl, hy3, hf3, hbs3, hcell3⟩ := IntsR.at_ HR.out (k := m) (by have := HRN.out; omega)
                  have hmr : (m : Int) < r.length := by have := HRN.out; omega
                  cases hin : inB y (-9) 9
                  · have HJ := Lib.hid hin
                    clear hin
                    go_wp2_with (go_at_call 59; refine (l1In_any _ _ _ _).mono ?_; rintro e w' ⟨rfl, rfl⟩; rw [HJ.out])
                    go_ret
                    exact ⟨ret_bool (okProg_r (all_stop hy.out (okRow_bad (all_stop hy3.out HJ.out)))).symm, B0.out⟩
                  · have HJ := Lib.hid hin
                    clear hin
                    go_wp2_with (go_at_call 59; refine (l1In_any _ _ _ _).mono ?_; rintro e w' ⟨rfl, rfl⟩; rw [HJ.out])
                    exact ⟨⟨m + 1, by omega, by go_num, all_snoc hy3.out HC.out HJ.out⟩, by simp [intOf]; omega⟩
                · go_wp2_with fail
                  exact ⟨⟨j + 1, by omega, by go_num, all_snoc hy.out HA.out (okRow_yes HRN.out (all_done (by have := HRN.out; omega) HC.out)), all_snoc hz.out HB.out HI.out⟩, by simp [intOf]; omega⟩
          · have e1 : ((r.length : Int) != (p.objective.length : Int)) = true := by simp; omega
            go_wp2_with fail
            go_ret
            exact ⟨ret_bool (okProg_r (all_stop hy.out (okRow_len hrn))).symm, B0.out⟩
        · go_wp2_with fail
          go_ret
          exact ⟨ret_bool (okProg_yes GN.out hle HL.out HO.out (all_done (by omega) HA.out) (all_done (by have := HL.out; omega) HB.out)).symm, B0.out⟩
end Go.Proofs.Ytcgjlddpbkponaa
