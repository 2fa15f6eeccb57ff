/-
  Contracts of BoxVolume and BoxIndex, program and reference.
-/
import Derived.Test.YtacegpmgicebfaaBox2
import Derived.IntWalk
namespace Go.Proofs.Ytacegpmgicebfaa
open Go.ChangeShapes Go.WideShapes Go.ChangeAt Go.RowKit

theorem wr {n : Int} (h1 : -9223372036854775808 ≤ n) (h2 : n ≤ 9223372036854775807) : IntKind.i64.wrap n = n := IntWalk.i64_in _ ⟨by omega, by omega⟩

/-- The side lengths of a box. -/
def facs (b : BoxD) : List Int := List.zipWith (fun h l => h - l + 1) b.high b.low
def vmin (a d : Int) : Int := min 401 (a * d)
def vmul (a d : Int) : Int := a * d
def boxVol (b : BoxD) : Int := if okBx b = true then min 401 ((facs b).foldl vmul 1) else 0
theorem facs_at {b : BoxD} {k : Nat} {h l : Int} (hh : b.high[k]? = some h) (hl : b.low[k]? = some l) : (facs b)[k]? = some (h - l + 1) := by
  simp [facs, List.getElem?_zipWith, hh, hl]
structure OkBox (b : BoxD) : Prop where
  len : b.high.length = b.low.length
  short : b.low.length ≤ 16
  bnd : ∀ (k : Nat) (h l : Int), b.high[k]? = some h → b.low[k]? = some l → 0 ≤ l ∧ l ≤ h ∧ h ≤ 7
theorem okBox_of {b : BoxD} (h : okBx b = true) : OkBox b := by
  simp only [okBx, isLoc, dom, Bool.and_eq_true, decide_eq_true_eq] at h
  obtain ⟨⟨⟨⟨h1, h2⟩, h3, h4⟩, h5⟩, h6, h7⟩ := h
  refine ⟨h6, h2, fun k x y hx hy => ?_⟩
  have e1 := (List.all_eq_true.1 h1) y (List.mem_of_getElem? hy)
  have e2 := (List.all_eq_true.1 h3) x (List.mem_of_getElem? hx)
  have e3 := (List.all_eq_true.1 h7) (x, y) (List.mem_of_getElem? (zip_at hx hy))
  have := inB_true e1
  have := inB_true e2
  simp [domAt] at e3
  omega
theorem facs_length {b : BoxD} (h : OkBox b) : (facs b).length = b.low.length := by simp [facs, h.len]
theorem facs_bnd {b : BoxD} (h : OkBox b) : ∀ d ∈ facs b, 1 ≤ d ∧ d ≤ 8 := by
  intro d hd
  obtain ⟨i, hi, rfl⟩ := List.getElem_of_mem hd
  have hi' := hi
  rw [facs_length h] at hi'
  have e1 : b.low[i]? = some (b.low[i]'(by omega)) := List.getElem?_eq_getElem (by omega)
  have e2 : b.high[i]? = some (b.high[i]'(by have := h.len; omega)) := List.getElem?_eq_getElem (by have := h.len; omega)
  have := h.bnd i _ _ e2 e1
  have e3 := facs_at e2 e1
  rw [List.getElem?_eq_getElem hi] at e3
  simp only [Option.some.injEq] at e3
  rw [e3]
  omega
theorem pow8 (k : Nat) (h : k ≤ 16) : (8 : Int) ^ k ≤ 281474976710656 := by
  have : ∀ k : Fin 17, (8 : Int) ^ k.1 ≤ 281474976710656 := by decide
  exact this ⟨k, by omega⟩
theorem mul_bnd {a d p : Int} (h1 : 1 ≤ a) (h2 : a ≤ p) (h3 : 1 ≤ d) (h4 : d ≤ 8) : 1 ≤ a * d ∧ a * d ≤ p * 8 := by
  have e1 : a * 1 ≤ a * d := Int.mul_le_mul_of_nonneg_left h3 (by omega)
  have e2 : a * d ≤ p * 8 := Int.mul_le_mul h2 h4 (by omega) (by omega)
  omega
theorem prod_bnd : ∀ (l : List Int) (a : Int), (∀ d ∈ l, 1 ≤ d ∧ d ≤ 8) → 1 ≤ a → 1 ≤ l.foldl vmul a ∧ l.foldl vmul a ≤ a * 8 ^ l.length
  | [], a, _, ha => by simp; exact ha
  | d :: l, a, h, ha => by
    have hd := h d (by simp)
    have hm := mul_bnd ha (Int.le_refl a) hd.1 hd.2
    have ih := prod_bnd l (a * d) (fun e he => h e (by simp [he])) hm.1
    refine ⟨ih.1, Int.le_trans ih.2 ?_⟩
    rw [List.length_cons, Int.pow_succ, Int.mul_comm (8 ^ l.length) 8, ← Int.mul_assoc]
    exact Int.mul_le_mul_of_nonneg_right hm.2 (Int.le_of_lt (Int.pow_pos (by omega)))
theorem prod_take {b : BoxD} (h : OkBox b) (k : Nat) : 1 ≤ ((facs b).take k).foldl vmul 1 ∧ ((facs b).take k).foldl vmul 1 ≤ 281474976710656 := by
  have := prod_bnd ((facs b).take k) 1 (fun d hd => facs_bnd h d (List.mem_of_mem_take hd)) (by omega)
  have hl : ((facs b).take k).length ≤ 16 := by
    have := facs_length h; have := h.short
    have := List.length_take_le' k (facs b)
    omega
  have := pow8 _ hl
  omega
theorem vmin_step {a d : Int} (hd : 1 ≤ d) : vmin (min 401 a) d = min 401 (vmul a d) := by
  unfold vmin vmul
  by_cases h : a ≤ 401
  · rw [Int.min_eq_right h]
  · have e1 : a * 1 ≤ a * d := Int.mul_le_mul_of_nonneg_left hd (by omega)
    rw [Int.min_eq_left (by omega : (401 : Int) ≤ a)]
    omega
theorem vmin_fold : ∀ (l : List Int) (a : Int), (∀ d ∈ l, 1 ≤ d) → 1 ≤ a → l.foldl vmin (min 401 a) = min 401 (l.foldl vmul a)
  | [], a, _, _ => rfl
  | d :: l, a, h, ha => by
    have hd := h d (by simp)
    have e1 : a * 1 ≤ a * d := Int.mul_le_mul_of_nonneg_left hd (by omega)
    rw [List.foldl_cons, List.foldl_cons, vmin_step hd, vmin_fold l (vmul a d) (fun e he => h e (by simp [he])) (by unfold vmul; omega)]
theorem foldl_snoc {f : Int → Int → Int} {l : List Int} {k : Nat} {d a : Int} (h : l[k]? = some d) : (l.take (k + 1)).foldl f a = f ((l.take k).foldl f a) d := by
  rw [take_snoc h, List.foldl_append]; rfl
theorem foldl_done {f : Int → Int → Int} {l : List Int} {k : Nat} {a : Int} (h : l.length ≤ k) : (l.take k).foldl f a = l.foldl f a := by
  rw [List.take_of_length_le h]

set_option maxHeartbeats 800000 in
theorem volume_any (c0 c1 : Value) (b : BoxD) (w : World) (h : BoxR w [c0, c1] b) (ok : OkBox b) :
    Calls Try.prog 72 #[.agg #[c0, c1]] w fun e w' => e = .returned (.int .i64 ((facs b).foldl vmul 1)) ∧ Below w.heap.size w w' := by
  obtain ⟨h0, h1⟩ := h.two
  obtain ⟨A0, k0, rfl, hn0, hm0⟩ := h0.form
  obtain ⟨A1, k1, rfl, hn1, hm1⟩ := h1.form
  have H0 := Lib.hid h0
  have H1 := Lib.hid h1
  have hlen := ok.len
  have hshort := ok.short
  have HL := Lib.hid hlen
  have OK := Lib.hid ok
  clear h0 h1 h ok
  have B0 := Lib.hid ((Below.refl w.heap.size w).alloc (Nat.le_refl _) (.cells #[.slice A0 b.low.length k0, .slice A1 b.high.length k1] 33))
  have P0 := Lib.hid (Blk.at_ (g := w.heap.size) w 33 #[.slice A0 b.low.length k0, .slice A1 b.high.length k1] rfl)
  clear hlen
  go_enter Try.func72, Try.ntmps72
  go_wp2_with fail
  generalize w.alloc (.cells #[.slice A0 b.low.length k0, .slice A1 b.high.length k1] 33) = W at *
  go_loopw [3, 8] (fun t i wr => ∃ k : Nat, k ≤ b.low.length ∧ i = .int .i64 k ∧ t = .int .i64 (((facs b).take k).foldl vmul 1) ∧ ∃ n, wr = W.drewN n) (fun _ i _ => b.low.length - (intOf i).toNat)
  case atStart => exact ⟨0, Nat.zero_le _, rfl, rfl, 0, rfl⟩
  case round =>
    obtain ⟨k, hk, rfl, rfl, n, rfl⟩ := hrel
    have HP := Lib.hid (prod_take OK.out k)
    by_cases hlt : k < b.low.length
    · obtain ⟨g, off, x, rfl, hx, hf, hbs, hcell⟩ := (H0.out.below B0.out (Nat.le_refl _)).at_ hlt
      obtain ⟨g', off', x', rfl, hx', hf', hbs', hcell'⟩ := (H1.out.below B0.out (Nat.le_refl _)).at_ (k := k) (by have := HL.out; omega)
      have HB := Lib.hid (OK.out.bnd k _ _ hx'.out hx.out)
      have q0 := P0.out.get 0 (.slice (some ⟨g, off, none⟩) b.low.length k0) rfl
      have q1 := P0.out.get 1 (.slice (some ⟨g', off', none⟩) b.high.length k1) rfl
      have HS := Lib.hid (foldl_snoc (f := vmul) (a := 1) (facs_at hx'.out hx.out))
      have hlt' : k < b.high.length := by have := HL.out; omega
      have il0 : (k : Int) < (b.low.length : Int) := by omega
      have il1 : (k : Int) < (b.high.length : Int) := by omega
      have ik : (0 : Int) ≤ (k : Int) := by omega
      generalize ((facs b).take k).foldl vmul 1 = p at *
      have hm := mul_bnd HP.out.1 HP.out.2 (d := x' - x + 1) (by have := HB.out; omega) (by have := HB.out; omega)
      have e1 : IntKind.i64.wrap (x' - x) = x' - x := wr (by have := HB.out; omega) (by have := HB.out; omega)
      have e2 : IntKind.i64.wrap (x' - x + 1) = x' - x + 1 := wr (by have := HB.out; omega) (by have := HB.out; omega)
      have e3 : IntKind.i64.wrap (p * (x' - x + 1)) = p * (x' - x + 1) := wr (by omega) (by omega)
      clear hm
      go_wp2
      go_quiet (fail)
      clear e1 e2 e3
      go_wp2
      exact ⟨⟨k + 1, by omega, by go_num, by rw [HS.out]; rfl, _, rfl⟩, by simp [intOf]; omega⟩
    · go_wp2
      go_ret
      exact ⟨ret_int (foldl_done (by rw [facs_length OK.out]; omega)), below_drewN B0.out n⟩

theorem boxVol_no {b : BoxD} (h : okBx b = false) : boxVol b = 0 := by simp [boxVol, h]
theorem boxVol_yes {b : BoxD} (h : okBx b = true) : boxVol b = min 401 ((facs b).foldl vmul 1) := by simp [boxVol, h]

set_option maxHeartbeats 800000 in
theorem boxVolume_impl (c0 c1 : Value) (b : BoxD) (w : World) (h : BoxR w [c0, c1] b) :
    Calls Try.prog 34 #[.agg #[c0, c1]] w fun e w' => e = .returned (.int .i64 (boxVol b)) ∧ Below w.heap.size w w' := by
  have H := Lib.hid h
  clear h
  have B0 := Lib.hid ((Below.refl w.heap.size w).alloc (Nat.le_refl _) (.cells #[c0, c1] 33))
  have P0 := Lib.hid (Blk.at_ (g := w.heap.size) w 33 #[c0, c1] rfl)
  go_enter Try.func34, Try.ntmps34
  go_wp2_with fail
  generalize w.alloc (.cells #[c0, c1] 33) = W at *
  refine (isValidBox_impl _ _ b _ (mono_box _ _ _ _ (Kept.below B0.out (Nat.le_refl _)) H.out)).mono ?_
  rintro e w1 ⟨rfl, b1⟩
  have B1 := Lib.hid (B0.out.trans (b1.mono B0.out.size))
  have P1 := Lib.hid (P0.out.on b1)
  clear B0 P0 b1 W
  have q0 := P1.out.get 0 c0 rfl
  have q1 := P1.out.get 1 c1 rfl
  cases hv : okBx b
  · have GV := Lib.hid hv
    clear hv
    go_wp2_with fail
    go_ret
    exact ⟨ret_int (boxVol_no GV.out).symm, B1.out⟩
  · have GV := Lib.hid hv
    clear hv
    have OK := Lib.hid (okBox_of GV.out)
    go_wp2_with fail
    refine (volume_any _ _ b _ (mono_box _ _ _ _ (Kept.below B1.out (Nat.le_refl _)) H.out) OK.out).mono ?_
    rintro e w2 ⟨rfl, b2⟩
    have HP := Lib.hid (boxVol_yes GV.out)
    generalize (facs b).foldl vmul 1 = p at *
    go_wp2_with fail
    all_goals
      go_ret
      exact ⟨ret_int (by rw [HP.out]; omega), B1.out.trans (b2.mono B1.out.size)⟩

set_option maxHeartbeats 800000 in
theorem boxVolume_spec (c0 c1 : Value) (b : BoxD) (w : World) (h : BoxR w [c0, c1] b) :
    Calls Try.prog 33 #[.agg #[c0, c1]] w fun e w' => e = .returned (.int .i64 (boxVol b)) ∧ Below w.heap.size w w' := by
  obtain ⟨h0, h1⟩ := h.two
  obtain ⟨A0, k0, rfl, hn0, hm0⟩ := h0.form
  obtain ⟨A1, k1, rfl, hn1, hm1⟩ := h1.form
  have H0 := Lib.hid h0
  have H1 := Lib.hid h1
  have H := Lib.hid h
  clear h0 h1 h
  have B0 := Lib.hid ((Below.refl w.heap.size w).alloc (Nat.le_refl _) (.cells #[.slice A0 b.low.length k0, .slice A1 b.high.length k1] 33))
  have P0 := Lib.hid (Blk.at_ (g := w.heap.size) w 33 #[.slice A0 b.low.length k0, .slice A1 b.high.length k1] rfl)
  go_enter Try.func33, Try.ntmps33
  go_wp2_with fail
  generalize w.alloc (.cells #[.slice A0 b.low.length k0, .slice A1 b.high.length k1] 33) = W at *
  refine (isValidBox_spec _ _ b _ (mono_box _ _ _ _ (Kept.below B0.out (Nat.le_refl _)) H.out)).mono ?_
  rintro e w1 ⟨rfl, b1⟩
  have B1 := Lib.hid (B0.out.trans (b1.mono B0.out.size))
  have P1 := Lib.hid (P0.out.on b1)
  clear B0 P0 b1 W
  cases hv : okBx b
  · have GV := Lib.hid hv
    clear hv
    go_wp2_with fail
    go_ret
    exact ⟨ret_int (boxVol_no GV.out).symm, B1.out⟩
  · have GV := Lib.hid hv
    clear hv
    have OK := Lib.hid (okBox_of GV.out)
    have HL := Lib.hid OK.out.len
    have hshort := OK.out.short
    go_wp2_with fail
    go_loopw [3, 4] (fun t i wr => ∃ k : Nat, k ≤ b.low.length ∧ i = .int .i64 k ∧ t = .int .i64 (min 401 (((facs b).take k).foldl vmul 1)) ∧ ∃ n, wr = w1.drewN n) (fun _ i _ => b.low.length - (intOf i).toNat)
    case atStart => exact ⟨0, Nat.zero_le _, rfl, rfl, 0, rfl⟩
    case round =>
      obtain ⟨k, hk, rfl, rfl, n, rfl⟩ := hrel
      have HP := Lib.hid (prod_take OK.out k)
      by_cases hlt : k < b.low.length
      · obtain ⟨g, off, x, rfl, hx, hf, hbs, hcell⟩ := (H0.out.below B1.out (Nat.le_refl _)).at_ hlt
        obtain ⟨g', off', x', rfl, hx', hf', hbs', hcell'⟩ := (H1.out.below B1.out (Nat.le_refl _)).at_ (k := k) (by have := HL.out; omega)
        have HB := Lib.hid (OK.out.bnd k _ _ hx'.out hx.out)
        have q0 := P1.out.get 0 (.slice (some ⟨g, off, none⟩) b.low.length k0) rfl
        have q1 := P1.out.get 1 (.slice (some ⟨g', off', none⟩) b.high.length k1) rfl
        have HS := Lib.hid (foldl_snoc (f := vmul) (a := 1) (facs_at hx'.out hx.out))
        have hlt' : k < b.high.length := by have := HL.out; omega
        have il0 : (k : Int) < (b.low.length : Int) := by omega
        have il1 : (k : Int) < (b.high.length : Int) := by omega
        have ik : (0 : Int) ≤ (k : Int) := by omega
        have HV := Lib.hid (vmin_step (a := ((facs b).take k).foldl vmul 1) (d := x' - x + 1) (by have := HB.out; omega))
        generalize ((facs b).take k).foldl vmul 1 = p at *
        have HQ : Hid (1 ≤ min 401 p ∧ min 401 p ≤ 401) := by have := HP.out; show _ ∧ _; omega
        generalize min 401 p = q at *
        have hm := mul_bnd HQ.out.1 HQ.out.2 (d := x' - x + 1) (by have := HB.out; omega) (by have := HB.out; omega)
        have e1 : IntKind.i64.wrap (x' - x) = x' - x := wr (by have := HB.out; omega) (by have := HB.out; omega)
        have e2 : IntKind.i64.wrap (x' - x + 1) = x' - x + 1 := wr (by have := HB.out; omega) (by have := HB.out; omega)
        have e3 : IntKind.i64.wrap (q * (x' - x + 1)) = q * (x' - x + 1) := wr (by omega) (by omega)
        clear hm
        go_wp2
        go_quiet (fail)
        clear e1 e2 e3
        go_wp2
        exact ⟨⟨k + 1, by omega, by go_num, by rw [HS.out, ← HV.out]; congr 1; unfold vmin; generalize q * (x' - x + 1) = z; omega, _, rfl⟩, by simp [intOf]; omega⟩
      · have q0 := P1.out.get 0 (.slice A0 b.low.length k0) rfl
        go_wp2
        go_ret
        exact ⟨ret_int (by rw [boxVol_yes GV.out, foldl_done (by rw [facs_length OK.out]; omega)]), below_drewN B1.out n⟩

/-- The place of a location in a box: digits of mixed radix. -/
def istep (n : Int) (p : (Int × Int) × Int) : Int := n * (p.1.1 - p.1.2 + 1) + p.2 - p.1.2
def digs (b : BoxD) (l : List Int) : List ((Int × Int) × Int) := (b.high.zip b.low).zip l
def boxIdx (b : BoxD) (l : List Int) : Int := if inBx b l = true then (digs b l).foldl istep 0 else -1
theorem digs_at {b : BoxD} {l : List Int} {k : Nat} {h lo x : Int} (hh : b.high[k]? = some h) (hl : b.low[k]? = some lo) (hx : l[k]? = some x) : (digs b l)[k]? = some ((h, lo), x) := by
  unfold digs
  rw [List.getElem?_zip_eq_some]
  exact ⟨by rw [List.getElem?_zip_eq_some]; exact ⟨hh, hl⟩, hx⟩
structure OkIn (b : BoxD) (l : List Int) : Prop where
  ok : OkBox b
  len : l.length = b.low.length
  bnd : ∀ (k : Nat) (h lo x : Int), b.high[k]? = some h → b.low[k]? = some lo → l[k]? = some x → lo ≤ x ∧ x ≤ h
theorem okIn_of {b : BoxD} {l : List Int} (h : inBx b l = true) : OkIn b l := by
  simp only [inBx, Bool.and_eq_true] at h
  obtain ⟨⟨h1, h2⟩, h3⟩ := h
  have ok := okBox_of h1
  simp only [dom, Bool.and_eq_true, decide_eq_true_eq] at h2 h3
  refine ⟨ok, h2.1, fun k x y z hx hy hz => ?_⟩
  have e1 := (List.all_eq_true.1 h2.2) (z, y) (List.mem_of_getElem? (zip_at hz hy))
  have e2 := (List.all_eq_true.1 h3.2) (x, z) (List.mem_of_getElem? (zip_at hx hz))
  simp [domAt] at e1 e2
  omega
theorem istep_bnd {n p h lo x : Int} (h0 : 0 ≤ n) (h1 : n + 1 ≤ p) (hb : 0 ≤ lo ∧ lo ≤ h ∧ h ≤ 7) (hx : lo ≤ x ∧ x ≤ h) : 0 ≤ n * (h - lo + 1) ∧ n * (h - lo + 1) + 8 ≤ p * 8 ∧ 0 ≤ istep n ((h, lo), x) ∧ istep n ((h, lo), x) + 1 ≤ p * 8 := by
  have e0 : 0 ≤ n * (h - lo + 1) := Int.mul_nonneg h0 (by omega)
  have e1 : n * (h - lo + 1) ≤ n * 8 := Int.mul_le_mul_of_nonneg_left (by omega) h0
  unfold istep
  simp only
  omega
theorem foldl_snocP {α : Type} {f : Int → α → Int} {l : List α} {k : Nat} {d : α} {a : Int} (h : l[k]? = some d) : (l.take (k + 1)).foldl f a = f ((l.take k).foldl f a) d := by
  rw [take_snoc h, List.foldl_append]; rfl
theorem foldl_doneP {α : Type} {f : Int → α → Int} {l : List α} {k : Nat} {a : Int} (h : l.length ≤ k) : (l.take k).foldl f a = l.foldl f a := by
  rw [List.take_of_length_le h]
theorem digs_length {b : BoxD} {l : List Int} (h : OkIn b l) : (digs b l).length = l.length := by
  have := h.len; have := h.ok.len
  simp [digs]; omega
theorem idx_bnd {b : BoxD} {l : List Int} (h : OkIn b l) : ∀ k, k ≤ l.length → 0 ≤ ((digs b l).take k).foldl istep 0 ∧ ((digs b l).take k).foldl istep 0 + 1 ≤ 8 ^ k
  | 0, _ => by simp
  | k + 1, hk => by
    have ih := idx_bnd h k (by omega)
    have e2 : l[k]? = some (l[k]'(by omega)) := List.getElem?_eq_getElem (by omega)
    have e0 : b.low[k]? = some (b.low[k]'(by have := h.len; omega)) := List.getElem?_eq_getElem (by have := h.len; omega)
    have e1 : b.high[k]? = some (b.high[k]'(by have := h.len; have := h.ok.len; omega)) := List.getElem?_eq_getElem (by have := h.len; have := h.ok.len; omega)
    rw [foldl_snocP (digs_at e1 e0 e2), Int.pow_succ]
    have := istep_bnd ih.1 ih.2 (h.ok.bnd k _ _ e1 e0) (h.bnd k _ _ _ e1 e0 e2)
    exact ⟨this.2.2.1, this.2.2.2⟩
theorem boxIdx_no {b : BoxD} {l : List Int} (h : inBx b l = false) : boxIdx b l = -1 := by simp [boxIdx, h]
theorem boxIdx_yes {b : BoxD} {l : List Int} (h : inBx b l = true) : boxIdx b l = (digs b l).foldl istep 0 := by simp [boxIdx, h]

set_option maxHeartbeats 1600000 in
theorem boxIndex_spec (c0 c1 v : Value) (b : BoxD) (l : List Int) (w : World) (h : BoxR w [c0, c1] b) (hl : IntsR w v l) :
    Calls Try.prog 40 #[.agg #[c0, c1], v] w fun e w' => e = .returned (.int .i64 (boxIdx b l)) ∧ Below w.heap.size w w' := by
  obtain ⟨h0, h1⟩ := h.two
  obtain ⟨A0, k0, rfl, hn0, hm0⟩ := h0.form
  obtain ⟨A1, k1, rfl, hn1, hm1⟩ := h1.form
  obtain ⟨A2, k2, rfl, hn2, hm2⟩ := hl.form
  have H0 := Lib.hid h0
  have H1 := Lib.hid h1
  have H2 := Lib.hid hl
  have H := Lib.hid h
  clear h0 h1 h hl
  have B0 := Lib.hid ((Below.refl w.heap.size w).alloc (Nat.le_refl _) (.cells #[.slice A0 b.low.length k0, .slice A1 b.high.length k1] 33))
  have P0 := Lib.hid (Blk.at_ (g := w.heap.size) w 33 #[.slice A0 b.low.length k0, .slice A1 b.high.length k1] rfl)
  go_enter Try.func40, Try.ntmps40
  go_wp2_with fail
  generalize w.alloc (.cells #[.slice A0 b.low.length k0, .slice A1 b.high.length k1] 33) = W at *
  refine (isInBox_spec _ _ _ b l _ (mono_box _ _ _ _ (Kept.below B0.out (Nat.le_refl _)) H.out) (H2.out.below B0.out (Nat.le_refl _))).mono ?_
  rintro e w1 ⟨rfl, b1⟩
  have B1 := Lib.hid (B0.out.trans (b1.mono B0.out.size))
  have P1 := Lib.hid (P0.out.on b1)
  clear B0 P0 b1 W
  cases hv : inBx b l
  · have GV := Lib.hid hv
    clear hv
    go_wp2_with fail
    go_ret
    exact ⟨ret_int (boxIdx_no GV.out).symm, B1.out⟩
  · have GV := Lib.hid hv
    clear hv
    have OK := Lib.hid (okIn_of GV.out)
    have HL := Lib.hid OK.out.ok.len
    have HL2 := Lib.hid OK.out.len
    have hshort := OK.out.ok.short
    go_wp2_with fail
    go_loopw [5, 6] (fun t i wr => ∃ k : Nat, k ≤ l.length ∧ i = .int .i64 k ∧ t = .int .i64 (((digs b l).take k).foldl istep 0) ∧ ∃ n, wr = w1.drewN n) (fun _ i _ => l.length - (intOf i).toNat)
    case atStart => exact ⟨0, Nat.zero_le _, rfl, rfl, 0, rfl⟩
    case round =>
      obtain ⟨k, hk, rfl, rfl, n, rfl⟩ := hrel
      by_cases hlt : k < l.length
      · obtain ⟨g, off, x, rfl, hx, hf, hbs, hcell⟩ := (H0.out.below B1.out (Nat.le_refl _)).at_ (k := k) (by have := HL2.out; omega)
        obtain ⟨g', off', x', rfl, hx', hf', hbs', hcell'⟩ := (H1.out.below B1.out (Nat.le_refl _)).at_ (k := k) (by have := HL.out; have := HL2.out; omega)
        obtain ⟨g'', off'', y, rfl, hy, hfy, hbs'', hcell''⟩ := (H2.out.below B1.out (Nat.le_refl _)).at_ (k := k) hlt
        have HB := Lib.hid (OK.out.ok.bnd k _ _ hx'.out hx.out)
        have HY := Lib.hid (OK.out.bnd k _ _ _ hx'.out hx.out hy.out)
        have q0 := P1.out.get 0 (.slice (some ⟨g, off, none⟩) b.low.length k0) rfl
        have q1 := P1.out.get 1 (.slice (some ⟨g', off', none⟩) b.high.length k1) rfl
        have HS := Lib.hid (foldl_snocP (f := istep) (a := 0) (digs_at hx'.out hx.out hy.out))
        have hlt0 : k < b.low.length := by have := HL2.out; omega
        have hlt' : k < b.high.length := by have := HL.out; have := HL2.out; omega
        have il0 : (k : Int) < (b.low.length : Int) := by omega
        have il1 : (k : Int) < (b.high.length : Int) := by omega
        have il2 : (k : Int) < (l.length : Int) := by omega
        have ik : (0 : Int) ≤ (k : Int) := by omega
        have hb := idx_bnd OK.out k (by omega)
        have hp := pow8 k (by have := HL2.out; omega)
        generalize ((digs b l).take k).foldl istep 0 = p at *
        have hm := istep_bnd hb.1 (Int.le_trans hb.2 hp) HB.out HY.out
        unfold istep at hm
        simp only at hm
        have e1 : IntKind.i64.wrap (x' - x) = x' - x := wr (by have := HB.out; omega) (by have := HB.out; omega)
        have e2 : IntKind.i64.wrap (x' - x + 1) = x' - x + 1 := wr (by have := HB.out; omega) (by have := HB.out; omega)
        have e3 : IntKind.i64.wrap (p * (x' - x + 1)) = p * (x' - x + 1) := wr (by omega) (by omega)
        have e4 : IntKind.i64.wrap (p * (x' - x + 1) + y) = p * (x' - x + 1) + y := wr (by have := HB.out; have := HY.out; omega) (by have := HB.out; have := HY.out; omega)
        have e5 : IntKind.i64.wrap (p * (x' - x + 1) + y - x) = p * (x' - x + 1) + y - x := wr (by have := HB.out; have := HY.out; omega) (by have := HB.out; have := HY.out; omega)
        clear hm hb hp
        go_wp2
        go_quiet (fail)
        clear e1 e2 e3 e4 e5
        go_wp2
        exact ⟨⟨k + 1, by omega, by go_num, by rw [HS.out]; rfl, _, rfl⟩, by simp [intOf]; omega⟩
      · go_wp2
        go_ret
        exact ⟨ret_int (by rw [boxIdx_yes GV.out, foldl_doneP (by rw [digs_length OK.out]; omega)]), below_drewN B1.out n⟩

set_option maxHeartbeats 1600000 in
theorem boxIndex_impl (c0 c1 v : Value) (b : BoxD) (l : List Int) (w : World) (h : BoxR w [c0, c1] b) (hl : IntsR w v l) :
    Calls Try.prog 41 #[.agg #[c0, c1], v] w fun e w' => e = .returned (.int .i64 (boxIdx b l)) ∧ Below w.heap.size w w' := by
  obtain ⟨h0, h1⟩ := h.two
  obtain ⟨A0, k0, rfl, hn0, hm0⟩ := h0.form
  obtain ⟨A1, k1, rfl, hn1, hm1⟩ := h1.form
  obtain ⟨A2, k2, rfl, hn2, hm2⟩ := hl.form
  have H0 := Lib.hid h0
  have H1 := Lib.hid h1
  have H2 := Lib.hid hl
  have H := Lib.hid h
  clear h0 h1 h hl
  have B0 := Lib.hid ((Below.refl w.heap.size w).alloc (Nat.le_refl _) (.cells #[.slice A0 b.low.length k0, .slice A1 b.high.length k1] 33))
  have P0 := Lib.hid (Blk.at_ (g := w.heap.size) w 33 #[.slice A0 b.low.length k0, .slice A1 b.high.length k1] rfl)
  go_enter Try.func41, Try.ntmps41
  go_wp2_with fail
  generalize w.alloc (.cells #[.slice A0 b.low.length k0, .slice A1 b.high.length k1] 33) = W at *
  refine (isInBox_impl _ _ _ b l _ (mono_box _ _ _ _ (Kept.below B0.out (Nat.le_refl _)) H.out) (H2.out.below B0.out (Nat.le_refl _))).mono ?_
  rintro e w1 ⟨rfl, b1⟩
  have B1 := Lib.hid (B0.out.trans (b1.mono B0.out.size))
  have P1 := Lib.hid (P0.out.on b1)
  clear B0 P0 b1 W
  cases hv : inBx b l
  · have GV := Lib.hid hv
    clear hv
    go_wp2_with fail
    go_ret
    exact ⟨ret_int (boxIdx_no GV.out).symm, B1.out⟩
  · have GV := Lib.hid hv
    clear hv
    have OK := Lib.hid (okIn_of GV.out)
    have HL := Lib.hid OK.out.ok.len
    have HL2 := Lib.hid OK.out.len
    have hshort := OK.out.ok.short
    go_wp2_with fail
    go_loopw [5, 14] (fun t i wr => ∃ k : Nat, k ≤ l.length ∧ i = .int .i64 k ∧ t = .int .i64 (((digs b l).take k).foldl istep 0) ∧ ∃ n, wr = w1.drewN n) (fun _ i _ => l.length - (intOf i).toNat)
    case atStart => exact ⟨0, Nat.zero_le _, rfl, rfl, 0, rfl⟩
    case round =>
      obtain ⟨k, hk, rfl, rfl, n, rfl⟩ := hrel
      by_cases hlt : k < l.length
      · obtain ⟨g, off, x, rfl, hx, hf, hbs, hcell⟩ := (H0.out.below B1.out (Nat.le_refl _)).at_ (k := k) (by have := HL2.out; omega)
        obtain ⟨g', off', x', rfl, hx', hf', hbs', hcell'⟩ := (H1.out.below B1.out (Nat.le_refl _)).at_ (k := k) (by have := HL.out; have := HL2.out; omega)
        obtain ⟨g'', off'', y, rfl, hy, hfy, hbs'', hcell''⟩ := (H2.out.below B1.out (Nat.le_refl _)).at_ (k := k) hlt
        have HB := Lib.hid (OK.out.ok.bnd k _ _ hx'.out hx.out)
        have HY := Lib.hid (OK.out.bnd k _ _ _ hx'.out hx.out hy.out)
        have q0 := P1.out.get 0 (.slice (some ⟨g, off, none⟩) b.low.length k0) rfl
        have q1 := P1.out.get 1 (.slice (some ⟨g', off', none⟩) b.high.length k1) rfl
        have HS := Lib.hid (foldl_snocP (f := istep) (a := 0) (digs_at hx'.out hx.out hy.out))
        have hlt0 : k < b.low.length := by have := HL2.out; omega
        have hlt' : k < b.high.length := by have := HL.out; have := HL2.out; omega
        have il0 : (k : Int) < (b.low.length : Int) := by omega
        have il1 : (k : Int) < (b.high.length : Int) := by omega
        have il2 : (k : Int) < (l.length : Int) := by omega
        have ik : (0 : Int) ≤ (k : Int) := by omega
        have hb := idx_bnd OK.out k (by omega)
        have hp := pow8 k (by have := HL2.out; omega)
        generalize ((digs b l).take k).foldl istep 0 = p at *
        have hm := istep_bnd hb.1 (Int.le_trans hb.2 hp) HB.out HY.out
        unfold istep at hm
        simp only at hm
        have e1 : IntKind.i64.wrap (x' - x) = x' - x := wr (by have := HB.out; omega) (by have := HB.out; omega)
        have e2 : IntKind.i64.wrap (x' - x + 1) = x' - x + 1 := wr (by have := HB.out; omega) (by have := HB.out; omega)
        have e3 : IntKind.i64.wrap (p * (x' - x + 1)) = p * (x' - x + 1) := wr (by omega) (by omega)
        have e4 : IntKind.i64.wrap (p * (x' - x + 1) + y) = p * (x' - x + 1) + y := wr (by have := HB.out; have := HY.out; omega) (by have := HB.out; have := HY.out; omega)
        have e5 : IntKind.i64.wrap (p * (x' - x + 1) + y - x) = p * (x' - x + 1) + y - x := wr (by have := HB.out; have := HY.out; omega) (by have := HB.out; have := HY.out; omega)
        clear hm hb hp
        go_wp2
        go_quiet (fail)
        clear e1 e2 e3 e4 e5
        go_wp2
        exact ⟨⟨k + 1, by omega, by go_num, by rw [HS.out]; rfl, _, rfl⟩, by simp [intOf]; omega⟩
      · go_wp2
        go_ret
        exact ⟨ret_int (by rw [boxIdx_yes GV.out, foldl_doneP (by rw [digs_length OK.out]; omega)]), below_drewN B1.out n⟩
end Go.Proofs.Ytacegpmgicebfaa
