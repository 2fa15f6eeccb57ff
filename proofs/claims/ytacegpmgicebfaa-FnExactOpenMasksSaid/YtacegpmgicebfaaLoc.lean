/-
  Contracts of IsLocation and DominatesLocation (program and reference), of the reference's CompareRows and of slices.Equal at ints.
-/
import Derived.Test.YtacegpmgicebfaaOwn
namespace Go.Proofs.Ytacegpmgicebfaa
open Go.ChangeShapes Go.WideShapes Go.ChangeAt Go.RowKit

theorem all_snoc {α : Type} {p : α → Bool} {l : List α} {k : Nat} {x : α} (h : l[k]? = some x) (ht : (l.take k).all p = true) (hx : p x = true) : (l.take (k + 1)).all p = true := by
  rw [take_snoc h, List.all_append, ht]; simp [hx]
theorem all_stop {α : Type} {p : α → Bool} {l : List α} {k : Nat} {x : α} (h : l[k]? = some x) (hx : p x = false) : l.all p = false := by
  rw [List.all_eq_false]
  exact ⟨x, List.mem_of_getElem? h, by simp [hx]⟩
theorem all_done {α : Type} {p : α → Bool} {l : List α} {k : Nat} (hk : l.length ≤ k) (ht : (l.take k).all p = true) : l.all p = true := by
  rwa [List.take_of_length_le hk] at ht

def locAt (x : Int) : Bool := inB x 0 7
def isLoc (l : List Int) : Bool := l.all locAt && decide (l.length ≤ 16)
def domAt (p : Int × Int) : Bool := decide (p.2 ≤ p.1)
def dom (a b : List Int) : Bool := decide (a.length = b.length) && (a.zip b).all domAt
theorem dom_ne {a b : List Int} (h : a.length ≠ b.length) : dom a b = false := by simp [dom, h]
theorem zip_at {a b : List Int} {k : Nat} {x y : Int} (h : a[k]? = some x) (h' : b[k]? = some y) : (a.zip b)[k]? = some (x, y) := by
  rw [List.getElem?_zip_eq_some]; exact ⟨h, h'⟩

set_option maxHeartbeats 400000 in
theorem isLocation_spec (v : Value) (l : List Int) (w : World) (h : IntsR w v l) :
    Calls Try.prog 61 #[v] w fun e w' => e = .returned (.bool (isLoc l)) ∧ w = w' := by
  obtain ⟨A, c, rfl, hc1, hc2⟩ := h.form
  unfold maxLen at hc2
  go_enter Try.func61, Try.ntmps61
  go_wp2
  go_loop [3] (fun i => ∃ k : Nat, k ≤ l.length ∧ i = .int .i64 k ∧ (l.take k).all locAt = true) (fun i => l.length - (intOf i).toNat)
  case atStart => exact ⟨0, Nat.zero_le _, rfl, by simp⟩
  case round =>
    obtain ⟨k, hk, rfl, ha⟩ := hrel
    have HA := Lib.hid ha
    clear ha
    by_cases hlt : k < l.length
    · obtain ⟨b, off, x, rfl, hx, hf, hbs, hcell⟩ := h.at_ hlt
      cases hin : inB x 0 7
      · have HI := Lib.hid hin
        clear hin
        go_wp2_with (go_at_call 56; refine (l1In_any _ _ _ _).mono ?_; rintro e w' ⟨rfl, rfl⟩; rw [HI.out])
        go_ret
        exact ⟨ret_bool (by rw [isLoc, all_stop hx.out HI.out]; rfl), rfl⟩
      · have HI := Lib.hid hin
        clear hin
        go_wp2_with (go_at_call 56; refine (l1In_any _ _ _ _).mono ?_; rintro e w' ⟨rfl, rfl⟩; rw [HI.out])
        exact ⟨⟨k + 1, by omega, by go_num, all_snoc hx.out HA.out HI.out⟩, by simp [intOf]; omega⟩
    · go_wp2
      go_ret
      exact ⟨ret_bool (by rw [isLoc, all_done (by omega) HA.out]; simp; omega), rfl⟩

set_option maxHeartbeats 400000 in
theorem isLocation_impl (v : Value) (l : List Int) (w : World) (h : IntsR w v l) :
    Calls Try.prog 63 #[v] w fun e w' => e = .returned (.bool (isLoc l)) ∧ w = w' := by
  obtain ⟨A, c, rfl, hc1, hc2⟩ := h.form
  unfold maxLen at hc2
  go_enter Try.func63, Try.ntmps63
  go_wp2
  go_loop [7] (fun i => ∃ k : Nat, k ≤ l.length ∧ i = .int .i64 k ∧ (l.take k).all locAt = true) (fun i => l.length - (intOf i).toNat)
  case atStart => exact ⟨0, Nat.zero_le _, rfl, by simp⟩
  case round =>
    obtain ⟨k, hk, rfl, ha⟩ := hrel
    have HA := Lib.hid ha
    clear ha
    by_cases hlt : k < l.length
    · obtain ⟨b, off, x, rfl, hx, hf, hbs, hcell⟩ := h.at_ hlt
      cases hin : inB x 0 7
      · have HI := Lib.hid hin
        clear hin
        go_wp2_with (go_at_call 57; refine (within_any _ _ _ _).mono ?_; rintro e w' ⟨rfl, rfl⟩; rw [HI.out])
        go_ret
        exact ⟨ret_bool (by rw [isLoc, all_stop hx.out HI.out]; rfl), rfl⟩
      · have HI := Lib.hid hin
        clear hin
        go_wp2_with (go_at_call 57; refine (within_any _ _ _ _).mono ?_; rintro e w' ⟨rfl, rfl⟩; rw [HI.out])
        exact ⟨⟨k + 1, by omega, by go_num, all_snoc hx.out HA.out HI.out⟩, by simp [intOf]; omega⟩
    · go_wp2
      go_ret
      exact ⟨ret_bool (by rw [isLoc, all_done (by omega) HA.out]; simp; omega), rfl⟩

set_option maxHeartbeats 400000 in
theorem dominates_spec (v v' : Value) (a b : List Int) (w : World) (h : IntsR w v a) (h' : IntsR w v' b) :
    Calls Try.prog 62 #[v, v'] w fun e w' => e = .returned (.bool (dom a b)) ∧ ∃ n, w' = w.drewN n := by
  obtain ⟨A, c, rfl, hc1, hc2⟩ := h.form
  obtain ⟨A', c', rfl, hc1', hc2'⟩ := h'.form
  unfold maxLen at hc2 hc2'
  by_cases hne : a.length = b.length
  · have hl : ((a.length : Int) != (b.length : Int)) = false := by simp [hne]
    have HN := Lib.hid hne
    clear hne
    go_enter Try.func62, Try.ntmps62
    go_wp2
    go_loopw [5] (fun i wr => ∃ k : Nat, k ≤ a.length ∧ i = .int .i64 k ∧ ((a.zip b).take k).all domAt = true ∧ ∃ n, wr = w.drewN n) (fun i _ => a.length - (intOf i).toNat)
    case atStart => exact ⟨0, Nat.zero_le _, rfl, by simp, 0, rfl⟩
    case round =>
      obtain ⟨k, hk, rfl, ha, n, rfl⟩ := hrel
      have HA := Lib.hid ha
      clear ha
      by_cases hlt : k < a.length
      · obtain ⟨g, off, x, rfl, hx, hf, hbs, hcell⟩ := h.at_ hlt
        have hlt' : k < b.length := by rw [← HN.out]; exact hlt
        obtain ⟨g', off', x', rfl, hx', hf', hbs', hcell'⟩ := h'.at_ hlt'
        by_cases hxx : x' ≤ x
        · have HX := Lib.hid hxx
          skip
          go_wp2
          go_quiet (fail)
          go_wp2
          exact ⟨⟨k + 1, by omega, by go_num, all_snoc (zip_at hx.out hx'.out) HA.out (by have := HX.out; simp [domAt, this]), _, rfl⟩, by simp [intOf]; omega⟩
        · have HX := Lib.hid hxx
          skip
          go_wp2
          go_quiet (fail)
          go_wp2
          go_ret
          exact ⟨ret_bool (by rw [dom, all_stop (zip_at hx.out hx'.out) (by have := HX.out; simp [domAt]; omega)]; simp), _, World.drewN_drewN _ _ _⟩
      · go_wp2
        go_ret
        exact ⟨ret_bool (by rw [dom, all_done (by have := HN.out; simp; omega) HA.out]; simp [HN.out]), _, rfl⟩
  · have hl : ((a.length : Int) != (b.length : Int)) = true := by simp; omega
    go_enter Try.func62, Try.ntmps62
    go_wp2
    go_ret
    exact ⟨ret_bool (by rw [dom]; simp [hne]), 0, rfl⟩

set_option maxHeartbeats 400000 in
theorem dominates_impl (v v' : Value) (a b : List Int) (w : World) (h : IntsR w v a) (h' : IntsR w v' b) :
    Calls Try.prog 64 #[v, v'] w fun e w' => e = .returned (.bool (dom a b)) ∧ ∃ n, w' = w.drewN n := by
  obtain ⟨A, c, rfl, hc1, hc2⟩ := h.form
  obtain ⟨A', c', rfl, hc1', hc2'⟩ := h'.form
  unfold maxLen at hc2 hc2'
  by_cases hne : a.length = b.length
  · have hl : ((a.length : Int) != (b.length : Int)) = false := by simp [hne]
    have HN := Lib.hid hne
    clear hne
    go_enter Try.func64, Try.ntmps64
    go_wp2
    go_loopw [13] (fun i wr => ∃ k : Nat, k ≤ a.length ∧ i = .int .i64 k ∧ ((a.zip b).take k).all domAt = true ∧ ∃ n, wr = w.drewN n) (fun i _ => a.length - (intOf i).toNat)
    case atStart => exact ⟨0, Nat.zero_le _, rfl, by simp, 0, rfl⟩
    case round =>
      obtain ⟨k, hk, rfl, ha, n, rfl⟩ := hrel
      have HA := Lib.hid ha
      clear ha
      by_cases hlt : k < a.length
      · obtain ⟨g, off, x, rfl, hx, hf, hbs, hcell⟩ := h.at_ hlt
        have hlt' : k < b.length := by rw [← HN.out]; exact hlt
        obtain ⟨g', off', x', rfl, hx', hf', hbs', hcell'⟩ := h'.at_ hlt'
        by_cases hxx : x' ≤ x
        · have HX := Lib.hid hxx
          skip
          go_wp2
          go_quiet (fail)
          go_wp2
          exact ⟨⟨k + 1, by omega, by go_num, all_snoc (zip_at hx.out hx'.out) HA.out (by have := HX.out; simp [domAt, this]), _, rfl⟩, by simp [intOf]; omega⟩
        · have HX := Lib.hid hxx
          skip
          go_wp2
          go_quiet (fail)
          go_wp2
          go_ret
          exact ⟨ret_bool (by rw [dom, all_stop (zip_at hx.out hx'.out) (by have := HX.out; simp [domAt]; omega)]; simp), _, World.drewN_drewN _ _ _⟩
      · go_wp2
        go_ret
        exact ⟨ret_bool (by rw [dom, all_done (by have := HN.out; simp; omega) HA.out]; simp [HN.out]), _, rfl⟩
  · have hl : ((a.length : Int) != (b.length : Int)) = true := by simp; omega
    go_enter Try.func64, Try.ntmps64
    go_wp2
    go_ret
    exact ⟨ret_bool (by rw [dom]; simp [hne]), 0, rfl⟩

def sameAt (p : Int × Int) : Bool := decide (p.1 = p.2)
def sameZ (a b : List Int) : Bool := decide (a.length = b.length) && (a.zip b).all sameAt
theorem sameZ_eq : ∀ a b : List Int, sameZ a b = eqL a b
  | [], [] => rfl
  | [], y :: b => by simp [sameZ, eqL]
  | x :: a, [] => by simp [sameZ, eqL]
  | x :: a, y :: b => by
    have ih := sameZ_eq a b
    simp only [sameZ, eqL] at ih ⊢
    simp only [List.length_cons, List.zip_cons_cons, List.all_cons, sameAt, List.cons.injEq]
    rw [Bool.eq_iff_iff] at ih ⊢
    simp only [Bool.and_eq_true, decide_eq_true_eq] at ih ⊢
    rw [← ih]
    constructor
    · rintro ⟨h1, h2, h3⟩; exact ⟨h2, by omega, h3⟩
    · rintro ⟨h1, h2, h3⟩; exact ⟨by omega, h1, h3⟩

set_option maxHeartbeats 400000 in
theorem slicesEqualZ (v v' : Value) (a b : List Int) (w : World) (h : IntsR w v a) (h' : IntsR w v' b) :
    Calls Try.prog 60 #[v, v'] w fun e w' => e = .returned (.bool (sameZ a b)) ∧ ∃ n, w' = w.drewN n := by
  obtain ⟨A, c, rfl, hc1, hc2⟩ := h.form
  obtain ⟨A', c', rfl, hc1', hc2'⟩ := h'.form
  unfold maxLen at hc2 hc2'
  by_cases hne : a.length = b.length
  · have hl : ((a.length : Int) != (b.length : Int)) = false := by simp [hne]
    have HN := Lib.hid hne
    clear hne
    go_enter Try.func60, Try.ntmps60
    go_wp2
    go_loopw [13] (fun i wr => ∃ k : Nat, k ≤ a.length ∧ i = .int .i64 k ∧ ((a.zip b).take k).all sameAt = true ∧ ∃ n, wr = w.drewN n) (fun i _ => a.length - (intOf i).toNat)
    case atStart => exact ⟨0, Nat.zero_le _, rfl, by simp, 0, rfl⟩
    case round =>
      obtain ⟨k, hk, rfl, ha, n, rfl⟩ := hrel
      have HA := Lib.hid ha
      clear ha
      by_cases hlt : k < a.length
      · obtain ⟨g, off, x, rfl, hx, hf, hbs, hcell⟩ := h.at_ hlt
        have hlt' : k < b.length := by rw [← HN.out]; exact hlt
        obtain ⟨g', off', x', rfl, hx', hf', hbs', hcell'⟩ := h'.at_ hlt'
        by_cases hxx : x = x'
        · have HX := Lib.hid hxx
          subst hxx; clear HX
          go_wp2
          go_quiet (fail)
          go_wp2
          exact ⟨⟨k + 1, by omega, by go_num, all_snoc (zip_at hx.out hx'.out) HA.out (by simp [sameAt]), _, rfl⟩, by simp [intOf]; omega⟩
        · have HX := Lib.hid hxx
          have hxn : (x != x') = true := by simp [hxx]
          go_wp2
          go_quiet (fail)
          go_wp2
          go_ret
          exact ⟨ret_bool (by rw [sameZ, all_stop (zip_at hx.out hx'.out) (by have := HX.out; simp [sameAt]; omega)]; simp), _, World.drewN_drewN _ _ _⟩
      · go_wp2
        go_ret
        exact ⟨ret_bool (by rw [sameZ, all_done (by have := HN.out; simp; omega) HA.out]; simp [HN.out]), _, rfl⟩
  · have hl : ((a.length : Int) != (b.length : Int)) = true := by simp; omega
    go_enter Try.func60, Try.ntmps60
    go_wp2
    go_ret
    exact ⟨ret_bool (by rw [sameZ]; simp [hne]), 0, rfl⟩

theorem slicesEqual_any (v v' : Value) (a b : List Int) (w : World) (h : IntsR w v a) (h' : IntsR w v' b) :
    Calls Try.prog 60 #[v, v'] w fun e w' => e = .returned (.bool (eqL a b)) ∧ ∃ n, w' = w.drewN n :=
  (slicesEqualZ v v' a b w h h').mono fun _ _ ⟨he, hn⟩ => ⟨by rw [he, sameZ_eq], hn⟩

/-- Rows in lexicographic order: -1, 0 or 1. -/
def cmpR : List Int → List Int → Int
  | [], [] => 0
  | [], _ :: _ => -1
  | _ :: _, [] => 1
  | x :: a, y :: b => if x < y then -1 else if y < x then 1 else cmpR a b
theorem cmpR_zero : ∀ a b : List Int, cmpR a b = 0 ↔ a = b
  | [], [] => by simp [cmpR]
  | [], y :: b => by simp [cmpR]
  | x :: a, [] => by simp [cmpR]
  | x :: a, y :: b => by
    have ih := cmpR_zero a b
    rw [cmpR]
    by_cases h1 : x < y
    · rw [if_pos h1]; simp; omega
    · rw [if_neg h1]
      by_cases h2 : y < x
      · rw [if_pos h2]; simp; omega
      · rw [if_neg h2, ih]
        have : x = y := by omega
        simp [this]
theorem cmpR_range (a b : List Int) : -1 ≤ cmpR a b ∧ cmpR a b ≤ 1 := by
  induction a generalizing b with
  | nil => cases b <;> simp [cmpR]
  | cons x a ih =>
    cases b with
    | nil => simp [cmpR]
    | cons y b =>
      rw [cmpR]
      split
      · omega
      · split
        · omega
        · exact ih b
theorem drop_at {α : Type} {l : List α} {k : Nat} {x : α} (h : l[k]? = some x) : l.drop k = x :: l.drop (k + 1) := by
  obtain ⟨hk, rfl⟩ := List.getElem?_eq_some_iff.1 h
  exact List.drop_eq_getElem_cons hk
theorem drop_nil {l : List Int} {k : Nat} (h : l.length ≤ k) : l.drop k = [] := List.drop_eq_nil_of_le h
theorem cmpR_nil_right {a : List Int} {k : Nat} (h : k < a.length) : cmpR (a.drop k) [] = 1 := by
  obtain ⟨x, t, e⟩ : ∃ x t, a.drop k = x :: t := ⟨_, _, List.drop_eq_getElem_cons h⟩
  rw [e]; rfl
theorem cmpR_nil_left {b : List Int} {k : Nat} (h : k < b.length) : cmpR [] (b.drop k) = -1 := by
  obtain ⟨x, t, e⟩ : ∃ x t, b.drop k = x :: t := ⟨_, _, List.drop_eq_getElem_cons h⟩
  rw [e]; rfl

set_option maxHeartbeats 800000 in
theorem compareRows_any (v v' : Value) (a b : List Int) (w : World) (h : IntsR w v a) (h' : IntsR w v' b) :
    Calls Try.prog 59 #[v, v'] w fun e w' => e = .returned (.int .i64 (cmpR a b)) ∧ ∃ n, w' = w.drewN n := by
  obtain ⟨A, c, rfl, hc1, hc2⟩ := h.form
  obtain ⟨A', c', rfl, hc1', hc2'⟩ := h'.form
  unfold maxLen at hc2 hc2'
  go_enter Try.func59, Try.ntmps59
  go_wp2
  go_loopw [5] (fun i wr => ∃ k : Nat, k ≤ a.length ∧ k ≤ b.length ∧ i = .int .i64 k ∧ cmpR (a.drop k) (b.drop k) = cmpR a b ∧ ∃ n, wr = w.drewN n) (fun i _ => a.length - (intOf i).toNat)
  case atStart => exact ⟨0, Nat.zero_le _, Nat.zero_le _, rfl, rfl, 0, rfl⟩
  case round =>
    obtain ⟨k, hk, hk', rfl, ha, n, rfl⟩ := hrel
    have HA := Lib.hid ha
    clear ha
    by_cases hlt : k < a.length
    · by_cases hlt' : k < b.length
      · obtain ⟨g, off, x, rfl, hx, hf, hbs, hcell⟩ := h.at_ hlt
        obtain ⟨g', off', x', rfl, hx', hf', hbs', hcell'⟩ := h'.at_ hlt'
        have HD : Hid (cmpR a b = if x < x' then -1 else if x' < x then 1 else cmpR (a.drop (k + 1)) (b.drop (k + 1))) := by
          rw [← HA.out, drop_at hx.out, drop_at hx'.out, cmpR]; rfl
        by_cases h1 : x < x'
        · go_wp2
          go_quiet (fail)
          go_wp2
          go_ret
          exact ⟨ret_int (by rw [HD.out, if_pos h1]), _, World.drewN_drewN _ _ _⟩
        · have d1 : decide (x < x') = false := by simpa using h1
          by_cases h2 : x' < x
          · go_wp2
            go_quiet (fail)
            go_wp2
            go_quiet (fail)
            go_wp2
            go_ret
            exact ⟨ret_int (by rw [HD.out, if_neg (by omega), if_pos h2]), _, by rw [World.drewN_drewN, World.drewN_drewN]⟩
          · have d2 : decide (x' < x) = false := by simpa using h2
            go_wp2
            go_quiet (fail)
            go_wp2
            go_quiet (fail)
            go_wp2
            exact ⟨⟨k + 1, by omega, by omega, by go_num, by rw [HD.out, if_neg (by omega), if_neg (by omega)], _, rfl⟩, by simp [intOf]; omega⟩
      · go_wp2
        go_ret
        exact ⟨ret_int (by rw [← HA.out, drop_nil (l := b) (k := k) (by omega), cmpR_nil_right hlt]), _, rfl⟩
    · by_cases hlt' : k < b.length
      · go_wp2
        go_ret
        exact ⟨ret_int (by rw [← HA.out, drop_nil (l := a) (k := k) (by omega), cmpR_nil_left hlt']), _, rfl⟩
      · go_wp2
        go_ret
        exact ⟨ret_int (by rw [← HA.out, drop_nil (l := a) (k := k) (by omega), drop_nil (l := b) (k := k) (by omega)]; rfl), _, rfl⟩
end Go.Proofs.Ytacegpmgicebfaa
