/-
  Contracts of the laws' helpers over []int: toIntS, eqIntS, szIntS, markIntS, heldIntS.
-/
import Derived.Test.YtcgjlddpbkponaaNum
namespace Go.Proofs.Ytcgjlddpbkponaa
open Go.ChangeShapes Go.WideShapes Go.ChangeAt Go.RowKit

theorem info_int : (Try.prog.info? 3).map (fun i => (i.zero, i.size, i.bytes)) = some (some (.int .i64 0), 1, 8) := by kernel_rfl

abbrev vals (l : List Int) : List Value := l.map (Value.int .i64)
/-- A row of ints of the call's own, from block 'base' on. -/
abbrev OwnI (w : World) (base : Nat) (v : Value) (l : List Int) : Prop := w.ownsRow base 3 1 v l.length (vals l)

/-- What a function that makes a new slice of ints hands back. -/
def NewInts (w : World) (l : List Int) (e : Ending) (w' : World) : Prop := ∃ v, e = .returned v ∧ OwnI w' w.heap.size v l ∧ Below w.heap.size w w'

theorem take_set_snoc {α : Type} (zs : List α) (k : Nat) (u : α) (h : k < zs.length) : (zs.set k u).take (k + 1) = zs.take k ++ [u] := by
  rw [List.take_add_one, List.getElem?_set_self h, List.take_set, List.set_eq_of_length_le (by simp; omega)]
  rfl

theorem toInts_rel {w wr : World} {n k : Nat} {l : List Int} {zs : List Value} {x : Int} (hk : Hid (l[k]? = some x)) (hn : n = l.length)
    (hown : wr.ownsRow w.heap.size 3 1 (.slice (some ⟨w.heap.size, 0, none⟩) n n) n zs) (htake : zs.take k = vals (l.take k)) (hb : Below w.heap.size w wr) :
    (wr.setCell ⟨w.heap.size, k, none⟩ (.int .i64 x)).ownsRow w.heap.size 3 1 (.slice (some ⟨w.heap.size, 0, none⟩) n n) n (zs.set k (.int .i64 x)) ∧ (zs.set k (.int .i64 x)).take (k + 1) = vals (l.take (k + 1)) ∧
    Below w.heap.size w (wr.setCell ⟨w.heap.size, k, none⟩ (.int .i64 x)) := by
  have hlt := hid_lt hk
  refine ⟨(hown.stored k _).1, ?_, hb.setCell (Nat.le_refl _) _⟩
  rw [take_set_snoc _ _ _ (by have := hown.1; omega), htake, take_snoc hk.out]
  simp [vals]

set_option maxHeartbeats 400000 in
theorem toIntS_any (v : Value) (l : List Int) (w : World) (h : IntsR w v l) (hl : l.length ≤ 17592186044416) :
    Calls Try.prog 60 #[v] w (NewInts w l) := by
  obtain ⟨i0, hi, hz0, hz1, hz2⟩ := info_parts info_int
  obtain ⟨A, c, rfl, hc1, hc2⟩ := h.form
  go_enter Try.func60, Try.ntmps60
  go_wp2_with (at_make; refine wpList_make_full _ rfl _ _ 22 rfl w.heap.size 3 i0 (.int .i64 0) 1 Try.underlying22 hi hz0 hz1 .i64 .i64 _ _ l.length rfl rfl rfl rfl ?c1 ?c2 ?c3 ?_)
  case c1 => rw [hz2]; omega
  case c2 => unfold maxLen; omega
  case c3 => exact Nat.le_refl _
  intro w1 hown hg
  have hb1 : Below w.heap.size w w1 := (Below.refl _ _).grown hg (Nat.le_refl _) (by simp)
  clear hg
  go_wp2
  go_loopw [4] (fun i wr => ∃ k : Nat, k ≤ l.length ∧ i = .int .i64 k ∧ ∃ zs, wr.ownsRow w.heap.size 3 1 (.slice (some ⟨w.heap.size, 0, none⟩) l.length l.length) l.length zs ∧ zs.take k = vals (l.take k) ∧ Below w.heap.size w wr) (fun i _ => l.length - (intOf i).toNat)
  case atStart => exact ⟨0, Nat.zero_le _, rfl, _, hown, by simp, hb1⟩
  case round =>
    clear hown hb1 w1
    obtain ⟨k, hk, rfl, zs, hown, htake, hb⟩ := hrel
    by_cases hlt : k < l.length
    · obtain ⟨b, off, x, rfl, hx, hf, hbs, hcell⟩ := (h.below hb (Nat.le_refl _)).at_ hlt
      have hd : ∃ u, wr.cell? ⟨w.heap.size, k, none⟩ = some u := ⟨_, (hown.cellAt k (by omega)).trans (List.getElem?_eq_getElem (by have := hown.1; omega))⟩
      obtain ⟨u0, hd⟩ := hd
      have hz := hown.frozenAt k
      have HR := Lib.hid (toInts_rel hx rfl hown htake hb)
      clear hown htake hb h
      go_wp2
      exact ⟨⟨k + 1, by omega, by go_num, _, HR.out.1, HR.out.2.1, HR.out.2.2⟩, by simp [intOf]; omega⟩
    · have HO := Lib.hid hown
      have HT : Hid (zs = vals l) := by
        have h1 := hown.1
        rw [List.take_of_length_le (by omega), List.take_of_length_le (by omega)] at htake
        exact htake
      clear hown htake
      go_wp2
      go_ret
      exact ⟨_, rfl, by have := HO.out; rw [HT.out] at this; exact this, hb⟩

/-- Two lists of ints are one. -/
def eqL (a b : List Int) : Bool := decide (a = b)
theorem eqL_self (a : List Int) : eqL a a = true := by simp [eqL]

set_option maxHeartbeats 400000 in
theorem eqIntS_any (v v' : Value) (l l' : List Int) (w : World) (h : IntsR w v l) (h' : IntsR w v' l') :
    Calls Try.prog 63 #[v, v'] w fun e w' => e = .returned (.bool (eqL l l')) ∧ ∃ n, w' = w.drewN n := by
  obtain ⟨A, c, rfl, hc1, hc2⟩ := h.form
  obtain ⟨A', c', rfl, hc1', hc2'⟩ := h'.form
  unfold maxLen at hc2 hc2'
  by_cases hne : l.length = l'.length
  · have hl : ((l.length : Int) != (l'.length : Int)) = false := by simp [hne]
    have HN := Lib.hid hne
    clear hne
    go_enter Try.func63, Try.ntmps63
    go_wp2
    go_loopw [5] (fun i wr => ∃ k : Nat, k ≤ l.length ∧ i = .int .i64 k ∧ l.take k = l'.take k ∧ ∃ n, wr = w.drewN n) (fun i _ => l.length - (intOf i).toNat)
    case atStart => exact ⟨0, Nat.zero_le _, rfl, rfl, 0, rfl⟩
    case round =>
      obtain ⟨k, hk, rfl, heq, n, rfl⟩ := hrel
      have HE := Lib.hid heq
      clear heq
      by_cases hlt : k < l.length
      · obtain ⟨b, off, x, rfl, hx, hf, hbs, hcell⟩ := h.at_ hlt
        have hlt' : k < l'.length := by rw [← HN.out]; exact hlt
        obtain ⟨b', off', x', rfl, hx', hf', hbs', hcell'⟩ := h'.at_ hlt'
        by_cases hxx : x = x'
        · subst hxx
          go_wp2
          go_quiet (fail)
          go_wp2
          exact ⟨⟨k + 1, by omega, by go_num, by rw [take_snoc hx.out, take_snoc hx'.out, HE.out], _, rfl⟩, by simp [intOf]; omega⟩
        · have hxn : (x != x') = true := by simp [hxx]
          go_wp2
          go_quiet (fail)
          go_wp2
          go_ret
          refine ⟨ret_bool ?_, _, World.drewN_drewN _ _ _⟩
          simp only [eqL]
          symm
          rw [decide_eq_false_iff_not]
          rintro rfl
          have := hx.out.symm.trans hx'.out
          simp at this
          exact hxx this
      · go_wp2
        go_ret
        refine ⟨ret_bool ?_, _, rfl⟩
        have hE := HE.out
        rw [List.take_of_length_le (by omega), List.take_of_length_le (by have := HN.out; omega)] at hE
        simp [eqL, hE]
  · have hl : ((l.length : Int) != (l'.length : Int)) = true := by simp; omega
    go_enter Try.func63, Try.ntmps63
    go_wp2
    go_ret
    exact ⟨ret_bool (by simp only [eqL]; symm; rw [decide_eq_false_iff_not]; rintro rfl; exact hne rfl), 0, rfl⟩

def szStep (n : Nat) (m : Int) : Int := if n ≤ m then m - n else -1
theorem szStep_yes {n : Nat} {m : Int} (h : n ≤ m) : szStep n m = m - n := if_pos h
theorem szStep_no {n : Nat} {m : Int} (h : ¬ n ≤ m) : szStep n m = -1 := if_neg h

theorem szIntS_any (v : Value) (l : List Int) (m : Int) (w : World) (h : IntsR w v l) (hm : 0 ≤ m) (hm' : m ≤ 1048576) (hl : l.length ≤ 9223372036854775807) :
    Calls Try.prog 57 #[v, .int .i64 m] w fun e w' => e = .returned (.int .i64 (szStep l.length m)) ∧ w = w' := by
  obtain ⟨A, c, rfl, hc1, hc2⟩ := h.form
  by_cases hlt : (l.length : Int) ≤ m
  · go_enter Try.func57, Try.ntmps57
    go_wp2
    go_ret
    exact ⟨ret_int (szStep_yes (by omega)).symm, rfl⟩
  · go_enter Try.func57, Try.ntmps57
    go_wp2
    go_ret
    exact ⟨ret_int (szStep_no (by omega)).symm, rfl⟩

/-- n numbers from k on. -/
def iota (k : Int) (n : Nat) : List Int := (List.range n).map fun i => k + (i : Nat)
theorem iota_length (k : Int) (n : Nat) : (iota k n).length = n := by simp [iota]
theorem iota_succ (k : Int) (n : Nat) : iota k (n + 1) = iota k n ++ [k + n] := by simp [iota, List.range_succ]
theorem iota_at {k : Int} {n i : Nat} {x : Int} (h : (iota k n)[i]? = some x) : x = k + i := by
  simp only [iota, List.getElem?_map, Option.map_eq_some_iff] at h
  obtain ⟨j, hj, rfl⟩ := h
  have := (List.getElem?_eq_some_iff.1 hj).2
  simp at this
  omega
theorem iota_fits {k : Int} {n : Nat} (h0 : 0 ≤ k) (h : k + n ≤ 9223372036854775807) : ∀ x ∈ iota k n, Fits x := by
  intro x hx
  simp only [iota, List.mem_map, List.mem_range] at hx
  obtain ⟨i, hi, rfl⟩ := hx
  unfold Fits; omega

theorem owns_shape {w : World} {base e size n : Nat} {v : Value} {xs : List Value} (h : w.ownsRow base e size v n xs) : ∃ A c, v = .slice A n c ∧ n ≤ c ∧ c ≤ maxLen ∧ (0 < n → ∃ g, A = some ⟨g, 0, none⟩ ∧ base ≤ g ∧ g < w.heap.size) := by
  rcases h.2 with ⟨rfl, rfl⟩ | ⟨g, cap, cur, rfl, hb, hg, h1, h2, _⟩
  · exact ⟨none, 0, rfl, Nat.le_refl _, Nat.zero_le _, fun h => absurd h (by omega)⟩
  · exact ⟨_, cap, rfl, h1, h2, fun _ => ⟨g, rfl, hb, (Array.getElem?_eq_some_iff.1 hg).1⟩⟩

/-- What marking a row of ints leaves. -/
def Marked (w : World) (base : Nat) (v : Value) (k : Int) (n : Nat) (e : Ending) (w' : World) : Prop := e = .returned (.int .i64 (k + n)) ∧ OwnI w' base v (iota k n) ∧ w.grownBy w' v.ownBlock ∧ w'.heap.size = w.heap.size

theorem mark_rel {w wr : World} {base n k g c : Nat} {k0 : Int} {zs : List Value} (hk : k < n) (hown : wr.ownsRow base 3 1 (.slice (some ⟨g, 0, none⟩) n c) n zs) (htake : zs.take k = vals (iota k0 k)) (hg : w.grownBy wr (some g)) (hsz : wr.heap.size = w.heap.size) :
    (wr.setCell ⟨g, k, none⟩ (.int .i64 (k0 + k))).ownsRow base 3 1 (.slice (some ⟨g, 0, none⟩) n c) n (zs.set k (.int .i64 (k0 + k))) ∧ (zs.set k (.int .i64 (k0 + k))).take (k + 1) = vals (iota k0 (k + 1)) ∧
    w.grownBy (wr.setCell ⟨g, k, none⟩ (.int .i64 (k0 + k))) (some g) ∧ (wr.setCell ⟨g, k, none⟩ (.int .i64 (k0 + k))).heap.size = w.heap.size := by
  refine ⟨(hown.stored k _).1, ?_, hg.trans (hown.stored k _).2, by simpa [World.setCell] using hsz⟩
  rw [take_set_snoc _ _ _ (by have := hown.1; omega), htake, iota_succ]
  simp [vals]

set_option maxHeartbeats 400000 in
theorem markIntS_any (v : Value) (n base : Nat) (xs : List Value) (k0 : Int) (w : World) (h : w.ownsRow base 3 1 v n xs) (h0 : 0 ≤ k0) (hk : k0 + n ≤ 9223372036854775807) :
    Calls Try.prog 72 #[v, .int .i64 k0] w (Marked w base v k0 n) := by
  obtain ⟨A, c, rfl, hc1, hc2, hA⟩ := owns_shape h
  go_enter Try.func72, Try.ntmps72
  go_wp2
  go_loopw [1, 5] (fun t i wr => ∃ k : Nat, k ≤ n ∧ i = .int .i64 k ∧ t = .int .i64 (k0 + k) ∧ ∃ zs, wr.ownsRow base 3 1 (.slice A n c) n zs ∧ zs.take k = vals (iota k0 k) ∧ w.grownBy wr (Value.slice A n c).ownBlock ∧ wr.heap.size = w.heap.size) (fun _ i _ => n - (intOf i).toNat)
  case atStart => exact ⟨0, Nat.zero_le _, rfl, by simp, xs, h, by simp [iota], World.grownBy.refl _ _, rfl⟩
  case round =>
    obtain ⟨k, hkn, rfl, rfl, zs, hown, htake, hg, hsz⟩ := hrel
    by_cases hlt : k < n
    · obtain ⟨g, rfl, _, _⟩ := hA (by omega)
      have hd : ∃ u, wr.cell? ⟨g, k, none⟩ = some u := ⟨_, (hown.cellAt k (by omega)).trans (List.getElem?_eq_getElem (by have := hown.1; omega))⟩
      obtain ⟨u0, hd⟩ := hd
      have hz := hown.frozenAt k
      have HR := Lib.hid (mark_rel hlt hown htake hg hsz)
      clear hown htake hg h hA hsz
      go_wp2
      exact ⟨⟨k + 1, by omega, by go_num, by go_num, _, HR.out.1, HR.out.2.1, HR.out.2.2.1, HR.out.2.2.2⟩, by simp [intOf]; omega⟩
    · have HT : Hid (zs = vals (iota k0 n)) := by
        have h1 := hown.1
        obtain rfl : k = n := by omega
        rw [List.take_of_length_le (by omega)] at htake
        exact htake
      have HO := Lib.hid hown
      have HG := Lib.hid hg
      have HS := Lib.hid hsz
      obtain rfl : k = n := by omega
      clear hown htake hg h hA hsz
      go_wp2
      go_ret
      exact ⟨rfl, by have := HO.out; rw [HT.out] at this; unfold OwnI; rw [iota_length]; exact this, HG.out, HS.out⟩

set_option maxHeartbeats 400000 in
theorem heldIntS_any (v : Value) (n : Nat) (k0 : Int) (w : World) (h : IntsR w v (iota k0 n)) (h0 : 0 ≤ k0) (hk : k0 + n ≤ 9223372036854775807) :
    Calls Try.prog 76 #[v, .int .i64 k0] w fun e w' => e = .returned (.int .i64 (k0 + n)) ∧ w = w' := by
  obtain ⟨A, c, rfl, hc1, hc2⟩ := h.form
  rw [iota_length] at h hc1 ⊢
  have hlen := iota_length k0 n
  go_enter Try.func76, Try.ntmps76
  go_wp2
  go_loop [1, 5] (fun t i => ∃ k : Nat, k ≤ n ∧ i = .int .i64 k ∧ t = .int .i64 (k0 + k)) (fun _ i => n - (intOf i).toNat)
  case atStart => exact ⟨0, Nat.zero_le _, rfl, by simp⟩
  case round =>
    obtain ⟨k, hkn, rfl, rfl⟩ := hrel
    by_cases hlt : k < n
    · obtain ⟨b, off, x, rfl, hx, hf, hbs, hcell⟩ := h.at_ (k := k) (by omega)
      obtain rfl := iota_at hx.out
      clear hlen h
      go_wp2
      exact ⟨⟨k + 1, by omega, by go_num, by go_num⟩, by simp [intOf]; omega⟩
    · obtain rfl : k = n := by omega
      clear hlen h
      go_wp2
      go_ret
      exact ⟨rfl, rfl⟩
end Go.Proofs.Ytcgjlddpbkponaa
