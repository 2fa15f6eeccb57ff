/-
  slices.CompactFunc at rows, world for world.
-/
import Derived.Test.YtjlagjhmlmfjeaaGreatSe
import Derived.Lib.SlicesCompact
import Derived.Lib.SliceRun
import Derived.Sort.WalkB12
import Derived.Lib.Walk
import Derived.Shelf.SlicesE.Kit
import Derived.Deep.LoopGhost
import Derived.Shelf.SlSortCmp.Insertion
namespace Go.Proofs.YtjlagjhmlmfjeaaGreat
open Go.ChangeShapes Go.WideShapes Go.ChangeAt Go.RowKit Go.Shelf Go.Lib
set_option linter.unusedVariables false
set_option linter.unusedSimpArgs false
section
variable (eq : Nat → Nat → Bool)
def keepC (d : Array Nat) (j : Nat) : Bool := decide (j = 0) || !eq d[j]! d[j - 1]!
def compC (d : Array Nat) (m : Nat) : List Nat := ((List.range m).filter (keepC eq d)).map (d[·]!)
theorem keepC_one (d : Array Nat) : ∀ j, j < 1 → keepC eq d j = true := by
  intro j hj
  obtain rfl : j = 0 := by omega
  simp [keepC]
theorem keepC_pos {d : Array Nat} {m : Nat} (h : eq d[m]! d[m - 1]! = false) : keepC eq d m = true := by simp [keepC, h]
theorem keepC_neg {d : Array Nat} {m : Nat} (hm : 0 < m) (h : eq d[m]! d[m - 1]! = true) : keepC eq d m = false := by
  have : m ≠ 0 := by omega
  simp [keepC, h, this]
theorem compC_succ (d : Array Nat) (m : Nat) : compC eq d (m + 1) = compC eq d m ++ (if keepC eq d m = true then [d[m]!] else []) := by
  unfold compC
  rw [List.range_succ, List.filter_append, List.map_append]
  congr 1
  by_cases h : keepC eq d m = true <;> simp [h]
theorem compC_all (d : Array Nat) (m : Nat) (h : ∀ j, j < m → keepC eq d j = true) : compC eq d m = (List.range m).map (d[·]!) := by
  unfold compC
  rw [List.filter_eq_self.2 (fun j hj => h j (List.mem_range.1 hj))]
theorem compC_whole (d : Array Nat) (h : ∀ j, j < d.size → keepC eq d j = true) : compC eq d d.size = d.toList := by
  rw [compC_all eq d _ h]
  exact range_map_get d
/-- m places have been looked at; the k that are kept lie at the head; from k on the row is as it was. -/
structure CompC (d : Array Nat) (m k : Nat) (dk : Array Nat) : Prop where
  size : dk.size = d.size
  len : (compC eq d m).length = k
  lt : k < m
  low : ∀ j, j < k → (compC eq d m)[j]? = some dk[j]!
  high : ∀ j, k ≤ j → dk[j]! = d[j]!
variable {eq}
theorem CompC.start {d : Array Nat} {k0 : Nat} (hall : ∀ j, j < k0 → keepC eq d j = true) (hdup : keepC eq d k0 = false) : CompC eq d (k0 + 1) k0 d where
  size := rfl
  len := by rw [compC_succ, hdup, compC_all eq d k0 hall]; simp
  lt := Nat.lt_succ_self _
  low := fun j hj => by rw [compC_succ, hdup, compC_all eq d k0 hall]; simp [hj]
  high := fun _ _ => rfl
theorem CompC.keep {d dk : Array Nat} {m k : Nat} (h : CompC eq d m k dk) (hm : m < d.size) (hk : keepC eq d m = true) : CompC eq d (m + 1) (k + 1) (dk.setIfInBounds k d[m]!) where
  size := by simp [h.size]
  len := by rw [compC_succ, hk]; simp [h.len]
  lt := by have := h.lt; omega
  low := fun j hj => by
    rw [compC_succ, hk, if_pos rfl]
    by_cases e : j = k
    · subst e
      rw [List.getElem?_append_right (by rw [h.len]; exact Nat.le_refl _), h.len, Nat.sub_self, Go.Sort.getElem!_set_same dk j _ (by have := h.lt; have := h.size; omega)]
      rfl
    · rw [List.getElem?_append_left (by rw [h.len]; omega), h.low j (by omega), Go.Sort.getElem!_set_other dk k j _ e]
  high := fun j hj => by rw [Go.Sort.getElem!_set_other dk k j _ (by omega), h.high j (by omega)]
theorem CompC.skip {d dk : Array Nat} {m k : Nat} (h : CompC eq d m k dk) (hk : keepC eq d m = false) : CompC eq d (m + 1) k dk where
  size := h.size
  len := by rw [compC_succ, hk]; simpa using h.len
  lt := by have := h.lt; omega
  low := fun j hj => by rw [compC_succ, hk]; simpa using h.low j hj
  high := h.high
theorem CompC.done {d dk : Array Nat} {k : Nat} (h : CompC eq d d.size k dk) (z : Nat) :
    lay dk k (List.replicate (d.size - k) z) = (compC eq d d.size ++ List.replicate (d.size - k) z).toArray := by
  have hk := h.lt
  have hs := h.size
  apply Array.ext_getElem?
  intro j
  rw [lay_get? _ _ _ _ (by simp; omega), show (compC eq d d.size ++ List.replicate (d.size - k) z).toArray[j]? = (compC eq d d.size ++ List.replicate (d.size - k) z)[j]? from List.getElem?_toArray]
  simp only [List.length_replicate]
  by_cases c : j < k
  · rw [if_neg (by omega), List.getElem?_append_left (by rw [h.len]; exact c), h.low j c, getElem!_pos dk j (by omega), Array.getElem?_eq_getElem]
  · rw [List.getElem?_append_right (by rw [h.len]; omega), h.len]
    by_cases c2 : j < d.size
    · rw [if_pos (by omega)]
    · rw [if_neg (by omega), Array.getElem?_eq_none (by omega), List.getElem?_eq_none (by simp; omega)]
end
set_option maxHeartbeats 4000000 in
set_option maxRecDepth 1000000 in
theorem compact_raw (enc : Nat → Value) (eq : Nat → Nat → Bool) (hO : OneCell enc) (zr : Nat) (hz : enc zr = .slice none 0 0) (blk off cap : Nat) (d : Array Nat) (w : World) (hH : Go.Sort.Holds enc w blk off d) (hsz : d.size ≤ 9223372036854775807) (hcap : d.size ≤ cap)
    (hcmp : ∀ (dk : Array Nat) (q : Nat) (x y : Nat), dk.size = d.size → ∀ n, Calls Tryz.prog 184 #[enc x, enc y] ((Go.Sort.putRow enc (Go.Sort.ahead w q) blk off dk).drewN n) fun e w' => e = .returned (.bool (eq x y)) ∧ ∃ qq, w' = ((Go.Sort.putRow enc (Go.Sort.ahead w q) blk off dk).drewN n).drewN qq) :
    Calls Tryz.prog 183 #[.slice (some ⟨blk, off, none⟩) d.size cap, .func (.func 184) #[] #[]] w fun e w' => e = .returned (.slice (some ⟨blk, off, none⟩) (compC eq d d.size).length cap) ∧ ∃ q, w' = Go.Sort.putRow enc (Go.Sort.ahead w q) blk off (compC eq d d.size ++ List.replicate (d.size - (compC eq d d.size).length) zr).toArray := by
  have mixed := mixedW
  have hcl0 := hO.cells
  simp only [Value.cells] at hcl0
  have hst := hO.store Tryz.prog
  have same : ∀ q, (∀ j, j < d.size → keepC eq d j = true) → (compC eq d d.size).length = d.size ∧ w.drewN q = Go.Sort.putRow enc (Go.Sort.ahead w q) blk off (compC eq d d.size ++ List.replicate (d.size - (compC eq d d.size).length) zr).toArray := by
    intro q hall
    have e : compC eq d d.size = d.toList := compC_whole eq d hall
    rw [e]
    refine ⟨by simp, ?_⟩
    simp only [Array.length_toList, Nat.sub_self, List.replicate_zero, List.append_nil, Array.toArray_toList]
    exact (Go.Sort.putRow_self enc (Go.Sort.ahead w q) blk off d (Go.Sort.holds_ahead enc w q blk off d hH)).symm
  have HS : Aside _ := same
  have HC : Aside _ := hcmp
  clear same hcmp
  by_cases h2 : d.size < 2
  · have HH : Aside (Go.Sort.Holds enc w blk off d) := hH
    clear hH
    go_enter Tryz.func183, Tryz.ntmps183
    go_wp2
    go_ret
    obtain ⟨e1, e2⟩ := HS.out 0 (fun j hj => keepC_one eq d j (by omega))
    exact ⟨by rw [e1]; rfl, 0, e2⟩
  · go_enter Tryz.func183, Tryz.ntmps183
    go_wp2
    go_loopg [5] d.size (fun g s3 wr => ∃ k q : Nat, 1 ≤ k ∧ k ≤ d.size ∧ d.size - k ≤ g ∧ s3 = .int .i64 k ∧ wr = w.drewN q ∧ ∀ j, j < k → keepC eq d j = true)
    case atStart => exact ⟨1, 0, Nat.le_refl _, by omega, by omega, rfl, rfl, keepC_one eq d⟩
    case round =>
      obtain ⟨k, q, hk1, hk, hg, rfl, rfl, hall⟩ := hrel
      by_cases hlt : k < d.size
      · obtain ⟨c1, f1⟩ := hH k hlt
        obtain ⟨c0, f0⟩ := hH (k - 1) (by omega)
        have A : Aside (∀ j, j < k → keepC eq d j = true) := hall
        have HH : Aside (Go.Sort.Holds enc w blk off d) := hH
        have hc0 := HC.out d q d[k]! d[k - 1]! rfl
        have hself : Go.Sort.putRow enc (Go.Sort.ahead w q) blk off d = w.drewN q := Go.Sort.putRow_self enc (Go.Sort.ahead w q) blk off d (Go.Sort.holds_ahead enc w q blk off d hH)
        rw [hself] at hc0
        clear hall hH hself
        generalize hx : d[k]! = x at c1 hc0
        generalize hy : d[k - 1]! = y at c0 hc0
        have B : Aside (d[k]! = x ∧ d[k - 1]! = y) := ⟨hx, hy⟩
        clear hx hy
        obtain ⟨kp, rfl⟩ : ∃ kp, k = kp + 1 := ⟨k - 1, by omega⟩
        simp only [Nat.add_sub_cancel] at c0
        have hwp : IntKind.i64.wrap (kp : Int) = (kp : Int) := by rw [IntKind.wrap_i64]; omega
        have kz : (kp : Int) + 1 < (d.size : Int) := by omega
        have kz1 : (kp : Int) < (d.size : Int) := by omega
        have p0 : (0 : Int) ≤ (kp : Int) + 1 := by omega
        have e0 : ((kp : Int) + 1).toNat = kp + 1 := by omega
        have c1' : (w.drewN q).cell? ⟨blk, off + (kp + 1), none⟩ = some (enc x) := c1
        have c0' : (w.drewN q).cell? ⟨blk, off + kp, none⟩ = some (enc y) := c0
        clear c1 c0
        generalize hwq : w.drewN q = wq at c1' c0' hc0 ⊢
        have WQ : Hid (w.drewN q = wq) := hwq
        clear hwq
        cases hdup : eq x y with
        | true =>
          rw [hdup] at hc0
          go_wp2_with fail
          go_quiet ((first | (go_at_call 184; exact Calls.quiet_of (hc0 _)) | (go_at_fn 184; exact Calls.quiet_of (hc0 _))))
          go_wp2
          have W1 : Hid (wq.drewN nq = Go.Sort.putRow enc (Go.Sort.ahead w (q + nq)) blk off d) := by
            show _ = _
            rw [← WQ.out, World.drewN_drewN]
            exact (Go.Sort.putRow_self enc (Go.Sort.ahead w (q + nq)) blk off d (Go.Sort.holds_ahead enc w (q + nq) blk off d HH.out)).symm
          clear c1' c0' f0 f1 hc0
          go_loopg [5, 7] d.size (fun g s3 s5 wr => ∃ (kk k2 q2 : Nat) (dk : Array Nat), s3 = .int .i64 kk ∧ s5 = .int .i64 ((k2 : Int) + 1) ∧ kp + 1 + (k2 + 1) ≤ d.size ∧ d.size - (kp + 1 + (k2 + 1)) ≤ g ∧ wr = Go.Sort.putRow enc (Go.Sort.ahead w q2) blk off dk ∧ CompC eq d (kp + 1 + (k2 + 1)) kk dk)
          case atStart => exact ⟨kp + 1, 0, q + nq, d, by go_num, rfl, by omega, by omega, W1.out, CompC.start A.out (keepC_neg eq (by omega) (by rw [B.out.1, Nat.add_sub_cancel, show d[kp]! = y from B.out.2]; exact hdup))⟩
          case round =>
            obtain ⟨kk, k2, q2, dk, rfl, rfl, hle, hg2, hwr, hI⟩ := hrel
            have hkk := hI.lt
            have hds := hI.size
            have hHk : Go.Sort.Holds enc wr blk off dk := by rw [hwr]; exact Go.Sort.holds_putRow enc _ blk off d dk (Go.Sort.holds_ahead enc w q2 blk off d HH.out) hds
            have W2 : Aside (wr = Go.Sort.putRow enc (Go.Sort.ahead w q2) blk off dk) := hwr
            have I2 : Aside (CompC eq d (kp + 1 + (k2 + 1)) kk dk) := hI
            by_cases hlt2 : kp + 1 + (k2 + 1) < d.size
            · obtain ⟨cm, _⟩ := hHk (kp + 1 + (k2 + 1)) (by omega)
              obtain ⟨cp, _⟩ := hHk (kp + 1 + k2) (by omega)
              obtain ⟨ck, fk⟩ := hHk kk (by omega)
              rw [hI.high (kp + 1 + (k2 + 1)) (by omega), show off + (kp + 1 + (k2 + 1)) = off + (kp + 1) + (k2 + 1) by omega] at cm
              rw [hI.high (kp + 1 + k2) (by omega), show off + (kp + 1 + k2) = off + (kp + 1) + k2 by omega] at cp
              have hc1 := HC.out dk q2 d[kp + 1 + (k2 + 1)]! d[kp + 1 + k2]! hds
              rw [← hwr] at hc1
              clear hHk hI hwr
              generalize hu : d[kp + 1 + (k2 + 1)]! = u at cm hc1
              generalize hv : d[kp + 1 + k2]! = v at cp hc1
              generalize dk[kk]! = old at ck
              have C : Aside (d[kp + 1 + (k2 + 1)]! = u ∧ d[kp + 1 + k2]! = v) := ⟨hu, hv⟩
              clear hu hv
              have hwp2 : IntKind.i64.wrap (k2 : Int) = (k2 : Int) := by rw [IntKind.wrap_i64]; omega
              have jz : (k2 : Int) + 1 < (d.size : Int) - ((kp : Int) + 1) := by omega
              have jz1 : (k2 : Int) < (d.size : Int) - ((kp : Int) + 1) := by omega
              have j0 : (0 : Int) ≤ (k2 : Int) + 1 := by omega
              have je : ((k2 : Int) + 1).toNat = k2 + 1 := by omega
              cases huv : eq u v with
              | true =>
                rw [huv] at hc1
                go_wp2_with fail
                go_quiet ((first | (go_at_call 184; exact Calls.quiet_of (hc1 _)) | (go_at_fn 184; exact Calls.quiet_of (hc1 _))))
                go_wp2
                go_roundg (d.size - (kp + 1 + (k2 + 1 + 1)))
                case measure => omega
                case rel => exact ⟨kk, k2 + 1, q2 + nq, dk, rfl, by go_num, by omega, by omega, by rw [W2.out]; exact Go.Proofs.putRow_drewN _ _ _ _ _ _ _, I2.out.skip (keepC_neg eq (by omega) (by rw [C.out.1, show kp + 1 + (k2 + 1) - 1 = kp + 1 + k2 by omega, C.out.2]; exact huv))⟩
              | false =>
                rw [huv] at hc1
                go_wp2_with fail
                go_quiet ((first | (go_at_call 184; exact Calls.quiet_of (hc1 _)) | (go_at_fn 184; exact Calls.quiet_of (hc1 _))))
                go_wp2
                go_roundg (d.size - (kp + 1 + (k2 + 1 + 1)))
                case measure => omega
                case rel =>
                  refine ⟨kk + 1, k2 + 1, q2 + nq, dk.setIfInBounds kk u, by go_num, by go_num, by omega, by omega, ?_, ?_⟩
                  · rw [W2.out, show (Go.Sort.putRow enc (Go.Sort.ahead w q2) blk off dk).drewN nq = Go.Sort.putRow enc (Go.Sort.ahead w (q2 + nq)) blk off dk from Go.Proofs.putRow_drewN _ _ _ _ _ _ _, Go.Sort.putRow_set enc _ blk off dk kk u (by omega)]
                  · have := I2.out.keep hlt2 (keepC_pos eq (by rw [C.out.1, show kp + 1 + (k2 + 1) - 1 = kp + 1 + k2 by omega, C.out.2]; exact huv))
                    rwa [C.out.1] at this
            · have hend : kp + 1 + (k2 + 1) = d.size := by omega
              have hcl : ∀ ty, (Builtin.clear_ #[105] ty #[.slice (some ⟨blk, off + kk, none⟩) (d.size - kk) (cap - kk)]).run Tryz.prog wr = .ok (.tuple #[]) (wr.setCells blk (off + kk) (List.replicate (d.size - kk) (enc zr))) :=
                fun ty => Lib.run_clear_slice wr _ _ ty _ Tryz.underlying105 (fun w => by rw [hz]; rfl) (hO.cells zr) (hO zr) blk (off + kk) _ _ (by omega) (fun j hj => by rw [show off + kk + j = off + (kk + j) by omega, (hHk (kk + j) (by omega)).1]; rfl) (fun j hj => by rw [show off + kk + j = off + (kk + j) by omega]; exact (hHk (kk + j) (by omega)).2)
              clear hHk hI hwr
              go_wp2
              go_ret
              have hI := I2.out
              rw [hend] at hI
              refine ⟨by rw [hI.len]; rfl, q2, ?_⟩
              rw [hI.len, ← hI.done zr, ← putRow_setCells enc _ blk off _ dk kk (by simp; omega), ← W2.out, List.map_replicate, hz]
        | false =>
          rw [hdup] at hc0
          go_wp2_with fail
          go_quiet ((first | (go_at_call 184; exact Calls.quiet_of (hc0 _)) | (go_at_fn 184; exact Calls.quiet_of (hc0 _))))
          go_wp2
          go_roundg (d.size - (kp + 1 + 1))
          case measure => omega
          case rel =>
            refine ⟨kp + 1 + 1, q + nq, by omega, by omega, Nat.le_refl _, by go_num, by rw [← WQ.out, World.drewN_drewN], fun j hj => ?_⟩
            by_cases e : j = kp + 1
            · subst e
              exact keepC_pos eq (by rw [B.out.1, B.out.2]; exact hdup)
            · exact A.out j (by omega)
      · obtain rfl : k = d.size := by omega
        have HH : Aside (Go.Sort.Holds enc w blk off d) := hH
        clear hH
        go_wp2
        go_ret
        obtain ⟨e1, e2⟩ := HS.out q hall
        exact ⟨by rw [e1]; rfl, q, e2⟩
end Go.Proofs.YtjlagjhmlmfjeaaGreat
