/-
  Equal rows: the library's comparison, world for world.
-/
import Derived.Test.YtjlagjhmlmfjeaaGreatSo
import Derived.Shelf.RegionOpenPlain
import Derived.Deep.Draws
namespace Go.Proofs.YtjlagjhmlmfjeaaGreat
open Go.ChangeShapes Go.WideShapes Go.ChangeAt Go.RowKit
set_option linter.unusedVariables false
set_option linter.unusedSimpArgs false
theorem eq_stop {l m : List Int} {k : Nat} {x y : Int} (hx : l[k]? = some x) (hy : m[k]? = some y) (h : (x == y) = false) : decide (l = m) = false := by
  rw [decide_eq_false_iff_not]
  rintro rfl
  rw [hx] at hy
  injection hy with hy
  subst hy
  simp at h
set_option maxHeartbeats 1000000 in
theorem equal_raw (a1 a2 : Option Addr) (c1 c2 : Nat) (l m : List Int) (w : World) (hl : l.length ≤ 9223372036854775807) (hm : m.length ≤ 9223372036854775807) (h1 : RowV w a1 l) (h2 : RowV w a2 m) :
    Calls Tryz.prog 180 #[.slice a1 l.length c1, .slice a2 m.length c2] w fun e w' => e = .returned (.bool (decide (l = m))) ∧ ∃ q, w' = w.drewN q := by
  have mixed := mixedW
  have H1 := Lib.hid h1
  have H2 := Lib.hid h2
  clear h1 h2
  by_cases hlm : l.length = m.length
  · have HL := Lib.hid hlm
    go_enter Tryz.func180, Tryz.ntmps180
    go_wp2
    go_loopg [13] l.length (fun g s wr => ∃ k q : Nat, k ≤ l.length ∧ l.length - k ≤ g ∧ s = .int .i64 k ∧ wr = w.drewN q ∧ Aside (l.take k = m.take k))
    case atStart => exact ⟨0, 0, Nat.zero_le _, by omega, rfl, rfl, rfl⟩
    case round =>
      obtain ⟨k, q, hk, hg, rfl, rfl, A⟩ := hrel
      by_cases hlt : k < l.length
      · obtain ⟨x, hx⟩ := at_some hlt
        obtain ⟨b1, o1, rfl, g1⟩ := H1.out k x hx
        obtain ⟨y, hy⟩ := at_some (l := m) (k := k) (by omega)
        obtain ⟨b2, o2, rfl, g2⟩ := H2.out k y hy
        have HX := Lib.hid hx
        have HY := Lib.hid hy
        clear hx hy
        cases hxy : (x == y) with
        | true =>
          have hne : (x != y) = false := by rw [bne, hxy]; rfl
          go_wp2_with fail
          go_region_o
          go_wp2
          go_roundg (l.length - (k + 1))
          case measure => omega
          case rel => exact ⟨k + 1, q + 1, by omega, by omega, by go_num, rfl, (show Aside _ from take_same HX.out (by rw [HY.out, show x = y by simpa using hxy]) A.out)⟩
        | false =>
          have hne : (x != y) = true := by rw [bne, hxy]; rfl
          go_wp2_with fail
          go_region_o
          go_wp2
          go_ret
          refine ⟨?_, q + 1, rfl⟩
          rw [eq_stop HX.out HY.out hxy]
          rfl
      · go_wp2
        go_ret
        refine ⟨?_, q, rfl⟩
        rw [decide_eq_true (same_take (by omega) HL.out A.out)]
        rfl
  · have hnm : ¬ (l.length : Int) = (m.length : Int) := by omega
    go_enter Tryz.func180, Tryz.ntmps180
    go_wp2
    go_ret
    refine ⟨?_, 0, rfl⟩
    rw [decide_eq_false (ne_len hnm)]
    rfl
theorem eqc_raw (a1 a2 : Option Addr) (c1 c2 : Nat) (l m : List Int) (w : World) (hl : l.length ≤ 9223372036854775807) (hm : m.length ≤ 9223372036854775807) (h1 : RowV w a1 l) (h2 : RowV w a2 m) :
    Calls Tryz.prog 184 #[.slice a1 l.length c1, .slice a2 m.length c2] w fun e w' => e = .returned (.bool (decide (l = m))) ∧ ∃ q, w' = w.drewN q := by
  have HC := Lib.hid (equal_raw a1 a2 c1 c2 l m w hl hm h1 h2)
  clear h1 h2
  go_enter Tryz.func184, Tryz.ntmps184
  go_wp2_with (go_at_call 180; refine HC.out.mono ?_; rintro e w' ⟨rfl, q, hw⟩; rw [hw])
  go_ret
  exact ⟨rfl, _, rfl⟩
end Go.Proofs.YtjlagjhmlmfjeaaGreat
