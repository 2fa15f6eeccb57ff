/-
  Rows in order: the library's comparison, world for world.
-/
import Derived.Test.YtjlagjhmlmfjeaaGreatFb
import Derived.IntWalk
import Derived.Deep.RegionHeld3
import Derived.BigRegion
import Derived.Deep.LoopGhost
namespace Go.Proofs.YtjlagjhmlmfjeaaGreat
open Go.ChangeShapes Go.WideShapes Go.ChangeAt Go.RowKit
set_option linter.unusedVariables false
set_option linter.unusedSimpArgs false
theorem nan_raw (x : Int) (w : World) : Calls Tryz.prog 232 #[.int .i64 x] w fun e w' => e = .returned (.bool false) ∧ w' = w := by
  go_enter Tryz.func232, Tryz.ntmps232
  go_wp2
  go_ret
  exact ⟨by simp, rfl⟩
theorem cmpI_raw (x y : Int) (w : World) : Calls Tryz.prog 226 #[.int .i64 x, .int .i64 y] w fun e w' => e = .returned (.int .i64 (cmpI x y)) ∧ w' = w := by
  go_enter Tryz.func226, Tryz.ntmps226
  go_wp2_with (go_at_call 232; refine (nan_raw _ _).mono ?_; rintro e w' ⟨rfl, hw⟩; rw [hw])
  all_goals (go_ret; refine ⟨?_, rfl⟩; unfold cmpI; (repeat' split) <;> first | rfl | (exfalso; omega))
/-- What a slice of numbers reads as. -/
def RowV (w : World) (a : Option Addr) (l : List Int) : Prop := ∀ j x, l[j]? = some x → ∃ b o, a = some ⟨b, o, none⟩ ∧ w.cell? ⟨b, o + j, none⟩ = some (.int .i64 x)
set_option maxHeartbeats 1000000 in
theorem compare_raw (a1 a2 : Option Addr) (c1 c2 : Nat) (l m : List Int) (w : World) (hl : l.length ≤ 9223372036854775807) (hm : m.length ≤ 9223372036854775807) (h1 : RowV w a1 l) (h2 : RowV w a2 m) :
    Calls Tryz.prog 199 #[.slice a1 l.length c1, .slice a2 m.length c2] w fun e w' => e = .returned (.int .i64 (cmpR l m)) ∧ w' = w := by
  have H1 := Lib.hid h1
  have H2 := Lib.hid h2
  clear h1 h2
  go_enter Tryz.func199, Tryz.ntmps199
  go_wp2
  go_loop [5, 6, 7, 8, 11] (fun _ _ _ _ s => ∃ k : Nat, s = .int .i64 k ∧ k ≤ l.length ∧ k ≤ m.length ∧ cmpR (l.drop k) (m.drop k) = cmpR l m) (fun _ _ _ _ s => l.length - (intOf s).toNat)
  case atStart => exact ⟨0, rfl, Nat.zero_le _, Nat.zero_le _, rfl⟩
  case round =>
    obtain ⟨k, rfl, hk, hk2, hv⟩ := hrel
    have HV := Lib.hid hv
    clear hv
    by_cases hlt : k < l.length
    · obtain ⟨x, hx⟩ := at_some hlt
      obtain ⟨b1, o1, rfl, g1⟩ := H1.out k x hx
      by_cases hlt2 : k < m.length
      · obtain ⟨y, hy⟩ := at_some hlt2
        obtain ⟨b2, o2, rfl, g2⟩ := H2.out k y hy
        have HD := Lib.hid (show cmpR l m = if cmpI x y = 0 then cmpR (l.drop (k + 1)) (m.drop (k + 1)) else cmpI x y by rw [← HV.out, drop_at hx, drop_at hy, cmpR_cons])
        by_cases hc : cmpI x y = 0
        · have HC := Lib.hid hc
          clear hc
          go_wp2_with (go_at_call 226; refine (cmpI_raw _ _ _).mono ?_; rintro e w' ⟨rfl, hw⟩; rw [hw, HC.out])
          exact ⟨⟨k + 1, by simp, by omega, by omega, by rw [HD.out, if_pos HC.out]⟩, by simp [intOf]; omega⟩
        · have HC := Lib.hid hc
          have hcb : (cmpI x y != 0) = true := by simpa using hc
          clear hc
          go_wp2_with (go_at_call 226; refine (cmpI_raw _ _ _).mono ?_; rintro e w' ⟨rfl, hw⟩; rw [hw])
          go_ret
          refine ⟨?_, rfl⟩
          rw [HD.out, if_neg HC.out]; rfl
      · have hge : m.length ≤ k := by omega
        have HE := Lib.hid (cmpR_stop (l := l) (m := m) (k := k) ⟨hk, hk2⟩ (.inr hlt2))
        go_wp2
        go_ret
        refine ⟨?_, rfl⟩
        rw [← HV.out, HE.out, if_neg (by omega), if_pos (by omega)]; rfl
    · have HE := Lib.hid (cmpR_stop (l := l) (m := m) (k := k) ⟨hk, hk2⟩ (.inl hlt))
      by_cases hlm : l.length < m.length
      · go_wp2
        go_ret
        refine ⟨?_, rfl⟩
        rw [← HV.out, HE.out, if_pos hlm]; rfl
      · go_wp2
        go_ret
        refine ⟨?_, rfl⟩
        rw [← HV.out, HE.out, if_neg hlm, if_neg (by omega)]; rfl
theorem rows_raw (a1 a2 : Option Addr) (c1 c2 : Nat) (l m : List Int) (w : World) (hl : l.length ≤ 9223372036854775807) (hm : m.length ≤ 9223372036854775807) (h1 : RowV w a1 l) (h2 : RowV w a2 m) :
    Calls Tryz.prog 182 #[.slice a1 l.length c1, .slice a2 m.length c2] w fun e w' => e = .returned (.int .i64 (cmpR l m)) ∧ w' = w := by
  have HC := Lib.hid (compare_raw a1 a2 c1 c2 l m w hl hm h1 h2)
  clear h1 h2
  go_enter Tryz.func182, Tryz.ntmps182
  go_wp2_with (go_at_call 199; refine HC.out.mono ?_; rintro e w' ⟨rfl, hw⟩; rw [hw])
  go_ret
  exact ⟨rfl, rfl⟩
end Go.Proofs.YtjlagjhmlmfjeaaGreat
