/-
  Rationals: how they read; copying, comparing.
-/
import Derived.Test.YtcgjlddpbkponaaShapes
namespace Go.Proofs.Ytcgjlddpbkponaa
open Go.ChangeShapes Go.WideShapes Go.ChangeAt Go.RowKit
structure RationalD where
  num : Int
  den : Int
def RationalR : Rd RationalD := fun _ cs x => cs = [.int .i64 x.num, .int .i64 x.den] ∧ Fits x.num ∧ Fits x.den
def RationalO : Od RationalD := fun _ F cs x => F = [] ∧ cs = [.int .i64 x.num, .int .i64 x.den] ∧ Fits x.num ∧ Fits x.den
theorem mono_rational : Mono RationalR := fun _ _ _ _ _ h => h
theorem mono_rationalO : MonoO RationalO := fun _ _ _ _ _ _ h => h
theorem reads_rational : Reads RationalO RationalR := fun _ _ _ _ h => h.2
theorem inside_rational : Inside RationalO := by
  rintro w F cs x h g hg
  obtain ⟨rfl, _, _, _⟩ := h
  simp at hg
section
variable {H : Type} {enc : TypeId × Value → H} {w : World} {base : Nat} {spare : Nat → Bool} {held : Bool}
set_option maxRecDepth 100000 in
theorem open_rational {fuel : Nat} {cs : List Value} {x : DataW H × List MemPlace} (h : DataW.trod enc Try.prog w base spare held fuel 52 cs = some x) : ∃ b, RationalR w cs b := by
  obtain ⟨xs, n, _, _, hl, hxl, hf⟩ := DataW.trod_struct Try.underlying52 h
  have hl2 : cs.length = 2 := hl.trans (by kernel_rfl)
  match cs, hl2 with
  | [c0, c1], _ =>
    match xs, hxl with
    | [y0, y1], _ =>
      obtain ⟨l0, r0⟩ := trod_int Try.underlying3 (hf 0 _ rfl)
      obtain ⟨l1, r1⟩ := trod_int Try.underlying3 (hf 1 _ rfl)
      obtain ⟨q0, p0⟩ := r0
      obtain ⟨q1, p1⟩ := r1
      have z0 : c0 = .int .i64 l0 := by have q : [c0] = [.int .i64 l0] := q0; simpa using q
      have z1 : c1 = .int .i64 l1 := by have q : [c1] = [.int .i64 l1] := q1; simpa using q
      subst z0 z1
      exact ⟨⟨l0, l1⟩, rfl, p0, p1⟩
end
theorem rational_form {w : World} {F : List Nat} {cs : Array Value} {x : RationalD} (h : RationalO w F cs.toList x) : cs = #[.int .i64 x.num, .int .i64 x.den] := by
  obtain ⟨_, hcs, _, _⟩ := h
  obtain ⟨l⟩ := cs
  simp only at hcs
  subst hcs
  rfl
theorem rational_cells {w : World} {cs : Array Value} {x : RationalD} (h : RationalR w cs.toList x) : ∃ c0 c1, cs = #[c0, c1] ∧ RationalR w [c0, c1] x := by
  obtain ⟨hcs, e0, e1⟩ := h
  obtain ⟨l⟩ := cs
  simp only at hcs
  subst hcs
  exact ⟨_, _, rfl, rfl, e0, e1⟩
set_option maxRecDepth 100000 in
set_option maxHeartbeats 1600000 in
theorem toRational_new (c0 c1 : Value) (x : RationalD) (w : World) (h : RationalR w [c0, c1] x) : Calls Try.prog 66 #[.agg #[c0, c1]] w (NewA RationalO w x) := by
  obtain ⟨hcs, h_e0, h_e1⟩ := h
  simp only [List.cons.injEq, and_true] at hcs
  obtain ⟨rfl, rfl⟩ := hcs
  go_enter Try.func66, Try.ntmps66
  go_wp2_with fail
  exact bodyPost_ret (v := .agg #[.int .i64 x.num, .int .i64 x.den]) (by simp [results, Try.results66, go_sem]) rfl ⟨[], _, rfl, ⟨rfl, rfl, h_e0, h_e1⟩, by simp, by simp, (((Below.refl _ _).alloc (Nat.le_refl _) _).alloc (by simp) _).alloc (by simp; omega) _⟩
set_option maxRecDepth 100000 in
set_option maxHeartbeats 1600000 in
theorem eqRational_self (c0 c1 d0 d1 : Value) (x : RationalD) (w : World) (h : RationalR w [c0, c1] x) (g : RationalR w [d0, d1] x) : Calls Try.prog 24 #[.agg #[c0, c1], .agg #[d0, d1]] w fun e w' => e = .returned (.bool true) ∧ Below w.heap.size w w' := by
  obtain ⟨hcs, h_e0, h_e1⟩ := h
  simp only [List.cons.injEq, and_true] at hcs
  obtain ⟨rfl, rfl⟩ := hcs
  obtain ⟨hcs, g_e0, g_e1⟩ := g
  simp only [List.cons.injEq, and_true] at hcs
  obtain ⟨rfl, rfl⟩ := hcs
  go_enter Try.func24, Try.ntmps24
  go_wp2_with fail
  go_ret
  exact ⟨rfl, ((Below.refl _ _).alloc (Nat.le_refl _) _).alloc (by simp) _⟩
def encRational (x : RationalD) : List Value := [.int .i64 x.num, .int .i64 x.den]
def fitRational (x : RationalD) : Prop := Fits x.num ∧ Fits x.den
theorem plainRational : ∀ w F cs x, RationalO w F cs x ↔ F = [] ∧ cs = encRational x ∧ fitRational x := fun _ _ _ _ => Iff.rfl
theorem encRational_len : ∀ x, (encRational x).length = 2 := fun _ => rfl
end Go.Proofs.Ytcgjlddpbkponaa
