/-
  Solutions: how they read.
-/
import Derived.Test.YtcgjlddpbkponaaRats
namespace Go.Proofs.Ytcgjlddpbkponaa
open Go.ChangeShapes Go.WideShapes Go.ChangeAt Go.RowKit
structure SolutionD where
  value : RationalD
  point : List RationalD
  prices : List RationalD
def SolutionR : Rd SolutionD := fun w cs x => ∃ c0 c1 c2 c3, cs = [c0, c1, c2, c3] ∧ RationalR w [c0, c1] x.value ∧ SliceR 2 RationalR w [c2] x.point ∧ SliceR 2 RationalR w [c3] x.prices
def SolutionO : Od SolutionD := fun w F cs x => ∃ F2 F3 c0 c1 c2 c3, F = F2 ++ F3 ∧ cs = [c0, c1, c2, c3] ∧ RationalO w [] [c0, c1] x.value ∧ SliceO 35 2 RationalO w F2 [c2] x.point ∧ SliceO 35 2 RationalO w F3 [c3] x.prices
theorem mono_solution : Mono SolutionR := by
  rintro w w' cs x hk ⟨c0, c1, c2, c3, rfl, h0, h1, h2⟩
  exact ⟨c0, c1, c2, c3, rfl, mono_rational _ _ _ _ hk h0, (mono_slice mono_rational) _ _ _ _ hk h1, (mono_slice mono_rational) _ _ _ _ hk h2⟩
theorem mono_solutionO : MonoO SolutionO := by
  rintro w w' F cs x hk ⟨F2, F3, c0, c1, c2, c3, rfl, rfl, h0, h1, h2⟩
  exact ⟨F2, F3, c0, c1, c2, c3, rfl, rfl, mono_rationalO _ _ _ _ _ (fun g hg => by simp at hg) h0, (mono_sliceO mono_rationalO) _ _ _ _ _ (hk.mono fun g hg => by simp [hg]) h1, (mono_sliceO mono_rationalO) _ _ _ _ _ (hk.mono fun g hg => by simp [hg]) h2⟩
theorem reads_solution : Reads SolutionO SolutionR := by
  rintro w F cs x ⟨F2, F3, c0, c1, c2, c3, rfl, rfl, h0, h1, h2⟩
  exact ⟨c0, c1, c2, c3, rfl, reads_rational _ _ _ _ h0, (reads_slice reads_rational) _ _ _ _ h1, (reads_slice reads_rational) _ _ _ _ h2⟩
theorem inside_solution : Inside SolutionO := by
  rintro w F cs x ⟨F2, F3, c0, c1, c2, c3, rfl, rfl, h0, h1, h2⟩ g hg
  simp only [List.mem_append] at hg
  rcases hg with hg | hg
  · exact (inside_sliceO inside_rational) _ _ _ _ h1 g hg
  · exact (inside_sliceO inside_rational) _ _ _ _ h2 g hg
section
variable {H : Type} {enc : TypeId × Value → H} {w : World} {base : Nat} {spare : Nat → Bool} {held : Bool}
set_option maxRecDepth 100000 in
theorem open_solution {fuel : Nat} {cs : List Value} {x : DataW H × List MemPlace} (h : DataW.trod enc Try.prog w base spare held fuel 54 cs = some x) : ∃ b, SolutionR w cs b := by
  obtain ⟨xs, n, _, _, hl, hxl, hf⟩ := DataW.trod_struct Try.underlying54 h
  have hl2 : cs.length = 4 := hl.trans (by kernel_rfl)
  match cs, hl2 with
  | [c0, c1, c2, c3], _ =>
    match xs, hxl with
    | [y0, y1, y2], _ =>
      obtain ⟨l0, r0⟩ := open_rational (hf 0 _ rfl)
      obtain ⟨l1, r1⟩ := open_RationalS (hf 1 _ rfl)
      obtain ⟨l2, r2⟩ := open_RationalS (hf 2 _ rfl)
      exact ⟨⟨l0, l1, l2⟩, c0, c1, c2, c3, rfl, r0, r1, r2⟩
end
theorem solution_form {w : World} {F : List Nat} {cs : Array Value} {x : SolutionD} (h : SolutionO w F cs.toList x) : ∃ a1 k1 a2 k2, cs = #[.int .i64 x.value.num, .int .i64 x.value.den, .slice a1 x.point.length k1, .slice a2 x.prices.length k2] := by
  obtain ⟨F2, F3, c0, c1, c2, c3, _, hcs, h0, h1, h2⟩ := h
  obtain ⟨l⟩ := cs
  simp only at hcs
  subst hcs
  have z0 := rational_form (cs := #[c0, c1]) h0
  simp at z0
  obtain ⟨rfl, rfl⟩ := z0
  obtain ⟨a1, k1, z1⟩ := slice_shape h1
  subst z1
  obtain ⟨a2, k2, z2⟩ := slice_shape h2
  subst z2
  exact ⟨a1, k1, a2, k2, rfl⟩
theorem solution_cells {w : World} {cs : Array Value} {x : SolutionD} (h : SolutionR w cs.toList x) : ∃ c0 c1 c2 c3, cs = #[c0, c1, c2, c3] ∧ SolutionR w [c0, c1, c2, c3] x := by
  obtain ⟨c0, c1, c2, c3, hcs, h0, h1, h2⟩ := h
  obtain ⟨l⟩ := cs
  simp only at hcs
  subst hcs
  exact ⟨_, _, _, _, rfl, c0, c1, c2, c3, rfl, h0, h1, h2⟩
def SolutionD.count (x : SolutionD) : Nat := x.point.length + x.prices.length
end Go.Proofs.Ytcgjlddpbkponaa
