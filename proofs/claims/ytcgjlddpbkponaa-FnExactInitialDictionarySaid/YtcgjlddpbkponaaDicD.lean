/-
  Dictionaries: how they read.
-/
import Derived.Test.YtcgjlddpbkponaaRats
import Derived.Test.YtcgjlddpbkponaaIntRows
namespace Go.Proofs.Ytcgjlddpbkponaa
open Go.ChangeShapes Go.WideShapes Go.ChangeAt Go.RowKit
structure DictionaryD where
  basic : List Int
  others : List Int
  table : List (List RationalD)
  consts : List RationalD
  costs : List RationalD
  value : RationalD
def DictionaryR : Rd DictionaryD := fun w cs x => ∃ c0 c1 c2 c3 c4 c5 c6, cs = [c0, c1, c2, c3, c4, c5, c6] ∧ SliceR 1 IntR w [c0] x.basic ∧ SliceR 1 IntR w [c1] x.others ∧ SliceR 1 (SliceR 2 RationalR) w [c2] x.table ∧ SliceR 2 RationalR w [c3] x.consts ∧ SliceR 2 RationalR w [c4] x.costs ∧ RationalR w [c5, c6] x.value
def DictionaryO : Od DictionaryD := fun w F cs x => ∃ F0 F1 F2 F3 F4 c0 c1 c2 c3 c4 c5 c6, F = F0 ++ (F1 ++ (F2 ++ (F3 ++ F4))) ∧ cs = [c0, c1, c2, c3, c4, c5, c6] ∧ IntsO w F0 [c0] x.basic ∧ IntsO w F1 [c1] x.others ∧ SliceO 38 1 (SliceO 35 2 RationalO) w F2 [c2] x.table ∧ SliceO 35 2 RationalO w F3 [c3] x.consts ∧ SliceO 35 2 RationalO w F4 [c4] x.costs ∧ RationalO w [] [c5, c6] x.value
theorem mono_dictionary : Mono DictionaryR := by
  rintro w w' cs x hk ⟨c0, c1, c2, c3, c4, c5, c6, rfl, h0, h1, h2, h3, h4, h5⟩
  exact ⟨c0, c1, c2, c3, c4, c5, c6, rfl, (mono_slice mono_int) _ _ _ _ hk h0, (mono_slice mono_int) _ _ _ _ hk h1, (mono_slice (mono_slice mono_rational)) _ _ _ _ hk h2, (mono_slice mono_rational) _ _ _ _ hk h3, (mono_slice mono_rational) _ _ _ _ hk h4, mono_rational _ _ _ _ hk h5⟩
theorem mono_dictionaryO : MonoO DictionaryO := by
  rintro w w' F cs x hk ⟨F0, F1, F2, F3, F4, c0, c1, c2, c3, c4, c5, c6, rfl, rfl, h0, h1, h2, h3, h4, h5⟩
  exact ⟨F0, F1, F2, F3, F4, c0, c1, c2, c3, c4, c5, c6, rfl, rfl, mono_intsO _ _ _ _ _ (hk.mono fun g hg => by simp [hg]) h0, mono_intsO _ _ _ _ _ (hk.mono fun g hg => by simp [hg]) h1, (mono_sliceO (mono_sliceO mono_rationalO)) _ _ _ _ _ (hk.mono fun g hg => by simp [hg]) h2, (mono_sliceO mono_rationalO) _ _ _ _ _ (hk.mono fun g hg => by simp [hg]) h3, (mono_sliceO mono_rationalO) _ _ _ _ _ (hk.mono fun g hg => by simp [hg]) h4, mono_rationalO _ _ _ _ _ (fun g hg => by simp at hg) h5⟩
theorem reads_dictionary : Reads DictionaryO DictionaryR := by
  rintro w F cs x ⟨F0, F1, F2, F3, F4, c0, c1, c2, c3, c4, c5, c6, rfl, rfl, h0, h1, h2, h3, h4, h5⟩
  exact ⟨c0, c1, c2, c3, c4, c5, c6, rfl, reads_ints _ _ _ _ h0, reads_ints _ _ _ _ h1, (reads_slice (reads_slice reads_rational)) _ _ _ _ h2, (reads_slice reads_rational) _ _ _ _ h3, (reads_slice reads_rational) _ _ _ _ h4, reads_rational _ _ _ _ h5⟩
theorem inside_dictionary : Inside DictionaryO := by
  rintro w F cs x ⟨F0, F1, F2, F3, F4, c0, c1, c2, c3, c4, c5, c6, rfl, rfl, h0, h1, h2, h3, h4, h5⟩ g hg
  simp only [List.mem_append] at hg
  rcases hg with hg | hg | hg | hg | hg
  · exact inside_intsO _ _ _ _ h0 g hg
  · exact inside_intsO _ _ _ _ h1 g hg
  · exact (inside_sliceO (inside_sliceO inside_rational)) _ _ _ _ h2 g hg
  · exact (inside_sliceO inside_rational) _ _ _ _ h3 g hg
  · exact (inside_sliceO inside_rational) _ _ _ _ h4 g hg
section
variable {H : Type} {enc : TypeId × Value → H} {w : World} {base : Nat} {spare : Nat → Bool} {held : Bool}
set_option maxRecDepth 100000 in
theorem open_dictionary {fuel : Nat} {cs : List Value} {x : DataW H × List MemPlace} (h : DataW.trod enc Try.prog w base spare held fuel 64 cs = some x) : ∃ b, DictionaryR w cs b := by
  obtain ⟨xs, n, _, _, hl, hxl, hf⟩ := DataW.trod_struct Try.underlying64 h
  have hl2 : cs.length = 7 := hl.trans (by kernel_rfl)
  match cs, hl2 with
  | [c0, c1, c2, c3, c4, c5, c6], _ =>
    match xs, hxl with
    | [y0, y1, y2, y3, y4, y5], _ =>
      obtain ⟨l0, r0⟩ := open_ints (hf 0 _ rfl)
      obtain ⟨l1, r1⟩ := open_ints (hf 1 _ rfl)
      obtain ⟨l2, r2⟩ := open_RationalSS (hf 2 _ rfl)
      obtain ⟨l3, r3⟩ := open_RationalS (hf 3 _ rfl)
      obtain ⟨l4, r4⟩ := open_RationalS (hf 4 _ rfl)
      obtain ⟨l5, r5⟩ := open_rational (hf 5 _ rfl)
      exact ⟨⟨l0, l1, l2, l3, l4, l5⟩, c0, c1, c2, c3, c4, c5, c6, rfl, r0, r1, r2, r3, r4, r5⟩
end
theorem dictionary_form {w : World} {F : List Nat} {cs : Array Value} {x : DictionaryD} (h : DictionaryO w F cs.toList x) : ∃ a0 k0 a1 k1 a2 k2 a3 k3 a4 k4, cs = #[.slice a0 x.basic.length k0, .slice a1 x.others.length k1, .slice a2 x.table.length k2, .slice a3 x.consts.length k3, .slice a4 x.costs.length k4, .int .i64 x.value.num, .int .i64 x.value.den] := by
  obtain ⟨F0, F1, F2, F3, F4, c0, c1, c2, c3, c4, c5, c6, _, hcs, h0, h1, h2, h3, h4, h5⟩ := h
  obtain ⟨l⟩ := cs
  simp only at hcs
  subst hcs
  obtain ⟨a0, k0, z0⟩ := ints_shape h0
  subst z0
  obtain ⟨a1, k1, z1⟩ := ints_shape h1
  subst z1
  obtain ⟨a2, k2, z2⟩ := slice_shape h2
  subst z2
  obtain ⟨a3, k3, z3⟩ := slice_shape h3
  subst z3
  obtain ⟨a4, k4, z4⟩ := slice_shape h4
  subst z4
  have z5 := rational_form (cs := #[c5, c6]) h5
  simp at z5
  obtain ⟨rfl, rfl⟩ := z5
  exact ⟨a0, k0, a1, k1, a2, k2, a3, k3, a4, k4, rfl⟩
theorem dictionary_cells {w : World} {cs : Array Value} {x : DictionaryD} (h : DictionaryR w cs.toList x) : ∃ c0 c1 c2 c3 c4 c5 c6, cs = #[c0, c1, c2, c3, c4, c5, c6] ∧ DictionaryR w [c0, c1, c2, c3, c4, c5, c6] x := by
  obtain ⟨c0, c1, c2, c3, c4, c5, c6, hcs, h0, h1, h2, h3, h4, h5⟩ := h
  obtain ⟨l⟩ := cs
  simp only at hcs
  subst hcs
  exact ⟨_, _, _, _, _, _, _, rfl, c0, c1, c2, c3, c4, c5, c6, rfl, h0, h1, h2, h3, h4, h5⟩
def DictionaryD.count (x : DictionaryD) : Nat := x.basic.length + x.others.length + cntL List.length x.table + x.consts.length + x.costs.length
end Go.Proofs.Ytcgjlddpbkponaa
