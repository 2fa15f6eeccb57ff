/-
  slices.Clone of rationals: a contract.
-/
import Derived.Shelf.SlicesE.Clone
import Derived.Ground.SlgnProg
import Derived.Test.YtepphdhnkaiamaaDa
namespace Go.Proofs
open Go.Shelf
namespace Ytepphdhnkaiamaa
def Try.cloneRats_ren : Go.Shelf.Ren := ⟨fun | 41 => 82 | n => n, fun | 22 => 31 | 23 => 30 | 4 => 4 | n => n, fun | n => n⟩
theorem Try.cloneRats : Go.Proofs.SlLaysE0.n41 Try.prog Try.cloneRats_ren := {
  mixed := by kernel_rfl
  f41 := ⟨Try.f82.name, by decide, Try.func82.trans (congrArg some (by kernel_rfl))⟩
  t4 := Try.underlying4
  a4 := Try.isAgg4
  z4 := Try.sizeOf4
  v4 := Try.zeroValue4
  t22 := Try.underlying31
  a22 := Try.isAgg31
  z22 := Try.sizeOf31
  v22 := Try.zeroValue31 }
end Ytepphdhnkaiamaa
end Go.Proofs
namespace Go.Proofs.Ytepphdhnkaiamaa
open Go.ChangeShapes Go.WideShapes Go.ChangeAt Go.RowKit
set_option linter.unusedVariables false
section
variable {P : Program}
theorem con_newSl {f : FuncId} {args : List Ar} {e k : Nat} {xs : List (List Dat)} (hc : callable P f = true) (h : ∀ A w (vs : Array Value), (∀ b, A b → b < w.heap.size) → ArsRd A w args vs.toList → Calls P f vs w (fun en w' => ∃ (v : Value) (F : List Nat), en = .returned v ∧ OwV w' (.sl e k xs) v F ∧ F.Nodup ∧ (∀ g ∈ F, w.heap.size ≤ g) ∧ Below w.heap.size w w' ∧ ∀ g ∈ F, g < w'.heap.size)) :
    Con P f args (.own 0) [(0, .arr e k true xs)] := by
  refine ⟨hc, fun A w vs hA ha => (h A w vs hA ha).mono fun en w' ⟨v, F, he, ho, hn, hg, hb, hlt⟩ => ?_⟩
  unfold OwV at ho
  obtain ⟨css, Fs, r1, r2, r3⟩ := ho
  have hpl : (⟨v, v.ownBlock.toList, Fs.flatten⟩ : Pl).F = F := by unfold Pl.F; exact r2.symm
  refine ⟨v, fun _ => False, fun x => if x = 0 then some ⟨v, v.ownBlock.toList, Fs.flatten⟩ else none, he, hb, by simp, by simp, fun x r hx => ?_, fun x hx => ?_, fun x x' pl pl' hne hx hx' g hg hg' => ?_, fun x pl hx => ?_, fun x pl hx g hg' => ?_, ?_⟩
  · simp only [findH] at hx
    split at hx
    · rename_i e1
      injection hx with hx
      subst hx
      exact ⟨_, if_pos e1, ⟨css, Fs, r1, rfl, rfl, r3⟩⟩
    · cases hx
  · simp only [findH] at hx
    split at hx
    · cases hx
    · rename_i e1; exact if_neg e1
  · simp only at hx hx'
    split at hx
    · split at hx'
      · subst_vars; exact hne rfl
      · cases hx'
    · cases hx
  · simp only at hx
    split at hx
    · injection hx with hx
      subst hx
      rw [hpl]; exact hn
    · cases hx
  · simp only at hx
    split at hx
    · injection hx with hx
      subst hx
      rw [hpl] at hg'
      exact ⟨hg g hg', hlt g hg'⟩
    · cases hx
  · unfold MatchV
    intro pl hp
    simp only [if_true, Option.some.injEq] at hp
    subst hp; rfl
end
def ratC (x : RationalD) : List Value := [.int .i64 x.num, .int .i64 x.den]
theorem rdRows_rats {K : Nat → Prop} {w : World} : ∀ {l : List RationalD} {css : List (List Value)}, RdRows K w 2 (l.map eRational) css → css = l.map ratC
  | [], css, h => h
  | x :: l, css, ⟨c, css', e, h1, h2, h3⟩ => by
    subst e
    obtain ⟨v, vs, e1, m1, v2, vs2, e2, m2, m3⟩ := h2
    unfold RdV at m1 m2
    rw [rdRows_rats h3, e1, e2, m1, m2, show vs2 = [] from m3]; rfl
theorem owRs_rats {w : World} : ∀ (l : List RationalD), OwRs w 2 (l.map eRational) (l.map ratC) (l.map fun _ => [])
  | [] => by unfold OwRs; exact ⟨rfl, rfl⟩
  | x :: l => by
    rw [List.map_cons, List.map_cons, List.map_cons]
    unfold OwRs
    refine ⟨_, _, _, _, rfl, rfl, rfl, ?_, owRs_rats l⟩
    have h1 : OwV w (.int .i64 x.num) (.int .i64 x.num) [] := by unfold OwV; exact ⟨rfl, rfl⟩
    have h2 : OwV w (.int .i64 x.den) (.int .i64 x.den) [] := by unfold OwV; exact ⟨rfl, rfl⟩
    exact owCs_cons (F1 := []) (F2 := []) h1 (owCs_cons (F1 := []) (F2 := []) h2 owCs_nil)
theorem ratC_len : ∀ l : List RationalD, (l.map ratC).flatten.length = l.length * 2
  | [] => rfl
  | x :: l => by simp only [List.map_cons, List.flatten_cons, List.length_append, List.length_cons, ratC_len l, ratC, List.length_nil]; omega
theorem con_cloneR (l : List RationalD) (h0 : 0 < l.length) (hl : l.length ≤ 1048576) : Con Try.prog 82 [.one (.sl 30 2 (l.map eRational))] (.own 0) [(0, .arr 30 2 true (l.map eRational))] :=
  con_newSl (by kernel_rfl) fun A w vs hA ha => by
    obtain ⟨v, vs', e, hv, hv2⟩ := ha
    simp only [ArRd] at hv
    unfold RdV at hv
    obtain ⟨a, c, rfl, h1, h2, h3⟩ := hv
    obtain ⟨css, hr, hne⟩ := RdRs.vals h3
    obtain ⟨b, off, rfl, hcell⟩ := hne (by intro q; rw [List.map_eq_nil_iff] at q; rw [q] at h0; exact absurd h0 (Nat.lt_irrefl 0))
    have ev : vs = #[.slice (some ⟨b, off, none⟩) (l.map eRational).length c] := by apply Array.ext'; rw [e, show vs' = [] from hv2]
    have hcs := rdRows_rats hr
    have hone := rdRows_one hr
    have hlen : css.flatten.length = (l.map eRational).length * 2 := by
      rw [hcs, ratC_len, List.length_map]
    rw [ev]
    have hT : tyOf Try.prog 30 = some (true, 2, 16, .agg #[.int .i64 0, .int .i64 0]) := by kernel_rfl
    have hI := tyOf_spec hT w
    refine (AnyE.slices_Clone Try.cloneRats _ _ 2 16 hI.2.2.2.2.2.1 hI.2.2.2.2.2.2.2 hI.2.2.2.2.2.2.1 hI.2.2.2.2.1 rfl (by omega) (fun w => (tyOf_spec hT w).2.1) b off _ c css.flatten w hlen (by simp [maxLen]; omega) (by simp; omega) (fun j u hj => by have := hcell j u hj; rwa [Nat.add_zero] at this) hone).mono fun e w' ⟨v', he, ho, _, hb⟩ => ?_
    refine ⟨v', v'.ownBlock.toList, he, ?_, ?_, fun g hg => (owns_lt ho g hg).1, hb, fun g hg => (owns_lt ho g hg).2⟩
    · unfold OwV
      refine ⟨css, l.map fun _ => [], owns_base ho (fun g hg => Nat.zero_le g), ?_, ?_⟩
      · simp
      · rw [hcs]; exact owRs_rats l
    · cases v'.ownBlock <;> simp
end Go.Proofs.Ytepphdhnkaiamaa
