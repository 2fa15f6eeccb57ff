/-
  Pivots: the reckoner's steps.
-/
import Derived.Test.YtepphdhnkaiamaaLXj
import Derived.Test.YtepphdhnkaiamaaCr
namespace Go.Proofs.Ytepphdhnkaiamaa
open Go.ChangeShapes Go.WideShapes Go.ChangeAt Go.RowKit
set_option linter.unusedVariables false
set_option linter.unusedSimpArgs false
set_option maxRecDepth 100000
set_option maxHeartbeats 4000000
theorem or_not (b : Bool) : (true || b) = true := rfl

abbrev k_rdiv (f : Bool) (a : RationalD) (b : RationalD) : List AV × List (Nat × Rs) × AV × List (Nat × Rs) := ([.ptr 0 0, .agg [vI a.num, vI a.den], .agg [vI b.num, vI b.den]], [(0, .box 87 [vB f])], .agg [vI (((divR a b).1).num), vI (((divR a b).1).den)], [(0, .box 87 [vB (f || !(divR a b).2)])])
abbrev K_rdiv (f : Bool) (a : RationalD) (b : RationalD) : Prop := Con2 Try.prog 83 (k_rdiv f a b).1 (k_rdiv f a b).2.1 (k_rdiv f a b).2.2.1 (k_rdiv f a b).2.2.2
theorem rdiv (f : Bool) (a b : RationalD) : K_rdiv f a b := by
 refine con2_y tbOk mixedW Try.func83 (by kernel_rfl) (by kernel_rfl) (callP (k_div_impl a b) <| .br (.fin [(0, 0)]) (.fin [(0, 0)])) (p := K_div_impl a b ∧ (((f) = true → (((divR a b).1).num) = (((divR a b).1).num) ∧ (((divR a b).1).den) = (((divR a b).1).den) ∧ (true) = (f || !(divR a b).2) ∧ True) ∧ ((f) = false → (((divR a b).1).num) = (((divR a b).1).num) ∧ (((divR a b).1).den) = (((divR a b).1).den) ∧ (!((divR a b).2)) = (f || !(divR a b).2) ∧ True))) (by kernel_rfl) ?_
 refine ⟨div_impl a b, fun g20 => ?_, fun g20 => ?_⟩
 ·refine ⟨rfl, rfl, ?_, trivial⟩
  ·first | (rw [g20] <;> rfl) | rfl | (simp [*]; done)
 ·refine ⟨rfl, rfl, ?_, trivial⟩
  ·first | (rw [g20] <;> rfl) | rfl | (simp [*]; done)

abbrev k_rplus (f : Bool) (a : RationalD) (b : RationalD) (c : RationalD) : List AV × List (Nat × Rs) × AV × List (Nat × Rs) := ([.ptr 0 0, .agg [vI a.num, vI a.den], .agg [vI b.num, vI b.den], .agg [vI c.num, vI c.den]], [(0, .box 87 [vB f])], .agg [vI (((plusR a b c).1).num), vI (((plusR a b c).1).den)], [(0, .box 87 [vB (f || !(plusR a b c).2)])])
abbrev K_rplus (f : Bool) (a : RationalD) (b : RationalD) (c : RationalD) : Prop := Con2 Try.prog 85 (k_rplus f a b c).1 (k_rplus f a b c).2.1 (k_rplus f a b c).2.2.1 (k_rplus f a b c).2.2.2
theorem rplus (f : Bool) (a b c : RationalD) : K_rplus f a b c := by
 refine con2_y tbOk mixedW Try.func85 (by kernel_rfl) (by kernel_rfl) (.br (.fin [(0, 0)]) (.lit <| .lit <| .lit <| .br (.fin [(0, 0)]) (callP (k_mul_impl b c) <| callP (k_add_impl a ((mulR b c).1)) <| .br (.fin [(0, 0)]) (.lit <| .lit <| .br (.fin [(0, 0)]) (.fin [(0, 0)]))))) (p := ((decide (b.num = (0 : Int))) = true → a.num = (((plusR a b c).1).num) ∧ a.den = (((plusR a b c).1).den) ∧ (f) = (f || !(plusR a b c).2) ∧ True) ∧ ((decide (b.num = (0 : Int))) = false → ((decide (c.num = (0 : Int))) = true → a.num = (((plusR a b c).1).num) ∧ a.den = (((plusR a b c).1).den) ∧ (f) = (f || !(plusR a b c).2) ∧ True) ∧ ((decide (c.num = (0 : Int))) = false → K_mul_impl b c ∧ (K_add_impl a ((mulR b c).1) ∧ (((f) = true → (((addR a ((mulR b c).1)).1).num) = (((plusR a b c).1).num) ∧ (((addR a ((mulR b c).1)).1).den) = (((plusR a b c).1).den) ∧ (true) = (f || !(plusR a b c).2) ∧ True) ∧ ((f) = false → ((!((mulR b c).2)) = true → (((addR a ((mulR b c).1)).1).num) = (((plusR a b c).1).num) ∧ (((addR a ((mulR b c).1)).1).den) = (((plusR a b c).1).den) ∧ (true) = (f || !(plusR a b c).2) ∧ True) ∧ ((!((mulR b c).2)) = false → (((addR a ((mulR b c).1)).1).num) = (((plusR a b c).1).num) ∧ (((addR a ((mulR b c).1)).1).den) = (((plusR a b c).1).den) ∧ (!((addR a ((mulR b c).1)).2)) = (f || !(plusR a b c).2) ∧ True))))))) (by kernel_rfl) ?_
 refine ⟨fun g16 => ?_, fun g16 => ?_⟩
 ·replace g16 := yq g16
  refine ⟨?_, ?_, ?_, trivial⟩ <;> (first | (rw [plusR, if_pos (.inl g16)] <;> first | rfl | (simp; done)) | (rw [plusR, if_pos (.inr c0)] <;> first | rfl | (simp; done)) | (rw [hP] <;> first | rfl | (simp [*]; done)))
 ·replace g16 := nq g16
  refine ⟨fun c0 => ?_, fun c0 => ?_⟩
  ·replace c0 := yq c0
   refine ⟨?_, ?_, ?_, trivial⟩ <;> (first | (rw [plusR, if_pos (.inl g16)] <;> first | rfl | (simp; done)) | (rw [plusR, if_pos (.inr c0)] <;> first | rfl | (simp; done)) | (rw [hP] <;> first | rfl | (simp [*]; done)))
  ·replace c0 := nq c0
   have hP : plusR a b c = ((addR a (mulR b c).1).1, (mulR b c).2 && (addR a (mulR b c).1).2) := by rw [plusR, if_neg (by rintro (q | q); exact g16 q; exact c0 q)]
   refine ⟨mul_impl b c, add_impl a ((mulR b c).1), fun g39 => ?_, fun g39 => ?_⟩
   ·refine ⟨?_, ?_, ?_, trivial⟩ <;> (first | (rw [plusR, if_pos (.inl g16)] <;> first | rfl | (simp; done)) | (rw [plusR, if_pos (.inr c0)] <;> first | rfl | (simp; done)) | (rw [hP] <;> first | rfl | (simp [*]; done)))
   ·refine ⟨fun g43 => ?_, fun g43 => ?_⟩
    ·replace g43 := nt g43
     refine ⟨?_, ?_, ?_, trivial⟩ <;> (first | (rw [plusR, if_pos (.inl g16)] <;> first | rfl | (simp; done)) | (rw [plusR, if_pos (.inr c0)] <;> first | rfl | (simp; done)) | (rw [hP] <;> first | rfl | (simp [*]; done)))
    ·replace g43 := nf g43
     refine ⟨?_, ?_, ?_, trivial⟩ <;> (first | (rw [plusR, if_pos (.inl g16)] <;> first | rfl | (simp; done)) | (rw [plusR, if_pos (.inr c0)] <;> first | rfl | (simp; done)) | (rw [hP] <;> first | rfl | (simp [*]; done)))

abbrev K_neg_impl (a : RationalD) : Prop := Con Try.prog 44 [.agg [.int .i64 a.num, .int .i64 a.den]] (.agg [vI ((negR a).num), vI ((negR a).den)]) []
theorem neg_impl (a : RationalD) (ha : -9223372036854775807 ≤ a.num ∧ a.num ≤ 9223372036854775807) : K_neg_impl a := by
 refine con_y tbOk mixedW Try.func44 (by kernel_rfl) (.fin []) (p := inR (-a.num) ∧ (-a.num) = ((negR a).num) ∧ a.den = ((negR a).den) ∧ True) (by kernel_rfl) ?_
 refine ⟨by first | exact ⟨by omega, by omega⟩ | omega, ?_, ?_, trivial⟩ <;> (rfl)
end Go.Proofs.Ytepphdhnkaiamaa
