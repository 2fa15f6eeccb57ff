/-
  Rationals: sums, products, order.
-/
import Derived.Test.YtepphdhnkaiamaaLQb
namespace Go.Proofs.Ytepphdhnkaiamaa
open Go.ChangeShapes Go.WideShapes Go.ChangeAt Go.RowKit
set_option linter.unusedVariables false
set_option linter.unusedSimpArgs false
set_option maxRecDepth 100000
set_option maxHeartbeats 4000000
abbrev k_add_impl (a : RationalD) (b : RationalD) : AV × List (Nat × Rs) := (.tup [.agg [vI (((addR a b).1).num), vI (((addR a b).1).den)], vB ((addR a b).2)], [])
abbrev K_add_impl (a : RationalD) (b : RationalD) : Prop := Con Try.prog 87 [.agg [.int .i64 a.num, .int .i64 a.den], .agg [.int .i64 b.num, .int .i64 b.den]] (k_add_impl a b).1 (k_add_impl a b).2
theorem add_impl (a b : RationalD) : K_add_impl a b := by
 refine con_y tbOk mixedW Try.func87 (by kernel_rfl) (.call (vB (validR a)) [] <| .br (.fin []) (.call (vB (validR b)) [] <| .lit <| .lit <| .br (.fin []) (callP (k_mk_impl ((a.num * b.den) + (b.num * a.den)) (a.den * b.den)) <| .fin []))) (p := K_val_impl a ∧ (((!(validR a)) = true → (0 : Int) = (((addR a b).1).num) ∧ (0 : Int) = (((addR a b).1).den) ∧ (false) = ((addR a b).2) ∧ True) ∧ ((!(validR a)) = false → K_val_impl b ∧ (((!(validR b)) = true → (0 : Int) = (((addR a b).1).num) ∧ (0 : Int) = (((addR a b).1).den) ∧ (false) = ((addR a b).2) ∧ True) ∧ ((!(validR b)) = false → inR (a.num * b.den) ∧ inR (b.num * a.den) ∧ inR ((a.num * b.den) + (b.num * a.den)) ∧ inR (a.den * b.den) ∧ K_mk_impl ((a.num * b.den) + (b.num * a.den)) (a.den * b.den) ∧ (((toR (makeQ ((a.num * b.den) + (b.num * a.den)) (a.den * b.den))).1).num) = (((addR a b).1).num) ∧ (((toR (makeQ ((a.num * b.den) + (b.num * a.den)) (a.den * b.den))).1).den) = (((addR a b).1).den) ∧ ((toR (makeQ ((a.num * b.den) + (b.num * a.den)) (a.den * b.den))).2) = ((addR a b).2) ∧ True))))) (by kernel_rfl) ?_
 refine ⟨val_impl a, fun g9 => ?_, fun g9 => ?_⟩
 ·replace g9 := nt g9
  refine ⟨?_, ?_, ?_, trivial⟩ <;> (first | (rw [addR, addQ_yes g9 c0]; done) | (rw [addR, addQ_no (.inl g9)]; rfl) | (rw [addR, addQ_no (.inr c0)]; rfl))
 ·replace g9 := nf g9
  refine ⟨val_impl b, fun c0 => ?_, fun c0 => ?_⟩
  ·replace c0 := nt c0
   refine ⟨?_, ?_, ?_, trivial⟩ <;> (first | (rw [addR, addQ_yes g9 c0]; done) | (rw [addR, addQ_no (.inl g9)]; rfl) | (rw [addR, addQ_no (.inr c0)]; rfl))
  ·replace c0 := nf c0
   have q1 := validR_bnd g9
   have q2 := validR_bnd c0
   have m1 := mul_M (x := a.num) (y := b.den) ⟨by omega, by omega⟩ ⟨by omega, by omega⟩
   have m2 := mul_M (x := b.num) (y := a.den) ⟨by omega, by omega⟩ ⟨by omega, by omega⟩
   have m3 := mul_M (x := a.den) (y := b.den) ⟨by omega, by omega⟩ ⟨by omega, by omega⟩
   have m4 := mul_M (x := a.num) (y := b.num) ⟨by omega, by omega⟩ ⟨by omega, by omega⟩
   have m5 := mul_M (x := a.den) (y := b.num) ⟨by omega, by omega⟩ ⟨by omega, by omega⟩
   refine ⟨⟨by omega, by omega⟩, ⟨by omega, by omega⟩, ⟨by omega, by omega⟩, ⟨by omega, by omega⟩, mk_impl _ _ (by first | omega | (dsimp only; omega)) (by first | omega | (dsimp only; omega)), ?_, ?_, ?_, trivial⟩ <;> (first | (rw [addR, addQ_yes g9 c0]; done) | (rw [addR, addQ_no (.inl g9)]; rfl) | (rw [addR, addQ_no (.inr c0)]; rfl))

abbrev k_mul_impl (a : RationalD) (b : RationalD) : AV × List (Nat × Rs) := (.tup [.agg [vI (((mulR a b).1).num), vI (((mulR a b).1).den)], vB ((mulR a b).2)], [])
abbrev K_mul_impl (a : RationalD) (b : RationalD) : Prop := Con Try.prog 86 [.agg [.int .i64 a.num, .int .i64 a.den], .agg [.int .i64 b.num, .int .i64 b.den]] (k_mul_impl a b).1 (k_mul_impl a b).2
theorem mul_impl (a b : RationalD) : K_mul_impl a b := by
 refine con_y tbOk mixedW Try.func86 (by kernel_rfl) (.call (vB (validR a)) [] <| .br (.fin []) (.call (vB (validR b)) [] <| .lit <| .lit <| .br (.fin []) (callP (k_mk_impl (a.num * b.num) (a.den * b.den)) <| .fin []))) (p := K_val_impl a ∧ (((!(validR a)) = true → (0 : Int) = (((mulR a b).1).num) ∧ (0 : Int) = (((mulR a b).1).den) ∧ (false) = ((mulR a b).2) ∧ True) ∧ ((!(validR a)) = false → K_val_impl b ∧ (((!(validR b)) = true → (0 : Int) = (((mulR a b).1).num) ∧ (0 : Int) = (((mulR a b).1).den) ∧ (false) = ((mulR a b).2) ∧ True) ∧ ((!(validR b)) = false → inR (a.num * b.num) ∧ inR (a.den * b.den) ∧ K_mk_impl (a.num * b.num) (a.den * b.den) ∧ (((toR (makeQ (a.num * b.num) (a.den * b.den))).1).num) = (((mulR a b).1).num) ∧ (((toR (makeQ (a.num * b.num) (a.den * b.den))).1).den) = (((mulR a b).1).den) ∧ ((toR (makeQ (a.num * b.num) (a.den * b.den))).2) = ((mulR a b).2) ∧ True))))) (by kernel_rfl) ?_
 refine ⟨val_impl a, fun g9 => ?_, fun g9 => ?_⟩
 ·replace g9 := nt g9
  refine ⟨?_, ?_, ?_, trivial⟩ <;> (first | (rw [mulR, mulQ_yes g9 c0]; done) | (rw [mulR, mulQ_no (.inl g9)]; rfl) | (rw [mulR, mulQ_no (.inr c0)]; rfl))
 ·replace g9 := nf g9
  refine ⟨val_impl b, fun c0 => ?_, fun c0 => ?_⟩
  ·replace c0 := nt c0
   refine ⟨?_, ?_, ?_, trivial⟩ <;> (first | (rw [mulR, mulQ_yes g9 c0]; done) | (rw [mulR, mulQ_no (.inl g9)]; rfl) | (rw [mulR, mulQ_no (.inr c0)]; rfl))
  ·replace c0 := nf c0
   have q1 := validR_bnd g9
   have q2 := validR_bnd c0
   have m1 := mul_M (x := a.num) (y := b.den) ⟨by omega, by omega⟩ ⟨by omega, by omega⟩
   have m2 := mul_M (x := b.num) (y := a.den) ⟨by omega, by omega⟩ ⟨by omega, by omega⟩
   have m3 := mul_M (x := a.den) (y := b.den) ⟨by omega, by omega⟩ ⟨by omega, by omega⟩
   have m4 := mul_M (x := a.num) (y := b.num) ⟨by omega, by omega⟩ ⟨by omega, by omega⟩
   have m5 := mul_M (x := a.den) (y := b.num) ⟨by omega, by omega⟩ ⟨by omega, by omega⟩
   refine ⟨⟨by omega, by omega⟩, ⟨by omega, by omega⟩, mk_impl _ _ (by first | omega | (dsimp only; omega)) (by first | omega | (dsimp only; omega)), ?_, ?_, ?_, trivial⟩ <;> (first | (rw [mulR, mulQ_yes g9 c0]; done) | (rw [mulR, mulQ_no (.inl g9)]; rfl) | (rw [mulR, mulQ_no (.inr c0)]; rfl))

abbrev k_div_impl (a : RationalD) (b : RationalD) : AV × List (Nat × Rs) := (.tup [.agg [vI (((divR a b).1).num), vI (((divR a b).1).den)], vB ((divR a b).2)], [])
abbrev K_div_impl (a : RationalD) (b : RationalD) : Prop := Con Try.prog 81 [.agg [.int .i64 a.num, .int .i64 a.den], .agg [.int .i64 b.num, .int .i64 b.den]] (k_div_impl a b).1 (k_div_impl a b).2
theorem div_impl (a b : RationalD) : K_div_impl a b := by
 refine con_y tbOk mixedW Try.func81 (by kernel_rfl) (.call (vB (validR a)) [] <| .br (.fin []) (.call (vB (validR b)) [] <| .lit <| .lit <| .br (.fin []) (callP (k_mk_impl (a.num * b.den) (a.den * b.num)) <| .fin []))) (p := K_val_impl a ∧ (((!(validR a)) = true → (0 : Int) = (((divR a b).1).num) ∧ (0 : Int) = (((divR a b).1).den) ∧ (false) = ((divR a b).2) ∧ True) ∧ ((!(validR a)) = false → K_val_impl b ∧ (((!(validR b)) = true → (0 : Int) = (((divR a b).1).num) ∧ (0 : Int) = (((divR a b).1).den) ∧ (false) = ((divR a b).2) ∧ True) ∧ ((!(validR b)) = false → inR (a.num * b.den) ∧ inR (a.den * b.num) ∧ K_mk_impl (a.num * b.den) (a.den * b.num) ∧ (((toR (makeQ (a.num * b.den) (a.den * b.num))).1).num) = (((divR a b).1).num) ∧ (((toR (makeQ (a.num * b.den) (a.den * b.num))).1).den) = (((divR a b).1).den) ∧ ((toR (makeQ (a.num * b.den) (a.den * b.num))).2) = ((divR a b).2) ∧ True))))) (by kernel_rfl) ?_
 refine ⟨val_impl a, fun g9 => ?_, fun g9 => ?_⟩
 ·replace g9 := nt g9
  refine ⟨?_, ?_, ?_, trivial⟩ <;> (first | (rw [divR, divQ_yes g9 c0]; done) | (rw [divR, divQ_no (.inl g9)]; rfl) | (rw [divR, divQ_no (.inr c0)]; rfl))
 ·replace g9 := nf g9
  refine ⟨val_impl b, fun c0 => ?_, fun c0 => ?_⟩
  ·replace c0 := nt c0
   refine ⟨?_, ?_, ?_, trivial⟩ <;> (first | (rw [divR, divQ_yes g9 c0]; done) | (rw [divR, divQ_no (.inl g9)]; rfl) | (rw [divR, divQ_no (.inr c0)]; rfl))
  ·replace c0 := nf c0
   have q1 := validR_bnd g9
   have q2 := validR_bnd c0
   have m1 := mul_M (x := a.num) (y := b.den) ⟨by omega, by omega⟩ ⟨by omega, by omega⟩
   have m2 := mul_M (x := b.num) (y := a.den) ⟨by omega, by omega⟩ ⟨by omega, by omega⟩
   have m3 := mul_M (x := a.den) (y := b.den) ⟨by omega, by omega⟩ ⟨by omega, by omega⟩
   have m4 := mul_M (x := a.num) (y := b.num) ⟨by omega, by omega⟩ ⟨by omega, by omega⟩
   have m5 := mul_M (x := a.den) (y := b.num) ⟨by omega, by omega⟩ ⟨by omega, by omega⟩
   refine ⟨⟨by omega, by omega⟩, ⟨by omega, by omega⟩, mk_impl _ _ (by first | omega | (dsimp only; omega)) (by first | omega | (dsimp only; omega)), ?_, ?_, ?_, trivial⟩ <;> (first | (rw [divR, divQ_yes g9 c0]; done) | (rw [divR, divQ_no (.inl g9)]; rfl) | (rw [divR, divQ_no (.inr c0)]; rfl))

abbrev k_add_spec (a : RationalD) (b : RationalD) : AV × List (Nat × Rs) := (.tup [.agg [vI (((addR a b).1).num), vI (((addR a b).1).den)], vB ((addR a b).2)], [])
abbrev K_add_spec (a : RationalD) (b : RationalD) : Prop := Con Try.prog 74 [.agg [.int .i64 a.num, .int .i64 a.den], .agg [.int .i64 b.num, .int .i64 b.den]] (k_add_spec a b).1 (k_add_spec a b).2
theorem add_spec (a b : RationalD) : K_add_spec a b := by
 refine con_y tbOk mixedW Try.func74 (by kernel_rfl) (.call (vB (validR a)) [] <| .br (.fin []) (.call (vB (validR b)) [] <| .lit <| .lit <| .br (.fin []) (callP (k_mk_spec ((a.num * b.den) + (b.num * a.den)) (a.den * b.den)) <| .fin []))) (p := K_val_spec a ∧ (((!(validR a)) = true → (0 : Int) = (((addR a b).1).num) ∧ (0 : Int) = (((addR a b).1).den) ∧ (false) = ((addR a b).2) ∧ True) ∧ ((!(validR a)) = false → K_val_spec b ∧ (((!(validR b)) = true → (0 : Int) = (((addR a b).1).num) ∧ (0 : Int) = (((addR a b).1).den) ∧ (false) = ((addR a b).2) ∧ True) ∧ ((!(validR b)) = false → inR (a.num * b.den) ∧ inR (b.num * a.den) ∧ inR ((a.num * b.den) + (b.num * a.den)) ∧ inR (a.den * b.den) ∧ K_mk_spec ((a.num * b.den) + (b.num * a.den)) (a.den * b.den) ∧ (((toR (makeQ ((a.num * b.den) + (b.num * a.den)) (a.den * b.den))).1).num) = (((addR a b).1).num) ∧ (((toR (makeQ ((a.num * b.den) + (b.num * a.den)) (a.den * b.den))).1).den) = (((addR a b).1).den) ∧ ((toR (makeQ ((a.num * b.den) + (b.num * a.den)) (a.den * b.den))).2) = ((addR a b).2) ∧ True))))) (by kernel_rfl) ?_
 refine ⟨val_spec a, fun g11 => ?_, fun g11 => ?_⟩
 ·replace g11 := nt g11
  refine ⟨?_, ?_, ?_, trivial⟩ <;> (first | (rw [addR, addQ_yes g11 c0]; done) | (rw [addR, addQ_no (.inl g11)]; rfl) | (rw [addR, addQ_no (.inr c0)]; rfl))
 ·replace g11 := nf g11
  refine ⟨val_spec b, fun c0 => ?_, fun c0 => ?_⟩
  ·replace c0 := nt c0
   refine ⟨?_, ?_, ?_, trivial⟩ <;> (first | (rw [addR, addQ_yes g11 c0]; done) | (rw [addR, addQ_no (.inl g11)]; rfl) | (rw [addR, addQ_no (.inr c0)]; rfl))
  ·replace c0 := nf c0
   have q1 := validR_bnd g11
   have q2 := validR_bnd c0
   have m1 := mul_M (x := a.num) (y := b.den) ⟨by omega, by omega⟩ ⟨by omega, by omega⟩
   have m2 := mul_M (x := b.num) (y := a.den) ⟨by omega, by omega⟩ ⟨by omega, by omega⟩
   have m3 := mul_M (x := a.den) (y := b.den) ⟨by omega, by omega⟩ ⟨by omega, by omega⟩
   have m4 := mul_M (x := a.num) (y := b.num) ⟨by omega, by omega⟩ ⟨by omega, by omega⟩
   have m5 := mul_M (x := a.den) (y := b.num) ⟨by omega, by omega⟩ ⟨by omega, by omega⟩
   refine ⟨⟨by omega, by omega⟩, ⟨by omega, by omega⟩, ⟨by omega, by omega⟩, ⟨by omega, by omega⟩, mk_spec _ _ (by first | omega | (dsimp only; omega)) (by first | omega | (dsimp only; omega)), ?_, ?_, ?_, trivial⟩ <;> (first | (rw [addR, addQ_yes g11 c0]; done) | (rw [addR, addQ_no (.inl g11)]; rfl) | (rw [addR, addQ_no (.inr c0)]; rfl))

abbrev k_mul_spec (a : RationalD) (b : RationalD) : AV × List (Nat × Rs) := (.tup [.agg [vI (((mulR a b).1).num), vI (((mulR a b).1).den)], vB ((mulR a b).2)], [])
abbrev K_mul_spec (a : RationalD) (b : RationalD) : Prop := Con Try.prog 73 [.agg [.int .i64 a.num, .int .i64 a.den], .agg [.int .i64 b.num, .int .i64 b.den]] (k_mul_spec a b).1 (k_mul_spec a b).2
theorem mul_spec (a b : RationalD) : K_mul_spec a b := by
 refine con_y tbOk mixedW Try.func73 (by kernel_rfl) (.call (vB (validR a)) [] <| .br (.fin []) (.call (vB (validR b)) [] <| .lit <| .lit <| .br (.fin []) (callP (k_mk_spec (a.num * b.num) (a.den * b.den)) <| .fin []))) (p := K_val_spec a ∧ (((!(validR a)) = true → (0 : Int) = (((mulR a b).1).num) ∧ (0 : Int) = (((mulR a b).1).den) ∧ (false) = ((mulR a b).2) ∧ True) ∧ ((!(validR a)) = false → K_val_spec b ∧ (((!(validR b)) = true → (0 : Int) = (((mulR a b).1).num) ∧ (0 : Int) = (((mulR a b).1).den) ∧ (false) = ((mulR a b).2) ∧ True) ∧ ((!(validR b)) = false → inR (a.num * b.num) ∧ inR (a.den * b.den) ∧ K_mk_spec (a.num * b.num) (a.den * b.den) ∧ (((toR (makeQ (a.num * b.num) (a.den * b.den))).1).num) = (((mulR a b).1).num) ∧ (((toR (makeQ (a.num * b.num) (a.den * b.den))).1).den) = (((mulR a b).1).den) ∧ ((toR (makeQ (a.num * b.num) (a.den * b.den))).2) = ((mulR a b).2) ∧ True))))) (by kernel_rfl) ?_
 refine ⟨val_spec a, fun g11 => ?_, fun g11 => ?_⟩
 ·replace g11 := nt g11
  refine ⟨?_, ?_, ?_, trivial⟩ <;> (first | (rw [mulR, mulQ_yes g11 c0]; done) | (rw [mulR, mulQ_no (.inl g11)]; rfl) | (rw [mulR, mulQ_no (.inr c0)]; rfl))
 ·replace g11 := nf g11
  refine ⟨val_spec b, fun c0 => ?_, fun c0 => ?_⟩
  ·replace c0 := nt c0
   refine ⟨?_, ?_, ?_, trivial⟩ <;> (first | (rw [mulR, mulQ_yes g11 c0]; done) | (rw [mulR, mulQ_no (.inl g11)]; rfl) | (rw [mulR, mulQ_no (.inr c0)]; rfl))
  ·replace c0 := nf c0
   have q1 := validR_bnd g11
   have q2 := validR_bnd c0
   have m1 := mul_M (x := a.num) (y := b.den) ⟨by omega, by omega⟩ ⟨by omega, by omega⟩
   have m2 := mul_M (x := b.num) (y := a.den) ⟨by omega, by omega⟩ ⟨by omega, by omega⟩
   have m3 := mul_M (x := a.den) (y := b.den) ⟨by omega, by omega⟩ ⟨by omega, by omega⟩
   have m4 := mul_M (x := a.num) (y := b.num) ⟨by omega, by omega⟩ ⟨by omega, by omega⟩
   have m5 := mul_M (x := a.den) (y := b.num) ⟨by omega, by omega⟩ ⟨by omega, by omega⟩
   refine ⟨⟨by omega, by omega⟩, ⟨by omega, by omega⟩, mk_spec _ _ (by first | omega | (dsimp only; omega)) (by first | omega | (dsimp only; omega)), ?_, ?_, ?_, trivial⟩ <;> (first | (rw [mulR, mulQ_yes g11 c0]; done) | (rw [mulR, mulQ_no (.inl g11)]; rfl) | (rw [mulR, mulQ_no (.inr c0)]; rfl))

abbrev k_div_spec (a : RationalD) (b : RationalD) : AV × List (Nat × Rs) := (.tup [.agg [vI (((divR a b).1).num), vI (((divR a b).1).den)], vB ((divR a b).2)], [])
abbrev K_div_spec (a : RationalD) (b : RationalD) : Prop := Con Try.prog 71 [.agg [.int .i64 a.num, .int .i64 a.den], .agg [.int .i64 b.num, .int .i64 b.den]] (k_div_spec a b).1 (k_div_spec a b).2
theorem div_spec (a b : RationalD) : K_div_spec a b := by
 refine con_y tbOk mixedW Try.func71 (by kernel_rfl) (.call (vB (validR a)) [] <| .br (.fin []) (.call (vB (validR b)) [] <| .lit <| .lit <| .br (.fin []) (.lit <| .lit <| .lit <| .br (.fin []) (callP (k_mk_spec (a.num * b.den) (a.den * b.num)) <| .fin [])))) (p := K_val_spec a ∧ (((!(validR a)) = true → (0 : Int) = (((divR a b).1).num) ∧ (0 : Int) = (((divR a b).1).den) ∧ (false) = ((divR a b).2) ∧ True) ∧ ((!(validR a)) = false → K_val_spec b ∧ (((!(validR b)) = true → (0 : Int) = (((divR a b).1).num) ∧ (0 : Int) = (((divR a b).1).den) ∧ (false) = ((divR a b).2) ∧ True) ∧ ((!(validR b)) = false → ((decide (b.num = (0 : Int))) = true → (0 : Int) = (((divR a b).1).num) ∧ (0 : Int) = (((divR a b).1).den) ∧ (false) = ((divR a b).2) ∧ True) ∧ ((decide (b.num = (0 : Int))) = false → inR (a.num * b.den) ∧ inR (a.den * b.num) ∧ K_mk_spec (a.num * b.den) (a.den * b.num) ∧ (((toR (makeQ (a.num * b.den) (a.den * b.num))).1).num) = (((divR a b).1).num) ∧ (((toR (makeQ (a.num * b.den) (a.den * b.num))).1).den) = (((divR a b).1).den) ∧ ((toR (makeQ (a.num * b.den) (a.den * b.num))).2) = ((divR a b).2) ∧ True)))))) (by kernel_rfl) ?_
 refine ⟨val_spec a, fun g11 => ?_, fun g11 => ?_⟩
 ·replace g11 := nt g11
  refine ⟨?_, ?_, ?_, trivial⟩ <;> (first | (rw [divR, divQ_yes g11 g16]; done) | (rw [divR, divQ_no (.inl g11)]; rfl) | (rw [divR, divQ_no (.inr g16)]; rfl) | (simp [divR, divQ_zero, toR, *]; done))
 ·replace g11 := nf g11
  refine ⟨val_spec b, fun g16 => ?_, fun g16 => ?_⟩
  ·replace g16 := nt g16
   refine ⟨?_, ?_, ?_, trivial⟩ <;> (first | (rw [divR, divQ_yes g11 g16]; done) | (rw [divR, divQ_no (.inl g11)]; rfl) | (rw [divR, divQ_no (.inr g16)]; rfl) | (simp [divR, divQ_zero, toR, *]; done))
  ·replace g16 := nf g16
   refine ⟨fun c0 => ?_, fun c0 => ?_⟩
   ·replace c0 := yq c0
    refine ⟨?_, ?_, ?_, trivial⟩ <;> (first | (rw [divR, divQ_yes g11 g16]; done) | (rw [divR, divQ_no (.inl g11)]; rfl) | (rw [divR, divQ_no (.inr g16)]; rfl) | (simp [divR, divQ_zero, toR, *]; done))
   ·replace c0 := nq c0
    have q1 := validR_bnd g11
    have q2 := validR_bnd g16
    have m1 := mul_M (x := a.num) (y := b.den) ⟨by omega, by omega⟩ ⟨by omega, by omega⟩
    have m2 := mul_M (x := b.num) (y := a.den) ⟨by omega, by omega⟩ ⟨by omega, by omega⟩
    have m3 := mul_M (x := a.den) (y := b.den) ⟨by omega, by omega⟩ ⟨by omega, by omega⟩
    have m4 := mul_M (x := a.num) (y := b.num) ⟨by omega, by omega⟩ ⟨by omega, by omega⟩
    have m5 := mul_M (x := a.den) (y := b.num) ⟨by omega, by omega⟩ ⟨by omega, by omega⟩
    refine ⟨⟨by omega, by omega⟩, ⟨by omega, by omega⟩, mk_spec _ _ (by first | omega | (dsimp only; omega)) (by first | omega | (dsimp only; omega)), ?_, ?_, ?_, trivial⟩ <;> (first | (rw [divR, divQ_yes g11 g16]; done) | (rw [divR, divQ_no (.inl g11)]; rfl) | (rw [divR, divQ_no (.inr g16)]; rfl) | (simp [divR, divQ_zero, toR, *]; done))

theorem validQ_neg {n d : Int} : validQ (-n) d = validQ n d := by
  have e : Int.gcd (-n) d = Int.gcd n d := by simp [Int.gcd]
  simp only [validQ, e]
  congr 2
  simp only [inB]
  rw [Bool.eq_iff_iff]; simp; omega
theorem addQ_neg {a b c d : Int} : addQ a b (-c) d = subQ a b c d := by
  unfold addQ subQ
  rw [validQ_neg, Int.neg_mul, Int.sub_eq_add_neg]

abbrev k_sub_spec (a : RationalD) (b : RationalD) : AV × List (Nat × Rs) := (.tup [.agg [vI (((subR a b).1).num), vI (((subR a b).1).den)], vB ((subR a b).2)], [])
abbrev K_sub_spec (a : RationalD) (b : RationalD) : Prop := Con Try.prog 90 [.agg [.int .i64 a.num, .int .i64 a.den], .agg [.int .i64 b.num, .int .i64 b.den]] (k_sub_spec a b).1 (k_sub_spec a b).2
theorem sub_spec (a b : RationalD) : K_sub_spec a b := by
 refine con_y tbOk mixedW Try.func90 (by kernel_rfl) (.call (vB (validR a)) [] <| .br (.fin []) (.call (vB (validR b)) [] <| .lit <| .lit <| .br (.fin []) (callP (k_mk_spec ((a.num * b.den) - (b.num * a.den)) (a.den * b.den)) <| .fin []))) (p := K_val_spec a ∧ (((!(validR a)) = true → (0 : Int) = (((subR a b).1).num) ∧ (0 : Int) = (((subR a b).1).den) ∧ (false) = ((subR a b).2) ∧ True) ∧ ((!(validR a)) = false → K_val_spec b ∧ (((!(validR b)) = true → (0 : Int) = (((subR a b).1).num) ∧ (0 : Int) = (((subR a b).1).den) ∧ (false) = ((subR a b).2) ∧ True) ∧ ((!(validR b)) = false → inR (a.num * b.den) ∧ inR (b.num * a.den) ∧ inR ((a.num * b.den) - (b.num * a.den)) ∧ inR (a.den * b.den) ∧ K_mk_spec ((a.num * b.den) - (b.num * a.den)) (a.den * b.den) ∧ (((toR (makeQ ((a.num * b.den) - (b.num * a.den)) (a.den * b.den))).1).num) = (((subR a b).1).num) ∧ (((toR (makeQ ((a.num * b.den) - (b.num * a.den)) (a.den * b.den))).1).den) = (((subR a b).1).den) ∧ ((toR (makeQ ((a.num * b.den) - (b.num * a.den)) (a.den * b.den))).2) = ((subR a b).2) ∧ True))))) (by kernel_rfl) ?_
 refine ⟨val_spec a, fun g11 => ?_, fun g11 => ?_⟩
 ·replace g11 := nt g11
  refine ⟨?_, ?_, ?_, trivial⟩ <;> (first | (rw [subR, subQ_yes g11 c0]; done) | (rw [subR, subQ_no (.inl g11)]; rfl) | (rw [subR, subQ_no (.inr c0)]; rfl))
 ·replace g11 := nf g11
  refine ⟨val_spec b, fun c0 => ?_, fun c0 => ?_⟩
  ·replace c0 := nt c0
   refine ⟨?_, ?_, ?_, trivial⟩ <;> (first | (rw [subR, subQ_yes g11 c0]; done) | (rw [subR, subQ_no (.inl g11)]; rfl) | (rw [subR, subQ_no (.inr c0)]; rfl))
  ·replace c0 := nf c0
   have q1 := validR_bnd g11
   have q2 := validR_bnd c0
   have m1 := mul_M (x := a.num) (y := b.den) ⟨by omega, by omega⟩ ⟨by omega, by omega⟩
   have m2 := mul_M (x := b.num) (y := a.den) ⟨by omega, by omega⟩ ⟨by omega, by omega⟩
   have m3 := mul_M (x := a.den) (y := b.den) ⟨by omega, by omega⟩ ⟨by omega, by omega⟩
   have m4 := mul_M (x := a.num) (y := b.num) ⟨by omega, by omega⟩ ⟨by omega, by omega⟩
   have m5 := mul_M (x := a.den) (y := b.num) ⟨by omega, by omega⟩ ⟨by omega, by omega⟩
   refine ⟨⟨by omega, by omega⟩, ⟨by omega, by omega⟩, ⟨by omega, by omega⟩, ⟨by omega, by omega⟩, mk_spec _ _ (by first | omega | (dsimp only; omega)) (by first | omega | (dsimp only; omega)), ?_, ?_, ?_, trivial⟩ <;> (first | (rw [subR, subQ_yes g11 c0]; done) | (rw [subR, subQ_no (.inl g11)]; rfl) | (rw [subR, subQ_no (.inr c0)]; rfl))

abbrev K_cmp_impl (a : RationalD) (b : RationalD) : Prop := Con Try.prog 55 [.agg [.int .i64 a.num, .int .i64 a.den], .agg [.int .i64 b.num, .int .i64 b.den]] (vI (cmpRat a b)) []
theorem cmp_impl (a b : RationalD) : K_cmp_impl a b := by
 refine con_y tbOk mixedW Try.func55 (by kernel_rfl) (.call (vB (validR a)) [] <| .br (.fin []) (.call (vB (validR b)) [] <| .lit <| .lit <| .br (.fin []) (.br (.fin []) (.br (.fin []) (.fin []))))) (p := K_val_impl a ∧ (((!(validR a)) = true → (0 : Int) = (cmpRat a b) ∧ True) ∧ ((!(validR a)) = false → K_val_impl b ∧ (((!(validR b)) = true → (0 : Int) = (cmpRat a b) ∧ True) ∧ ((!(validR b)) = false → inR (a.num * b.den) ∧ (inR (b.num * a.den) ∧ (((decide ((a.num * b.den) < (b.num * a.den))) = true → (-1 : Int) = (cmpRat a b) ∧ True) ∧ ((decide ((a.num * b.den) < (b.num * a.den))) = false → ((decide ((b.num * a.den) < (a.num * b.den))) = true → (1 : Int) = (cmpRat a b) ∧ True) ∧ ((decide ((b.num * a.den) < (a.num * b.den))) = false → (0 : Int) = (cmpRat a b) ∧ True))))))))) (by kernel_rfl) ?_
 refine ⟨val_impl a, fun g10 => ?_, fun g10 => ?_⟩
 ·replace g10 := nt g10
  refine ⟨?_, trivial⟩
  ·first | (rw [cmpRat, cmpQ_no (.inl g10)]; done) | (rw [cmpRat, cmpQ_no (.inr c0)]; done) | (rw [cmpRat, cmpQ_yes g10 c0]; first | (rw [if_pos c1]; done) | (rw [if_neg c1, if_pos c2]; done) | (rw [if_neg c1, if_neg c2]; done))
 ·replace g10 := nf g10
  refine ⟨val_impl b, fun c0 => ?_, fun c0 => ?_⟩
  ·replace c0 := nt c0
   refine ⟨?_, trivial⟩
   ·first | (rw [cmpRat, cmpQ_no (.inl g10)]; done) | (rw [cmpRat, cmpQ_no (.inr c0)]; done) | (rw [cmpRat, cmpQ_yes g10 c0]; first | (rw [if_pos c1]; done) | (rw [if_neg c1, if_pos c2]; done) | (rw [if_neg c1, if_neg c2]; done))
  ·replace c0 := nf c0
   have q1 := validR_bnd g10
   have q2 := validR_bnd c0
   have m1 := mul_M (x := a.num) (y := b.den) ⟨by omega, by omega⟩ ⟨by omega, by omega⟩
   have m2 := mul_M (x := b.num) (y := a.den) ⟨by omega, by omega⟩ ⟨by omega, by omega⟩
   have m3 := mul_M (x := a.den) (y := b.den) ⟨by omega, by omega⟩ ⟨by omega, by omega⟩
   have m4 := mul_M (x := a.num) (y := b.num) ⟨by omega, by omega⟩ ⟨by omega, by omega⟩
   have m5 := mul_M (x := a.den) (y := b.num) ⟨by omega, by omega⟩ ⟨by omega, by omega⟩
   refine ⟨⟨by omega, by omega⟩, ⟨by omega, by omega⟩, fun c1 => ?_, fun c1 => ?_⟩
   ·replace c1 := yq c1
    refine ⟨?_, trivial⟩
    ·first | (rw [cmpRat, cmpQ_no (.inl g10)]; done) | (rw [cmpRat, cmpQ_no (.inr c0)]; done) | (rw [cmpRat, cmpQ_yes g10 c0]; first | (rw [if_pos c1]; done) | (rw [if_neg c1, if_pos c2]; done) | (rw [if_neg c1, if_neg c2]; done))
   ·replace c1 := nq c1
    refine ⟨fun c2 => ?_, fun c2 => ?_⟩
    ·replace c2 := yq c2
     refine ⟨?_, trivial⟩
     ·first | (rw [cmpRat, cmpQ_no (.inl g10)]; done) | (rw [cmpRat, cmpQ_no (.inr c0)]; done) | (rw [cmpRat, cmpQ_yes g10 c0]; first | (rw [if_pos c1]; done) | (rw [if_neg c1, if_pos c2]; done) | (rw [if_neg c1, if_neg c2]; done))
    ·replace c2 := nq c2
     refine ⟨?_, trivial⟩
     ·first | (rw [cmpRat, cmpQ_no (.inl g10)]; done) | (rw [cmpRat, cmpQ_no (.inr c0)]; done) | (rw [cmpRat, cmpQ_yes g10 c0]; first | (rw [if_pos c1]; done) | (rw [if_neg c1, if_pos c2]; done) | (rw [if_neg c1, if_neg c2]; done))

abbrev K_cmp_spec (a : RationalD) (b : RationalD) : Prop := Con Try.prog 21 [.agg [.int .i64 a.num, .int .i64 a.den], .agg [.int .i64 b.num, .int .i64 b.den]] (vI (cmpRat a b)) []
theorem cmp_spec (a b : RationalD) : K_cmp_spec a b := by
 refine con_y tbOk mixedW Try.func21 (by kernel_rfl) (.call (vB (validR a)) [] <| .br (.fin []) (.call (vB (validR b)) [] <| .lit <| .lit <| .br (.fin []) (.br (.fin []) (.br (.fin []) (.fin []))))) (p := K_val_spec a ∧ (((!(validR a)) = true → (0 : Int) = (cmpRat a b) ∧ True) ∧ ((!(validR a)) = false → K_val_spec b ∧ (((!(validR b)) = true → (0 : Int) = (cmpRat a b) ∧ True) ∧ ((!(validR b)) = false → inR (a.num * b.den) ∧ (inR (b.num * a.den) ∧ (((decide ((a.num * b.den) < (b.num * a.den))) = true → (-1 : Int) = (cmpRat a b) ∧ True) ∧ ((decide ((a.num * b.den) < (b.num * a.den))) = false → ((decide ((b.num * a.den) < (a.num * b.den))) = true → (1 : Int) = (cmpRat a b) ∧ True) ∧ ((decide ((b.num * a.den) < (a.num * b.den))) = false → (0 : Int) = (cmpRat a b) ∧ True))))))))) (by kernel_rfl) ?_
 refine ⟨val_spec a, fun g10 => ?_, fun g10 => ?_⟩
 ·replace g10 := nt g10
  refine ⟨?_, trivial⟩
  ·first | (rw [cmpRat, cmpQ_no (.inl g10)]; done) | (rw [cmpRat, cmpQ_no (.inr c0)]; done) | (rw [cmpRat, cmpQ_yes g10 c0]; first | (rw [if_pos c1]; done) | (rw [if_neg c1, if_pos c2]; done) | (rw [if_neg c1, if_neg c2]; done))
 ·replace g10 := nf g10
  refine ⟨val_spec b, fun c0 => ?_, fun c0 => ?_⟩
  ·replace c0 := nt c0
   refine ⟨?_, trivial⟩
   ·first | (rw [cmpRat, cmpQ_no (.inl g10)]; done) | (rw [cmpRat, cmpQ_no (.inr c0)]; done) | (rw [cmpRat, cmpQ_yes g10 c0]; first | (rw [if_pos c1]; done) | (rw [if_neg c1, if_pos c2]; done) | (rw [if_neg c1, if_neg c2]; done))
  ·replace c0 := nf c0
   have q1 := validR_bnd g10
   have q2 := validR_bnd c0
   have m1 := mul_M (x := a.num) (y := b.den) ⟨by omega, by omega⟩ ⟨by omega, by omega⟩
   have m2 := mul_M (x := b.num) (y := a.den) ⟨by omega, by omega⟩ ⟨by omega, by omega⟩
   have m3 := mul_M (x := a.den) (y := b.den) ⟨by omega, by omega⟩ ⟨by omega, by omega⟩
   have m4 := mul_M (x := a.num) (y := b.num) ⟨by omega, by omega⟩ ⟨by omega, by omega⟩
   have m5 := mul_M (x := a.den) (y := b.num) ⟨by omega, by omega⟩ ⟨by omega, by omega⟩
   refine ⟨⟨by omega, by omega⟩, ⟨by omega, by omega⟩, fun c1 => ?_, fun c1 => ?_⟩
   ·replace c1 := yq c1
    refine ⟨?_, trivial⟩
    ·first | (rw [cmpRat, cmpQ_no (.inl g10)]; done) | (rw [cmpRat, cmpQ_no (.inr c0)]; done) | (rw [cmpRat, cmpQ_yes g10 c0]; first | (rw [if_pos c1]; done) | (rw [if_neg c1, if_pos c2]; done) | (rw [if_neg c1, if_neg c2]; done))
   ·replace c1 := nq c1
    refine ⟨fun c2 => ?_, fun c2 => ?_⟩
    ·replace c2 := yq c2
     refine ⟨?_, trivial⟩
     ·first | (rw [cmpRat, cmpQ_no (.inl g10)]; done) | (rw [cmpRat, cmpQ_no (.inr c0)]; done) | (rw [cmpRat, cmpQ_yes g10 c0]; first | (rw [if_pos c1]; done) | (rw [if_neg c1, if_pos c2]; done) | (rw [if_neg c1, if_neg c2]; done))
    ·replace c2 := nq c2
     refine ⟨?_, trivial⟩
     ·first | (rw [cmpRat, cmpQ_no (.inl g10)]; done) | (rw [cmpRat, cmpQ_no (.inr c0)]; done) | (rw [cmpRat, cmpQ_yes g10 c0]; first | (rw [if_pos c1]; done) | (rw [if_neg c1, if_pos c2]; done) | (rw [if_neg c1, if_neg c2]; done))

theorem tdiv_low {n d : Int} (hd : 1 ≤ d) (hn : -2147483647 ≤ n ∧ n ≤ 2147483647) : -2147483647 ≤ n.tdiv d ∧ n.tdiv d ≤ 2147483647 := by
  have h1 : (n.tdiv d).natAbs = n.natAbs / d.natAbs := Int.natAbs_tdiv n d
  have h2 : n.natAbs / d.natAbs ≤ n.natAbs := Nat.div_le_self _ _
  omega

abbrev K_ceil_impl (a : RationalD) : Prop := Con Try.prog 63 [.agg [.int .i64 a.num, .int .i64 a.den]] (vI (ceilR a)) []
theorem ceil_impl (a : RationalD) : K_ceil_impl a := by
 refine con_y tbOk mixedW Try.func63 (by kernel_rfl) (.call (vB (validR a)) [] <| .br (.fin []) (.br (.fin []) (.fin []))) (p := K_val_impl a ∧ (((!(validR a)) = true → (0 : Int) = (ceilR a) ∧ True) ∧ ((!(validR a)) = false → a.den ≠ 0 ∧ (inR (Int.tdiv a.num a.den) ∧ (inR ((Int.tdiv a.num a.den) * a.den) ∧ (((decide (((Int.tdiv a.num a.den) * a.den) < a.num)) = true → inR ((Int.tdiv a.num a.den) + (1 : Int)) ∧ ((Int.tdiv a.num a.den) + (1 : Int)) = (ceilR a) ∧ True) ∧ ((decide (((Int.tdiv a.num a.den) * a.den) < a.num)) = false → (Int.tdiv a.num a.den) = (ceilR a) ∧ True))))))) (by kernel_rfl) ?_
 refine ⟨val_impl a, fun c0 => ?_, fun c0 => ?_⟩
 ·replace c0 := nt c0
  refine ⟨?_, trivial⟩
  ·first | (rw [ceilR, ceilQ, if_neg (by rw [show validQ a.num a.den = false from c0]; simp)]; done) | (rw [ceilR, ceilQ, if_pos (show validQ a.num a.den = true from c0)]; first | (rw [if_pos c1]; done) | (rw [if_neg c1]; done))
 ·replace c0 := nf c0
  have q1 := validR_bnd c0
  have q2 := tdiv_low (n := a.num) (d := a.den) (by omega) ⟨by omega, by omega⟩
  have m1 := mul_M (x := a.num.tdiv a.den) (y := a.den) q2 ⟨by omega, by omega⟩
  refine ⟨by omega, ⟨by omega, by omega⟩, ⟨by omega, by omega⟩, fun c1 => ?_, fun c1 => ?_⟩
  ·replace c1 := yq c1
   refine ⟨⟨by omega, by omega⟩, ?_, trivial⟩
   ·first | (rw [ceilR, ceilQ, if_neg (by rw [show validQ a.num a.den = false from c0]; simp)]; done) | (rw [ceilR, ceilQ, if_pos (show validQ a.num a.den = true from c0)]; first | (rw [if_pos c1]; done) | (rw [if_neg c1]; done))
  ·replace c1 := nq c1
   refine ⟨?_, trivial⟩
   ·first | (rw [ceilR, ceilQ, if_neg (by rw [show validQ a.num a.den = false from c0]; simp)]; done) | (rw [ceilR, ceilQ, if_pos (show validQ a.num a.den = true from c0)]; first | (rw [if_pos c1]; done) | (rw [if_neg c1]; done))

abbrev K_ceil_spec (a : RationalD) : Prop := Con Try.prog 66 [.agg [.int .i64 a.num, .int .i64 a.den]] (vI (ceilR a)) []
theorem ceil_spec (a : RationalD) : K_ceil_spec a := by
 refine con_y tbOk mixedW Try.func66 (by kernel_rfl) (.call (vB (validR a)) [] <| .br (.fin []) (.br (.fin []) (.fin []))) (p := K_val_spec a ∧ (((!(validR a)) = true → (0 : Int) = (ceilR a) ∧ True) ∧ ((!(validR a)) = false → a.den ≠ 0 ∧ (inR (Int.tdiv a.num a.den) ∧ (inR ((Int.tdiv a.num a.den) * a.den) ∧ (((decide (((Int.tdiv a.num a.den) * a.den) < a.num)) = true → inR ((Int.tdiv a.num a.den) + (1 : Int)) ∧ ((Int.tdiv a.num a.den) + (1 : Int)) = (ceilR a) ∧ True) ∧ ((decide (((Int.tdiv a.num a.den) * a.den) < a.num)) = false → (Int.tdiv a.num a.den) = (ceilR a) ∧ True))))))) (by kernel_rfl) ?_
 refine ⟨val_spec a, fun c0 => ?_, fun c0 => ?_⟩
 ·replace c0 := nt c0
  refine ⟨?_, trivial⟩
  ·first | (rw [ceilR, ceilQ, if_neg (by rw [show validQ a.num a.den = false from c0]; simp)]; done) | (rw [ceilR, ceilQ, if_pos (show validQ a.num a.den = true from c0)]; first | (rw [if_pos c1]; done) | (rw [if_neg c1]; done))
 ·replace c0 := nf c0
  have q1 := validR_bnd c0
  have q2 := tdiv_low (n := a.num) (d := a.den) (by omega) ⟨by omega, by omega⟩
  have m1 := mul_M (x := a.num.tdiv a.den) (y := a.den) q2 ⟨by omega, by omega⟩
  refine ⟨by omega, ⟨by omega, by omega⟩, ⟨by omega, by omega⟩, fun c1 => ?_, fun c1 => ?_⟩
  ·replace c1 := yq c1
   refine ⟨⟨by omega, by omega⟩, ?_, trivial⟩
   ·first | (rw [ceilR, ceilQ, if_neg (by rw [show validQ a.num a.den = false from c0]; simp)]; done) | (rw [ceilR, ceilQ, if_pos (show validQ a.num a.den = true from c0)]; first | (rw [if_pos c1]; done) | (rw [if_neg c1]; done))
  ·replace c1 := nq c1
   refine ⟨?_, trivial⟩
   ·first | (rw [ceilR, ceilQ, if_neg (by rw [show validQ a.num a.den = false from c0]; simp)]; done) | (rw [ceilR, ceilQ, if_pos (show validQ a.num a.den = true from c0)]; first | (rw [if_pos c1]; done) | (rw [if_neg c1]; done))
end Go.Proofs.Ytepphdhnkaiamaa
