/-
  Equality of rationals as structs.
-/
import Derived.Test.YtcgjlddpbkponaaLpL
namespace Go.Proofs.Ytcgjlddpbkponaa
open Go.ChangeShapes Go.WideShapes Go.ChangeAt Go.RowKit
set_option linter.unusedVariables false
set_option linter.unusedSimpArgs false
theorem eqQ_run (a b c d : Int) (w : World) : (Op.equalIn 10000 35 (.agg #[.int .i64 a, .int .i64 b]) (.agg #[.int .i64 c, .int .i64 d])).run Try.prog w = .ok (a == c && b == d) w := by
  have hS : Try.prog.underlying 35 = some (.struct (Try.prog.fieldsOf 35)) := by kernel_rfl
  have hp : Try.prog.stoodInHeld 35 = false := by kernel_rfl
  have u3 := Try.underlying3
  rw [show (10000 : Nat) = 9999 + 1 from rfl, run_equalIn_agg w 9999 35 _ _ hS hp]
  simp only [Program.fieldsOf, Try.underlying35]
  go_simp
  by_cases h1 : a = c <;> by_cases h2 : b = d <;> simp [h1, h2]
theorem sd_eqlQ {sl : List (Nat × AV)} {rs : List (Nat × Option Rs)} {dd : Nat} {ty : TypeId} {pos : String} {aft : Array Edge} {gd : Option (Nat × Bool)} {x y : Operand} {t' : TypeId} {a b c d : Int} (hx : evE sl x = .agg [.p none (.int .i64 a), .p none (.int .i64 b)]) (hy : evE sl y = .agg [.p none (.int .i64 c), .p none (.int .i64 d)]) :
    Sound Try.prog ⟨some dd, .binOp .eql 35 x y t', ty, pos, aft, gd⟩ (mk sl rs) ⟨.p none (.bool (a == c && b == d)), [], []⟩ :=
  sd_scal rfl (fun e w he => by
    have h1 := he x (.agg #[.int .i64 a, .int .i64 b]) (by rw [hx]; rfl)
    have h2 := he y (.agg #[.int .i64 c, .int .i64 d]) (by rw [hy]; rfl)
    have hg : (eqGuard .eql 35 x y (.agg #[.int .i64 a, .int .i64 b]) (.agg #[.int .i64 c, .int .i64 d])).run Try.prog w = .ok () w := run_eqGuard_agg w .eql 35 x y _ _ (by kernel_rfl)
    simp only [execOp, h1, h2, Sem.run_bind, hg, Result.andThen_ok, run_eql_struct, eqQ_run]
    rfl)
end Go.Proofs.Ytcgjlddpbkponaa
