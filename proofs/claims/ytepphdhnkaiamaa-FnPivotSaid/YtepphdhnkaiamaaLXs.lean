/-
  Plain laws.
-/
import Derived.Test.YtepphdhnkaiamaaLXp
import Derived.Test.YtepphdhnkaiamaaLXk
import Derived.Test.YtepphdhnkaiamaaDn
import Derived.Test.YtepphdhnkaiamaaDo
namespace Go.Proofs.Ytepphdhnkaiamaa
open Go.ChangeShapes Go.WideShapes Go.ChangeAt Go.RowKit
set_option linter.unusedVariables false
set_option linter.unusedSimpArgs false
set_option maxRecDepth 100000
set_option maxHeartbeats 4000000
theorem sumL_bnd2 {α : Type} {f : α → Nat} {b : Nat} : ∀ {l : List α}, (∀ x ∈ l, f x ≤ b) → sumL f l ≤ l.length * b
  | [], _ => by simp [sumL]
  | a :: l, h => by
    have h1 := h a (by simp)
    have h2 := sumL_bnd2 (l := l) fun x hx => h x (by simp [hx])
    simp only [sumL, List.map_cons, List.sum_cons, List.length_cons, Nat.add_mul, Nat.one_mul] at *
    omega
theorem okDic_small {d : DictionaryD} (h : okDic d = true) : cDictionary d ≤ 3000 := by
  obtain ⟨b1, b2, b3, b4, b5, b6, b7, b8⟩ := okDic_bnd h
  have hs : sumL cRationalS d.table ≤ d.table.length * 15 := sumL_bnd2 fun r hr => by
    have := (b5 r hr).1
    have e : cRationalS r = r.length := rfl
    omega
  have e1 : cDictionary d = cIntS d.basic + cIntS d.others + cRationalSS d.table + cRationalS d.limits + cRationalS d.costs := rfl
  have e2 : cIntS d.basic = d.basic.length := rfl
  have e3 : cIntS d.others = d.others.length := rfl
  have e4 : cRationalSS d.table = d.table.length + sumL cRationalS d.table := rfl
  have e5 : cRationalS d.limits = d.limits.length := rfl
  have e6 : cRationalS d.costs = d.costs.length := rfl
  omega
theorem pivP_small (d : DictionaryD) (i j : Int) : cDictionary (pivP d i j).1 ≤ 3000 := by
  unfold pivP
  split
  · rename_i h
    cases e : (pivM d i.toNat j.toNat).2 with
    | true => exact okDic_small (pivM_ok h.1 (by omega) (by omega) e).1
    | false =>
      unfold pivM at *
      split at e
      · cases e
      · rename_i h2; rw [if_neg h2]; decide
  · decide
end Go.Proofs.Ytepphdhnkaiamaa
