/-
  How a function's contract begins and ends; contracts out of calls that only compute.
-/
import Derived.Test.YtcgjlddpbkponaaEp
namespace Go.Proofs.Ytcgjlddpbkponaa
open Go.ChangeShapes Go.WideShapes Go.ChangeAt Go.RowKit
set_option linter.unusedVariables false
set_option linter.unusedSimpArgs false

def slots0 : Nat → List Ar → List (Nat × AV)
  | _, [] => []
  | i, x :: xs => (i, arAV x) :: slots0 (i + 1) xs
theorem findS_slots0 : ∀ (xs : List Ar) (i t : Nat), findS (slots0 i xs) t = if i ≤ t then (match xs[t - i]? with | some x => arAV x | none => .no) else .no
  | [], i, t => by simp [slots0, findS]
  | x :: xs, i, t => by
    simp only [slots0, findS, findS_slots0 xs (i + 1) t]
    by_cases e : t = i
    · subst e; simp
    · by_cases h : i ≤ t
      · have : t - i = (t - (i + 1)) + 1 := by omega
        rw [if_neg e, if_pos (by omega), if_pos h, this, List.getElem?_cons_succ]
      · rw [if_neg e, if_neg (by omega), if_neg h]
theorem S0_mk (args : List Ar) : S0 args = mk (slots0 0 args) [] := by
  apply St.ext'
  · funext t
    simp only [S0, mk, findS_slots0, Nat.zero_le, if_true, Nat.sub_zero]
    cases args[t]? <;> rfl
  · funext h
    simp [S0, mk, findO]
mutual
theorem mapA_id : ∀ (x : AV), mapA id x = x
  | .p none _ => by unfold mapA; rfl
  | .p (some _) _ => by unfold mapA; rfl
  | .own _ => by unfold mapA; rfl
  | .ptr _ _ => by unfold mapA; rfl
  | .ep _ _ _ _ => by unfold mapA; rfl
  | .rp none _ => by unfold mapA; rfl
  | .rp (some _) _ => by unfold mapA; rfl
  | .agg cs => by unfold mapA; rw [mapAL_id cs]
  | .tup cs => by unfold mapA; rw [mapAL_id cs]
  | .fn _ cs => by unfold mapA; rw [mapAL_id cs]
  | .nil => by unfold mapA; rfl
  | .bsl _ _ => by unfold mapA; rfl
  | .no => by unfold mapA; rfl
theorem mapAL_id : ∀ (xs : List AV), mapAL id xs = xs
  | [] => by unfold mapAL; rfl
  | x :: xs => by unfold mapAL; rw [mapA_id x, mapAL_id xs]
end
section
variable {P : Program}
/-- The end, nothing of memory handed back. -/
theorem fin0 {fn : Func} {rv : AV} {e : Exit} {S : St} {xs : List AV} (he : e = .normal ∨ e = .ret) (hr : ResL P S fn.results.toList xs) (hv : resAV xs = rv) : Fin P fn rv [] e S :=
  ⟨he, xs, id, hr, by rw [mapA_id]; exact hv, (fun _ _ e => by cases e), (fun _ _ _ _ e => by cases e)⟩
/-- The end, with memory handed back; g: its handles. -/
theorem fin1 {fn : Func} {rv : AV} {e : Exit} {S : St} {xs : List AV} {rs : List (Nat × Rs)} (g : Nat → Nat) (he : e = .normal ∨ e = .ret) (hr : ResL P S fn.results.toList xs) (hv : resAV xs = mapA g rv) (hrs : rs.foldr (fun q p => (S.res (g q.1) = some q.2 ∧ arrR q.2 = true) ∧ p) True) (hi : (rs.all fun q => rs.all fun q' => q.1 == q'.1 || g q.1 != g q'.1) = true) : Fin P fn rv rs e S := by
  have key : ∀ {l : List (Nat × Rs)}, l.foldr (fun q p => (S.res (g q.1) = some q.2 ∧ arrR q.2 = true) ∧ p) True → ∀ q ∈ l, S.res (g q.1) = some q.2 ∧ arrR q.2 = true := by
    intro l
    induction l with
    | nil => intro _ q hq; simp at hq
    | cons a l ih =>
      intro h q hq
      rcases List.mem_cons.1 hq with rfl | hq
      · exact h.1
      · exact ih h.2 q hq
  refine ⟨he, xs, g, hr, hv, fun h r e => key hrs _ (mem_of_findH e), fun h h' r r' e e' eg => ?_⟩
  have := List.all_eq_true.1 (List.all_eq_true.1 hi _ (mem_of_findH e)) _ (mem_of_findH e')
  simp only [Bool.or_eq_true, beq_iff_eq, bne_iff_ne, ne_eq] at this
  exact this.resolve_right (fun hn => hn eg)
theorem con_of {N : Nat} {f : FuncId} {fn : Func} {c : Code} {args : List Ar} {rv : AV} {rs : List (Nat × Rs)} (hf : P.funcs[f]? = some fn) (hb : fn.body = some c) (hN : fn.ntmps = N) (hn : (fn.name == "runtime.NumGoroutine") = false) (hl : args.length ≤ N)
    (h : VC P N c (mk (slots0 0 args) []) (Fin P fn rv rs)) : Con P f args rv rs := by
  subst hN
  exact con_of_vc hf hb hn hl (by rw [S0_mk]; exact h)
theorem con_calls {f : FuncId} {args : List Ar} {vs : Array Value} {rv : AV} {v : Value} (hc : callable P f = true) (ha : ∀ A w us, ArsRd A w args us → us = vs.toList) (hv : ∀ K φ w, MatchV K φ w rv v) (h : ∀ w, Calls P f vs w fun e w' => e = .returned v ∧ Below w.heap.size w w') : Con P f args rv [] := by
  refine ⟨hc, fun A w us hA hus => ?_⟩
  have : us = vs := by apply Array.ext'; exact ha A w _ hus
  subst this
  refine (h w).mono fun e w' ⟨he, hb⟩ => ?_
  exact ⟨v, fun _ => False, fun _ => none, he, hb, by simp, by simp, by simp [findH], by simp, by simp, by simp, by simp, hv _ _ _⟩
end
/-- A slice of numbers, as plain data. -/
abbrev intD (n : Int) : List Dat := [.int .i64 n]
def ints (l : List Int) : Dat := .sl 3 1 (l.map intD)
theorem map_at {α β : Type} {f : α → β} {l : List α} {k : Nat} {x : α} (h : l[k]? = some x) : (l.map f)[k]? = some (f x) := by simp [h]
theorem cells_ok {S : St} {sl : List (Nat × AV)} : ∀ {l : List (Nat × Operand)}, (∀ q ∈ l, cell1 S (evE sl q.2)) ↔ (l.foldr (fun q p => cell1 S (evE sl q.2) ∧ p) True)
  | [] => by simp
  | q :: l => by
    rw [List.foldr_cons, ← cells_ok (l := l)]
    exact List.forall_mem_cons
end Go.Proofs.Ytcgjlddpbkponaa
