/-
  Numbers as rationals, the program's.
-/
import Derived.Test.YtepphdhnkaiamaaLXf
namespace Go.Proofs.Ytepphdhnkaiamaa
open Go.ChangeShapes Go.WideShapes Go.ChangeAt Go.RowKit
set_option linter.unusedVariables false
set_option linter.unusedSimpArgs false
set_option maxRecDepth 100000
set_option maxHeartbeats 4000000
theorem getD_some {α : Type} {l : List α} {i : Nat} {x : α} (h : i < l.length) : l[i]? = some (l.getD i x) := by rw [List.getD_eq_getElem?_getD, List.getElem?_eq_getElem h]; rfl
theorem upto_snoc (k : Nat) : upto (k + 1) = upto k ++ [(k : Int)] := by simp [upto, List.range_succ]
def basU (n i : Nat) : List Int := (List.range i).map fun (j : Nat) => ((n + j : Nat) : Int)
theorem basU_snoc (n i : Nat) : basU n (i + 1) = basU n i ++ [((n + i : Nat) : Int)] := by simp [basU, List.range_succ]
theorem basU_len (n i : Nat) : (basU n i).length = i := by simp [basU]
theorem upto_len (i : Nat) : (upto i).length = i := by simp
theorem progRow {p : ProgramD} (h : okProg p = true) {i : Nat} (hi : i < p.rows.length) : (p.rows.getD i []).length = p.objective.length := by
  obtain ⟨_, _, _, b4, _⟩ := okProg_bnd h
  have := List.mem_of_getElem? (getD_some (x := ([] : List Int)) hi)
  exact (b4 _ (List.mem_append_left _ this)).1

abbrev k_whs_impl (l : List Int) : AV × List (Nat × Rs) := (.own 0, [(0, .arr 30 2 true ((l.map wholeR).map eRational))])
abbrev K_whs_impl (l : List Int) : Prop := Con Try.prog 43 [.one (.sl 3 1 (l.map intD))] (k_whs_impl l).1 (k_whs_impl l).2
theorem whs_impl (l : List Int) (hl : l.length ≤ 1048576) : K_whs_impl l := by
 refine con_y tbOk mixedW Try.func43 (by kernel_rfl) (.len l.length <| .loop (Nat × (List RationalD)) (Q2 Nat (List RationalD)) [3, 5, 6, 9, 10, 11, 12, 13, 14, 15, 16, 17, 18] [600, 1600, 1700] (fun yy0 => [(9, vI (yy0.1 : Int)), (3, .own 600)]) (fun yy0 => [(600, some (.arr 30 2 true (yy0.2.map eRational)))]) (fun yy0 => yy0.1 ≤ l.length ∧ yy0.2 = (l.take yy0.1).map wholeR ∧ yy0.2.length = yy0.1) (fun yy0 => l.length - yy0.1) (fun yy0 => .br (.elem _ intD l (fun e11 => .call (.agg [vI ((wholeR e11).num), vI ((wholeR e11).den)]) [] <| .app RationalD eRational yy0.2 ([(wholeR e11)] : List RationalD) <| .back [(600, 1700)])) (.fin [(0, 600)]))) (p := (l.map intD).length ≤ 9223372036854775807 → Lm intD l ∧ ((∃ (k : Nat) (o : List RationalD), (0 : Int) = (k : Int) ∧ [] = o.map eRational ∧ k ≤ l.length ∧ o = (l.take k).map wholeR ∧ o.length = k) ∧ ∀ (k : Nat) (o : List RationalD), (k ≤ l.length ∧ o = (l.take k).map wholeR ∧ o.length = k) → ((decide ((k : Int) < ((l.length : Nat) : Int))) = true → 0 ≤ (k : Int) ∧ Em intD l k fun e11 => K_wh_impl e11 ∧ o.map eRational = o.map eRational ∧ [[.int .i64 ((wholeR e11).num), .int .i64 ((wholeR e11).den)]] = ([(wholeR e11)] : List RationalD).map eRational ∧ (∀ x, flatB (eRational x) = true) ∧ (o.length + ([(wholeR e11)] : List RationalD).length) * 16 ≤ 140737488355328 ∧ inR ((k : Int) + (1 : Int)) ∧ ∃ (k' : Nat) (o' : List RationalD), ((k : Int) + (1 : Int)) = (k' : Int) ∧ (o ++ [(wholeR e11)]).map eRational = o'.map eRational ∧ (k' ≤ l.length ∧ o' = (l.take k').map wholeR ∧ o'.length = k') ∧ l.length - k' < l.length - k) ∧ ((decide ((k : Int) < ((l.length : Nat) : Int))) = false → o.map eRational = (l.map wholeR).map eRational ∧ True))) (by kernel_rfl) ?_
 intro n0
 simp only [List.length_map] at n0
 refine ⟨List.length_map _, ⟨0, ([] : List RationalD), rfl, rfl, Nat.zero_le _, rfl, rfl⟩, fun k o ⟨hk, ho, hL⟩ => ?_⟩
 refine ⟨fun c0 => ?_, fun c0 => ?_⟩
 ·replace c0 := yq c0
  refine ⟨by omega, rfl, by omega, fun e11 h11 => ?_⟩
  refine ⟨wh_impl e11, rfl, rfl, fun _ => rfl, by first | omega | (simp; omega), ?_⟩
  refine ⟨⟨by omega, by omega⟩, ?_⟩
  exact ⟨k + 1, _, rfl, rfl, ⟨by omega, by rw [ho, take_snoc h11, List.map_append]; rfl, by simp; omega⟩, by omega⟩
 ·replace c0 := nq c0
  refine ⟨?_, trivial⟩
  ·rw [ho, List.take_of_length_le (by omega)]
end Go.Proofs.Ytepphdhnkaiamaa
