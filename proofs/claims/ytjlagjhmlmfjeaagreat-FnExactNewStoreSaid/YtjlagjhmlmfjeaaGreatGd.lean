/-
  A row put into rows.
-/
import Derived.Test.YtjlagjhmlmfjeaaGreatGc
namespace Go.Proofs.YtjlagjhmlmfjeaaGreat
open Go.ChangeShapes Go.WideShapes Go.ChangeAt Go.RowKit
set_option linter.unusedVariables false
set_option linter.unusedSimpArgs false
theorem mem_sumL {α : Type} (f : α → Nat) {x : α} : ∀ {l : List α}, x ∈ l → f x ≤ sumL f l
  | a :: l, h => by
    simp only [sumL, List.map_cons, List.sum_cons]
    rcases List.mem_cons.1 h with q | q
    · subst q; omega
    · have := mem_sumL f q
      simp only [sumL] at this
      omega
theorem cIntSS_at {l : List (List Int)} {i : Nat} {x : List Int} (h : l[i]? = some x) : x.length ≤ cIntSS l := by
  have h1 : cIntSS l = l.length + sumL cIntS l := rfl
  have h2 : x.length ≤ sumL cIntS l := mem_sumL cIntS (List.mem_of_getElem? h)
  omega
def pgo (row : List Int) : Bool → List (List Int) → List (List Int)
  | p, [] => if p = true then [] else [row]
  | p, x :: xs => if 0 < cmpR x row ∧ p = false then row :: x :: pgo row true xs else x :: pgo row (p || decide (cmpR x row = 0)) xs
def putR (row : List Int) (rows : List (List Int)) : List (List Int) := pgo row false rows
theorem pgo_in {row x : List Int} {xs : List (List Int)} (h : 0 < cmpR x row) : pgo row false (x :: xs) = row :: x :: pgo row true xs := by rw [pgo, if_pos ⟨h, rfl⟩]
theorem pgo_eq {row x : List Int} {xs : List (List Int)} {p : Bool} (h : cmpR x row = 0) : pgo row p (x :: xs) = x :: pgo row true xs := by rw [pgo, if_neg (by omega), h]; simp
theorem pgo_on {row x : List Int} {xs : List (List Int)} : pgo row true (x :: xs) = x :: pgo row true xs := by rw [pgo, if_neg (by simp)]; rfl
theorem pgo_lt {row x : List Int} {xs : List (List Int)} {p : Bool} (h : ¬ 0 < cmpR x row) (h' : ¬ cmpR x row = 0) : pgo row p (x :: xs) = x :: pgo row p xs := by rw [pgo, if_neg (by omega)]; simp [h']

set_option maxRecDepth 100000 in
set_option maxHeartbeats 4000000 in
theorem put_spec (rows : List (List Int)) (row : List Int) (hl : rows.length ≤ 1000000) (hc : cIntSS rows ≤ 1048576) (hr : row.length ≤ 1048576) : Con Tryz.prog 125 [.one (.sl 25 1 (rows.map eIntS)), .one (.sl 3 1 (row.map intD))] (.own 0) [(0, .arr 25 1 true ((putR row rows).map eIntS))] := by
  refine con_x tbOk mixedW Tryz.func125 (by kernel_rfl) (.loop (Nat × (List (List Int)) × Bool) (Q3 Nat (List (List Int)) Bool) [5, 6, 7, 8, 9, 10, 11, 12, 13, 14, 15, 16, 17, 18, 19, 20, 21, 22, 23, 24, 25, 26, 27, 28, 29, 30, 31, 32, 33, 34, 35, 36, 37, 38, 39, 40, 41, 42, 43, 44] [900, 3100, 3300, 3400, 3500, 3700, 4200, 4300, 4400] (fun yy0 => [(7, vI (yy0.1 : Int)), (5, .own 900), (6, vB yy0.2.2)]) (fun yy0 => [(900, some (.arr 25 1 true (yy0.2.1.map eIntS)))]) (fun yy0 => yy0.1 ≤ rows.length ∧ yy0.2.1.length ≤ 2 * yy0.1 ∧ yy0.2.1 ++ pgo row yy0.2.2 (rows.drop yy0.1) = putR row rows) (fun yy0 => rows.length - yy0.1) (fun yy0 => .len rows.length <| .br (.elem (List Int) eIntS rows (fun e18 => .call (vI (cmpR e18 row)) [] <| .br (.br (.elem (List Int) eIntS rows (fun e40 => .app Int intD ([] : List Int) e40 <| .appx (List Int) eIntS yy0.2.1 (([] : List Int) ++ e40) <| .back [(900, 4400)])) (.elem (List Int) eIntS rows (fun e40 => .app Int intD ([] : List Int) e40 <| .appx (List Int) eIntS yy0.2.1 (([] : List Int) ++ e40) <| .back [(900, 4400)]))) (.br (.lit <| .lit <| .br (.app Int intD ([] : List Int) row <| .appx (List Int) eIntS yy0.2.1 (([] : List Int) ++ row) <| .elem (List Int) eIntS rows (fun e40 => .app Int intD ([] : List Int) e40 <| .appx (List Int) eIntS (yy0.2.1 ++ [([] : List Int) ++ row]) (([] : List Int) ++ e40) <| .back [(900, 4400)])) (.elem (List Int) eIntS rows (fun e40 => .app Int intD ([] : List Int) e40 <| .appx (List Int) eIntS yy0.2.1 (([] : List Int) ++ e40) <| .back [(900, 4400)]))) (.elem (List Int) eIntS rows (fun e40 => .app Int intD ([] : List Int) e40 <| .appx (List Int) eIntS yy0.2.1 (([] : List Int) ++ e40) <| .back [(900, 4400)]))))) (.br (.app Int intD ([] : List Int) row <| .appx (List Int) eIntS yy0.2.1 (([] : List Int) ++ row) <| .fin [(0, 5200)]) (.fin [(0, 900)])))) ?_
  refine Eq.mpr (by kernel_rfl : _ = ((rows.map eIntS).length ≤ 9223372036854775807 → (row.map intD).length ≤ 9223372036854775807 → (∃ (k : Nat) (out : List (List Int)) (p : Bool), (0 : Int) = (k : Int) ∧ (false) = p ∧ [] = out.map eIntS ∧ k ≤ rows.length ∧ out.length ≤ 2 * k ∧ out ++ pgo row p (rows.drop k) = putR row rows) ∧ ∀ (k : Nat) (out : List (List Int)) (p : Bool), (k ≤ rows.length ∧ out.length ≤ 2 * k ∧ out ++ pgo row p (rows.drop k) = putR row rows) → (rows.map eIntS).length = rows.length ∧ (((decide ((k : Int) < ((rows.length : Nat) : Int))) = true → 0 ≤ (k : Int) ∧ (rows.map eIntS = rows.map eIntS ∧ k < rows.length ∧ ∀ e18, rows[k]? = some e18 → Con Tryz.prog 126 [.one (.sl 3 1 (e18.map intD)), .one (.sl 3 1 (row.map intD))] (vI (cmpR e18 row)) [] ∧ (((decide ((cmpR e18 row) = (0 : Int))) = true → ((decide ((0 : Int) < (cmpR e18 row))) = true → 0 ≤ (k : Int) ∧ (rows.map eIntS = rows.map eIntS ∧ k < rows.length ∧ ∀ e40, rows[k]? = some e40 → [] = ([] : List Int).map intD ∧ e40.map intD = e40.map intD ∧ (∀ x, flatB (intD x) = true) ∧ (([] : List Int).length + e40.length) * 8 ≤ 140737488355328 ∧ out.map eIntS = out.map eIntS ∧ (([] : List Int) ++ e40).map intD = (([] : List Int) ++ e40).map intD ∧ (out.length + 1) * 24 ≤ 140737488355328 ∧ inR ((k : Int) + (1 : Int)) ∧ ∃ (k' : Nat) (out' : List (List Int)) (p' : Bool), ((k : Int) + (1 : Int)) = (k' : Int) ∧ (true) = p' ∧ (out ++ [([] : List Int) ++ e40]).map eIntS = out'.map eIntS ∧ (k' ≤ rows.length ∧ out'.length ≤ 2 * k' ∧ out' ++ pgo row p' (rows.drop k') = putR row rows) ∧ rows.length - k' < rows.length - k)) ∧ ((decide ((0 : Int) < (cmpR e18 row))) = false → 0 ≤ (k : Int) ∧ (rows.map eIntS = rows.map eIntS ∧ k < rows.length ∧ ∀ e40, rows[k]? = some e40 → [] = ([] : List Int).map intD ∧ e40.map intD = e40.map intD ∧ (∀ x, flatB (intD x) = true) ∧ (([] : List Int).length + e40.length) * 8 ≤ 140737488355328 ∧ out.map eIntS = out.map eIntS ∧ (([] : List Int) ++ e40).map intD = (([] : List Int) ++ e40).map intD ∧ (out.length + 1) * 24 ≤ 140737488355328 ∧ inR ((k : Int) + (1 : Int)) ∧ ∃ (k' : Nat) (out' : List (List Int)) (p' : Bool), ((k : Int) + (1 : Int)) = (k' : Int) ∧ (true) = p' ∧ (out ++ [([] : List Int) ++ e40]).map eIntS = out'.map eIntS ∧ (k' ≤ rows.length ∧ out'.length ≤ 2 * k' ∧ out' ++ pgo row p' (rows.drop k') = putR row rows) ∧ rows.length - k' < rows.length - k))) ∧ ((decide ((cmpR e18 row) = (0 : Int))) = false → ((decide ((0 : Int) < (cmpR e18 row))) = true → ((!p) = true → [] = ([] : List Int).map intD ∧ row.map intD = row.map intD ∧ (∀ x, flatB (intD x) = true) ∧ (([] : List Int).length + row.length) * 8 ≤ 140737488355328 ∧ (out.map eIntS = out.map eIntS ∧ (([] : List Int) ++ row).map intD = (([] : List Int) ++ row).map intD ∧ (out.length + 1) * 24 ≤ 140737488355328 ∧ (0 ≤ (k : Int) ∧ (rows.map eIntS = rows.map eIntS ∧ k < rows.length ∧ ∀ e40, rows[k]? = some e40 → [] = ([] : List Int).map intD ∧ e40.map intD = e40.map intD ∧ (∀ x, flatB (intD x) = true) ∧ (([] : List Int).length + e40.length) * 8 ≤ 140737488355328 ∧ (out ++ [([] : List Int) ++ row]).map eIntS = (out ++ [([] : List Int) ++ row]).map eIntS ∧ (([] : List Int) ++ e40).map intD = (([] : List Int) ++ e40).map intD ∧ ((out ++ [([] : List Int) ++ row]).length + 1) * 24 ≤ 140737488355328 ∧ inR ((k : Int) + (1 : Int)) ∧ ∃ (k' : Nat) (out' : List (List Int)) (p' : Bool), ((k : Int) + (1 : Int)) = (k' : Int) ∧ (true) = p' ∧ ((out ++ [([] : List Int) ++ row]) ++ [([] : List Int) ++ e40]).map eIntS = out'.map eIntS ∧ (k' ≤ rows.length ∧ out'.length ≤ 2 * k' ∧ out' ++ pgo row p' (rows.drop k') = putR row rows) ∧ rows.length - k' < rows.length - k)))) ∧ ((!p) = false → 0 ≤ (k : Int) ∧ (rows.map eIntS = rows.map eIntS ∧ k < rows.length ∧ ∀ e40, rows[k]? = some e40 → [] = ([] : List Int).map intD ∧ e40.map intD = e40.map intD ∧ (∀ x, flatB (intD x) = true) ∧ (([] : List Int).length + e40.length) * 8 ≤ 140737488355328 ∧ out.map eIntS = out.map eIntS ∧ (([] : List Int) ++ e40).map intD = (([] : List Int) ++ e40).map intD ∧ (out.length + 1) * 24 ≤ 140737488355328 ∧ inR ((k : Int) + (1 : Int)) ∧ ∃ (k' : Nat) (out' : List (List Int)) (p' : Bool), ((k : Int) + (1 : Int)) = (k' : Int) ∧ (p) = p' ∧ (out ++ [([] : List Int) ++ e40]).map eIntS = out'.map eIntS ∧ (k' ≤ rows.length ∧ out'.length ≤ 2 * k' ∧ out' ++ pgo row p' (rows.drop k') = putR row rows) ∧ rows.length - k' < rows.length - k))) ∧ ((decide ((0 : Int) < (cmpR e18 row))) = false → 0 ≤ (k : Int) ∧ (rows.map eIntS = rows.map eIntS ∧ k < rows.length ∧ ∀ e40, rows[k]? = some e40 → [] = ([] : List Int).map intD ∧ e40.map intD = e40.map intD ∧ (∀ x, flatB (intD x) = true) ∧ (([] : List Int).length + e40.length) * 8 ≤ 140737488355328 ∧ out.map eIntS = out.map eIntS ∧ (([] : List Int) ++ e40).map intD = (([] : List Int) ++ e40).map intD ∧ (out.length + 1) * 24 ≤ 140737488355328 ∧ inR ((k : Int) + (1 : Int)) ∧ ∃ (k' : Nat) (out' : List (List Int)) (p' : Bool), ((k : Int) + (1 : Int)) = (k' : Int) ∧ (p) = p' ∧ (out ++ [([] : List Int) ++ e40]).map eIntS = out'.map eIntS ∧ (k' ≤ rows.length ∧ out'.length ≤ 2 * k' ∧ out' ++ pgo row p' (rows.drop k') = putR row rows) ∧ rows.length - k' < rows.length - k)))))) ∧ ((decide ((k : Int) < ((rows.length : Nat) : Int))) = false → ((!p) = true → [] = ([] : List Int).map intD ∧ row.map intD = row.map intD ∧ (∀ x, flatB (intD x) = true) ∧ (([] : List Int).length + row.length) * 8 ≤ 140737488355328 ∧ out.map eIntS = out.map eIntS ∧ (([] : List Int) ++ row).map intD = (([] : List Int) ++ row).map intD ∧ (out.length + 1) * 24 ≤ 140737488355328 ∧ (out ++ [([] : List Int) ++ row]).map eIntS = (putR row rows).map eIntS ∧ True) ∧ ((!p) = false → out.map eIntS = (putR row rows).map eIntS ∧ True))))) ?_
  intro n0 n1
  simp only [List.length_map] at n0 n1
  refine ⟨⟨0, ([] : List (List Int)), false, rfl, rfl, rfl, Nat.zero_le _, by simp, rfl⟩, fun k out p ⟨hk, ho, hv⟩ => ?_⟩
  refine ⟨List.length_map _, ?_⟩
  refine ⟨fun c0 => ?_, fun c0 => ?_⟩
  · replace c0 := of_decide_eq_true c0
    refine ⟨by omega, ?_⟩
    refine ⟨rfl, by omega, fun e18 h18 => ?_⟩
    have hsz := cIntSS_at h18
    refine ⟨cmpRows_spec _ _, ?_⟩
    refine ⟨fun c1 => ?_, fun c1 => ?_⟩
    · replace c1 := of_decide_eq_true c1
      refine ⟨fun g26 => ?_, fun g26 => ?_⟩
      · replace g26 := of_decide_eq_true g26
        refine ⟨by omega, ?_⟩
        refine ⟨rfl, by omega, fun e40 h40 => ?_⟩
        obtain rfl := (same_at h18 h40).symm
        refine ⟨rfl, rfl, fun _ => rfl, by first | omega | (simp; omega), ?_⟩
        refine ⟨rfl, rfl, by first | omega | (simp; omega), ?_⟩
        refine ⟨⟨by omega, by omega⟩, ?_⟩
        exact ⟨k + 1, _, _, rfl, rfl, rfl, ⟨by omega, by simp; omega, by rw [← hv, drop_at h18]; first | (rw [pgo_eq c1]; simp; done) | (subst c2; rw [pgo_on]; simp; done) | (subst c2; rw [pgo_in g26]; simp; done) | (rw [pgo_lt g26 c1]; simp; done)⟩, by omega⟩
      · replace g26 := of_decide_eq_false g26
        refine ⟨by omega, ?_⟩
        refine ⟨rfl, by omega, fun e40 h40 => ?_⟩
        obtain rfl := (same_at h18 h40).symm
        refine ⟨rfl, rfl, fun _ => rfl, by first | omega | (simp; omega), ?_⟩
        refine ⟨rfl, rfl, by first | omega | (simp; omega), ?_⟩
        refine ⟨⟨by omega, by omega⟩, ?_⟩
        exact ⟨k + 1, _, _, rfl, rfl, rfl, ⟨by omega, by simp; omega, by rw [← hv, drop_at h18]; first | (rw [pgo_eq c1]; simp; done) | (subst c2; rw [pgo_on]; simp; done) | (subst c2; rw [pgo_in g26]; simp; done) | (rw [pgo_lt g26 c1]; simp; done)⟩, by omega⟩
    · replace c1 := of_decide_eq_false c1
      refine ⟨fun g26 => ?_, fun g26 => ?_⟩
      · replace g26 := of_decide_eq_true g26
        refine ⟨fun c2 => ?_, fun c2 => ?_⟩
        · replace c2 := nt c2
          refine ⟨rfl, rfl, fun _ => rfl, by first | omega | (simp; omega), ?_⟩
          refine ⟨rfl, rfl, by first | omega | (simp; omega), ?_⟩
          refine ⟨by omega, ?_⟩
          refine ⟨rfl, by omega, fun e40 h40 => ?_⟩
          obtain rfl := (same_at h18 h40).symm
          refine ⟨rfl, rfl, fun _ => rfl, by first | omega | (simp; omega), ?_⟩
          refine ⟨rfl, rfl, by first | omega | (simp; omega), ?_⟩
          refine ⟨⟨by omega, by omega⟩, ?_⟩
          exact ⟨k + 1, _, _, rfl, rfl, rfl, ⟨by omega, by simp; omega, by rw [← hv, drop_at h18]; first | (rw [pgo_eq c1]; simp; done) | (subst c2; rw [pgo_on]; simp; done) | (subst c2; rw [pgo_in g26]; simp; done) | (rw [pgo_lt g26 c1]; simp; done)⟩, by omega⟩
        · replace c2 := nf c2
          refine ⟨by omega, ?_⟩
          refine ⟨rfl, by omega, fun e40 h40 => ?_⟩
          obtain rfl := (same_at h18 h40).symm
          refine ⟨rfl, rfl, fun _ => rfl, by first | omega | (simp; omega), ?_⟩
          refine ⟨rfl, rfl, by first | omega | (simp; omega), ?_⟩
          refine ⟨⟨by omega, by omega⟩, ?_⟩
          exact ⟨k + 1, _, _, rfl, rfl, rfl, ⟨by omega, by simp; omega, by rw [← hv, drop_at h18]; first | (rw [pgo_eq c1]; simp; done) | (subst c2; rw [pgo_on]; simp; done) | (subst c2; rw [pgo_in g26]; simp; done) | (rw [pgo_lt g26 c1]; simp; done)⟩, by omega⟩
      · replace g26 := of_decide_eq_false g26
        refine ⟨by omega, ?_⟩
        refine ⟨rfl, by omega, fun e40 h40 => ?_⟩
        obtain rfl := (same_at h18 h40).symm
        refine ⟨rfl, rfl, fun _ => rfl, by first | omega | (simp; omega), ?_⟩
        refine ⟨rfl, rfl, by first | omega | (simp; omega), ?_⟩
        refine ⟨⟨by omega, by omega⟩, ?_⟩
        exact ⟨k + 1, _, _, rfl, rfl, rfl, ⟨by omega, by simp; omega, by rw [← hv, drop_at h18]; first | (rw [pgo_eq c1]; simp; done) | (subst c2; rw [pgo_on]; simp; done) | (subst c2; rw [pgo_in g26]; simp; done) | (rw [pgo_lt g26 c1]; simp; done)⟩, by omega⟩
  · replace c0 := of_decide_eq_false c0
    refine ⟨fun c3 => ?_, fun c3 => ?_⟩
    · replace c3 := nt c3
      refine ⟨rfl, rfl, fun _ => rfl, by first | omega | (simp; omega), ?_⟩
      refine ⟨rfl, rfl, by first | omega | (simp; omega), ?_⟩
      refine ⟨?_, trivial⟩
      · rw [← hv, drop_end (by omega), pgo]; simp [c3]
    · replace c3 := nf c3
      refine ⟨?_, trivial⟩
      · rw [← hv, drop_end (by omega), pgo]; simp [c3]
end Go.Proofs.YtjlagjhmlmfjeaaGreat
