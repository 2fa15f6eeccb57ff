/-
  Contracts and plain laws, joined: part 8.
-/
import Derived.Test.YtokkjaflmcjlhaaGreatQAtomDegree6
namespace Go.Proofs.YtokkjaflmcjlhaaGreat
open Go.ChangeShapes Go.WideShapes Go.ChangeAt Go.RowKit
set_option linter.unusedVariables false
set_option linter.unusedSimpArgs false
set_option maxRecDepth 100000
set_option maxHeartbeats 4000000
theorem mem_sumL {α : Type} (f : α → Nat) {x : α} : ∀ {l : List α}, x ∈ l → f x ≤ sumL f l
  | a :: l, h => by
    simp only [sumL, List.map_cons, List.sum_cons]
    rcases List.mem_cons.1 h with q | q
    · subst q; omega
    · have := mem_sumL f q
      simp only [sumL] at this
      omega
theorem cIntSS_at {l : List (List Int)} {i : Nat} {x : List Int} (h : l[i]? = some x) : x.length ≤ cIntSS l := by
  have h1 : cIntSS l = l.length + sumL cIntS l := rfl
  have h2 : x.length ≤ sumL cIntS l := mem_sumL cIntS (List.mem_of_getElem? h)
  omega
def pgo (row : List Int) : Bool → List (List Int) → List (List Int)
  | p, [] => if p = true then [] else [row]
  | p, x :: xs => if 0 < cmpR x row ∧ p = false then row :: x :: pgo row true xs else x :: pgo row (p || decide (cmpR x row = 0)) xs
def putR (row : List Int) (rows : List (List Int)) : List (List Int) := pgo row false rows
theorem pgo_in {row x : List Int} {xs : List (List Int)} (h : 0 < cmpR x row) : pgo row false (x :: xs) = row :: x :: pgo row true xs := by rw [pgo, if_pos ⟨h, rfl⟩]
theorem pgo_eq {row x : List Int} {xs : List (List Int)} {p : Bool} (h : cmpR x row = 0) : pgo row p (x :: xs) = x :: pgo row true xs := by rw [pgo, if_neg (by omega), h]; simp
theorem pgo_on {row x : List Int} {xs : List (List Int)} : pgo row true (x :: xs) = x :: pgo row true xs := by rw [pgo, if_neg (by simp)]; rfl
theorem pgo_lt {row x : List Int} {xs : List (List Int)} {p : Bool} (h : ¬ 0 < cmpR x row) (h' : ¬ cmpR x row = 0) : pgo row p (x :: xs) = x :: pgo row p xs := by rw [pgo, if_neg (by omega)]; simp [h']
abbrev k_put_spec (rows : List (List Int)) (row : List Int) : AV × List (Nat × Rs) := (.own 0, [(0, .arr 32 1 true ((putR row rows).map eIntS))])
abbrev K_put_spec (rows : List (List Int)) (row : List Int) : Prop := Con Tryz.prog 210 [.one (.sl 32 1 (rows.map eIntS)), .one (.sl 3 1 (row.map intD))] (k_put_spec rows row).1 (k_put_spec rows row).2
theorem put_spec (rows : List (List Int)) (row : List Int) (hl : rows.length ≤ 1000000) (hc : cIntSS rows ≤ 1048576) (hr : row.length ≤ 1048576) : K_put_spec rows row := by
 refine con_x tbOk mixedW Tryz.func210 (by kernel_rfl) (.loop (Nat × (List (List Int)) × Bool) (Q3 Nat (List (List Int)) Bool) [5, 6, 7, 8, 9, 10, 11, 12, 13, 14, 15, 16, 17, 18, 19, 20, 21, 22, 23, 24, 25, 26, 27, 28, 29, 30, 31, 32, 33, 34, 35, 36, 37, 38, 39, 40, 41, 42, 43, 44] [900, 3100, 3300, 3400, 3500, 3700, 4200, 4300, 4400] (fun yy0 => [(7, vI (yy0.1 : Int)), (5, .own 900), (6, vB yy0.2.2)]) (fun yy0 => [(900, some (.arr 32 1 true (yy0.2.1.map eIntS)))]) (fun yy0 => yy0.1 ≤ rows.length ∧ yy0.2.1.length ≤ 2 * yy0.1 ∧ yy0.2.1 ++ pgo row yy0.2.2 (rows.drop yy0.1) = putR row rows) (fun yy0 => rows.length - yy0.1) (fun yy0 => .len rows.length <| .br (.elem _ eIntS rows (fun e18 => .call (vI (cmpR e18 row)) [] <| .br (.br (.elem _ eIntS rows (fun e40 => .app Int intD ([] : List Int) e40 <| .appx (List Int) eIntS yy0.2.1 (([] : List Int) ++ e40) <| .back [(900, 4400)])) (.elem _ eIntS rows (fun e40 => .app Int intD ([] : List Int) e40 <| .appx (List Int) eIntS yy0.2.1 (([] : List Int) ++ e40) <| .back [(900, 4400)]))) (.br (.lit <| .lit <| .br (.app Int intD ([] : List Int) row <| .appx (List Int) eIntS yy0.2.1 (([] : List Int) ++ row) <| .elem _ eIntS rows (fun e40 => .app Int intD ([] : List Int) e40 <| .appx (List Int) eIntS (yy0.2.1 ++ [([] : List Int) ++ row]) (([] : List Int) ++ e40) <| .back [(900, 4400)])) (.elem _ eIntS rows (fun e40 => .app Int intD ([] : List Int) e40 <| .appx (List Int) eIntS yy0.2.1 (([] : List Int) ++ e40) <| .back [(900, 4400)]))) (.elem _ eIntS rows (fun e40 => .app Int intD ([] : List Int) e40 <| .appx (List Int) eIntS yy0.2.1 (([] : List Int) ++ e40) <| .back [(900, 4400)]))))) (.br (.app Int intD ([] : List Int) row <| .appx (List Int) eIntS yy0.2.1 (([] : List Int) ++ row) <| .fin [(0, 5200)]) (.fin [(0, 900)])))) ?_
 refine Eq.mpr (by kernel_rfl : _ = ((rows.map eIntS).length ≤ 9223372036854775807 → (row.map intD).length ≤ 9223372036854775807 → (∃ (k : Nat) (out : List (List Int)) (p : Bool), (0 : Int) = (k : Int) ∧ (false) = p ∧ [] = out.map eIntS ∧ k ≤ rows.length ∧ out.length ≤ 2 * k ∧ out ++ pgo row p (rows.drop k) = putR row rows) ∧ ∀ (k : Nat) (out : List (List Int)) (p : Bool), (k ≤ rows.length ∧ out.length ≤ 2 * k ∧ out ++ pgo row p (rows.drop k) = putR row rows) → Lm eIntS rows ∧ (((decide ((k : Int) < ((rows.length : Nat) : Int))) = true → 0 ≤ (k : Int) ∧ Em eIntS rows k fun e18 => K_cmpRows_spec e18 row ∧ (((decide ((cmpR e18 row) = (0 : Int))) = true → ((decide ((0 : Int) < (cmpR e18 row))) = true → 0 ≤ (k : Int) ∧ Em eIntS rows k fun e40 => [] = ([] : List Int).map intD ∧ e40.map intD = e40.map intD ∧ (∀ x, flatB (intD x) = true) ∧ (([] : List Int).length + e40.length) * 8 ≤ 140737488355328 ∧ out.map eIntS = out.map eIntS ∧ (([] : List Int) ++ e40).map intD = (([] : List Int) ++ e40).map intD ∧ (out.length + 1) * 24 ≤ 140737488355328 ∧ inR ((k : Int) + (1 : Int)) ∧ ∃ (k' : Nat) (out' : List (List Int)) (p' : Bool), ((k : Int) + (1 : Int)) = (k' : Int) ∧ (true) = p' ∧ (out ++ [([] : List Int) ++ e40]).map eIntS = out'.map eIntS ∧ (k' ≤ rows.length ∧ out'.length ≤ 2 * k' ∧ out' ++ pgo row p' (rows.drop k') = putR row rows) ∧ rows.length - k' < rows.length - k) ∧ ((decide ((0 : Int) < (cmpR e18 row))) = false → 0 ≤ (k : Int) ∧ Em eIntS rows k fun e40 => [] = ([] : List Int).map intD ∧ e40.map intD = e40.map intD ∧ (∀ x, flatB (intD x) = true) ∧ (([] : List Int).length + e40.length) * 8 ≤ 140737488355328 ∧ out.map eIntS = out.map eIntS ∧ (([] : List Int) ++ e40).map intD = (([] : List Int) ++ e40).map intD ∧ (out.length + 1) * 24 ≤ 140737488355328 ∧ inR ((k : Int) + (1 : Int)) ∧ ∃ (k' : Nat) (out' : List (List Int)) (p' : Bool), ((k : Int) + (1 : Int)) = (k' : Int) ∧ (true) = p' ∧ (out ++ [([] : List Int) ++ e40]).map eIntS = out'.map eIntS ∧ (k' ≤ rows.length ∧ out'.length ≤ 2 * k' ∧ out' ++ pgo row p' (rows.drop k') = putR row rows) ∧ rows.length - k' < rows.length - k)) ∧ ((decide ((cmpR e18 row) = (0 : Int))) = false → ((decide ((0 : Int) < (cmpR e18 row))) = true → ((!p) = true → [] = ([] : List Int).map intD ∧ row.map intD = row.map intD ∧ (∀ x, flatB (intD x) = true) ∧ (([] : List Int).length + row.length) * 8 ≤ 140737488355328 ∧ out.map eIntS = out.map eIntS ∧ (([] : List Int) ++ row).map intD = (([] : List Int) ++ row).map intD ∧ (out.length + 1) * 24 ≤ 140737488355328 ∧ 0 ≤ (k : Int) ∧ Em eIntS rows k fun e40 => [] = ([] : List Int).map intD ∧ e40.map intD = e40.map intD ∧ (∀ x, flatB (intD x) = true) ∧ (([] : List Int).length + e40.length) * 8 ≤ 140737488355328 ∧ (out ++ [([] : List Int) ++ row]).map eIntS = (out ++ [([] : List Int) ++ row]).map eIntS ∧ (([] : List Int) ++ e40).map intD = (([] : List Int) ++ e40).map intD ∧ ((out ++ [([] : List Int) ++ row]).length + 1) * 24 ≤ 140737488355328 ∧ inR ((k : Int) + (1 : Int)) ∧ ∃ (k' : Nat) (out' : List (List Int)) (p' : Bool), ((k : Int) + (1 : Int)) = (k' : Int) ∧ (true) = p' ∧ ((out ++ [([] : List Int) ++ row]) ++ [([] : List Int) ++ e40]).map eIntS = out'.map eIntS ∧ (k' ≤ rows.length ∧ out'.length ≤ 2 * k' ∧ out' ++ pgo row p' (rows.drop k') = putR row rows) ∧ rows.length - k' < rows.length - k) ∧ ((!p) = false → 0 ≤ (k : Int) ∧ Em eIntS rows k fun e40 => [] = ([] : List Int).map intD ∧ e40.map intD = e40.map intD ∧ (∀ x, flatB (intD x) = true) ∧ (([] : List Int).length + e40.length) * 8 ≤ 140737488355328 ∧ out.map eIntS = out.map eIntS ∧ (([] : List Int) ++ e40).map intD = (([] : List Int) ++ e40).map intD ∧ (out.length + 1) * 24 ≤ 140737488355328 ∧ inR ((k : Int) + (1 : Int)) ∧ ∃ (k' : Nat) (out' : List (List Int)) (p' : Bool), ((k : Int) + (1 : Int)) = (k' : Int) ∧ (p) = p' ∧ (out ++ [([] : List Int) ++ e40]).map eIntS = out'.map eIntS ∧ (k' ≤ rows.length ∧ out'.length ≤ 2 * k' ∧ out' ++ pgo row p' (rows.drop k') = putR row rows) ∧ rows.length - k' < rows.length - k)) ∧ ((decide ((0 : Int) < (cmpR e18 row))) = false → 0 ≤ (k : Int) ∧ Em eIntS rows k fun e40 => [] = ([] : List Int).map intD ∧ e40.map intD = e40.map intD ∧ (∀ x, flatB (intD x) = true) ∧ (([] : List Int).length + e40.length) * 8 ≤ 140737488355328 ∧ out.map eIntS = out.map eIntS ∧ (([] : List Int) ++ e40).map intD = (([] : List Int) ++ e40).map intD ∧ (out.length + 1) * 24 ≤ 140737488355328 ∧ inR ((k : Int) + (1 : Int)) ∧ ∃ (k' : Nat) (out' : List (List Int)) (p' : Bool), ((k : Int) + (1 : Int)) = (k' : Int) ∧ (p) = p' ∧ (out ++ [([] : List Int) ++ e40]).map eIntS = out'.map eIntS ∧ (k' ≤ rows.length ∧ out'.length ≤ 2 * k' ∧ out' ++ pgo row p' (rows.drop k') = putR row rows) ∧ rows.length - k' < rows.length - k)))) ∧ ((decide ((k : Int) < ((rows.length : Nat) : Int))) = false → ((!p) = true → [] = ([] : List Int).map intD ∧ row.map intD = row.map intD ∧ (∀ x, flatB (intD x) = true) ∧ (([] : List Int).length + row.length) * 8 ≤ 140737488355328 ∧ out.map eIntS = out.map eIntS ∧ (([] : List Int) ++ row).map intD = (([] : List Int) ++ row).map intD ∧ (out.length + 1) * 24 ≤ 140737488355328 ∧ (out ++ [([] : List Int) ++ row]).map eIntS = (putR row rows).map eIntS ∧ True) ∧ ((!p) = false → out.map eIntS = (putR row rows).map eIntS ∧ True))))) ?_
 intro n0 n1
 simp only [List.length_map] at n0 n1
 refine ⟨⟨0, ([] : List (List Int)), false, rfl, rfl, rfl, Nat.zero_le _, by simp, rfl⟩, fun k out p ⟨hk, ho, hv⟩ => ?_⟩
 refine ⟨List.length_map _, fun c0 => ?_, fun c0 => ?_⟩
 ·replace c0 := yq c0
  refine ⟨by omega, rfl, by omega, fun e18 h18 => ?_⟩
  have hsz := cIntSS_at h18
  refine ⟨cmpRows_spec _ _, fun c1 => ?_, fun c1 => ?_⟩
  ·replace c1 := yq c1
   refine ⟨fun g26 => ?_, fun g26 => ?_⟩
   ·replace g26 := yq g26
    refine ⟨by omega, rfl, by omega, fun e40 h40 => ?_⟩
    obtain rfl := (same_at h18 h40).symm
    refine ⟨rfl, rfl, fun _ => rfl, by first | omega | (simp; omega), ?_⟩
    refine ⟨rfl, rfl, by first | omega | (simp; omega), ⟨by omega, by omega⟩, ?_⟩
    exact ⟨k + 1, _, _, rfl, rfl, rfl, ⟨by omega, by simp; omega, by rw [← hv, drop_at h18]; first | (rw [pgo_eq c1]; simp; done) | (subst c2; rw [pgo_on]; simp; done) | (subst c2; rw [pgo_in g26]; simp; done) | (rw [pgo_lt g26 c1]; simp; done)⟩, by omega⟩
   ·replace g26 := nq g26
    refine ⟨by omega, rfl, by omega, fun e40 h40 => ?_⟩
    obtain rfl := (same_at h18 h40).symm
    refine ⟨rfl, rfl, fun _ => rfl, by first | omega | (simp; omega), ?_⟩
    refine ⟨rfl, rfl, by first | omega | (simp; omega), ⟨by omega, by omega⟩, ?_⟩
    exact ⟨k + 1, _, _, rfl, rfl, rfl, ⟨by omega, by simp; omega, by rw [← hv, drop_at h18]; first | (rw [pgo_eq c1]; simp; done) | (subst c2; rw [pgo_on]; simp; done) | (subst c2; rw [pgo_in g26]; simp; done) | (rw [pgo_lt g26 c1]; simp; done)⟩, by omega⟩
  ·replace c1 := nq c1
   refine ⟨fun g26 => ?_, fun g26 => ?_⟩
   ·replace g26 := yq g26
    refine ⟨fun c2 => ?_, fun c2 => ?_⟩
    ·replace c2 := nt c2
     refine ⟨rfl, rfl, fun _ => rfl, by first | omega | (simp; omega), ?_⟩
     refine ⟨rfl, rfl, by first | omega | (simp; omega), by omega, rfl, by omega, fun e40 h40 => ?_⟩
     obtain rfl := (same_at h18 h40).symm
     refine ⟨rfl, rfl, fun _ => rfl, by first | omega | (simp; omega), ?_⟩
     refine ⟨rfl, rfl, by first | omega | (simp; omega), ⟨by omega, by omega⟩, ?_⟩
     exact ⟨k + 1, _, _, rfl, rfl, rfl, ⟨by omega, by simp; omega, by rw [← hv, drop_at h18]; first | (rw [pgo_eq c1]; simp; done) | (subst c2; rw [pgo_on]; simp; done) | (subst c2; rw [pgo_in g26]; simp; done) | (rw [pgo_lt g26 c1]; simp; done)⟩, by omega⟩
    ·replace c2 := nf c2
     refine ⟨by omega, rfl, by omega, fun e40 h40 => ?_⟩
     obtain rfl := (same_at h18 h40).symm
     refine ⟨rfl, rfl, fun _ => rfl, by first | omega | (simp; omega), ?_⟩
     refine ⟨rfl, rfl, by first | omega | (simp; omega), ⟨by omega, by omega⟩, ?_⟩
     exact ⟨k + 1, _, _, rfl, rfl, rfl, ⟨by omega, by simp; omega, by rw [← hv, drop_at h18]; first | (rw [pgo_eq c1]; simp; done) | (subst c2; rw [pgo_on]; simp; done) | (subst c2; rw [pgo_in g26]; simp; done) | (rw [pgo_lt g26 c1]; simp; done)⟩, by omega⟩
   ·replace g26 := nq g26
    refine ⟨by omega, rfl, by omega, fun e40 h40 => ?_⟩
    obtain rfl := (same_at h18 h40).symm
    refine ⟨rfl, rfl, fun _ => rfl, by first | omega | (simp; omega), ?_⟩
    refine ⟨rfl, rfl, by first | omega | (simp; omega), ⟨by omega, by omega⟩, ?_⟩
    exact ⟨k + 1, _, _, rfl, rfl, rfl, ⟨by omega, by simp; omega, by rw [← hv, drop_at h18]; first | (rw [pgo_eq c1]; simp; done) | (subst c2; rw [pgo_on]; simp; done) | (subst c2; rw [pgo_in g26]; simp; done) | (rw [pgo_lt g26 c1]; simp; done)⟩, by omega⟩
 ·replace c0 := nq c0
  refine ⟨fun c3 => ?_, fun c3 => ?_⟩
  ·replace c3 := nt c3
   refine ⟨rfl, rfl, fun _ => rfl, by first | omega | (simp; omega), ?_⟩
   refine ⟨rfl, rfl, by first | omega | (simp; omega), ?_, trivial⟩
   ·rw [← hv, drop_end (by omega), pgo]; simp [c3]
  ·replace c3 := nf c3
   refine ⟨?_, trivial⟩
   ·rw [← hv, drop_end (by omega), pgo]; simp [c3]
theorem pgo_true {row : List Int} : ∀ xs : List (List Int), pgo row true xs = xs
  | [] => rfl
  | x :: xs => by rw [pgo_on, pgo_true xs]
theorem putR_nil {row : List Int} : putR row [] = [row] := rfl
theorem putR_in {row x : List Int} {xs : List (List Int)} (h : 0 < cmpR x row) : putR row (x :: xs) = row :: x :: xs := by rw [putR, pgo_in h, pgo_true]
theorem putR_eq {row x : List Int} {xs : List (List Int)} (h : cmpR x row = 0) : putR row (x :: xs) = x :: xs := by rw [putR, pgo_eq h, pgo_true]
theorem putR_lt {row x : List Int} {xs : List (List Int)} (h : ¬ 0 < cmpR x row) (h' : ¬ cmpR x row = 0) : putR row (x :: xs) = x :: putR row xs := by rw [putR, pgo_lt h h', putR]
theorem putR_mem {row y : List Int} : ∀ {xs : List (List Int)}, y ∈ putR row xs ↔ y = row ∨ y ∈ xs
  | [] => by simp [putR_nil]
  | x :: xs => by
    by_cases h : 0 < cmpR x row
    · rw [putR_in h]; simp
    · by_cases h' : cmpR x row = 0
      · rw [putR_eq h', cmpR_zero.1 h']
        constructor
        · exact Or.inr
        · rintro (rfl | q)
          · simp
          · exact q
      · rw [putR_lt h h', List.mem_cons, List.mem_cons, putR_mem]
        constructor
        · rintro (q | q | q)
          · exact .inr (.inl q)
          · exact .inl q
          · exact .inr (.inr q)
        · rintro (q | q | q)
          · exact .inr (.inl q)
          · exact .inl q
          · exact .inr (.inr q)
abbrev Asc (l : List (List Int)) : Prop := l.Pairwise fun a b => cmpR a b < 0
theorem putR_asc {row : List Int} : ∀ {xs : List (List Int)}, Asc xs → Asc (putR row xs)
  | [], _ => by rw [putR_nil]; exact List.pairwise_singleton _ _
  | x :: xs, hx => by
    have h1 := List.pairwise_cons.1 hx
    by_cases h : 0 < cmpR x row
    · rw [putR_in h]
      refine List.pairwise_cons.2 ⟨fun y hy => ?_, hx⟩
      have hrx : cmpR row x < 0 := cmpR_anti.2 h
      rcases List.mem_cons.1 hy with rfl | q
      · exact hrx
      · exact cmpR_trans hrx (h1.1 y q)
    · by_cases h' : cmpR x row = 0
      · rw [putR_eq h']; exact hx
      · rw [putR_lt h h']
        refine List.pairwise_cons.2 ⟨fun y hy => ?_, putR_asc h1.2⟩
        rcases putR_mem.1 hy with rfl | q
        · omega
        · exact h1.1 y q
theorem putR_len {row : List Int} : ∀ {xs : List (List Int)}, (putR row xs).length ≤ xs.length + 1
  | [] => by simp [putR_nil]
  | x :: xs => by
    by_cases h : 0 < cmpR x row
    · rw [putR_in h]; simp
    · by_cases h' : cmpR x row = 0
      · rw [putR_eq h']; simp
      · rw [putR_lt h h']
        have := putR_len (row := row) (xs := xs)
        simp only [List.length_cons]; omega
def foldPut (l : List (List Int)) : List (List Int) := l.foldl (fun acc x => putR x acc) []
theorem foldPut_all (l : List (List Int)) : ∀ acc, Asc acc → Asc (l.foldl (fun acc x => putR x acc) acc) ∧ (∀ y, y ∈ l.foldl (fun acc x => putR x acc) acc ↔ y ∈ acc ∨ y ∈ l) ∧ (l.foldl (fun acc x => putR x acc) acc).length ≤ acc.length + l.length := by
  induction l with
  | nil => intro acc h; simp [h]
  | cons x l ih =>
    intro acc h
    obtain ⟨h1, h2, h3⟩ := ih _ (putR_asc (row := x) h)
    refine ⟨h1, fun y => ?_, ?_⟩
    · rw [List.foldl_cons, h2, putR_mem, List.mem_cons]
      constructor
      · rintro ((q | q) | q)
        · exact .inr (.inl q)
        · exact .inl q
        · exact .inr (.inr q)
      · rintro (q | q | q)
        · exact .inl (.inr q)
        · exact .inl (.inl q)
        · exact .inr q
    · have := putR_len (row := x) (xs := acc)
      rw [List.foldl_cons, List.length_cons]; omega
theorem foldPut_snoc {l : List (List Int)} {x : List Int} : foldPut (l ++ [x]) = putR x (foldPut l) := by simp [foldPut, List.foldl_append]
theorem asc_ext : ∀ {l m : List (List Int)}, Asc l → Asc m → (∀ x, x ∈ l ↔ x ∈ m) → l = m
  | [], [], _, _, _ => rfl
  | [], b :: m, _, _, h => by have := (h b).2 (by simp); simp at this
  | a :: l, [], _, _, h => by have := (h a).1 (by simp); simp at this
  | a :: l, b :: m, hl, hm, h => by
    have hl' := List.pairwise_cons.1 hl
    have hm' := List.pairwise_cons.1 hm
    have hab : a = b := by
      rcases List.mem_cons.1 ((h a).1 (by simp)) with q | q
      · exact q
      · rcases List.mem_cons.1 ((h b).2 (by simp)) with r | r
        · exact r.symm
        · have h1 := hm'.1 a q
          have h2 := hl'.1 b r
          have := cmpR_trans h1 h2
          rw [cmpR_self] at this; omega
    subst hab
    congr 1
    refine asc_ext hl'.2 hm'.2 fun x => ⟨fun hx => ?_, fun hx => ?_⟩
    · rcases List.mem_cons.1 ((h x).1 (by simp [hx])) with q | q
      · subst q; have := hl'.1 _ hx; rw [cmpR_self] at this; omega
      · exact q
    · rcases List.mem_cons.1 ((h x).2 (by simp [hx])) with q | q
      · subst q; have := hm'.1 _ hx; rw [cmpR_self] at this; omega
      · exact q
theorem dedL_mem {s : List (List Int)} {i : Nat} : i ∈ dedL s ↔ i < s.length ∧ (i = 0 ∨ ¬ s.getD i [] = s.getD (i - 1) []) := by
  rw [dedL, List.mem_filter, List.mem_range]
  simp [dedI]
theorem ded_first (s : List (List Int)) : ∀ n, n < s.length → ∃ i, i ∈ dedL s ∧ s.getD i [] = s.getD n []
  | 0, h => ⟨0, dedL_mem.2 ⟨h, .inl rfl⟩, rfl⟩
  | n + 1, h => by
    by_cases e : s.getD (n + 1) [] = s.getD n []
    · obtain ⟨i, h1, h2⟩ := ded_first s n (by omega)
      exact ⟨i, h1, by rw [h2, e]⟩
    · exact ⟨n + 1, dedL_mem.2 ⟨h, .inr e⟩, rfl⟩
theorem dedR_mem {s : List (List Int)} {x : List Int} : x ∈ dedR s ↔ x ∈ s := by
  constructor
  · intro h
    obtain ⟨i, hi, rfl⟩ := List.mem_map.1 h
    obtain ⟨y, hy⟩ := at_some (dedL_lt hi)
    rw [getD_at hy]; exact List.mem_of_getElem? hy
  · intro h
    obtain ⟨n, hn, hx⟩ := List.mem_iff_getElem.1 h
    obtain ⟨i, h1, h2⟩ := ded_first s n hn
    refine List.mem_map.2 ⟨i, h1, ?_⟩
    rw [h2, ← hx]; simp [hn]
theorem dedR_asc {s : List (List Int)} (hs : s.Pairwise (fun a b => leR a b = true)) : Asc (dedR s) := by
  rw [dedR, Asc, List.pairwise_map]
  have h0 : (dedL s).Pairwise (· < ·) := List.Pairwise.filter _ List.pairwise_lt_range
  refine List.Pairwise.imp_of_mem ?_ h0
  intro i j hi hj hij
  have h1 := dedL_mem.1 hj
  have hp := List.pairwise_iff_getElem.1 hs
  have hg : ∀ a b, a < b → b < s.length → leR (s.getD a []) (s.getD b []) = true := by
    intro a b hab hb
    have := hp a b (by omega) hb hab
    simpa [hb, show a < s.length by omega] using this
  have h2 := hg (j - 1) j (by omega) h1.1
  rw [leR, decide_eq_true_eq] at h2
  have h3 : cmpR (s.getD (j - 1) []) (s.getD j []) < 0 := by
    have : ¬ cmpR (s.getD (j - 1) []) (s.getD j []) = 0 := fun q => by
      have := cmpR_zero.1 q
      rcases h1.2 with r | r
      · omega
      · exact r this.symm
    omega
  by_cases e : i = j - 1
  · rw [e]; exact h3
  · have h4 := hg i (j - 1) (by omega) (by omega)
    rw [leR, decide_eq_true_eq] at h4
    by_cases z : cmpR (s.getD i []) (s.getD (j - 1) []) = 0
    · rw [cmpR_zero.1 z]; exact h3
    · exact cmpR_trans (by omega) h3
theorem foldPut_ded (l : List (List Int)) : foldPut l = dedR (sortR l) := by
  obtain ⟨h1, h2, _⟩ := foldPut_all l [] List.Pairwise.nil
  exact asc_ext h1 (dedR_asc (sortR_pair l)) fun x => by
    have h2' := h2 x
    rw [show l.foldl (fun acc x => putR x acc) [] = foldPut l from rfl] at h2'
    rw [h2', dedR_mem, (sortR_perm l).mem_iff]; simp
theorem foldPut_small {l : List (List Int)} {m : Nat} (h : ∀ x ∈ l, x.length ≤ m) : (foldPut l).length ≤ l.length ∧ cIntSS (foldPut l) ≤ l.length + l.length * m := by
  obtain ⟨_, h2, h3⟩ := foldPut_all l [] List.Pairwise.nil
  have h4 : (foldPut l).length ≤ l.length := by
    rw [List.length_nil, Nat.zero_add] at h3
    exact h3
  have := cIntSS_bound (l := foldPut l) (m := m) fun x hx => h x (by simpa using (h2 x).1 hx)
  have := Nat.mul_le_mul_right m h4
  exact ⟨h4, by omega⟩
theorem selA_at {t : TableD} {cols : List Int} {j : Nat} {e : List Int} (h : t.rows[j]? = some e) : (selA t cols)[j]? = some (selR e cols).1 := by simp [selA, h]
theorem sel_put {t : TableD} {cols : List Int} {k : Nat} (h : (okTable t && colsOk (t.arity - 1) cols) = true) : (foldPut ((selA t cols).take k)).length ≤ 8 ∧ cIntSS (foldPut ((selA t cols).take k)) ≤ 64 := by
  have h0 := h
  rw [Bool.and_eq_true] at h
  have ha := okTable_arity h.1
  have hc := cols_len h.2 (by omega)
  have hl : (selA t cols).length = t.rows.length := List.length_map _
  have := foldPut_small (l := (selA t cols).take k) (m := 3) fun r hr => by
    obtain ⟨q, _, rfl⟩ := List.mem_map.1 (List.mem_of_mem_take hr)
    have := selR_len q cols
    omega
  have h5 : ((selA t cols).take k).length ≤ 8 := by simp; omega
  omega
abbrev k_grp_spec (t : TableD) (cols : List Int) : AV × List (Nat × Rs) := (.tup [.own 0, .own 1], [(0, .arr 32 1 true (((grpR t cols).1).map eIntS)), (1, .arr 3 1 true (((grpR t cols).2).map intD))])
abbrev K_grp_spec (t : TableD) (cols : List Int) : Prop := Con Tryz.prog 217 [.agg [.str t.name, .int .i64 t.arity, .sl 32 1 (t.rows.map eIntS)], .one (.sl 3 1 (cols.map intD))] (k_grp_spec t cols).1 (k_grp_spec t cols).2
theorem grp_spec (t : TableD) (cols : List Int) (hl : cols.length ≤ 1048576) : K_grp_spec t cols := by
 refine con_x tbOk mixedW Tryz.func217 (by kernel_rfl) (.call (vB (okTable t && colsOk (t.arity - 1) cols)) [] <| .br (.fin [(0, 1600), (1, 1700)]) (.loop (Nat × (List (List Int))) (Q2 Nat (List (List Int))) [6, 8, 9, 10, 16, 24, 25, 26, 27, 28, 29, 30, 31, 32, 33, 34, 35, 36, 37, 38, 39, 40, 41, 42, 43] [1600, 3800, 4300] (fun yy0 => [(8, vI (yy0.1 : Int)), (6, .own 1600)]) (fun yy0 => [(1600, some (.arr 32 1 true (yy0.2.map eIntS)))]) (fun yy0 => yy0.1 ≤ t.rows.length ∧ yy0.2 = foldPut ((selA t cols).take yy0.1)) (fun yy0 => t.rows.length - yy0.1) (fun yy0 => .len t.rows.length <| .br (.elem _ eIntS t.rows (fun e35 => callP (k_sel_spec e35 cols) <| callP (k_put_spec yy0.2 ((selR e35 cols).1)) <| .back [(1600, 4300)])) (.loop (Nat × (List Int)) (Q2 Nat (List Int)) [7, 11, 12, 13, 14, 15, 17, 44, 45, 46, 47, 48, 49, 50, 51, 52, 53, 54, 55, 56, 57, 58, 59, 60, 61, 62, 63, 64, 65, 66, 67, 68, 69, 70, 71, 72, 73, 74, 75, 76, 77, 78, 79] [1700, 6400, 7800, 7900] (fun yy1 => [(11, vI (yy1.1 : Int)), (7, .own 1700)]) (fun yy1 => [(1700, some (.arr 3 1 true (yy1.2.map intD)))]) (fun yy1 => yy1.1 ≤ yy0.2.length ∧ yy1.2 = (yy0.2.take yy1.1).map (cntOf (selA t cols))) (fun yy1 => yy0.2.length - yy1.1) (fun yy1 => .len yy0.2.length <| .br (.loop (Nat × Int) (Q2 Nat Int) [12, 13, 14, 15, 50, 51, 52, 53, 54, 55, 56, 57, 58, 59, 60, 61, 62, 63, 64, 65, 66, 67, 68, 69, 70, 71, 72, 73, 74, 75] [6400] (fun yy2 => [(12, vI yy2.2), (13, vI (yy2.1 : Int))]) (fun yy2 => []) (fun yy2 => yy2.1 ≤ t.rows.length ∧ yy2.2 = cntOf ((selA t cols).take yy2.1) (yy0.2.getD yy1.1 [])) (fun yy2 => t.rows.length - yy2.1) (fun yy2 => .len t.rows.length <| .br (.elem _ eIntS t.rows (fun e61 => callP (k_sel_spec e61 cols) <| .len yy0.2.length <| .elem _ eIntS yy0.2 (fun e71 => .call (vI (cmpR ((selR e61 cols).1) e71)) [] <| .br (.back []) (.back [])))) (.app Int intD yy1.2 ([yy2.2] : List Int) <| .back [(1700, 7900)]))) (.fin [(0, 1600), (1, 1700)])))))) ?_
 refine Eq.mpr (by kernel_rfl : _ = ((t.rows.map eIntS).length ≤ 9223372036854775807 → (cols.map intD).length ≤ 9223372036854775807 → K_cols_spec t cols ∧ (((!(okTable t && colsOk (t.arity - 1) cols)) = true → [] = ((grpR t cols).1).map eIntS ∧ [] = ((grpR t cols).2).map intD ∧ True) ∧ ((!(okTable t && colsOk (t.arity - 1) cols)) = false → (∃ (k : Nat) (out : List (List Int)), (0 : Int) = (k : Int) ∧ [] = out.map eIntS ∧ k ≤ t.rows.length ∧ out = foldPut ((selA t cols).take k)) ∧ ∀ (k : Nat) (out : List (List Int)), (k ≤ t.rows.length ∧ out = foldPut ((selA t cols).take k)) → Lm eIntS t.rows ∧ (((decide ((k : Int) < ((t.rows.length : Nat) : Int))) = true → 0 ≤ (k : Int) ∧ Em eIntS t.rows k fun e35 => K_sel_spec e35 cols ∧ K_put_spec out ((selR e35 cols).1) ∧ inR ((k : Int) + (1 : Int)) ∧ ∃ (k' : Nat) (out' : List (List Int)), ((k : Int) + (1 : Int)) = (k' : Int) ∧ (putR ((selR e35 cols).1) out).map eIntS = out'.map eIntS ∧ (k' ≤ t.rows.length ∧ out' = foldPut ((selA t cols).take k')) ∧ t.rows.length - k' < t.rows.length - k) ∧ ((decide ((k : Int) < ((t.rows.length : Nat) : Int))) = false → (∃ (i : Nat) (c : List Int), (0 : Int) = (i : Int) ∧ [] = c.map intD ∧ i ≤ out.length ∧ c = (out.take i).map (cntOf (selA t cols))) ∧ ∀ (i : Nat) (c : List Int), (i ≤ out.length ∧ c = (out.take i).map (cntOf (selA t cols))) → Lm eIntS out ∧ (((decide ((i : Int) < ((out.length : Nat) : Int))) = true → (∃ (j : Nat) (z : Int), (0 : Int) = z ∧ (0 : Int) = (j : Int) ∧ j ≤ t.rows.length ∧ z = cntOf ((selA t cols).take j) (out.getD i [])) ∧ ∀ (j : Nat) (z : Int), (j ≤ t.rows.length ∧ z = cntOf ((selA t cols).take j) (out.getD i [])) → Lm eIntS t.rows ∧ (((decide ((j : Int) < ((t.rows.length : Nat) : Int))) = true → 0 ≤ (j : Int) ∧ Em eIntS t.rows j fun e61 => K_sel_spec e61 cols ∧ (0 ≤ (i : Int) ∧ Lm eIntS out ∧ (i : Int) < ((out.length : Nat) : Int) ∧ Em eIntS out i fun e71 => K_cmpRows_spec ((selR e61 cols).1) e71 ∧ (((decide ((cmpR ((selR e61 cols).1) e71) = (0 : Int))) = true → inR (z + (1 : Int)) ∧ inR ((j : Int) + (1 : Int)) ∧ ∃ (j' : Nat) (z' : Int), (z + (1 : Int)) = z' ∧ ((j : Int) + (1 : Int)) = (j' : Int) ∧ (j' ≤ t.rows.length ∧ z' = cntOf ((selA t cols).take j') (out.getD i [])) ∧ t.rows.length - j' < t.rows.length - j) ∧ ((decide ((cmpR ((selR e61 cols).1) e71) = (0 : Int))) = false → inR ((j : Int) + (1 : Int)) ∧ ∃ (j' : Nat) (z' : Int), z = z' ∧ ((j : Int) + (1 : Int)) = (j' : Int) ∧ (j' ≤ t.rows.length ∧ z' = cntOf ((selA t cols).take j') (out.getD i [])) ∧ t.rows.length - j' < t.rows.length - j)))) ∧ ((decide ((j : Int) < ((t.rows.length : Nat) : Int))) = false → c.map intD = c.map intD ∧ [[.int .i64 z]] = ([z] : List Int).map intD ∧ (∀ x, flatB (intD x) = true) ∧ (c.length + ([z] : List Int).length) * 8 ≤ 140737488355328 ∧ inR ((i : Int) + (1 : Int)) ∧ ∃ (i' : Nat) (c' : List Int), ((i : Int) + (1 : Int)) = (i' : Int) ∧ (c ++ [z]).map intD = c'.map intD ∧ (i' ≤ out.length ∧ c' = (out.take i').map (cntOf (selA t cols))) ∧ out.length - i' < out.length - i))) ∧ ((decide ((i : Int) < ((out.length : Nat) : Int))) = false → out.map eIntS = ((grpR t cols).1).map eIntS ∧ c.map intD = ((grpR t cols).2).map intD ∧ True)))))))) ?_
 intro n0 n1
 simp only [List.length_map] at n0 n1
 refine ⟨cols_spec t _, fun c0 => ?_, fun c0 => ?_⟩
 ·replace c0 := nt c0
  have hbad : (okTable t && colsOk (t.arity - 1) cols) = false := by simpa using c0
  refine ⟨?_, ?_, trivial⟩
  ·first | (rw [grpR_no hbad] <;> rfl) | (rw [grpR_yes hok, hV] <;> rfl) | (rw [grpR_yes hok, hC] <;> rfl)
  ·first | (rw [grpR_no hbad] <;> rfl) | (rw [grpR_yes hok, hV] <;> rfl) | (rw [grpR_yes hok, hC] <;> rfl)
 ·replace c0 := nf c0
  have hok : (okTable t && colsOk (t.arity - 1) cols) = true := by simpa using c0
  obtain ⟨hs1, hs2⟩ := selA_small hok
  refine ⟨⟨0, ([] : List (List Int)), rfl, rfl, Nat.zero_le _, rfl⟩, fun k out ⟨hk, ho⟩ => ?_⟩
  refine ⟨List.length_map _, fun c1 => ?_, fun c1 => ?_⟩
  ·replace c1 := yq c1
   have hp := sel_put (k := k) hok
   rw [← ho] at hp
   refine ⟨by omega, rfl, by omega, fun e35 h35 => ?_⟩
   have hsl := selR_len e35 cols
   refine ⟨sel_spec _ _ (by omega), put_spec out ((selR e35 cols).1) (by omega) (by omega) (by omega), ⟨by omega, by omega⟩, ?_⟩
   exact ⟨k + 1, _, rfl, rfl, ⟨by omega, by rw [ho, take_snoc (selA_at h35), foldPut_snoc]⟩, by omega⟩
  ·replace c1 := nq c1
   have hV : out = grpV t cols := by rw [ho, List.take_of_length_le (by simp [selA]; omega), foldPut_ded]; rfl
   have hp := sel_put (k := k) hok
   rw [← ho] at hp
   refine ⟨⟨0, ([] : List Int), rfl, rfl, Nat.zero_le _, rfl⟩, fun i c ⟨hi, hc⟩ => ?_⟩
   refine ⟨List.length_map _, fun c2 => ?_, fun c2 => ?_⟩
   ·replace c2 := yq c2
    obtain ⟨g, hg⟩ := at_some (l := out) (k := i) (by omega)
    refine ⟨⟨0, 0, rfl, rfl, Nat.zero_le _, rfl⟩, fun j z ⟨hj, hz⟩ => ?_⟩
    refine ⟨List.length_map _, fun c3 => ?_, fun c3 => ?_⟩
    ·replace c3 := yq c3
     refine ⟨by omega, rfl, by omega, fun e61 h61 => ?_⟩
     refine ⟨sel_spec _ _ (by omega), by omega, List.length_map _, by omega, rfl, by omega, fun e71 h71 => ?_⟩
     have hg71 : out.getD i [] = e71 := getD_at h71
     refine ⟨cmpRows_spec _ _, fun c4 => ?_, fun c4 => ?_⟩
     ·replace c4 := yq c4
      have hcl := cnt_le ((selA t cols).take j) e71
      rw [← hg71, ← hz] at hcl
      have hjl : ((selA t cols).take j).length ≤ 8 := by simp; omega
      refine ⟨⟨by omega, by omega⟩, ⟨by omega, by omega⟩, ?_⟩
      exact ⟨j + 1, _, rfl, rfl, ⟨by omega, by rw [hz, hg71, cnt_yes (selA_at h61) (cmpR_zero.1 c4).symm]⟩, by omega⟩
     ·replace c4 := nq c4
      refine ⟨⟨by omega, by omega⟩, ?_⟩
      exact ⟨j + 1, _, rfl, rfl, ⟨by omega, by rw [hz, hg71, cnt_no (selA_at h61) (fun q => c4 (cmpR_zero.2 q.symm))]⟩, by omega⟩
    ·replace c3 := nq c3
     refine ⟨rfl, rfl, fun _ => rfl, by first | omega | (simp; omega) | (rw [hc]; simp; omega), ?_⟩
     refine ⟨⟨by omega, by omega⟩, ?_⟩
     exact ⟨i + 1, _, rfl, rfl, ⟨by omega, by rw [hc, hz, take_snoc hg, getD_at hg, List.map_append, List.take_of_length_le (l := selA t cols) (i := j) (by simp [selA]; omega)]; rfl⟩, by omega⟩
   ·replace c2 := nq c2
    have hC : c = grpC t cols := by rw [hc, List.take_of_length_le (by omega), hV]; rfl
    refine ⟨?_, ?_, trivial⟩
    ·first | (rw [grpR_no hbad] <;> rfl) | (rw [grpR_yes hok, hV] <;> rfl) | (rw [grpR_yes hok, hC] <;> rfl)
    ·first | (rw [grpR_no hbad] <;> rfl) | (rw [grpR_yes hok, hV] <;> rfl) | (rw [grpR_yes hok, hC] <;> rfl)
def bitV (s : Int) (v : Nat) : Bool := decide (bitI .and .i64 (s / 2 ^ v) 1 = 1)
def bitsN (s : Int) (k : Nat) : List Int := ((List.range k).filter (bitV s)).map fun v : Nat => (v : Int)
def bitsZ (s : Int) : List Int := bitsN s 3
theorem bitsN_yes {s : Int} {k : Nat} (h : bitI .and .i64 (s / 2 ^ k) 1 = 1) : bitsN s (k + 1) = bitsN s k ++ [(k : Int)] := by
  rw [bitsN, List.range_succ, List.filter_append, List.map_append]
  simp [bitsN, bitV, h]
theorem bitsN_no {s : Int} {k : Nat} (h : ¬ bitI .and .i64 (s / 2 ^ k) 1 = 1) : bitsN s (k + 1) = bitsN s k := by
  rw [bitsN, List.range_succ, List.filter_append, List.map_append]
  simp [bitsN, bitV, h]
theorem bits_done {s : Int} {k : Nat} (hs : 0 ≤ s ∧ s ≤ 7) (hk : k ≤ 3) (h : s / 2 ^ k = 0) : bitsN s k = bitsZ s := by
  have h1 : s = 0 ∨ s = 1 ∨ s = 2 ∨ s = 3 ∨ s = 4 ∨ s = 5 ∨ s = 6 ∨ s = 7 := by omega
  have h2 : k = 0 ∨ k = 1 ∨ k = 2 ∨ k = 3 := by omega
  rcases h2 with rfl | rfl | rfl | rfl <;> rcases h1 with rfl | rfl | rfl | rfl | rfl | rfl | rfl | rfl <;> first | rfl | (revert h; decide)
theorem bits_lt {s : Int} {k : Nat} (hs : 0 ≤ s ∧ s ≤ 7) (hk : k ≤ 3) (h : ¬ s / 2 ^ k = 0) : k < 3 := by
  by_cases q : k = 3
  · subst q; omega
  · omega
theorem bitsN_len (s : Int) (k : Nat) : (bitsN s k).length ≤ k := by
  rw [bitsN, List.length_map]
  have := (List.filter_sublist (l := List.range k) (p := bitV s)).length_le
  rw [List.length_range] at this
  exact this
theorem pow_small {n : Int} (h : 1 ≤ n ∧ n ≤ 3) : 2 ≤ (2 : Int) ^ n.toNat ∧ (2 : Int) ^ n.toNat ≤ 8 := by
  have : n = 1 ∨ n = 2 ∨ n = 3 := by omega
  rcases this with rfl | rfl | rfl <;> decide
def subsN (k : Nat) : List (List Int) := (List.range k).map fun i => bitsZ ((i + 1 : Nat) : Int)
def colSubs (n : Int) : List (List Int) := subsN ((2 : Int) ^ n.toNat - 1).toNat
theorem subsN_snoc (k : Nat) : subsN (k + 1) = subsN k ++ [bitsZ ((k + 1 : Nat) : Int)] := by rw [subsN, List.range_succ, List.map_append]; rfl
abbrev k_bits_impl (s : Int) : AV × List (Nat × Rs) := (.own 0, [(0, .arr 3 1 true ((bitsZ s).map intD))])
abbrev K_bits_impl (s : Int) : Prop := Con Tryz.prog 198 [.one (.int .i64 s)] (k_bits_impl s).1 (k_bits_impl s).2
theorem bits_impl (s : Int) (hs : 0 ≤ s ∧ s ≤ 7) : K_bits_impl s := by
 refine con_x tbOk mixedW Tryz.func198 (by kernel_rfl) (.loop (Nat × (List Int)) (Q2 Nat (List Int)) [3, 4, 5, 6, 7, 8, 9, 10, 11, 12, 13, 14, 15, 16, 17, 18, 19, 20] [500, 1900, 2000] (fun yy0 => [(4, vI (yy0.1 : Int)), (3, .own 500)]) (fun yy0 => [(500, some (.arr 3 1 true (yy0.2.map intD)))]) (fun yy0 => yy0.1 ≤ 3 ∧ yy0.2 = bitsN s yy0.1) (fun yy0 => 3 - yy0.1) (fun yy0 => .br (.br (.app Int intD yy0.2 ([(yy0.1 : Int)] : List Int) <| .back [(500, 2000)]) (.back [(500, 500)])) (.fin [(0, 500)]))) ?_
 refine Eq.mpr (by kernel_rfl : _ = ((∃ (k : Nat) (out : List Int), (0 : Int) = (k : Int) ∧ [] = out.map intD ∧ k ≤ 3 ∧ out = bitsN s k) ∧ ∀ (k : Nat) (out : List Int), (k ≤ 3 ∧ out = bitsN s k) → (0 ≤ (k : Int) ∧ (k : Int) ≤ 64) ∧ (((!(decide ((s / 2 ^ k) = (0 : Int)))) = true → (0 ≤ (k : Int) ∧ (k : Int) ≤ 64) ∧ (((decide ((bitI .and .i64 (s / 2 ^ k) (1 : Int)) = (1 : Int))) = true → out.map intD = out.map intD ∧ [[.int .i64 (k : Int)]] = ([(k : Int)] : List Int).map intD ∧ (∀ x, flatB (intD x) = true) ∧ (out.length + ([(k : Int)] : List Int).length) * 8 ≤ 140737488355328 ∧ inR ((k : Int) + (1 : Int)) ∧ ∃ (k' : Nat) (out' : List Int), ((k : Int) + (1 : Int)) = (k' : Int) ∧ (out ++ [(k : Int)]).map intD = out'.map intD ∧ (k' ≤ 3 ∧ out' = bitsN s k') ∧ 3 - k' < 3 - k) ∧ ((decide ((bitI .and .i64 (s / 2 ^ k) (1 : Int)) = (1 : Int))) = false → inR ((k : Int) + (1 : Int)) ∧ ∃ (k' : Nat) (out' : List Int), ((k : Int) + (1 : Int)) = (k' : Int) ∧ out.map intD = out'.map intD ∧ (k' ≤ 3 ∧ out' = bitsN s k') ∧ 3 - k' < 3 - k))) ∧ ((!(decide ((s / 2 ^ k) = (0 : Int)))) = false → out.map intD = (bitsZ s).map intD ∧ True)))) ?_
 refine ⟨⟨0, ([] : List Int), rfl, rfl, by omega, rfl⟩, fun k out ⟨hk, ho⟩ => ?_⟩
 refine ⟨⟨by omega, by omega⟩, fun c0 => ?_, fun c0 => ?_⟩
 ·replace c0 := nq (nt c0)
  have hk3 := bits_lt hs hk c0
  have hln := bitsN_len s k
  refine ⟨⟨by omega, by omega⟩, fun c1 => ?_, fun c1 => ?_⟩
  ·replace c1 := yq c1
   refine ⟨rfl, rfl, fun _ => rfl, by first | omega | (simp [ho]; omega), ?_⟩
   refine ⟨⟨by omega, by omega⟩, ?_⟩
   exact ⟨k + 1, _, rfl, rfl, ⟨by omega, by first | (rw [ho, bitsN_yes c1]; done) | (rw [ho, bitsN_no c1]; done)⟩, by omega⟩
  ·replace c1 := nq c1
   refine ⟨⟨by omega, by omega⟩, ?_⟩
   exact ⟨k + 1, _, rfl, rfl, ⟨by omega, by first | (rw [ho, bitsN_yes c1]; done) | (rw [ho, bitsN_no c1]; done)⟩, by omega⟩
 ·replace c0 := yq (nf c0)
  refine ⟨?_, trivial⟩
  ·(rw [ho]; exact congrArg _ (bits_done hs hk c0))
abbrev k_bits_spec (s : Int) : AV × List (Nat × Rs) := (.own 0, [(0, .arr 3 1 true ((bitsZ s).map intD))])
abbrev K_bits_spec (s : Int) : Prop := Con Tryz.prog 195 [.one (.int .i64 s)] (k_bits_spec s).1 (k_bits_spec s).2
theorem bits_spec (s : Int) (hs : 0 ≤ s ∧ s ≤ 7) : K_bits_spec s := by
 refine con_x tbOk mixedW Tryz.func195 (by kernel_rfl) (.loop (Nat × (List Int)) (Q2 Nat (List Int)) [3, 4, 5, 6, 7, 8, 9, 10, 11, 12, 13, 14, 15, 16, 17, 18] [500, 1700, 1800] (fun yy0 => [(4, vI (yy0.1 : Int)), (3, .own 500)]) (fun yy0 => [(500, some (.arr 3 1 true (yy0.2.map intD)))]) (fun yy0 => yy0.1 ≤ 3 ∧ yy0.2 = bitsN s yy0.1) (fun yy0 => 3 - yy0.1) (fun yy0 => .br (.br (.app Int intD yy0.2 ([(yy0.1 : Int)] : List Int) <| .back [(500, 1800)]) (.back [(500, 500)])) (.fin [(0, 500)]))) ?_
 refine Eq.mpr (by kernel_rfl : _ = ((∃ (k : Nat) (out : List Int), (0 : Int) = (k : Int) ∧ [] = out.map intD ∧ k ≤ 3 ∧ out = bitsN s k) ∧ ∀ (k : Nat) (out : List Int), (k ≤ 3 ∧ out = bitsN s k) → ((decide ((k : Int) < (3 : Int))) = true → (0 ≤ (k : Int) ∧ (k : Int) ≤ 64) ∧ (((decide ((bitI .and .i64 (s / 2 ^ k) (1 : Int)) = (1 : Int))) = true → out.map intD = out.map intD ∧ [[.int .i64 (k : Int)]] = ([(k : Int)] : List Int).map intD ∧ (∀ x, flatB (intD x) = true) ∧ (out.length + ([(k : Int)] : List Int).length) * 8 ≤ 140737488355328 ∧ inR ((k : Int) + (1 : Int)) ∧ ∃ (k' : Nat) (out' : List Int), ((k : Int) + (1 : Int)) = (k' : Int) ∧ (out ++ [(k : Int)]).map intD = out'.map intD ∧ (k' ≤ 3 ∧ out' = bitsN s k') ∧ 3 - k' < 3 - k) ∧ ((decide ((bitI .and .i64 (s / 2 ^ k) (1 : Int)) = (1 : Int))) = false → inR ((k : Int) + (1 : Int)) ∧ ∃ (k' : Nat) (out' : List Int), ((k : Int) + (1 : Int)) = (k' : Int) ∧ out.map intD = out'.map intD ∧ (k' ≤ 3 ∧ out' = bitsN s k') ∧ 3 - k' < 3 - k))) ∧ ((decide ((k : Int) < (3 : Int))) = false → out.map intD = (bitsZ s).map intD ∧ True))) ?_
 refine ⟨⟨0, ([] : List Int), rfl, rfl, by omega, rfl⟩, fun k out ⟨hk, ho⟩ => ?_⟩
 refine ⟨fun c0 => ?_, fun c0 => ?_⟩
 ·replace c0 := yq c0
  skip
  have hln := bitsN_len s k
  refine ⟨⟨by omega, by omega⟩, fun c1 => ?_, fun c1 => ?_⟩
  ·replace c1 := yq c1
   refine ⟨rfl, rfl, fun _ => rfl, by first | omega | (simp [ho]; omega), ?_⟩
   refine ⟨⟨by omega, by omega⟩, ?_⟩
   exact ⟨k + 1, _, rfl, rfl, ⟨by omega, by first | (rw [ho, bitsN_yes c1]; done) | (rw [ho, bitsN_no c1]; done)⟩, by omega⟩
  ·replace c1 := nq c1
   refine ⟨⟨by omega, by omega⟩, ?_⟩
   exact ⟨k + 1, _, rfl, rfl, ⟨by omega, by first | (rw [ho, bitsN_yes c1]; done) | (rw [ho, bitsN_no c1]; done)⟩, by omega⟩
 ·replace c0 := nq c0
  refine ⟨?_, trivial⟩
  ·(rw [ho]; exact congrArg _ (by rw [bitsZ, show 3 = k by omega]))
abbrev k_subs_impl (n : Int) : AV × List (Nat × Rs) := (.own 0, [(0, .arr 32 1 true ((colSubs n).map eIntS))])
abbrev K_subs_impl (n : Int) : Prop := Con Tryz.prog 235 [.one (.int .i64 n)] (k_subs_impl n).1 (k_subs_impl n).2
theorem subs_impl (n : Int) (hn : 1 ≤ n ∧ n ≤ 3) : K_subs_impl n := by
 refine con_x tbOk mixedW Tryz.func235 (by kernel_rfl) (.call (vB (inB n (1 : Int) (3 : Int))) [] <| .br (.fin []) (.loop (Nat × (List (List Int))) (Q2 Nat (List (List Int))) [3, 4, 8, 9, 10, 11, 12, 13, 14, 15, 16, 17, 18, 19] [800, 1700, 1800, 1900] (fun yy0 => [(4, vI ((yy0.1 + 1 : Nat) : Int)), (3, .own 800)]) (fun yy0 => [(800, some (.arr 32 1 true (yy0.2.map eIntS)))]) (fun yy0 => yy0.1 ≤ ((2 : Int) ^ n.toNat - 1).toNat ∧ yy0.2 = subsN yy0.1) (fun yy0 => ((2 : Int) ^ n.toNat - 1).toNat - yy0.1) (fun yy0 => .br (callP (k_bits_impl ((yy0.1 + 1 : Nat) : Int)) <| .appx (List Int) eIntS yy0.2 (bitsZ ((yy0.1 + 1 : Nat) : Int)) <| .back [(800, 1900)]) (.fin [(0, 800)])))) ?_
 refine Eq.mpr (by kernel_rfl : _ = (K_in_impl n (1 : Int) (3 : Int) ∧ (((!(inB n (1 : Int) (3 : Int))) = true → [] = (colSubs n).map eIntS ∧ True) ∧ ((!(inB n (1 : Int) (3 : Int))) = false → (∃ (k : Nat) (out : List (List Int)), (1 : Int) = ((k + 1 : Nat) : Int) ∧ [] = out.map eIntS ∧ k ≤ ((2 : Int) ^ n.toNat - 1).toNat ∧ out = subsN k) ∧ ∀ (k : Nat) (out : List (List Int)), (k ≤ ((2 : Int) ^ n.toNat - 1).toNat ∧ out = subsN k) → (0 ≤ n ∧ n ≤ 64) ∧ (inR ((1 : Int) * 2 ^ (Int.toNat n)) ∧ (((decide (((k + 1 : Nat) : Int) < ((1 : Int) * 2 ^ (Int.toNat n)))) = true → K_bits_impl ((k + 1 : Nat) : Int) ∧ out.map eIntS = out.map eIntS ∧ (bitsZ ((k + 1 : Nat) : Int)).map intD = (bitsZ ((k + 1 : Nat) : Int)).map intD ∧ (out.length + 1) * 24 ≤ 140737488355328 ∧ inR (((k + 1 : Nat) : Int) + (1 : Int)) ∧ ∃ (k' : Nat) (out' : List (List Int)), (((k + 1 : Nat) : Int) + (1 : Int)) = ((k' + 1 : Nat) : Int) ∧ (out ++ [bitsZ ((k + 1 : Nat) : Int)]).map eIntS = out'.map eIntS ∧ (k' ≤ ((2 : Int) ^ n.toNat - 1).toNat ∧ out' = subsN k') ∧ ((2 : Int) ^ n.toNat - 1).toNat - k' < ((2 : Int) ^ n.toNat - 1).toNat - k) ∧ ((decide (((k + 1 : Nat) : Int) < ((1 : Int) * 2 ^ (Int.toNat n)))) = false → out.map eIntS = (colSubs n).map eIntS ∧ True))))))) ?_
 have hb := pow_small hn
 have hin : inB n 1 3 = true := inB_mk hn.1 hn.2
 refine ⟨in_impl _ _ _, fun c0 => ?_, fun c0 => ?_⟩
 ·replace c0 := nt c0
  refine ⟨?_, trivial⟩
  ·first | (rw [ho, colSubs]; congr 2; omega) | (exfalso; simp [hin] at c0; done) | (exfalso; simp [hin] at *; done)
 ·replace c0 := nf c0
  refine ⟨⟨0, ([] : List (List Int)), rfl, rfl, Nat.zero_le _, rfl⟩, fun k out ⟨hk, ho⟩ => ?_⟩
  refine ⟨⟨by omega, by omega⟩, ⟨by omega, by omega⟩, fun c1 => ?_, fun c1 => ?_⟩
  ·replace c1 := yq c1
   refine ⟨bits_impl ((k + 1 : Nat) : Int) (by omega), rfl, rfl, by first | omega | (simp [ho, subsN]; omega), ⟨by omega, by omega⟩, ?_⟩
   exact ⟨(k + 1), _, rfl, rfl, ⟨by omega, by rw [ho, subsN_snoc]⟩, by omega⟩
  ·replace c1 := nq c1
   refine ⟨?_, trivial⟩
   ·first | (rw [ho, colSubs]; congr 2; omega) | (exfalso; simp [hin] at c0; done) | (exfalso; simp [hin] at *; done)
abbrev k_subs_spec (n : Int) : AV × List (Nat × Rs) := (.own 0, [(0, .arr 32 1 true ((colSubs n).map eIntS))])
abbrev K_subs_spec (n : Int) : Prop := Con Tryz.prog 216 [.one (.int .i64 n)] (k_subs_spec n).1 (k_subs_spec n).2
theorem subs_spec (n : Int) (hn : 1 ≤ n ∧ n ≤ 3) : K_subs_spec n := by
 refine con_x tbOk mixedW Tryz.func216 (by kernel_rfl) (.loop (Nat × (List (List Int))) (Q2 Nat (List (List Int))) [3, 4, 5, 6, 7, 8, 9, 10, 11, 12, 13, 14, 15, 16, 17, 18, 19, 20] [500, 1800, 1900, 2000] (fun yy0 => [(4, vI ((yy0.1 + 1 : Nat) : Int)), (3, .own 500)]) (fun yy0 => [(500, some (.arr 32 1 true (yy0.2.map eIntS)))]) (fun yy0 => yy0.1 ≤ ((2 : Int) ^ n.toNat - 1).toNat ∧ yy0.2 = subsN yy0.1) (fun yy0 => ((2 : Int) ^ n.toNat - 1).toNat - yy0.1) (fun yy0 => .call (vB (inB n (1 : Int) (3 : Int))) [] <| .br (.lit <| .lit <| .lit <| .lit <| .br (callP (k_bits_spec ((yy0.1 + 1 : Nat) : Int)) <| .appx (List Int) eIntS yy0.2 (bitsZ ((yy0.1 + 1 : Nat) : Int)) <| .back [(500, 2000)]) (.fin [(0, 500)])) (.fin [(0, 500)]))) ?_
 refine Eq.mpr (by kernel_rfl : _ = ((∃ (k : Nat) (out : List (List Int)), (1 : Int) = ((k + 1 : Nat) : Int) ∧ [] = out.map eIntS ∧ k ≤ ((2 : Int) ^ n.toNat - 1).toNat ∧ out = subsN k) ∧ ∀ (k : Nat) (out : List (List Int)), (k ≤ ((2 : Int) ^ n.toNat - 1).toNat ∧ out = subsN k) → K_in_spec n (1 : Int) (3 : Int) ∧ (((inB n (1 : Int) (3 : Int)) = true → (0 ≤ n ∧ n ≤ 64) ∧ (inR ((1 : Int) * 2 ^ (Int.toNat n)) ∧ (((decide (((k + 1 : Nat) : Int) < ((1 : Int) * 2 ^ (Int.toNat n)))) = true → K_bits_spec ((k + 1 : Nat) : Int) ∧ out.map eIntS = out.map eIntS ∧ (bitsZ ((k + 1 : Nat) : Int)).map intD = (bitsZ ((k + 1 : Nat) : Int)).map intD ∧ (out.length + 1) * 24 ≤ 140737488355328 ∧ inR (((k + 1 : Nat) : Int) + (1 : Int)) ∧ ∃ (k' : Nat) (out' : List (List Int)), (((k + 1 : Nat) : Int) + (1 : Int)) = ((k' + 1 : Nat) : Int) ∧ (out ++ [bitsZ ((k + 1 : Nat) : Int)]).map eIntS = out'.map eIntS ∧ (k' ≤ ((2 : Int) ^ n.toNat - 1).toNat ∧ out' = subsN k') ∧ ((2 : Int) ^ n.toNat - 1).toNat - k' < ((2 : Int) ^ n.toNat - 1).toNat - k) ∧ ((decide (((k + 1 : Nat) : Int) < ((1 : Int) * 2 ^ (Int.toNat n)))) = false → out.map eIntS = (colSubs n).map eIntS ∧ True)))) ∧ ((inB n (1 : Int) (3 : Int)) = false → out.map eIntS = (colSubs n).map eIntS ∧ True)))) ?_
 have hb := pow_small hn
 have hin : inB n 1 3 = true := inB_mk hn.1 hn.2
 refine ⟨⟨0, ([] : List (List Int)), rfl, rfl, Nat.zero_le _, rfl⟩, fun k out ⟨hk, ho⟩ => ?_⟩
 refine ⟨in_spec _ _ _, fun g8 => ?_, fun g8 => ?_⟩
 ·refine ⟨⟨by omega, by omega⟩, ⟨by omega, by omega⟩, fun c0 => ?_, fun c0 => ?_⟩
  ·replace c0 := yq c0
   refine ⟨bits_spec ((k + 1 : Nat) : Int) (by omega), rfl, rfl, by first | omega | (simp [ho, subsN]; omega), ⟨by omega, by omega⟩, ?_⟩
   exact ⟨(k + 1), _, rfl, rfl, ⟨by omega, by rw [ho, subsN_snoc]⟩, by omega⟩
  ·replace c0 := nq c0
   refine ⟨?_, trivial⟩
   ·first | (rw [ho, colSubs]; congr 2; omega) | (exfalso; simp [hin] at c0; done) | (exfalso; simp [hin] at *; done)
 ·refine ⟨?_, trivial⟩
  ·first | (rw [ho, colSubs]; congr 2; omega) | (exfalso; simp [hin] at c0; done) | (exfalso; simp [hin] at *; done)
end Go.Proofs.YtokkjaflmcjlhaaGreat
