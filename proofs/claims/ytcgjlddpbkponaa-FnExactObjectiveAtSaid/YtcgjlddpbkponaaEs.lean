/-
  What the laws' copies hand back, as contracts.
-/
import Derived.Test.YtcgjlddpbkponaaEr
namespace Go.Proofs.Ytcgjlddpbkponaa
open Go.ChangeShapes Go.WideShapes Go.ChangeAt Go.RowKit
set_option linter.unusedVariables false
set_option linter.unusedSimpArgs false

section
variable {α : Type}
theorem ow_rows {O : Od α} {enc : α → List Dat} {w : World} {k : Nat} (hO : ∀ F cs x, O w F cs x → OwCs w (enc x) cs F) (hk : ∀ x, (enc x).length = k) : ∀ {xs : List α} {css : List (List Value)} {Fs : List (List Nat)}, css.length = xs.length → Fs.length = xs.length →
    (∀ (i : Nat) x, xs[i]? = some x → ∃ Fi ci, Fs[i]? = some Fi ∧ css[i]? = some ci ∧ ci.length = k ∧ O w Fi ci x) → OwRs w k (xs.map enc) css Fs
  | [], css, Fs, h1, h2, _ => by
    simp only [List.map_nil]; unfold OwRs
    exact ⟨List.eq_nil_of_length_eq_zero h1, List.eq_nil_of_length_eq_zero h2⟩
  | x :: xs, [], Fs, h1, _, _ => by simp at h1
  | x :: xs, c :: css, [], _, h2, _ => by simp at h2
  | x :: xs, c :: css, F :: Fs, h1, h2, h => by
    simp only [List.map_cons]
    unfold OwRs
    obtain ⟨Fi, ci, e1, e2, _, ho⟩ := h 0 x rfl
    simp at e1 e2
    subst e1
    subst e2
    exact ⟨c, css, F, Fs, rfl, rfl, hk x, hO F c x ho, ow_rows hO hk (by simpa using h1) (by simpa using h2) fun i y hy => by
      obtain ⟨Fi, ci, e1, e2, e3⟩ := h (i + 1) y (by simpa using hy)
      exact ⟨Fi, ci, by simpa using e1, by simpa using e2, e3⟩⟩
theorem ow_slice {O : Od α} {enc : α → List Dat} {w : World} {e k : Nat} {F : List Nat} {v : Value} {xs : List α} (hO : ∀ F cs x, O w F cs x → OwCs w (enc x) cs F) (hk : ∀ x, (enc x).length = k) (h : SliceO e k O w F [v] xs) : OwV w (.sl e k (xs.map enc)) v F := by
  obtain ⟨v', Fs, css, hv, h1, h2, h3, h4, h5⟩ := h
  simp only [List.cons.injEq, and_true] at hv
  subst hv
  unfold OwV
  exact ⟨css, Fs, by simpa using h1, h2, ow_rows hO hk h3 h4 h5⟩
theorem ow_ints {w : World} {F : List Nat} {v : Value} {l : List Int} (h : IntsO w F [v] l) : OwV w (ints l) v F := by
  obtain ⟨v', hv, h1, h2, h3⟩ := h
  simp only [List.cons.injEq, and_true] at hv
  subst hv
  unfold ints OwV
  have hfl : Flats (l.map intD) (l.map fun n => [Value.int .i64 n]) := by
    clear h1 h2 h3
    induction l with
    | nil => exact rfl
    | cons a l ih => exact ⟨_, _, rfl, rfl, ih⟩
  have hfe : (l.map fun n => [Value.int .i64 n]).flatten = l.map (Value.int .i64) := by
    clear h1 h2 h3 hfl
    induction l with
    | nil => rfl
    | cons a l ih => simp [ih]
  refine ⟨_, _, ?_, ?_, hfl.owRs (fun x hx => by obtain ⟨a, _, rfl⟩ := List.mem_map.1 hx; rfl)⟩
  · rw [hfe]; simpa [OwnI, vals] using h1
  · rw [h2, flatten_nils]; simp
theorem owCs_cons {w : World} {p : Dat} {ps : List Dat} {v : Value} {cs : List Value} {F1 F2 : List Nat} (h1 : OwV w p v F1) (h2 : OwCs w ps cs F2) : OwCs w (p :: ps) (v :: cs) (F1 ++ F2) := by
  unfold OwCs
  exact ⟨v, cs, F1, F2, rfl, rfl, h1, h2⟩
theorem owCs_nil {w : World} : OwCs w [] [] [] := by unfold OwCs; exact ⟨rfl, rfl⟩
theorem owV_int {w : World} {k : IntKind} {n : Int} : OwV w (.int k n) (.int k n) [] := by unfold OwV; exact ⟨rfl, rfl⟩
theorem owV_bool {w : World} {b : Bool} : OwV w (.bool b) (.bool b) [] := by unfold OwV; exact ⟨rfl, rfl⟩
theorem owV_str {w : World} {s : ByteArray} : OwV w (.str s) (.string s) [] := by unfold OwV; exact ⟨rfl, rfl⟩
end
mutual
theorem OwV.lt {w : World} : ∀ {x : Dat} {v : Value} {F : List Nat}, OwV w x v F → ∀ g ∈ F, g < w.heap.size
  | .int _ _, _, _, h, g, hg => by unfold OwV at h; rw [h.2] at hg; simp at hg
  | .bool _, _, _, h, g, hg => by unfold OwV at h; rw [h.2] at hg; simp at hg
  | .str _, _, _, h, g, hg => by unfold OwV at h; rw [h.2] at hg; simp at hg
  | .sl e k xs, v, F, h, g, hg => by
    unfold OwV at h
    obtain ⟨css, Fs, h1, rfl, h2⟩ := h
    rcases List.mem_append.1 hg with hg | hg
    · exact (owns_lt h1 g hg).2
    · exact OwRs.lt h2 g hg
theorem OwRs.lt {w : World} {k : Nat} : ∀ {xs : List (List Dat)} {css : List (List Value)} {Fs : List (List Nat)}, OwRs w k xs css Fs → ∀ g ∈ Fs.flatten, g < w.heap.size
  | [], css, Fs, h, g, hg => by unfold OwRs at h; rw [h.2] at hg; simp at hg
  | x :: xs, css, Fs, h, g, hg => by
    unfold OwRs at h
    obtain ⟨c, css', F, Fs', rfl, rfl, h1, h2, h3⟩ := h
    rcases List.mem_append.1 (by simpa using hg : g ∈ F ++ Fs'.flatten) with hg | hg
    · exact OwCs.lt h2 g hg
    · exact OwRs.lt h3 g hg
theorem OwCs.lt {w : World} : ∀ {ds : List Dat} {cs : List Value} {F : List Nat}, OwCs w ds cs F → ∀ g ∈ F, g < w.heap.size
  | [], cs, F, h, g, hg => by unfold OwCs at h; rw [h.2] at hg; simp at hg
  | p :: ps, cs, F, h, g, hg => by
    unfold OwCs at h
    obtain ⟨v, cs', F1, F2, rfl, rfl, h1, h2⟩ := h
    rcases List.mem_append.1 hg with hg | hg
    · exact OwV.lt h1 g hg
    · exact OwCs.lt h2 g hg
end
/-- Owned data as a contract's result has it: handles from h on. -/
def ownA : Nat → List Dat → List AV
  | _, [] => []
  | h, .sl _ _ _ :: ds => .own h :: ownA (h + 1) ds
  | h, .int k n :: ds => .p none (.int k n) :: ownA (h + 1) ds
  | h, .bool b :: ds => .p none (.bool b) :: ownA (h + 1) ds
  | h, .str s :: ds => .p none (.str s) :: ownA (h + 1) ds
def ownR : Nat → List Dat → List (Nat × Rs)
  | _, [] => []
  | h, .sl e k xs :: ds => (h, .arr e k true xs) :: ownR (h + 1) ds
  | h, .int _ _ :: ds => ownR (h + 1) ds
  | h, .bool _ :: ds => ownR (h + 1) ds
  | h, .str _ :: ds => ownR (h + 1) ds
theorem own_ret {w : World} : ∀ {ds : List Dat} {cs : List Value} {F : List Nat} (h : Nat), OwCs w ds cs F → F.Nodup → ∃ φ : Phi,
    (∀ k r, findH (ownR h ds) k = some r → ∃ pl, φ k = some pl ∧ ∀ K φ', Holds K φ' w pl r) ∧ (∀ k, findH (ownR h ds) k = none → φ k = none) ∧ (∀ k pl, φ k = some pl → h ≤ k ∧ pl.F.Nodup ∧ ∀ g ∈ pl.F, g ∈ F) ∧
    (∀ k k' pl pl', k ≠ k' → φ k = some pl → φ k' = some pl' → ∀ g ∈ pl.F, g ∉ pl'.F) ∧ ∀ K, MatchL K φ w (ownA h ds) cs
  | [], cs, F, h, ho, _ => by
    unfold OwCs at ho
    exact ⟨fun _ => none, by simp [ownR, findH], by simp, by simp, by simp, fun K => by simp only [ownA]; unfold MatchL; exact ho.1⟩
  | d :: ds, cs, F, h, ho, hn => by
    unfold OwCs at ho
    obtain ⟨v, cs', F1, F2, rfl, rfl, h1, h2⟩ := ho
    have hn' := List.nodup_append.1 hn
    obtain ⟨φ, q1, q2, q3, q4, q5⟩ := own_ret (h + 1) h2 hn'.2.1
    have plain : ∀ x : Dat, d = x → x.val? = some v → ownR h (d :: ds) = ownR (h + 1) ds → ownA h (d :: ds) = .p none x :: ownA (h + 1) ds → ∃ φ : Phi,
        (∀ k r, findH (ownR h (d :: ds)) k = some r → ∃ pl, φ k = some pl ∧ ∀ K φ', Holds K φ' w pl r) ∧ (∀ k, findH (ownR h (d :: ds)) k = none → φ k = none) ∧ (∀ k pl, φ k = some pl → h ≤ k ∧ pl.F.Nodup ∧ ∀ g ∈ pl.F, g ∈ F1 ++ F2) ∧
        (∀ k k' pl pl', k ≠ k' → φ k = some pl → φ k' = some pl' → ∀ g ∈ pl.F, g ∉ pl'.F) ∧ ∀ K, MatchL K φ w (ownA h (d :: ds)) (v :: cs') := fun x _ hv e1 e2 => by
      rw [e1, e2]
      refine ⟨φ, q1, q2, fun k pl hk => ⟨by have := (q3 k pl hk).1; omega, (q3 k pl hk).2.1, fun g hg => List.mem_append_right _ ((q3 k pl hk).2.2 g hg)⟩, q4, fun K => ?_⟩
      unfold MatchL
      exact ⟨v, cs', rfl, by unfold MatchV; exact (RdV.scalar hv).2 rfl, q5 K⟩
    cases d with
    | int k n => unfold OwV at h1; exact plain (.int k n) rfl (by rw [h1.1]; rfl) rfl rfl
    | bool b => unfold OwV at h1; exact plain (.bool b) rfl (by rw [h1.1]; rfl) rfl rfl
    | str s => unfold OwV at h1; exact plain (.str s) rfl (by rw [h1.1]; rfl) rfl rfl
    | sl e k xs =>
      unfold OwV at h1
      obtain ⟨css, Fs, r1, r2, r3⟩ := h1
      have hpl : (⟨v, v.ownBlock.toList, Fs.flatten⟩ : Pl).F = F1 := by unfold Pl.F; exact r2.symm
      have hnew : ∀ k', φ k' ≠ none → k' ≠ h := fun k' hk e => by
        cases hp : φ k' with
        | none => exact hk hp
        | some pl => have := (q3 k' pl hp).1; omega
      refine ⟨fun x => if x = h then some ⟨v, v.ownBlock.toList, Fs.flatten⟩ else φ x, fun x r hx => ?_, fun x hx => ?_, fun x pl hx => ?_, fun x x' pl pl' hne hx hx' g hg hg' => ?_, fun K => ?_⟩
      · simp only [ownR, findH] at hx
        split at hx
        · rename_i e1
          injection hx with hx
          subst hx
          exact ⟨_, if_pos e1, fun K φ' => ⟨css, Fs, r1, rfl, rfl, r3⟩⟩
        · rename_i e1
          obtain ⟨pl, s1, s2⟩ := q1 x r hx
          exact ⟨pl, by simp only [if_neg e1]; exact s1, s2⟩
      · simp only [ownR, findH] at hx
        split at hx
        · cases hx
        · rename_i e1; simp only [if_neg e1]; exact q2 x hx
      · simp only at hx
        split at hx
        · rename_i e1
          injection hx with hx
          subst hx
          exact ⟨by omega, by rw [hpl]; exact hn'.1, fun g hg => List.mem_append_left _ (by rw [hpl] at hg; exact hg)⟩
        · exact ⟨by have := (q3 x pl hx).1; omega, (q3 x pl hx).2.1, fun g hg => List.mem_append_right _ ((q3 x pl hx).2.2 g hg)⟩
      · simp only at hx hx'
        split at hx
        · injection hx with hx
          subst hx
          split at hx'
          · subst_vars; exact hne rfl
          · rw [hpl] at hg
            exact hn'.2.2 g hg g ((q3 x' pl' hx').2.2 g hg') rfl
        · split at hx'
          · injection hx' with hx'
            subst hx'
            rw [hpl] at hg'
            exact hn'.2.2 g hg' g ((q3 x pl hx).2.2 g hg) rfl
          · exact q4 x x' pl pl' hne hx hx' g hg hg'
      · simp only [ownA]
        unfold MatchL
        refine ⟨v, cs', rfl, ?_, ?_⟩
        · unfold MatchV
          intro pl hp
          simp only [if_true, Option.some.injEq] at hp
          subst hp; rfl
        · refine MatchL.mono (K := K) (φ := φ) (fun _ _ => rfl) (fun _ h => h) _ _ (fun k pl hk hp => ⟨?_, fun _ _ => rfl⟩) (q5 K)
          split at hp
          · rename_i e1
            exfalso
            have : ∀ (ds : List Dat) (j : Nat), k ∈ mentsL (ownA j ds) → j ≤ k := by
              intro ds
              induction ds with
              | nil => intro j hj; simp [ownA, mentsL] at hj
              | cons d ds ih =>
                intro j hj
                cases d <;> simp only [ownA, mentsL, ments, List.nil_append, List.mem_append, List.mem_singleton, List.cons_append, List.mem_cons] at hj
                · have := ih _ hj; omega
                · have := ih _ hj; omega
                · have := ih _ hj; omega
                · rcases hj with hj | hj
                  · omega
                  · have := ih _ hj; omega
            have := this ds (h + 1) hk
            omega
          · exact hp
section
variable {P : Program}
/-- A call that hands back a struct, all its memory new. -/
theorem con_newA {f : FuncId} {args : List Ar} {ds : List Dat} (hc : callable P f = true) (h : ∀ A w (vs : Array Value), (∀ b, A b → b < w.heap.size) → ArsRd A w args vs.toList → Calls P f vs w (fun e w' => ∃ (cs : Array Value) (F : List Nat), e = .returned (.agg cs) ∧ OwCs w' ds cs.toList F ∧ F.Nodup ∧ (∀ g ∈ F, w.heap.size ≤ g) ∧ Below w.heap.size w w')) :
    Con P f args (.agg (ownA 0 ds)) (ownR 0 ds) := by
  refine ⟨hc, fun A w vs hA ha => (h A w vs hA ha).mono fun e w' ⟨cs, F, he, ho, hn, hg, hb⟩ => ?_⟩
  obtain ⟨φ, q1, q2, q3, q4, q5⟩ := own_ret 0 ho hn
  refine ⟨.agg cs, fun _ => False, φ, he, hb, by simp, by simp, fun k r hk => ?_, q2, q4, fun k pl hk => (q3 k pl hk).2.1, fun k pl hk g hg' => ?_, ?_⟩
  · obtain ⟨pl, s1, s2⟩ := q1 k r hk
    exact ⟨pl, s1, s2 _ _⟩
  · have := (q3 k pl hk).2.2 g hg'
    exact ⟨hg g this, ho.lt g this⟩
  · unfold MatchV
    exact ⟨cs, rfl, owCs_one ho, q5 _⟩
theorem con_newS {f : FuncId} {args : List Ar} {e k : Nat} {xs : List (List Dat)} (hc : callable P f = true) (h : ∀ A w (vs : Array Value), (∀ b, A b → b < w.heap.size) → ArsRd A w args vs.toList → Calls P f vs w (fun en w' => ∃ (v : Value) (F : List Nat), en = .returned v ∧ OwV w' (.sl e k xs) v F ∧ F.Nodup ∧ (∀ g ∈ F, w.heap.size ≤ g) ∧ Below w.heap.size w w')) :
    Con P f args (.own 0) [(0, .arr e k true xs)] := by
  refine ⟨hc, fun A w vs hA ha => (h A w vs hA ha).mono fun en w' ⟨v, F, he, ho, hn, hg, hb⟩ => ?_⟩
  have ho' : OwCs w' [.sl e k xs] [v] (F ++ []) := owCs_cons ho owCs_nil
  rw [List.append_nil] at ho'
  obtain ⟨φ, q1, q2, q3, q4, q5⟩ := own_ret 0 ho' hn
  refine ⟨v, fun _ => False, φ, he, hb, by simp, by simp, fun k r hk => ?_, q2, q4, fun k pl hk => (q3 k pl hk).2.1, fun k pl hk g hg' => ?_, ?_⟩
  · obtain ⟨pl, s1, s2⟩ := q1 k r hk
    exact ⟨pl, s1, s2 _ _⟩
  · have := (q3 k pl hk).2.2 g hg'
    exact ⟨hg g this, ho.lt g this⟩
  · have := q5 (fun _ => False)
    simp only [ownA] at this
    unfold MatchL at this
    obtain ⟨v', vs', e1, m, _⟩ := this
    injection e1 with e1 _
    subst e1
    exact m
end
end Go.Proofs.Ytcgjlddpbkponaa
