/-
  Structs built; slices made and written out.
-/
import Derived.Test.YtcgjlddpbkponaaEg
import Derived.Laws.OwnMore
namespace Go.Proofs.Ytcgjlddpbkponaa
open Go.ChangeShapes Go.WideShapes Go.ChangeAt Go.RowKit
set_option linter.unusedVariables false
set_option linter.unusedSimpArgs false

def setA (cs : List AV) (off : Nat) (xs : List AV) : List AV := cs.take off ++ xs ++ cs.drop (off + xs.length)
def fillA (place : Nat → Option (Nat × Nat)) (cs : List AV) : List (Nat × AV) → Option (List AV)
  | [] => some cs
  | (i, x) :: rest => match place i with
    | none => none
    | some (off, size) => if (cellsA x).length = size ∧ off + size ≤ cs.length then fillA place (setA cs off (cellsA x)) rest else none
theorem foldl_setL (off : Nat) : ∀ (us : List Value) (j : Nat) (vs : Array Value), ((us.zipIdx j).foldl (fun cs (x : Value × Nat) => cs.setIfInBounds (off + x.2) x.1) vs).toList = setL vs.toList (off + j) us
  | [], _, _ => rfl
  | u :: us, j, vs => by
    rw [List.zipIdx_cons, List.foldl_cons, foldl_setL off us (j + 1), setL, Array.toList_setIfInBounds, Nat.add_assoc]
/-- Places of a struct's fields, its zero value. -/
def placesOf (P : Program) (t : TypeId) : Option (Value × List (Nat × Nat)) :=
  match P.info? t, P.underlying t with
  | some it, some (.struct fields) => match it.zero, fields.toList.mapM (fun f => (P.info? f.type).map fun i => (f.offset, i.size)) with
    | some z, some ps => if z.cells.toList.all Value.oneCell' = true then some (z, ps) else none
    | _, _ => none
  | _, _ => none

section
variable {K : Nat → Prop} {φ : Phi} {A : Nat → Prop} {w0 : World} {N : Nat} {S : St} {a : Act} {w : World} {P : Program}
theorem fill_match (hG : G K φ A w0 N S a w) (place : Nat → Option (Nat × Nat)) : ∀ (parts : List (Nat × Operand)) (cs cs' : List AV) (vs : Array Value), MatchL K φ w cs vs.toList → (∀ u ∈ vs.toList, u.oneCell' = true) → (∀ q ∈ parts, cell1 S (S.ev q.2)) →
    fillA place cs (parts.map fun q => (q.1, S.ev q.2)) = some cs' → ∃ vs', Instr.fill place vs (parts.map fun q => (q.1, a.eval q.2)) = some vs' ∧ MatchL K φ w cs' vs'.toList ∧ (∀ u ∈ vs'.toList, u.oneCell' = true) ∧ vs'.size = vs.size
  | [], cs, cs', vs, hm, h1, _, hf => by
    simp only [List.map_nil, fillA, Option.some.injEq] at hf
    subst hf
    exact ⟨vs, rfl, hm, h1, rfl⟩
  | (i, x) :: parts, cs, cs', vs, hm, h1, hc, hf => by
    simp only [List.map_cons, fillA] at hf
    split at hf
    · cases hf
    · rename_i off size hpl
      split at hf
      · rename_i hsz
        obtain ⟨h2, h3⟩ := cell1_match hG (hc (i, x) (by simp)) (hG.ev x)
        have hl := matchL_len hm
        have hl2 := matchL_len h2
        simp only [Array.length_toList] at hl hl2
        have hfold := foldl_setL off (a.eval x).cells.toList 0 vs
        rw [Nat.add_zero, setL_eq (by simp; omega)] at hfold
        have hm' : MatchL K φ w (setA cs off (cellsA (S.ev x))) ((((a.eval x).cells.toList.zipIdx 0).foldl (fun cs (x : Value × Nat) => cs.setIfInBounds (off + x.2) x.1) vs).toList) := by
          rw [hfold]
          unfold setA
          have := matchL_append (matchL_append (matchL_take off hm) h2) (matchL_drop (off + (cellsA (S.ev x)).length) hm)
          simpa [hl2] using this
        obtain ⟨vs', q1, q2, q3, q4⟩ := fill_match hG place parts _ cs' _ hm' (by
          rw [hfold]
          intro u hu
          simp only [List.mem_append] at hu
          rcases hu with (hu | hu) | hu
          · exact h1 u (List.mem_of_mem_take hu)
          · exact h3 u hu
          · exact h1 u (List.mem_of_mem_drop hu)) (fun q hq => hc q (by simp [hq])) hf
        refine ⟨vs', ?_, q2, q3, ?_⟩
        · simp only [List.map_cons, Instr.fill, hpl]
          rw [if_neg (by simp; omega)]
          rw [← q1, ← Array.foldl_toList, Array.toList_zipIdx]
        · rw [q4, ← Array.length_toList, hfold]; simp; omega
      · cases hf
theorem sound_build {o : Oper} {t : TypeId} {parts : Array (Nat × Operand)} {z : Value} {ps : List (Nat × Nat)} {cs : List AV} (ho : o.op = .build t parts) (ht : placesOf P t = some (z, ps)) (hc : ∀ q ∈ parts.toList, cell1 S (S.ev q.2))
    (hf : fillA (ps.toArray[·]?) (z.cells.toList.map avC) (parts.toList.map fun q => (q.1, S.ev q.2)) = some cs) : Sound P o S ⟨.agg cs, [], []⟩ :=
  sound_val fun K φ A w0 N a w hG => by
    unfold placesOf at ht
    split at ht
    · rename_i it fields hi hu
      split at ht
      · rename_i z' ps' hz hps
        split at ht
        · rename_i h1
          simp only [Option.some.injEq, Prod.mk.injEq] at ht
          obtain ⟨rfl, rfl⟩ := ht
          obtain ⟨vs, q1, q2, q3, _⟩ := fill_match hG _ parts.toList _ cs z'.cells (matchL_avC _) (fun u hu => List.all_eq_true.1 h1 u hu) hc hf
          refine ⟨.agg vs, ?_, by unfold MatchV; exact ⟨vs, rfl, q3, q2⟩⟩
          have hb : P.built t (parts.map fun (i, x) => (i, a.eval x)).toList = some vs := by
            unfold Program.built
            simp only [hi, hu, hz, hps]
            rw [← q1]
            simp
          simp only [execOp, ho, Sem.run_bind]
          rw [run_build w t _ vs hb]
          rfl
        · cases ht
      · cases ht
    · cases ht

theorem made_eq (z : Array Value) (k : Nat) (hz : z.size = k) : ∀ n, (madeCells z (n * k)).toList = (List.replicate n z.toList).flatten := by
  intro n
  apply List.ext_getElem?
  intro j
  by_cases hj : j < n * k
  · have hk : 0 < k := by
      rcases Nat.eq_zero_or_pos k with h | h
      · subst h; simp at hj
      · exact h
    have hq : j / k < n := Nat.div_lt_of_lt_mul (by rw [Nat.mul_comm]; exact hj)
    have hr := flatten_at (k := k) (List.replicate n z.toList) (fun c hc => by rw [List.eq_of_mem_replicate hc]; simpa using hz) (j / k) (j % k) z.toList (by simp [hq]) (Nat.mod_lt _ hk)
    have hdm : j / k * k + j % k = j := by rw [Nat.mul_comm]; exact Nat.div_add_mod j k
    rw [hdm] at hr
    rw [hr]
    simp only [madeCells, Array.toList_map, Array.toList_range, List.getElem?_map, List.getElem?_range hj, Option.map_some, Array.getElem?_toList]
    rw [hz, getElem!_pos z (j % k) (by rw [hz]; exact Nat.mod_lt _ hk), Array.getElem?_eq_getElem]
  · rw [List.getElem?_eq_none (by simp [madeCells]; omega), List.getElem?_eq_none (by simp [hz]; omega)]
theorem owRs_replicate {w : World} {k : Nat} {zr : List Dat} {zs : List Value} (h : OwCs w zr zs []) (hk : zr.length = k) : ∀ n, OwRs w k (List.replicate n zr) (List.replicate n zs) (List.replicate n [])
  | 0 => by simp only [List.replicate_zero]; unfold OwRs; exact ⟨rfl, rfl⟩
  | n + 1 => by simp only [List.replicate_succ]; unfold OwRs; exact ⟨zs, _, [], _, rfl, rfl, hk, h, owRs_replicate h hk n⟩
theorem flatten_nils (n : Nat) : (List.replicate n ([] : List Nat)).flatten = [] := by
  induction n with
  | zero => rfl
  | succ n ih => simp [List.replicate_succ, ih]
/-- A slice of the call's own comes, its elements' memory included. -/
theorem sound_newarr {o : Oper} {h : Nat} {e k : Nat} {xs : List (List Dat)} (hf : Fresh S h)
    (hr : ∀ K φ A w0 N a w, G K φ A w0 N S a w → ∃ (w' : World) (css : List (List Value)) (c : Nat), (execOp a.eval o).run P w = .ok (.value (.slice (some ⟨w.heap.size, 0, none⟩) xs.length c)) w' ∧ w'.ownsRow 0 e k (.slice (some ⟨w.heap.size, 0, none⟩) xs.length c) xs.length css.flatten ∧
      OwRs w' k xs css (List.replicate xs.length []) ∧ Below w.heap.size w w' ∧ w.heap.size < w'.heap.size) : Sound P o S ⟨.own h, [], [(h, .arr e k true xs)]⟩ := by
  intro K φ A w0 N a w Q hd hG
  obtain ⟨w', css, c, hrun, ho, hrs, hb, hlt⟩ := hr K φ A w0 N a w hG
  unfold Oper.wp
  rw [hrun, Oper.upon_value]
  have hn := hG.newH (h := h) (r := .arr e k true xs) (pl := ⟨.slice (some ⟨w.heap.size, 0, none⟩) xs.length c, [w.heap.size], []⟩) hb hf (by simp [Pl.F]) (by simp [Pl.F, hlt])
    ⟨css, _, ho, rfl, (flatten_nils _).symm, hrs⟩
  refine ⟨_, _, _, rfl, hn.put hd ?_, tr_new hG hb hf (by simp [Pl.F, hlt])⟩
  unfold MatchV
  intro pl hp
  simp only [stepPhi, if_true, Option.some.injEq] at hp
  subst hp
  rfl
theorem sound_makeSlice {o : Oper} {x y : Operand} {t e : TypeId} {k bt : Nat} {ag : Bool} {z : Value} {h : Nat} {n : Nat} {kl kc : IntKind} {zr : List Dat} (ho : o.op = .makeSlice t x y) (ht : P.underlying t = some (.slice e)) (hk : tyOf P e = some (ag, k, bt, z))
    (hx : S.ev x = .p none (.int kl n)) (hy : S.ev y = .p none (.int kc n)) (hz : ∀ w, OwCs w zr z.cells.toList []) (hn : bt * n ≤ 281474976710656) (hm : n ≤ maxLen) (hf : Fresh S h) :
    Sound P o S ⟨.own h, [], [(h, .arr e k true (List.replicate n zr))]⟩ :=
  sound_newarr hf fun K φ A w0 N a w hG => by
    have h1 : a.eval x = .int kl n := conc_match (x := S.ev x) (by rw [hx]; rfl) (hG.ev x)
    have h2 : a.eval y = .int kc n := conc_match (x := S.ev y) (by rw [hy]; rfl) (hG.ev y)
    obtain ⟨_, _, _, _, q5, q6, q7, q8⟩ := tyOf_spec hk w
    obtain ⟨w', hrun, hown, hg⟩ := run_make_full (P := P) w 0 t e _ z k ht q6 q8 q7 kl kc n (by rw [q5]; exact hn) hm (Nat.zero_le _)
    have hzs := (tyOf_zero hk).1
    have hb : Below w.heap.size w w' := (Below.refl _ _).grown hg (Nat.le_refl _) (by simp)
    rw [made_eq _ k hzs] at hown
    refine ⟨w', List.replicate n z.cells.toList, n, by simp [execOp, ho, h1, h2, hrun], by simpa using hown, ?_, hb, ?_⟩
    · rw [List.length_replicate]
      exact owRs_replicate (hz w') (by have := (hz w').len; simp at this; omega) n
    · exact (hown.lt w.heap.size rfl).2
theorem sound_slice0 {o : Oper} {t e : TypeId} {k bt : Nat} {ag : Bool} {z : Value} {h : Nat} (ho : o.op = .buildSlice t 0 #[]) (ht : P.underlying t = some (.slice e)) (hk : tyOf P e = some (ag, k, bt, z)) (hf : Fresh S h) : Sound P o S ⟨.own h, [], [(h, .arr e k true [])]⟩ :=
  sound_newarr hf fun K φ A w0 N a w hG => by
    obtain ⟨_, q2, q3, _⟩ := tyOf_spec hk w
    refine ⟨w.alloc (.cells #[] e), [], 0, ?_, made_row k rfl (Nat.zero_le _), by simp only [List.length_nil, List.replicate_zero]; unfold OwRs; exact ⟨rfl, rfl⟩, (Below.refl _ _).alloc (Nat.le_refl _) _, by simp⟩
    simp [execOp, ho, Instr.buildSlice, run_underlying ht, q2, Instr.fill, newRow]
    congr 2
    exact Array.eq_empty_of_size_eq_zero (by simp)
end
end Go.Proofs.Ytcgjlddpbkponaa
