/-
  Code's demands by computation (regions, conditions, blocks, loops, the end), and that they are enough for a function's contract.
-/
import Derived.Test.YtcgjlddpbkponaaWi
namespace Go.Proofs.Ytcgjlddpbkponaa
open Go.ChangeShapes Go.WideShapes Go.ChangeAt Go.RowKit
set_option linter.unusedVariables false
set_option linter.unusedSimpArgs false

def dstB (N : Nat) : Option Nat → Bool
  | none => true
  | some d => Nat.blt d N
theorem dstB_ok {N : Nat} : ∀ {o : Option Nat}, dstB N o = true → ∀ d, o = some d → d < N
  | some d, h, _, rfl => by simpa [dstB, Nat.blt_eq] using h
def brW (b : Bool) (t : T) (K : Bool → T → Prop) : Prop := match t with
  | .br t1 t2 => (b = true → K true t1) ∧ (b = false → K false t2)
  | .lit t => (match b with | true => K true t | false => K false t)
  | .yes t => b = true ∧ K true t
  | .no t => b = false ∧ K false t
  | t => (match b with | true => K true t | false => K false t)
theorem brW_ok {b : Bool} {t : T} {K : Bool → T → Prop} (h : brW b t K) : ∃ t', K b t' := by
  unfold brW at h
  split at h
  · cases b with
    | true => exact ⟨_, h.1 rfl⟩
    | false => exact ⟨_, h.2 rfl⟩
  · cases b with
    | true => exact ⟨_, h⟩
    | false => exact ⟨_, h⟩
  · obtain ⟨rfl, h⟩ := h; exact ⟨_, h⟩
  · obtain ⟨rfl, h⟩ := h; exact ⟨_, h⟩
  · cases b with
    | true => exact ⟨_, h⟩
    | false => exact ⟨_, h⟩
def pushB (pre : Sl) (s : Option Nat) (b : Bool) : Sl := match s with | some s => (s, vB b) :: pre | none => pre
def gdW (N : Nat) (all : List Oper) (sl : Sl) (j : Nat) (want : Bool) (t : T) (K : Option Nat → Bool → T → Prop) : Prop := match all[j]? with
  | some o => (match o.dst with
    | some dj => (match Nat.blt dj N with
      | true => (match findS sl dj with
        | .p none (.bool b) => brW b t (fun b t => K (some dj) b t)
        | .tup [] => K none (!want) t
        | _ => False)
      | false => False)
    | none => False)
  | none => False
theorem findS_push {sl : Sl} {d : Nat} {v : AV} (h : findS sl d = v) : findS ((d, v) :: sl) = findS sl := by
  funext t
  simp only [findS]
  split
  · rename_i e; rw [e, h]
  · rfl
theorem mk_push {sl : Sl} {rs : Rl} {d : Nat} {v : AV} (h : findS sl d = v) : mk ((d, v) :: sl) rs = mk sl rs := by
  unfold mk; rw [findS_push h]
theorem gdW_ok {N : Nat} {all : List Oper} {sl : Sl} {j : Nat} {want : Bool} {t : T} {K : Option Nat → Bool → T → Prop} (h : gdW N all sl j want t K) : ∃ dj y b s t', (all.toArray[j]?).bind (·.dst) = some dj ∧ dj < N ∧ gvA (findS sl dj) = some y ∧ (b == want) = (y == some want) ∧ findS (pushB sl s b) = findS sl ∧ K s b t' := by
  unfold gdW at h
  split at h
  · rename_i o ho
    split at h
    · rename_i dj hd
      split at h
      · rename_i hN
        split at h
        · rename_i b hb
          obtain ⟨t', h⟩ := brW_ok h
          exact ⟨dj, some b, b, some dj, t', by simp [ho, hd], by simpa [Nat.blt_eq] using hN, gvA_bool hb, rfl, findS_push hb, h⟩
        · rename_i hb
          exact ⟨dj, none, !want, none, t, by simp [ho, hd], by simpa [Nat.blt_eq] using hN, by rw [hb]; rfl, by cases want <;> rfl, rfl, h⟩
        · cases h
      · cases h
    · cases h
  · cases h
theorem pushB_app (pre bs : Sl) (s : Option Nat) (b : Bool) : pushB (pre ++ bs) s b = pushB pre s b ++ bs := by cases s <;> rfl
theorem putS_app (pre bs : Sl) (d : Option Nat) (v : AV) : putS pre d v ++ bs = putS (pre ++ bs) d v := by cases d <;> rfl
/-- A field's address off a pointer to a variable: only the slot is looked at. -/
def freeW (tb : Tb) (sl : Sl) (dst : Option Nat) (o : Op) : Option AV := match dst with
  | some _ => (match o with
    | .fieldAddr s (.tmp t) f => (match findS sl t with
      | .ptr h o' => (match look tb.fl s with | some l => (match look l f with | some q => some (.ptr h (o' + q.1)) | none => none) | none => none)
      | _ => none)
    | _ => none)
  | none => none
theorem freeW_ok {P : Program} {tb : Tb} {sl : Sl} {o : Oper} {v : AV} {i : Nat} (hT : TbOk P tb) (h : freeW tb sl o.dst o.op = some v) : SoundR P (recF i o sl v) := by
  obtain ⟨dst, op, ty, pos, aft, gd⟩ := o
  unfold freeW at h
  dsimp only at h
  split at h
  · split at h
    · rename_i s t f
      split at h
      · rename_i hh o' hx
        split at h
        · rename_i l hl
          split at h
          · rename_i q hq
            injection h with h
            subst h
            refine ⟨fun e => by simp [Rec.fr, recF] at e, fun _ S hS => ?_⟩
            have hf := look_of (look_of hT.fl hl) hq
            have hs := hS t (by simp [recF, viewS, viewL, opL])
            refine sound_field_ptr0 rfl hf ?_
            show S.slots t = _
            rw [hs]
            simp only [recF, viewS, opL, viewL, findS, if_true]
            exact hx
          · cases h
        · cases h
      · cases h
    · cases h
  · cases h
/-- An operation in the text's order: also calls that change memory in place. -/
def opX (P : Program) (tb : Tb) (sl : Sl) (rs : Rl) (dst : Option Nat) (o : Op) (t : T) (K : AV → List Nat → List (Nat × Rs) → T → Prop) : Prop := match t with
  | .callx fs ri ren rv ro t => (match dst with
    | some d => (match o with
      | .call ⟨.value x, ⟨args⟩, _⟩ => (match evE sl x with
        | .fn f caps => callxW P sl rs d f (args.map (evE sl) ++ caps) (.callx fs ri ren rv ro t) K
        | _ => False)
      | o => opW P tb sl rs (some d) o (.callx fs ri ren rv ro t) K)
    | none => opW P tb sl rs none o (.callx fs ri ren rv ro t) K)
  | t => opW P tb sl rs dst o t K
theorem opX_ok {P : Program} {tb : Tb} {sl : Sl} {rs : Rl} {o : Oper} {t : T} {K : AV → List Nat → List (Nat × Rs) → T → Prop} (hT : TbOk P tb) (h : opX P tb sl rs o.dst o.op t K) : ∃ v del new t', Sound0 P o (mk sl rs) ⟨v, del, new⟩ ∧ K v del new t' := by
  have plain : ∀ t, opW P tb sl rs o.dst o.op t K → ∃ v del new t', Sound0 P o (mk sl rs) ⟨v, del, new⟩ ∧ K v del new t' := fun t h => by
    obtain ⟨v, del, new, t', h1, h2⟩ := opW_ok hT h
    exact ⟨v, del, new, t', h1.to0, h2⟩
  obtain ⟨dst, op, ty, pos, aft, gd⟩ := o
  unfold opX at h
  dsimp only at h plain
  split at h
  · split at h
    · split at h
      · split at h
        · rename_i hx
          exact callxW_ok (fun hc => run_callV rfl hc hx) h
        · cases h
      · exact plain _ h
    · exact plain _ h
  · exact plain _ h
section
variable (P : Program) (tb : Tb) (N : Nat)
def opsW (all : List Oper) (bs : Sl) (br : Rl) : List Oper → Sl → Rl → T → (Sl → Rl → T → Prop) → Prop
  | [], pre, prr, t, K => K pre prr t
  | o :: rest, pre, prr, t, K => (match dstB N o.dst with
    | false => False
    | true => (match o.guard with
      | none => opX P tb (pre ++ bs) (prr ++ br) o.dst o.op t (fun v del new t => opsW all bs br rest (putS pre o.dst v) (newL new ++ (goneL del ++ prr)) t K)
      | some (j, want) => gdW N all (pre ++ bs) j want t (fun dj b t => (match b == want with
        | true => opX P tb (pushB (pre ++ bs) dj b) (prr ++ br) o.dst o.op t (fun v del new t => opsW all bs br rest (putS (pushB pre dj b) o.dst v) (newL new ++ (goneL del ++ prr)) t K)
        | false => opsW all bs br rest (putS (pushB pre dj b) o.dst (.tup [])) prr t K))))
def dopsW (all : List Oper) (bs : Sl) (br : Rl) : Nat → List Oper → Sl → Rl → List Rec → T → (Sl → Rl → List Rec → T → Prop) → Prop
  | _, [], pre, prr, acc, t, K => K pre prr acc t
  | i, o :: rest, pre, prr, acc, t, K => (match dstB N o.dst with
    | false => False
    | true => (match o.guard with
      | none => (match freeW tb (pre ++ bs) o.dst o.op with
       | some v => dopsW all bs br (i + 1) rest (putS pre o.dst v) prr (recF i o (pre ++ bs) v :: acc) t K
       | none => opW P tb (viewS o.op (pre ++ bs)) (viewR o.op (pre ++ bs) (prr ++ br)) o.dst o.op t (fun v del new t => (match tOk (recOf i o (pre ++ bs) (prr ++ br) v del new) (prr ++ br) with
        | true => dopsW all bs br (i + 1) rest (putS pre o.dst v) (newL new ++ (goneL del ++ prr)) (recOf i o (pre ++ bs) (prr ++ br) v del new :: acc) t K
        | false => False)))
      | some (j, want) => gdW N all (pre ++ bs) j want t (fun dj b t => (match b == want with
        | true => (match freeW tb (pushB (pre ++ bs) dj b) o.dst o.op with
         | some v => dopsW all bs br (i + 1) rest (putS (pushB pre dj b) o.dst v) prr (recF i o (pushB (pre ++ bs) dj b) v :: acc) t K
         | none => opW P tb (viewS o.op (pushB (pre ++ bs) dj b)) (viewR o.op (pushB (pre ++ bs) dj b) (prr ++ br)) o.dst o.op t (fun v del new t => (match tOk (recOf i o (pushB (pre ++ bs) dj b) (prr ++ br) v del new) (prr ++ br) with
          | true => dopsW all bs br (i + 1) rest (putS (pushB pre dj b) o.dst v) (newL new ++ (goneL del ++ prr)) (recOf i o (pushB (pre ++ bs) dj b) (prr ++ br) v del new :: acc) t K
          | false => False)))
        | false => dopsW all bs br (i + 1) rest (putS (pushB pre dj b) o.dst (.tup [])) prr (⟨i, o, true, [], [], ⟨.no, [], []⟩⟩ :: acc) t K))))
end
section
variable {P : Program} {tb : Tb} {N : Nat} {all : List Oper} {bs : Sl} {br : Rl}
theorem res_app (new : List (Nat × Rs)) (del : List Nat) (prr br : Rl) : newL new ++ (goneL del ++ (prr ++ br)) = (newL new ++ (goneL del ++ prr)) ++ br := by simp
theorem opsW_ok (hT : TbOk P tb) {K : Sl → Rl → T → Prop} : ∀ (l : List Oper) (pre : Sl) (prr : Rl) (t : T), opsW P tb N all bs br l pre prr t K → Ops P N all.toArray l (mk (pre ++ bs) (prr ++ br)) (fun S => ∃ pre' prr' t', S = mk (pre' ++ bs) (prr' ++ br) ∧ K pre' prr' t')
  | [], pre, prr, t, h => by unfold Ops; unfold opsW at h; exact ⟨pre, prr, t, rfl, h⟩
  | o :: rest, pre, prr, t, h => by
    unfold opsW at h
    split at h
    · cases h
    · rename_i hd
      have hd := dstB_ok hd
      unfold Ops
      refine ⟨hd, ?_⟩
      split at h
      · rename_i hg
        rw [hg]
        obtain ⟨v, del, new, t', hs, h⟩ := opX_ok hT h
        refine ⟨_, hs, ?_⟩
        rw [mk_applyO, ← putS_app, res_app]
        exact opsW_ok hT rest _ _ _ h
      · rename_i j want hg
        rw [hg]
        obtain ⟨dj, y, b, s, t', h1, h2, h3, h4, h5, h⟩ := gdW_ok h
        have h6 : mk (pushB (pre ++ bs) s b) (prr ++ br) = mk (pre ++ bs) (prr ++ br) := by unfold mk; rw [h5]
        refine ⟨dj, y, h1, h2, h3, fun e => ?_, fun e => ?_⟩
        · rw [e] at h4
          split at h
          · obtain ⟨v, del, new, t', hs, h⟩ := opX_ok hT h
            rw [h6] at hs
            refine ⟨_, hs, ?_⟩
            rw [← h6, mk_applyO, pushB_app, ← putS_app, res_app]
            exact opsW_ok hT rest _ _ _ h
          · rename_i hb; rw [hb] at h4; simp at h4
        · split at h
          · rename_i hb; rw [hb] at h4; exact absurd (by simpa using h4.symm) e
          · rw [← h6, mk_putO, pushB_app, ← putS_app]
            exact opsW_ok hT rest _ _ _ h
theorem viewL_congr {sl sl' : Sl} (h : findS sl = findS sl') : ∀ (l : List Operand), viewL sl l = viewL sl' l
  | [] => rfl
  | .tmp t :: l => by simp only [viewL, h, viewL_congr h l]
  | .const _ :: l => viewL_congr h l
  | .func _ :: l => viewL_congr h l
  | .global _ :: l => viewL_congr h l
theorem viewS_congr {sl sl' : Sl} (h : findS sl = findS sl') (o : Op) : viewS o sl = viewS o sl' := viewL_congr h _
theorem viewR_congr {sl sl' : Sl} (h : findS sl = findS sl') (o : Op) (rs : Rl) : viewR o sl rs = viewR o sl' rs := by unfold viewR; rw [viewS_congr h]
theorem recOf_congr {sl sl' : Sl} (h : findS sl = findS sl') (i : Nat) (o : Oper) (rs : Rl) (v : AV) (del : List Nat) (new : List (Nat × Rs)) : recOf i o sl rs v del new = recOf i o sl' rs v del new := by unfold recOf; rw [viewS_congr h, viewR_congr h]
theorem recF_congr {sl sl' : Sl} (h : findS sl = findS sl') (i : Nat) (o : Oper) (v : AV) : recF i o sl v = recF i o sl' v := by unfold recF; rw [viewS_congr h]
theorem findS_putS {sl sl' : Sl} (h : findS sl = findS sl') (d : Option Nat) (v : AV) : findS (putS sl d v) = findS (putS sl' d v) := by
  cases d with
  | none => exact h
  | some d => funext t; simp only [putS, findS, h]
theorem dops_congr {A : Array Oper} {K : St → List Rec → Prop} : ∀ (l : List Oper) (i : Nat) (sl sl' : Sl) (rs : Rl) (acc : List Rec), findS sl = findS sl' → DOps P N A i l sl rs acc K → DOps P N A i l sl' rs acc K
  | [], i, sl, sl', rs, acc, h, hd => by unfold DOps at *; unfold mk at *; rw [← h]; exact hd
  | o :: rest, i, sl, sl', rs, acc, h, hd => by
    unfold DOps at *
    obtain ⟨h1, h2, h3⟩ := hd
    refine ⟨h1, h2, ?_⟩
    have execF : (∃ v, SoundR P (recF i o sl v) ∧ DOps P N A (i + 1) rest (putS sl o.dst v) rs (recF i o sl v :: acc) K) → ∃ v, SoundR P (recF i o sl' v) ∧ DOps P N A (i + 1) rest (putS sl' o.dst v) rs (recF i o sl' v :: acc) K := fun ⟨v, q1, q2⟩ => by
      rw [recF_congr h] at q1 q2
      exact ⟨v, q1, dops_congr rest _ _ _ _ _ (findS_putS h _ _) q2⟩
    have exec : (∃ v del new, Sound P o (mk (viewS o.op sl) (viewR o.op sl rs)) ⟨v, del, new⟩ ∧ tOk (recOf i o sl rs v del new) rs = true ∧ DOps P N A (i + 1) rest (putS sl o.dst v) (newL new ++ (goneL del ++ rs)) (recOf i o sl rs v del new :: acc) K) →
        ∃ v del new, Sound P o (mk (viewS o.op sl') (viewR o.op sl' rs)) ⟨v, del, new⟩ ∧ tOk (recOf i o sl' rs v del new) rs = true ∧ DOps P N A (i + 1) rest (putS sl' o.dst v) (newL new ++ (goneL del ++ rs)) (recOf i o sl' rs v del new :: acc) K := fun ⟨v, del, new, q1, q2, q3⟩ => by
      refine ⟨v, del, new, by rw [← viewS_congr h, ← viewR_congr h]; exact q1, by rw [← recOf_congr h]; exact q2, ?_⟩
      rw [← recOf_congr h]
      exact dops_congr rest _ _ _ _ _ (findS_putS h _ _) q3
    split
    · rename_i hg
      rw [hg] at h3
      exact h3.imp exec execF
    · rename_i j want hg
      rw [hg] at h3
      obtain ⟨d, b, q1, q2, q3, q4, q5⟩ := h3
      exact ⟨d, b, q1, q2, by rw [← h]; exact q3, fun e => (q4 e).imp exec execF, fun e => dops_congr rest _ _ _ _ _ (findS_putS h _ _) (q5 e)⟩
theorem dops_mono {A : Array Oper} {K K' : St → List Rec → Prop} (hK : ∀ S recs, K S recs → K' S recs) : ∀ (l : List Oper) (i : Nat) (sl : Sl) (rs : Rl) (acc : List Rec), DOps P N A i l sl rs acc K → DOps P N A i l sl rs acc K'
  | [], i, sl, rs, acc, hd => by unfold DOps at *; exact hK _ _ hd
  | o :: rest, i, sl, rs, acc, hd => by
    unfold DOps at *
    obtain ⟨h1, h2, h3⟩ := hd
    refine ⟨h1, h2, ?_⟩
    split
    · rename_i hg
      rw [hg] at h3
      rcases h3 with ⟨v, del, new, q1, q2, q3⟩ | ⟨v, q1, q2⟩
      · exact .inl ⟨v, del, new, q1, q2, dops_mono hK rest _ _ _ _ q3⟩
      · exact .inr ⟨v, q1, dops_mono hK rest _ _ _ _ q2⟩
    · rename_i j want hg
      rw [hg] at h3
      obtain ⟨d, b, q1, q2, q3, q4, q5⟩ := h3
      refine ⟨d, b, q1, q2, q3, fun e => ?_, fun e => dops_mono hK rest _ _ _ _ (q5 e)⟩
      rcases q4 e with ⟨v, del, new, p1, p2, p3⟩ | ⟨v, p1, p2⟩
      · exact .inl ⟨v, del, new, p1, p2, dops_mono hK rest _ _ _ _ p3⟩
      · exact .inr ⟨v, p1, dops_mono hK rest _ _ _ _ p2⟩
theorem dopsW_ok (hT : TbOk P tb) {K : Sl → Rl → List Rec → T → Prop} : ∀ (l done : List Oper) (pre : Sl) (prr : Rl) (acc : List Rec) (t : T), all = done ++ l → dopsW P tb N all bs br done.length l pre prr acc t K → DOps P N all.toArray done.length l (pre ++ bs) (prr ++ br) acc (fun S recs => ∃ pre' prr' acc' t', S = mk (pre' ++ bs) (prr' ++ br) ∧ recs = acc'.reverse ∧ K pre' prr' acc' t')
  | [], done, pre, prr, acc, t, e, h => by unfold DOps; unfold dopsW at h; exact ⟨pre, prr, acc, t, rfl, rfl, h⟩
  | o :: rest, done, pre, prr, acc, t, e, h => by
    unfold dopsW at h
    split at h
    · cases h
    · rename_i hd
      have hd := dstB_ok hd
      have hi : all.toArray[done.length]? = some o := by rw [e]; simp
      have e' : all = (done ++ [o]) ++ rest := by rw [e]; simp
      have el : (done ++ [o]).length = done.length + 1 := by simp
      have ih := fun pre prr acc t => dopsW_ok hT (K := K) rest (done ++ [o]) pre prr acc t e'
      rw [el] at ih
      unfold DOps
      refine ⟨hi, hd, ?_⟩
      split at h
      · rename_i hg
        rw [hg]
        split at h
        · rename_i v hv
          refine .inr ⟨v, freeW_ok hT hv, ?_⟩
          rw [← putS_app]
          exact ih _ _ _ _ h
        obtain ⟨v, del, new, t', hs, h⟩ := opW_ok hT h
        split at h
        · rename_i ht
          refine .inl ⟨v, del, new, hs, ht, ?_⟩
          rw [← putS_app, res_app]
          exact ih _ _ _ _ h
        · cases h
      · rename_i j want hg
        rw [hg]
        obtain ⟨dj, y, b, s, t', h1, h2, h3, h4, hp, h⟩ := gdW_ok h
        refine ⟨dj, y, h1, h2, h3, fun e => ?_, fun e => ?_⟩
        · rw [e] at h4
          split at h
          · split at h
            · rename_i v hv
              have hs := freeW_ok (i := done.length) hT hv
              rw [recF_congr hp] at hs h
              refine .inr ⟨v, hs, ?_⟩
              have := ih _ _ _ _ h
              rw [putS_app, ← pushB_app] at this
              exact dops_congr _ _ _ _ _ _ (findS_putS hp _ _) this
            obtain ⟨v, del, new, t', hs, h⟩ := opW_ok hT h
            split at h
            · rename_i ht
              rw [viewS_congr hp, viewR_congr hp] at hs
              rw [recOf_congr hp] at ht h
              refine .inl ⟨v, del, new, hs, ht, ?_⟩
              have := ih _ _ _ _ h
              rw [putS_app, ← res_app, ← pushB_app] at this
              exact dops_congr _ _ _ _ _ _ (findS_putS hp _ _) this
            · cases h
          · rename_i hb; rw [hb] at h4; simp at h4
        · split at h
          · rename_i hb; rw [hb] at h4; exact absurd (by simpa using h4.symm) e
          · have := ih _ _ _ _ h
            rw [putS_app, ← pushB_app] at this
            exact dops_congr _ _ _ _ _ _ (findS_putS hp _ _) this
end
end Go.Proofs.Ytcgjlddpbkponaa
