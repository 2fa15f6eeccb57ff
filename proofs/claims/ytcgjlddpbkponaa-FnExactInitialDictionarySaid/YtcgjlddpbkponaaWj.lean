/-
  Functions that are handed memory: their contracts by computation.
-/
import Derived.Test.YtcgjlddpbkponaaWe
namespace Go.Proofs.Ytcgjlddpbkponaa
open Go.ChangeShapes Go.WideShapes Go.ChangeAt Go.RowKit
set_option linter.unusedVariables false
set_option linter.unusedSimpArgs false
def rrB (rs : Rl) (ren : List (Nat × Nat)) : List (Nat × Rs) → Prop
  | [] => True
  | (h, r) :: l => (match look ren h with
    | some g => (match findO rs g with
      | some r' => (match r with
        | .box t cs => (match r' with | .box t' cs' => EqN t' t (RetBL (look ren) cs cs' (rrB rs ren l)) | _ => False)
        | .arr e k d xs => EqR r' (.arr e k d xs) (rrB rs ren l))
      | none => False)
    | none => (match r with | .arr _ _ _ xs => [] = xs ∧ rrB rs ren l | _ => False))
/-- What rrB says of one handle, whatever the places. -/
def RrOk (rs : Rl) (ren : List (Nat × Nat)) (h : Nat) (r : Rs) : Prop :=
  (∀ g, look ren h = some g → ∃ r', findO rs g = some r' ∧ ((r = r' ∧ arrR r = true) ∨ ∃ t cs cs' Q, r = .box t cs ∧ r' = .box t cs' ∧ RetBL (look ren) cs cs' Q)) ∧ (look ren h = none → ∃ e k d, r = .arr e k d [])
theorem rrB_ok {rs : Rl} {ren : List (Nat × Nat)} : ∀ {l : List (Nat × Rs)}, rrB rs ren l → ∀ h r, findH l h = some r → RrOk rs ren h r
  | [], _, h, r, e => by simp [findH] at e
  | (k, r0) :: l, hw, h, r, e => by
    unfold rrB at hw
    simp only [findH] at e
    split at hw
    · rename_i g hg
      split at hw
      · rename_i r' hr'
        split at hw
        · rename_i t cs
          split at hw
          · rename_i t' cs'
            obtain ⟨e1, hw1⟩ := hw.eq
            split at e
            · rename_i ek
              subst ek
              injection e with e
              subst e
              exact ⟨fun g' hg' => by rw [hg] at hg'; injection hg' with hg'; subst hg'; exact ⟨_, hr', .inr ⟨_, cs, cs', _, rfl, by rw [e1], hw1⟩⟩, fun hn => by rw [hg] at hn; cases hn⟩
            · exact rrB_ok (RetBL_snd _ _ _ hw1) h r e
          · cases hw
        · obtain ⟨e1, hw⟩ := hw.eq
          split at e
          · rename_i ek
            subst ek
            injection e with e
            subst e
            exact ⟨fun g' hg' => by rw [hg] at hg'; injection hg' with hg'; subst hg'; exact ⟨_, hr', .inl ⟨e1.symm, rfl⟩⟩, fun hn => by rw [hg] at hn; cases hn⟩
          · exact rrB_ok hw h r e
      · cases hw
    · rename_i hg
      split at hw
      · obtain ⟨e1, hw⟩ := hw
        split at e
        · rename_i ek
          subst ek
          injection e with e
          subst e
          exact ⟨fun g' hg' => (by rw [hg] at hg'; cases hg'), fun _ => ⟨_, _, _, by rw [← e1]⟩⟩
        · exact rrB_ok hw h r e
      · cases hw

def slotsA : Nat → List AV → Sl
  | _, [] => []
  | i, x :: xs => (i, x) :: slotsA (i + 1) xs
theorem findS_slotsA : ∀ (xs : List AV) (i t : Nat), findS (slotsA i xs) t = if i ≤ t then (match xs[t - i]? with | some x => x | none => .no) else .no
  | [], i, t => by simp [slotsA, findS]
  | x :: xs, i, t => by
    simp only [slotsA, findS, findS_slotsA xs (i + 1) t]
    by_cases e : t = i
    · subst e; simp
    · by_cases h : i ≤ t
      · have : t - i = (t - (i + 1)) + 1 := by omega
        rw [if_neg e, if_pos (by omega), if_pos h, this, List.getElem?_cons_succ]
      · rw [if_neg e, if_neg (by omega), if_neg h]
def finB (tb : Tb) (res : List ResultVar) (ri : List (Nat × Rs)) (rv : AV) (ro : List (Nat × Rs)) (e : Exit) (sl : Sl) (rs : Rl) (t : T) : Prop :=
  (match (match e with | .normal => true | .ret => true | _ => false) with
  | true => (match t with
    | .fin ren => (match resF tb sl rs res with
      | some xs => (match nodupB (ren.map (·.2)) && (ro.all fun q => match findH ri q.1 with | some _ => (match look ren q.1 with | some g => Nat.beq g q.1 | none => false) | none => true) with
        | true => RetB (look ren) rv (resAV xs) (rrB rs ren ro)
        | false => False)
      | none => False)
    | _ => False)
  | false => False)
def bodyX (P : Program) (tb : Tb) (fn : Func) (args : List AV) (ri : List (Nat × Rs)) (rv : AV) (ro : List (Nat × Rs)) (t : T) : Prop := match fn.body with | some c => wpC P tb fn.ntmps c [] [] (slotsA 0 args) (newL ri) t (finB tb fn.results.toList ri rv ro) | none => False
theorem con2_x {P : Program} {tb : Tb} (hT : TbOk P tb) (hm : P.follows .mixedOrders = true) {f : FuncId} {fn : Func} {args : List AV} {ri : List (Nat × Rs)} {rv : AV} {ro : List (Nat × Rs)} (hf : P.funcs[f]? = some fn) (hc : okFn fn args.length = true) (hlow : (ri.all fun q => Nat.blt q.1 100) = true) (t : T) (h : bodyX P tb fn args ri rv ro t) : Con2 P f args ri rv ro := by
  unfold okFn at hc
  simp only [Bool.and_eq_true] at hc
  obtain ⟨⟨hn, hbs⟩, hl⟩ := hc
  have hl := Nat.le_of_ble_eq_true hl
  obtain ⟨c, hb⟩ := Option.isSome_iff_exists.1 hbs
  unfold bodyX at h
  rw [hb] at h
  have hlow' : ∀ q ∈ ri, q.1 < 100 := fun q hq => by have := List.all_eq_true.1 hlow q hq; simpa [Nat.blt_eq] using this
  refine ⟨by simp only [callable, hf, hb]; simpa using hn, hlow', fun A φ w vs hI hargs => ?_⟩
  refine calls_of_wp hf hb ?_
  have hlen := matchL_len hargs
  simp only [Array.length_toList] at hlen
  have hres : ∀ h, findO (newL ri) h = findH ri h := fun h => by
    have := findO_new ri [] h
    rw [List.append_nil] at this
    rw [this]
    cases findH ri h <;> rfl
  have hdom : ∀ h pl, φ h = some pl → h < 100 := fun h pl e => by
    cases hr : findH ri h with
    | none => rw [hI.non h hr] at e; cases e
    | some r => exact hlow' _ (mem_of_findH hr)
  have hG0 : Gam A ⟨w, AllF φ, φ, hdom⟩ fn.ntmps (mk (slotsA 0 args) (newL ri)) { tmps := vs ++ Array.replicate (fn.ntmps - vs.size) undef, defers := [] } w := by
    refine ⟨A, φ, fun h r hr => ?_, fun h hr => ?_, hI.disj, hI.nodup, fun h pl e g hg => ⟨.inr ⟨h, pl, trivial, e, hg⟩, hI.ge h pl e g hg⟩, fun b hb => ⟨hI.lt b hb, .inl hb⟩, hI.out, fun _ h => h, fun t => ?_, ⟨rfl, rfl, rfl, Nat.le_refl _, fun _ _ _ => rfl⟩, rfl, by simp; omega, fun h pl pl0 e e0 => by dsimp only at e0; rw [e] at e0; injection e0⟩
    · simp only [mk, hres] at hr; exact hI.dom h r hr
    · simp only [mk, hres] at hr; exact hI.non h hr
    · simp only [mk, findS_slotsA, Nat.zero_le, if_true, Nat.sub_zero]
      split
      · rename_i x hx
        obtain ⟨v, hv, hr⟩ := matchL_get hargs hx
        have ht : t < vs.size := by have := (List.getElem?_eq_some_iff.1 hv).1; simpa using this
        rw [Array.getD_eq_getD_getElem?, Array.getElem?_append_left ht, ← Array.getElem?_toList, hv]
        exact hr
      · unfold MatchV; trivial
  have hvc := wpC_ok hT hm c [] [] (slotsA 0 args) (newL ri) t _ h
  simp only [List.append_nil] at hvc
  refine Code.wp_mono (fun e a' w' ⟨S, ⟨K, φ1, hG⟩, pre, prr, t', hS, hfin⟩ => ?_) (hvc A _ _ w hG0)
  subst hS
  unfold finB at hfin
  split at hfin
  · rename_i he
    split at hfin
    · rename_i ren
      split at hfin
      · rename_i xs hxs
        split at hfin
        · rename_i hbb
          simp only [Bool.and_eq_true, List.all_eq_true] at hbb
          obtain ⟨b1, b3⟩ := hbb
          obtain ⟨v, hrun, hmv⟩ := results_match hG (resF_ok hT hxs)
          let φ' : Phi := fun h => match findH ro h with | some _ => (match look ren h with | some g => φ1 g | none => some nilPl) | none => none
          have p1 : ∀ h g pl, look ren h = some g → φ' h = some pl → φ1 g = some pl := fun h g pl e e' => by
            simp only [φ', e] at e'
            split at e'
            · exact e'
            · cases e'
          have p2 : ∀ h pl, look ren h = none → φ' h = some pl → pl = nilPl := fun h pl e e' => by
            simp only [φ', e] at e'
            split at e'
            · injection e' with e'; exact e'.symm
            · cases e'
          have p0 : ∀ h pl, φ' h = some pl → ∃ r, findH ro h = some r := fun h pl e => by
            simp only [φ'] at e
            split at e
            · rename_i r hr; exact ⟨r, hr⟩
            · cases e
          have p3 : ∀ h pl, φ' h = some pl → (∃ g, look ren h = some g ∧ φ1 g = some pl) ∨ pl = nilPl := fun h pl e => by
            cases hl : look ren h with
            | some g => exact .inl ⟨g, rfl, p1 h g pl hl e⟩
            | none => exact .inr (p2 h pl hl e)
          obtain ⟨m1, m2⟩ := RetB_ok (φ' := φ') p1 p2 _ _ _ v hfin hmv
          have hO : Out2 A φ w ro K φ' w' := by
            refine ⟨hG.bel, hG.aK, fun b hb => ⟨(hG.kin b hb).1, (hG.kin b hb).2⟩, fun b hb h pl e => ?_, fun h r hr => ?_, fun h hr => by simp [φ', hr], fun h h' pl pl' hne e e' g hg => ?_, fun h pl e => ?_, fun h pl e g hg => ?_, fun h pl pl0 e e0 => ?_⟩
            · rcases p3 h pl e with ⟨g, _, e⟩ | e
              · exact hG.kout b hb g pl e
              · rw [e]; simp [nilPl, Pl.F]
            · obtain ⟨q1, q2⟩ := rrB_ok m2 h r hr
              cases hl : look ren h with
              | some g =>
                obtain ⟨r', hr', q⟩ := q1 g hl
                obtain ⟨pl, hp, hh⟩ := hG.dom g r' hr'
                refine ⟨pl, by simp [φ', hr, hl, hp], ?_⟩
                rcases q with ⟨rfl, ha⟩ | ⟨t, cs, cs', Q, rfl, rfl, hq⟩
                · exact Holds.arrPhi ha hh
                · obtain ⟨g', vs', e1, e2, e3, e4⟩ := hh
                  exact ⟨g', vs', e1, e2, e3, (RetBL_ok (φ' := φ') p1 p2 _ _ _ _ hq e4).1⟩
              | none =>
                obtain ⟨e, k, d, rfl⟩ := q2 hl
                refine ⟨nilPl, by simp [φ', hr, hl], ?_⟩
                cases d with
                | true => exact ⟨[], [], World.ownsRow_nil w' 0 e k, rfl, rfl, by unfold OwRs; exact ⟨rfl, rfl⟩⟩
                | false => exact ⟨[], World.ownsRow_nil w' 0 e k, rfl, rfl, rfl⟩
            · rcases p3 h pl e with ⟨q, l1, e1⟩ | e1
              · rcases p3 h' pl' e' with ⟨q', l1', e1'⟩ | e1'
                · exact hG.disj q q' pl pl' (fun x => by subst x; exact hne (look_inj b1 l1 l1')) e1 e1' g hg
                · rw [e1']; simp [nilPl, Pl.F]
              · rw [e1] at hg; simp [nilPl, Pl.F] at hg
            · rcases p3 h pl e with ⟨g, _, e⟩ | e
              · exact hG.nodup g pl e
              · rw [e]; simp [nilPl, Pl.F]
            · rcases p3 h pl e with ⟨q, _, e⟩ | e
              · exact hG.ge q pl e g hg
              · rw [e] at hg; simp [nilPl, Pl.F] at hg
            · obtain ⟨r, hr⟩ := p0 h pl e
              have := b3 _ (mem_of_findH hr)
              cases hri : findH ri h with
              | none => rw [hI.non h hri] at e0; cases e0
              | some r0 =>
                simp only [hri] at this
                cases hl : look ren h with
                | none => rw [hl] at this; cases this
                | some g =>
                  rw [hl] at this
                  have hg := Nat.eq_of_beq_eq_true this
                  subst hg
                  exact hG.pin _ pl pl0 (p1 _ _ pl hl e) e0
          cases e with
          | normal => exact ⟨hG.nd, v, hrun, v, K, φ', rfl, hO, m1⟩
          | ret => exact ⟨hG.nd, v, hrun, v, K, φ', rfl, hO, m1⟩
          | _ => cases he
        · cases hfin
      · cases hfin
    · cases hfin
  · cases hfin

/-- A call that marks a slice in place. -/
theorem con2_mark {P : Program} {f : FuncId} {e k : Nat} {xs ys : List (List Dat)} {m m' : Int} (hc : callable P f = true) (h : ∀ (w : World) (v : Value) (F : List Nat), OwV w (.sl e k xs) v F → F.Nodup → Calls P f #[v, .int .i64 m] w (fun en w' => en = .returned (.int .i64 m') ∧ OwV w' (.sl e k ys) v F ∧ Only F w w')) :
    Con2 P f [.own 0, vI m] [(0, .arr e k true xs)] (vI m') [(0, .arr e k true ys)] := by
  refine ⟨hc, by simp, fun A φ w vs hI hm => ?_⟩
  obtain ⟨pl, hp, hh⟩ := hI.dom 0 _ rfl
  obtain ⟨css, Fs, q1, q2, q3, q4⟩ := hh
  unfold MatchL at hm
  obtain ⟨v, us, e1, m1, hm⟩ := hm
  unfold MatchL at hm
  obtain ⟨v2, us2, e2, m2, hm⟩ := hm
  unfold MatchL at hm
  unfold MatchV at m1 m2
  unfold RdV at m2
  have hv := m1 pl hp
  have ev : vs = #[pl.val, .int .i64 m] := by apply Array.ext'; rw [e1, e2, hm, hv, m2]
  rw [ev]
  have hF : pl.F = pl.val.ownBlock.toList ++ Fs.flatten := by unfold Pl.F; rw [q2, q3]
  have ho : OwV w (.sl e k xs) pl.val pl.F := by unfold OwV; exact ⟨css, Fs, q1, hF, q4⟩
  refine (h w pl.val pl.F ho (hI.nodup 0 pl hp)).mono ?_
  rintro en w' ⟨rfl, ho', hon⟩
  unfold OwV at ho'
  obtain ⟨css', Fs', p1, p2, p3⟩ := ho'
  have hsub : pl.sub = Fs'.flatten := by
    rw [hF] at p2
    rw [q3]
    exact List.append_cancel_left p2
  have hfoot : ∀ b ∈ pl.F, AllF φ b := fun b hb => ⟨0, pl, trivial, hp, hb⟩
  have h0 : ∀ h pl', φ h = some pl' → h = 0 := fun h pl' e' => by
    cases hr : findH [(0, Rs.arr e k true xs)] h with
    | none => rw [hI.non h hr] at e'; cases e'
    | some r =>
      simp only [findH] at hr
      split at hr
      · assumption
      · cases hr
  refine ⟨_, A, φ, rfl, ⟨⟨hon.os, hon.tape, hon.output, hon.size, fun b hb hn => hon.block b hb (fun hm => hn (hfoot b hm))⟩, fun _ h => h, fun b hb => ⟨Nat.lt_of_lt_of_le (hI.lt b hb) hon.size, .inl hb⟩, hI.out, fun h r hr => ?_, fun h hr => ?_, hI.disj, hI.nodup, fun h pl' e' g hg => ⟨.inr ⟨h, pl', trivial, e', hg⟩, Nat.lt_of_lt_of_le (hI.ge h pl' e' g hg) hon.size⟩, fun h pl' pl0 e' e0 => by rw [e'] at e0; injection e0⟩, by unfold MatchV RdV; rfl⟩
  · simp only [findH] at hr
    split at hr
    · rename_i eh
      subst eh
      injection hr with hr
      subst hr
      exact ⟨pl, hp, css', Fs', p1, q2, hsub, p3⟩
    · cases hr
  · refine hI.non h ?_
    simp only [findH] at hr ⊢
    split at hr
    · cases hr
    · rename_i eh; rw [if_neg eh]
end Go.Proofs.Ytcgjlddpbkponaa
