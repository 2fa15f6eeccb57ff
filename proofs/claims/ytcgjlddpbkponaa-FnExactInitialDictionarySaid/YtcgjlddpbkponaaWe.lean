/-
  The end of a function by computation; contracts out of the demand.
-/
import Derived.Test.YtcgjlddpbkponaaWd
namespace Go.Proofs.Ytcgjlddpbkponaa
open Go.ChangeShapes Go.WideShapes Go.ChangeAt Go.RowKit
set_option linter.unusedVariables false
set_option linter.unusedSimpArgs false

def resF (tb : Tb) (sl : Sl) (rs : Rl) : List ResultVar → Option (List AV)
  | [] => some []
  | r :: l => (match (match r with
      | .tmp t => some (findS sl t)
      | .cell t ty => (match findS sl t with
        | .ptr h 0 => (match findO rs h with
          | some (.box _ cs) => (match look tb.ty ty with
            | some (true, n, _, _) => (match Nat.beq n cs.length with | true => some (.agg cs) | false => none)
            | some (false, _, _, _) => cs[0]?
            | none => none)
          | _ => none)
        | _ => none)) with
    | some x => (match resF tb sl rs l with | some xs => some (x :: xs) | none => none)
    | none => none)
mutual
/-- What is handed back, as the contract names it. -/
def RetA (ren : List (Nat × Nat)) : AV → AV → Prop → Prop
  | .nil, y, K => (match y with | .nil => K | .own h => (match look ren h with | none => K | some _ => False) | .p none (.sl _ _ xs) => [] = xs ∧ K | _ => False)
  | .own g, y, K => (match y with | .own h => (match look ren h with | some g' => EqN g g' K | none => False) | _ => False)
  | .p none x, y, K => (match y with | .p none x' => EqD x x' ∧ K | _ => False)
  | .agg cs, y, K => (match y with | .agg cs' => RetL ren cs cs' K | _ => False)
  | .tup cs, y, K => (match y with | .tup cs' => RetL ren cs cs' K | _ => False)
  | _, _, _ => False
def RetL (ren : List (Nat × Nat)) : List AV → List AV → Prop → Prop
  | [], ys, K => (match ys with | [] => K | _ => False)
  | x :: xs, ys, K => (match ys with | y :: ys => RetA ren x y (RetL ren xs ys K) | [] => False)
end
def rrW (rs : Rl) (ren : List (Nat × Nat)) : List (Nat × Rs) → Prop
  | [] => True
  | (h, r) :: l => (match look ren h with
    | some g => (match findO rs g with | some r' => EqR r' r (rrW rs ren l) | none => False)
    | none => (match r with | .arr _ _ _ xs => [] = xs ∧ rrW rs ren l | _ => False))
def finW (tb : Tb) (res : List ResultVar) (rv : AV) (rr : List (Nat × Rs)) (e : Exit) (sl : Sl) (rs : Rl) (t : T) : Prop :=
  (match (match e with | .normal => true | .ret => true | _ => false) with
  | true => (match t with
    | .fin ren => (match resF tb sl rs res with
      | some xs => (match nodupB (ren.map (·.2)) && nodupB (rr.map (·.1)) && (rr.all fun q => arrR q.2) && ((ments rv).all fun h => (findH rr h).isSome) with
        | true => RetA ren (resAV xs) rv (rrW rs ren rr)
        | false => False)
      | none => False)
    | _ => False)
  | false => False)
theorem resF_ok {P : Program} {tb : Tb} (hT : TbOk P tb) {sl : Sl} {rs : Rl} : ∀ {l : List ResultVar} {xs : List AV}, resF tb sl rs l = some xs → ResL P (mk sl rs) l xs
  | [], xs, h => by simp only [resF, Option.some.injEq] at h; subst h; exact rfl
  | r :: l, xs, h => by
    unfold resF at h
    split at h
    · rename_i x hx
      split at h
      · rename_i xs' hxs
        injection h with h
        subst h
        refine ⟨x, xs', rfl, ?_, resF_ok hT hxs⟩
        cases r with
        | tmp t => dsimp only at hx; injection hx with hx; subst hx; rfl
        | cell t ty =>
          dsimp only at hx
          split at hx
          · rename_i hh hs
            split at hx
            · rename_i tq cs hr
              split at hx
              · rename_i n bt z hq
                split at hx
                · rename_i hn
                  injection hx with hx
                  subst hx
                  exact ⟨_, _, _, _, _, _, _, hs, hr, look_of hT.ty hq, .inl ⟨rfl, Nat.eq_of_beq_eq_true hn, rfl⟩⟩
                · cases hx
              · rename_i n bt z hq
                exact ⟨_, _, _, _, _, _, _, hs, hr, look_of hT.ty hq, .inr ⟨rfl, hx⟩⟩
              · cases hx
            · cases hx
          · cases hx
      · cases h
    · cases h
mutual
theorem RetA_ok {ren : List (Nat × Nat)} {K : Nat → Prop} {φ φ' : Phi} {w : World} (h1 : ∀ h g pl, look ren h = some g → φ' h = some pl → φ g = some pl) (h2 : ∀ h pl, look ren h = none → φ' h = some pl → pl = nilPl) : ∀ (x y : AV) (Q : Prop) (v : Value), RetA ren x y Q → MatchV K φ w x v → MatchV K φ' w y v ∧ Q
  | .nil, y, Q, v, h, hm => by
    unfold RetA at h
    unfold MatchV at hm
    split at h
    · exact ⟨by unfold MatchV; exact hm, h⟩
    · split at h
      · rename_i hl
        refine ⟨?_, h⟩
        unfold MatchV
        intro pl hp
        rw [h2 _ pl hl hp, hm]; rfl
      · cases h
    · refine ⟨?_, h.2⟩
      unfold MatchV
      rw [hm, ← h.1]; exact rdV_nil
    · cases h
  | .own g, y, Q, v, h, hm => by
    unfold RetA at h
    unfold MatchV at hm
    split at h
    · split at h
      · rename_i g' hl
        obtain ⟨e, hQ⟩ := h.eq
        subst e
        refine ⟨?_, hQ⟩
        unfold MatchV
        intro pl hp
        exact hm pl (h1 _ _ pl hl hp)
      · cases h
    · cases h
  | .p none x, y, Q, v, h, hm => by
    unfold RetA at h
    split at h
    · refine ⟨?_, h.2⟩
      unfold MatchV at *
      rw [← h.1.eq]; exact hm
    · cases h
  | .p (some _) x, y, Q, v, h, hm => by unfold RetA at h; cases h
  | .agg cs, y, Q, v, h, hm => by
    unfold RetA at h
    unfold MatchV at hm
    obtain ⟨vs, rfl, q1, q2⟩ := hm
    split at h
    · obtain ⟨q3, q4⟩ := RetL_ok h1 h2 cs _ Q _ h q2
      refine ⟨?_, q4⟩
      unfold MatchV
      exact ⟨vs, rfl, q1, q3⟩
    · cases h
  | .tup cs, y, Q, v, h, hm => by
    unfold RetA at h
    unfold MatchV at hm
    obtain ⟨vs, rfl, q2⟩ := hm
    split at h
    · obtain ⟨q3, q4⟩ := RetL_ok h1 h2 cs _ Q _ h q2
      refine ⟨?_, q4⟩
      unfold MatchV
      exact ⟨vs, rfl, q3⟩
    · cases h
  | .ptr _ _, y, Q, v, h, hm => by unfold RetA at h; cases h
  | .ep _ _ _ _, y, Q, v, h, hm => by unfold RetA at h; cases h
  | .rp _ _, y, Q, v, h, hm => by unfold RetA at h; cases h
  | .fn _ _, y, Q, v, h, hm => by unfold RetA at h; cases h
  | .bsl _ _, y, Q, v, h, hm => by unfold RetA at h; cases h
  | .no, y, Q, v, h, hm => by unfold RetA at h; cases h
theorem RetL_ok {ren : List (Nat × Nat)} {K : Nat → Prop} {φ φ' : Phi} {w : World} (h1 : ∀ h g pl, look ren h = some g → φ' h = some pl → φ g = some pl) (h2 : ∀ h pl, look ren h = none → φ' h = some pl → pl = nilPl) : ∀ (xs ys : List AV) (Q : Prop) (vs : List Value), RetL ren xs ys Q → MatchL K φ w xs vs → MatchL K φ' w ys vs ∧ Q
  | [], ys, Q, vs, h, hm => by
    unfold RetL at h
    split at h
    · unfold MatchL at *
      exact ⟨hm, h⟩
    · cases h
  | x :: xs, ys, Q, vs, h, hm => by
    unfold RetL at h
    unfold MatchL at hm
    obtain ⟨v, vs', rfl, q1, q2⟩ := hm
    split at h
    · obtain ⟨q3, q4⟩ := RetA_ok h1 h2 x _ _ v h q1
      obtain ⟨q5, q6⟩ := RetL_ok h1 h2 xs _ Q vs' q4 q2
      refine ⟨?_, q6⟩
      unfold MatchL
      exact ⟨v, vs', rfl, q5 |> fun _ => q3, q5⟩
    · cases h
end
theorem rrW_ok {rs : Rl} {ren : List (Nat × Nat)} : ∀ {l : List (Nat × Rs)}, rrW rs ren l → ∀ h r, findH l h = some r → (∀ g, look ren h = some g → findO rs g = some r) ∧ (look ren h = none → ∃ e k d, r = .arr e k d [])
  | [], _, h, r, e => by simp [findH] at e
  | (k, r0) :: l, hw, h, r, e => by
    unfold rrW at hw
    simp only [findH] at e
    split at hw
    · rename_i g hg
      split at hw
      · rename_i r' hr'
        obtain ⟨e1, hw⟩ := hw.eq
        split at e
        · rename_i ek
          subst ek
          injection e with e
          subst e
          exact ⟨fun g' hg' => by rw [hg] at hg'; injection hg' with hg'; subst hg'; rw [hr', e1], fun hn => by rw [hg] at hn; cases hn⟩
        · exact rrW_ok hw h r e
      · cases hw
    · rename_i hg
      split at hw
      · obtain ⟨e1, hw⟩ := hw
        split at e
        · rename_i ek
          subst ek
          injection e with e
          subst e
          exact ⟨fun g' hg' => (by rw [hg] at hg'; cases hg'), fun _ => ⟨_, _, _, by rw [← e1]⟩⟩
        · exact rrW_ok hw h r e
      · cases hw
/-- Lengths of the arguments' slices. -/
def lenD : Dat → Prop → Prop
  | .sl _ _ xs, K => xs.length ≤ 9223372036854775807 → K
  | _, K => K
def lenL : List Dat → Prop → Prop
  | [], K => K
  | x :: xs, K => lenD x (lenL xs K)
def lenAs : List Ar → Prop → Prop
  | [], K => K
  | .one x :: l, K => lenD x (lenAs l K)
  | .agg xs :: l, K => lenL xs (lenAs l K)
theorem lenD_of {A : Nat → Prop} {w : World} {x : Dat} {v : Value} {K : Prop} (h : RdV A w x v) (hk : lenD x K) : K := by
  cases x with
  | sl e k xs =>
    unfold RdV at h
    obtain ⟨a, c, _, h1, h2, _⟩ := h
    exact hk (by unfold maxLen at h2; omega)
  | _ => exact hk
theorem lenL_of {A : Nat → Prop} {w : World} {K : Prop} : ∀ {xs : List Dat} {vs : List Value}, RdL A w xs vs → lenL xs K → K
  | [], _, _, hk => hk
  | x :: xs, _, ⟨v, vs, _, h1, h2⟩, hk => lenL_of h2 (lenD_of h1 hk)
theorem lenAs_of {A : Nat → Prop} {w : World} {K : Prop} : ∀ {xs : List Ar} {vs : List Value}, ArsRd A w xs vs → lenAs xs K → K
  | [], _, _, hk => hk
  | .one x :: xs, _, ⟨v, vs, _, h1, h2⟩, hk => lenAs_of h2 (lenD_of h1 hk)
  | .agg ys :: xs, _, ⟨v, vs, _, ⟨us, _, h1⟩, h2⟩, hk => lenAs_of h2 (lenL_of h1 hk)
theorem con_w {P : Program} {tb : Tb} (hT : TbOk P tb) (hm : P.follows .mixedOrders = true) {f : FuncId} {fn : Func} {c : Code} {args : List Ar} {rv : AV} {rr : List (Nat × Rs)} (hf : P.funcs[f]? = some fn) (hb : fn.body = some c) (hn : (fn.name == "runtime.NumGoroutine") = false) (hl : args.length ≤ fn.ntmps) (t : T)
    (h : lenAs args (wpC P tb fn.ntmps c [] [] (slots0 0 args) [] t (finW tb fn.results.toList rv rr))) : Con P f args rv rr := by
  refine ⟨by simp [callable, hf, hb, hn], fun A w vs hA hargs => ?_⟩
  have h := lenAs_of hargs h
  refine calls_of_wp hf hb ?_
  have hlen := arsRd_len hargs
  simp only [Array.length_toList] at hlen
  have hG0 : Gam A ⟨w, fun _ => False, fun _ => none, by simp⟩ fn.ntmps (S0 args) { tmps := vs ++ Array.replicate (fn.ntmps - vs.size) undef, defers := [] } w := by
    refine ⟨A, fun _ => none, by simp [S0], by simp [S0], by simp, by simp, by simp, fun b hb => ⟨hA b hb, .inl hb⟩, by simp, fun _ h => h, fun t => ?_, ⟨rfl, rfl, rfl, Nat.le_refl _, fun _ _ _ => rfl⟩, rfl, by simp; omega, by simp⟩
    simp only [S0]
    split
    · rename_i x hx
      obtain ⟨v, hv, hr⟩ := arsRd_at hargs hx
      have ht : t < vs.size := by have := (List.getElem?_eq_some_iff.1 hv).1; simpa using this
      rw [Array.getD_eq_getD_getElem?, Array.getElem?_append_left ht, ← Array.getElem?_toList, hv]
      exact arAV_match hr
    · unfold MatchV; trivial
  have hvc := wpC_ok hT hm c [] [] (slots0 0 args) [] t _ h
  simp only [List.append_nil] at hvc
  rw [← S0_mk] at hvc
  refine Code.wp_mono (fun e a' w' ⟨S, ⟨K, φ, hG⟩, pre, prr, t', hS, hfin⟩ => ?_) (hvc A _ _ w hG0)
  subst hS
  unfold finW at hfin
  split at hfin
  · rename_i he
    split at hfin
    · rename_i ren
      split at hfin
      · rename_i xs hxs
        split at hfin
        · rename_i hb
          simp only [Bool.and_eq_true, List.all_eq_true] at hb
          obtain ⟨⟨⟨b1, b2⟩, b3⟩, b4⟩ := hb
          obtain ⟨v, hrun, hmv⟩ := results_match hG (resF_ok hT hxs)
          let φ' : Phi := fun h => match findH rr h with | some _ => (match look ren h with | some g => φ g | none => some nilPl) | none => none
          have p1 : ∀ h g pl, look ren h = some g → φ' h = some pl → φ g = some pl := fun h g pl e e' => by
            simp only [φ', e] at e'
            split at e'
            · exact e'
            · cases e'
          have p2 : ∀ h pl, look ren h = none → φ' h = some pl → pl = nilPl := fun h pl e e' => by
            simp only [φ', e] at e'
            split at e'
            · injection e' with e'; exact e'.symm
            · cases e'
          have p3 : ∀ h pl, φ' h = some pl → (∃ g, look ren h = some g ∧ φ g = some pl) ∨ pl = nilPl := fun h pl e => by
            cases hl : look ren h with
            | some g => exact .inl ⟨g, rfl, p1 h g pl hl e⟩
            | none => exact .inr (p2 h pl hl e)
          obtain ⟨m1, m2⟩ := RetA_ok (φ' := φ') p1 p2 _ _ _ v hfin hmv
          have hR : RetOk A w rv rr (.returned v) w' := by
            refine ⟨v, K, φ', rfl, below_of hG.bel, fun b hb => ⟨(hG.kin b hb).1, (hG.kin b hb).2.imp id mine_of⟩, fun b hb h pl e => ?_, fun h r hr => ?_, fun h hr => by simp [φ', hr], fun h h' pl pl' hne e e' g hg => ?_, fun h pl e => ?_, fun h pl e => ?_, m1⟩
            · rcases p3 h pl e with ⟨g, _, e⟩ | e
              · exact hG.kout b hb g pl e
              · rw [e]; simp [nilPl, Pl.F]
            · obtain ⟨q1, q2⟩ := rrW_ok m2 h r hr
              cases hl : look ren h with
              | some g =>
                obtain ⟨pl, hp, hh⟩ := hG.dom g r (q1 g hl)
                exact ⟨pl, by simp [φ', hr, hl, hp], Holds.arrPhi (b3 _ (mem_of_findH hr)) hh⟩
              | none =>
                obtain ⟨e, k, d, rfl⟩ := q2 hl
                refine ⟨nilPl, by simp [φ', hr, hl], ?_⟩
                cases d with
                | true => exact ⟨[], [], World.ownsRow_nil w' 0 e k, rfl, rfl, by unfold OwRs; exact ⟨rfl, rfl⟩⟩
                | false => exact ⟨[], World.ownsRow_nil w' 0 e k, rfl, rfl, rfl⟩
            · rcases p3 h pl e with ⟨q, l1, e1⟩ | e1
              · rcases p3 h' pl' e' with ⟨q', l1', e1'⟩ | e1'
                · exact hG.disj q q' pl pl' (fun x => by subst x; exact hne (look_inj b1 l1 l1')) e1 e1' g hg
                · rw [e1']; simp [nilPl, Pl.F]
              · rw [e1] at hg; simp [nilPl, Pl.F] at hg
            · rcases p3 h pl e with ⟨g, _, e⟩ | e
              · exact hG.nodup g pl e
              · rw [e]; simp [nilPl, Pl.F]
            · rcases p3 h pl e with ⟨g, _, e⟩ | e
              · exact fun q hq => ⟨mine_of (hG.ge g pl e q hq).1, (hG.ge g pl e q hq).2⟩
              · rw [e]; simp [nilPl, Pl.F]
          cases e with
          | normal => exact ⟨hG.nd, v, hrun, hR⟩
          | ret => exact ⟨hG.nd, v, hrun, hR⟩
          | _ => cases he
        · cases hfin
      · cases hfin
    · cases hfin
  · cases hfin
def okFn (fn : Func) (n : Nat) : Bool := (!(fn.name == "runtime.NumGoroutine") && fn.body.isSome) && Nat.ble n fn.ntmps
def bodyW (P : Program) (tb : Tb) (fn : Func) (args : List Ar) (rv : AV) (rr : List (Nat × Rs)) (t : T) : Prop := lenAs args (match fn.body with | some c => wpC P tb fn.ntmps c [] [] (slots0 0 args) [] t (finW tb fn.results.toList rv rr) | none => False)
theorem con_x {P : Program} {tb : Tb} (hT : TbOk P tb) (hm : P.follows .mixedOrders = true) {f : FuncId} {fn : Func} {args : List Ar} {rv : AV} {rr : List (Nat × Rs)} (hf : P.funcs[f]? = some fn) (hc : okFn fn args.length = true) (t : T) (h : bodyW P tb fn args rv rr t) : Con P f args rv rr := by
  unfold okFn at hc
  rw [Bool.and_eq_true] at hc
  have hl := Nat.le_of_ble_eq_true hc.2
  cases hb : fn.body with
  | some c =>
    rw [Bool.and_eq_true] at hc
    refine con_w hT hm hf hb (by simpa using hc.1.1) hl t ?_
    unfold bodyW at h
    rw [hb] at h
    exact h
  | none =>
    rw [hb] at hc
    simp at hc
theorem nt {b : Bool} (h : (!b) = true) : b = false := by cases b <;> simp_all
theorem nf {b : Bool} (h : (!b) = false) : b = true := by cases b <;> simp_all
end Go.Proofs.Ytcgjlddpbkponaa
