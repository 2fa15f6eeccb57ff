/-
  Calls by contract.
-/
import Derived.Test.YtcgjlddpbkponaaEj
namespace Go.Proofs.Ytcgjlddpbkponaa
open Go.ChangeShapes Go.WideShapes Go.ChangeAt Go.RowKit
set_option linter.unusedVariables false
set_option linter.unusedSimpArgs false

mutual
def mapA (g : Nat → Nat) : AV → AV
  | .p (some h) x => .p (some (g h)) x
  | .p none x => .p none x
  | .own h => .own (g h)
  | .ptr h o => .ptr (g h) o
  | .ep h k i o => .ep (g h) k i o
  | .rp (some h) x => .rp (some (g h)) x
  | .rp none x => .rp none x
  | .agg cs => .agg (mapAL g cs)
  | .tup cs => .tup (mapAL g cs)
  | .fn f cs => .fn f (mapAL g cs)
  | .nil => .nil
  | .bsl h n => .bsl (g h) n
  | .no => .no
def mapAL (g : Nat → Nat) : List AV → List AV
  | [] => []
  | x :: xs => mapA g x :: mapAL g xs
end
mutual
theorem MatchV.map {K : Nat → Prop} {φ φ' : Phi} {w : World} {g : Nat → Nat} : ∀ (x : AV) (v : Value), (∀ h pl, h ∈ ments x → φ' (g h) = some pl → φ h = some pl) → MatchV K φ w x v → MatchV K φ' w (mapA g x) v
  | .p none x, v, _, h => by unfold mapA; unfold MatchV at *; exact h
  | .p (some k) x, v, hm, h => by unfold mapA; unfold MatchV at *; exact fun pl hp => h pl (hm k pl (by simp [ments]) hp)
  | .own k, v, hm, h => by unfold mapA; unfold MatchV at *; exact fun pl hp => h pl (hm k pl (by simp [ments]) hp)
  | .ptr k o, v, hm, h => by unfold mapA; unfold MatchV at *; exact fun pl hp => h pl (hm k pl (by simp [ments]) hp)
  | .ep k _ _ _, v, hm, h => by unfold mapA; unfold MatchV at *; exact fun pl hp => h pl (hm k pl (by simp [ments]) hp)
  | .rp none x, v, _, h => by unfold mapA; unfold MatchV at *; exact h
  | .rp (some k) x, v, hm, h => by unfold mapA; unfold MatchV at *; exact fun pl hp => h pl (hm k pl (by simp [ments]) hp)
  | .agg cs, v, hm, h => by
    unfold mapA
    unfold MatchV at *
    obtain ⟨vs, e, h1, h2⟩ := h
    exact ⟨vs, e, h1, MatchL.map cs _ (fun k pl hk => hm k pl (by simpa [ments] using hk)) h2⟩
  | .tup cs, v, hm, h => by
    unfold mapA
    unfold MatchV at *
    obtain ⟨vs, e, h2⟩ := h
    exact ⟨vs, e, MatchL.map cs _ (fun k pl hk => hm k pl (by simpa [ments] using hk)) h2⟩
  | .fn f cs, v, hm, h => by
    unfold mapA
    unfold MatchV at *
    obtain ⟨vs, e, h2⟩ := h
    exact ⟨vs, e, MatchL.map cs _ (fun k pl hk => hm k pl (by simpa [ments] using hk)) h2⟩
  | .nil, v, _, h => by unfold mapA; unfold MatchV at *; exact h
  | .bsl k n, v, hm, h => by unfold mapA; unfold MatchV at *; exact fun pl hp => h pl (hm k pl (by simp [ments]) hp)
  | .no, v, _, _ => by unfold mapA; unfold MatchV; trivial
theorem MatchL.map {K : Nat → Prop} {φ φ' : Phi} {w : World} {g : Nat → Nat} : ∀ (xs : List AV) (vs : List Value), (∀ h pl, h ∈ mentsL xs → φ' (g h) = some pl → φ h = some pl) → MatchL K φ w xs vs → MatchL K φ' w (mapAL g xs) vs
  | [], vs, _, h => by unfold mapAL; unfold MatchL at *; exact h
  | x :: xs, vs, hm, h => by
    unfold mapAL
    unfold MatchL at *
    obtain ⟨v, vs', e, h1, h2⟩ := h
    exact ⟨v, vs', e, MatchV.map x v (fun k pl hk => hm k pl (by simp [mentsL, hk])) h1, MatchL.map xs vs' (fun k pl hk => hm k pl (by simp [mentsL, hk])) h2⟩
end
mutual
/-- Nothing in it hangs on memory that is only read. -/
def closedA : AV → Bool
  | .p none x => x.val?.isSome
  | .own _ => true
  | .nil => true
  | .agg cs => closedL cs
  | .tup cs => closedL cs
  | .no => true
  | _ => false
def closedL : List AV → Bool
  | [] => true
  | x :: xs => closedA x && closedL xs
end
mutual
theorem closed_match {K K' : Nat → Prop} {φ : Phi} {w : World} : ∀ (x : AV) (v : Value), closedA x = true → MatchV K φ w x v → MatchV K' φ w x v
  | .p none x, v, hc, h => by
    unfold closedA at hc
    unfold MatchV at *
    cases hx : x.val? with
    | none => simp [hx] at hc
    | some u => exact (RdV.scalar hx).2 ((RdV.scalar hx).1 h)
  | .p (some k) x, v, hc, h => by simp [closedA] at hc
  | .own k, v, _, h => by unfold MatchV at *; exact h
  | .ptr k o, v, hc, _ => by simp [closedA] at hc
  | .ep k _ _ _, v, hc, _ => by simp [closedA] at hc
  | .rp none x, v, hc, h => by simp [closedA] at hc
  | .rp (some k) x, v, hc, h => by simp [closedA] at hc
  | .agg cs, v, hc, h => by
    unfold closedA at hc
    unfold MatchV at *
    obtain ⟨vs, e, h1, h2⟩ := h
    exact ⟨vs, e, h1, closedL_match cs _ hc h2⟩
  | .tup cs, v, hc, h => by
    unfold closedA at hc
    unfold MatchV at *
    obtain ⟨vs, e, h2⟩ := h
    exact ⟨vs, e, closedL_match cs _ hc h2⟩
  | .fn f cs, v, hc, h => by simp [closedA] at hc
  | .nil, v, _, h => by unfold MatchV at *; exact h
  | .bsl k n, v, hc, h => by simp [closedA] at hc
  | .no, v, _, _ => by unfold MatchV; trivial
theorem closedL_match {K K' : Nat → Prop} {φ : Phi} {w : World} : ∀ (xs : List AV) (vs : List Value), closedL xs = true → MatchL K φ w xs vs → MatchL K' φ w xs vs
  | [], vs, _, h => by unfold MatchL at *; exact h
  | x :: xs, vs, hc, h => by
    unfold closedL at hc
    simp only [Bool.and_eq_true] at hc
    unfold MatchL at *
    obtain ⟨v, vs', e, h1, h2⟩ := h
    exact ⟨v, vs', e, closed_match x v hc.1 h1, closedL_match xs vs' hc.2 h2⟩
end
/-- Slices that own all their memory. -/
def deepR : Rs → Bool
  | .arr _ _ true _ => true
  | _ => false
def arrR : Rs → Bool
  | .arr _ _ _ _ => true
  | _ => false

inductive Ar where
  | one (x : Dat)
  | agg (xs : List Dat)
def ArRd (A : Nat → Prop) (w : World) : Ar → Value → Prop
  | .one x, v => RdV A w x v
  | .agg xs, v => ∃ vs : Array Value, v = .agg vs ∧ RdL A w xs vs.toList
def ArsRd (A : Nat → Prop) (w : World) : List Ar → List Value → Prop
  | [], vs => vs = []
  | x :: xs, vs => ∃ v vs', vs = v :: vs' ∧ ArRd A w x v ∧ ArsRd A w xs vs'
/-- What a call hands back: a value, and memory of its own (handles 0, 1, ..). -/
def RetOk (A : Nat → Prop) (w : World) (rv : AV) (rs : List (Nat × Rs)) (e : Ending) (w' : World) : Prop :=
  ∃ v K φ, e = .returned v ∧ Below w.heap.size w w' ∧ (∀ b, K b → b < w'.heap.size ∧ (A b ∨ w.heap.size ≤ b)) ∧ (∀ b, K b → ∀ h pl, φ h = some pl → b ∉ pl.F) ∧
    (∀ h r, findH rs h = some r → ∃ pl, φ h = some pl ∧ Holds K φ w' pl r) ∧ (∀ h, findH rs h = none → φ h = none) ∧
    (∀ h h' pl pl', h ≠ h' → φ h = some pl → φ h' = some pl' → ∀ g ∈ pl.F, g ∉ pl'.F) ∧ (∀ h pl, φ h = some pl → pl.F.Nodup) ∧ (∀ h pl, φ h = some pl → ∀ g ∈ pl.F, w.heap.size ≤ g ∧ g < w'.heap.size) ∧
    MatchV K φ w' rv v
def callable (P : Program) (f : FuncId) : Bool := match P.funcs[f]? with | some fn => !(fn.name == "runtime.NumGoroutine") && fn.body.isSome | none => false
/-- The contract of a function: for arguments that read so it hands back this. -/
def Con (P : Program) (f : FuncId) (args : List Ar) (rv : AV) (rs : List (Nat × Rs)) : Prop :=
  callable P f = true ∧ ∀ (A : Nat → Prop) (w : World) (vs : Array Value), (∀ b, A b → b < w.heap.size) → ArsRd A w args vs.toList → Calls P f vs w (RetOk A w rv rs)

/-- A slot's value as an argument's cell. -/
def AsD (S : St) : AV → Dat → Prop
  | .p o x, y => liveO S o ∧ y = x
  | .own h, y => ∃ e k d xs, S.res h = some (.arr e k d xs) ∧ y = .sl e k xs
  | .nil, y => ∃ e k, y = .sl e k []
  | _, _ => False
def AsDs (S : St) : List AV → List Dat → Prop
  | [], ys => ys = []
  | x :: xs, ys => ∃ y ys', ys = y :: ys' ∧ AsD S x y ∧ AsDs S xs ys'
def AsAr (S : St) : AV → Ar → Prop
  | .agg cs, y => ∃ ys, y = .agg ys ∧ AsDs S cs ys
  | x, y => ∃ d, y = .one d ∧ AsD S x d
def AsArs (S : St) : List AV → List Ar → Prop
  | [], ys => ys = []
  | x :: xs, ys => ∃ y ys', ys = y :: ys' ∧ AsAr S x y ∧ AsArs S xs ys'
mutual
/-- Only settled memory hangs on it. -/
def settled : AV → Bool
  | .p none _ => true
  | .nil => true
  | .agg cs => settledL cs
  | _ => false
def settledL : List AV → Bool
  | [] => true
  | x :: xs => settled x && settledL xs
end

section
variable {K : Nat → Prop} {φ : Phi} {A : Nat → Prop} {w0 : World} {N : Nat} {S : St} {a : Act} {w : World} {P : Program}
theorem rdV_nil {B : Nat → Prop} {e k : Nat} : RdV B w (.sl e k []) (.slice none 0 0) := by
  unfold RdV
  exact ⟨none, 0, rfl, Nat.le_refl _, by unfold maxLen; omega, by unfold RdRs; trivial⟩
theorem G.rdOwn (hG : G K φ A w0 N S a w) {h : Nat} {e k : Nat} {d : Bool} {xs : List (List Dat)} {v : Value} (hr : S.res h = some (.arr e k d xs)) (hm : MatchV K φ w (.own h) v) : RdV (fun b => b < w.heap.size) w (.sl e k xs) v := by
  obtain ⟨pl, css, hp, ho, hcl, hck, htop, hrow⟩ := hG.owned hr
  unfold MatchV at hm
  rw [hm pl hp]
  obtain ⟨b, c, e1, h1, h2, h3, h4⟩ := rows_cells ho hck hcl
  unfold RdV
  refine ⟨b, c, e1, h1, h2, ?_⟩
  by_cases hn : 0 < xs.length
  · obtain ⟨g, rfl, hg⟩ := h3 hn
    have hlt : g < w.heap.size := (hG.ge h pl hp g (List.mem_append_left _ (by rw [htop, hg]; simp))).2
    refine rdRs_of hlt hcl (fun i x c hx hc => ⟨(hrow i x c hx hc).1, RdL.mono (fun _ _ => rfl) (fun b hb => ?_) x c (hrow i x c hx hc).2.1⟩) fun i c hc j u hu => ?_
    · rcases hb with hb | hb
      · exact (hG.kin b hb).1
      · exact (hG.ge h pl hp b (List.mem_append_right _ hb)).2
    · obtain ⟨g', e2, _, hcell⟩ := h4 i c hc
      simp only [Option.some.injEq, Addr.mk.injEq, and_true] at e2
      subst e2
      rw [Nat.zero_add]; exact hcell j u hu
  · have : xs = [] := List.eq_nil_of_length_eq_zero (by omega)
    subst this
    unfold RdRs; trivial
theorem asD_rd (hG : G K φ A w0 N S a w) {x : AV} {y : Dat} {v : Value} (h : AsD S x y) (hm : MatchV K φ w x v) : RdV (fun b => b < w.heap.size) w y v := by
  unfold AsD at h
  split at h
  · rename_i o x'
    obtain ⟨hl, rfl⟩ := h
    cases o with
    | none => unfold MatchV at hm; exact RdV.mono (fun _ _ => rfl) (fun b hb => (hG.kin b hb).1) _ _ hm
    | some g =>
      obtain ⟨r, hr⟩ := hl
      obtain ⟨pl, hp, _⟩ := hG.dom g r hr
      unfold MatchV at hm
      exact RdV.mono (fun _ _ => rfl) (fun b hb => by rcases hb with hb | hb; exact (hG.kin b hb).1; exact (hG.ge g pl hp b (List.mem_append_right _ hb)).2) _ _ (hm pl hp)
  · obtain ⟨e, k, d, xs, hr, rfl⟩ := h
    exact hG.rdOwn hr hm
  · obtain ⟨e, k, rfl⟩ := h
    unfold MatchV at hm
    rw [hm]; exact rdV_nil
  · exact h.elim
theorem asDs_rd (hG : G K φ A w0 N S a w) : ∀ {xs : List AV} {ys : List Dat} {vs : List Value}, AsDs S xs ys → MatchL K φ w xs vs → RdL (fun b => b < w.heap.size) w ys vs
  | [], ys, vs, h, hm => by unfold MatchL at hm; rw [hm, show ys = [] from h]; exact rfl
  | x :: xs, ys, vs, ⟨y, ys', e, h1, h2⟩, hm => by
    subst e
    unfold MatchL at hm
    obtain ⟨v, vs', rfl, h3, h4⟩ := hm
    exact ⟨v, vs', rfl, asD_rd hG h1 h3, asDs_rd hG h2 h4⟩
theorem asAr_rd (hG : G K φ A w0 N S a w) {x : AV} {y : Ar} {v : Value} (h : AsAr S x y) (hm : MatchV K φ w x v) : ArRd (fun b => b < w.heap.size) w y v := by
  unfold AsAr at h
  split at h
  · obtain ⟨ys, rfl, h⟩ := h
    unfold MatchV at hm
    obtain ⟨vs, e, _, hl⟩ := hm
    exact ⟨vs, e, asDs_rd hG h hl⟩
  · obtain ⟨d, rfl, h⟩ := h
    exact asD_rd hG h hm
theorem asD_rd0 {x : AV} {y : Dat} {v : Value} (hs : settled x = true) (h : AsD S x y) (hm : MatchV K φ w x v) : RdV K w y v := by
  unfold AsD at h
  split at h
  · rename_i o x'
    cases o with
    | none => obtain ⟨_, rfl⟩ := h; unfold MatchV at hm; exact hm
    | some g => simp [settled] at hs
  · simp [settled] at hs
  · obtain ⟨e, k, rfl⟩ := h
    unfold MatchV at hm
    rw [hm]; exact rdV_nil
  · exact h.elim
theorem asDs_rd0 : ∀ {xs : List AV} {ys : List Dat} {vs : List Value}, settledL xs = true → AsDs S xs ys → MatchL K φ w xs vs → RdL K w ys vs
  | [], ys, vs, _, h, hm => by unfold MatchL at hm; rw [hm, show ys = [] from h]; exact rfl
  | x :: xs, ys, vs, hs, ⟨y, ys', e, h1, h2⟩, hm => by
    subst e
    unfold settledL at hs
    simp only [Bool.and_eq_true] at hs
    unfold MatchL at hm
    obtain ⟨v, vs', rfl, h3, h4⟩ := hm
    exact ⟨v, vs', rfl, asD_rd0 hs.1 h1 h3, asDs_rd0 hs.2 h2 h4⟩
theorem asAr_rd0 {x : AV} {y : Ar} {v : Value} (hs : settled x = true) (h : AsAr S x y) (hm : MatchV K φ w x v) : ArRd K w y v := by
  unfold AsAr at h
  split at h
  · obtain ⟨ys, rfl, h⟩ := h
    unfold MatchV at hm
    unfold settled at hs
    obtain ⟨vs, e, _, hl⟩ := hm
    exact ⟨vs, e, asDs_rd0 hs h hl⟩
  · obtain ⟨d, rfl, h⟩ := h
    exact asD_rd0 hs h hm
theorem findH_shift (hb : Nat) : ∀ (rs : List (Nat × Rs)) (h : Nat), findH (rs.map fun q => (hb + q.1, q.2)) h = if hb ≤ h then findH rs (h - hb) else none
  | [], h => by simp [findH]
  | (k, r) :: rs, h => by
    simp only [List.map_cons, findH, findH_shift hb rs h]
    by_cases h1 : hb ≤ h
    · by_cases h2 : h - hb = k
      · have : h = hb + k := by omega
        simp [h1, h2, this]
      · have : h ≠ hb + k := by omega
        simp [h1, h2, this]
    · have : h ≠ hb + k := by omega
      simp [h1, this]
theorem Holds.arrPhi {φ' : Phi} {pl : Pl} {r : Rs} (ha : arrR r = true) (h : Holds K φ w pl r) : Holds K φ' w pl r := by
  cases r with
  | box t cs => simp [arrR] at ha
  | arr e k d xs => cases d <;> exact h
theorem Holds.deepK {K' : Nat → Prop} {pl : Pl} {r : Rs} (ha : deepR r = true) (h : Holds K φ w pl r) : Holds K' φ w pl r := by
  cases r with
  | box t cs => simp [deepR] at ha
  | arr e k d xs =>
    cases d with
    | true => exact h
    | false => simp [deepR] at ha
theorem mem_of_findH : ∀ {rs : List (Nat × Rs)} {h : Nat} {r : Rs}, findH rs h = some r → (h, r) ∈ rs
  | [], _, _, e => by simp [findH] at e
  | (k, r') :: rs, h, r, e => by
    simp only [findH] at e
    split at e
    · injection e with e; subst_vars; simp
    · exact List.mem_cons_of_mem _ (mem_of_findH e)
/-- Behind the call. -/
theorem call_done (hG : G K φ A w0 N S a w) {dst : Option Nat} {A' K' : Nat → Prop} {rv : AV} {rs : List (Nat × Rs)} {hb : Nat} {w' : World} {v : Value} {Kr : Nat → Prop} {φr : Phi} (hd : ∀ d, dst = some d → d < N)
    (hbel : Below w.heap.size w w') (hkout : ∀ b, Kr b → ∀ h pl, φr h = some pl → b ∉ pl.F)
    (hdom : ∀ h r, findH rs h = some r → ∃ pl, φr h = some pl ∧ Holds Kr φr w' pl r) (hnon : ∀ h, findH rs h = none → φr h = none)
    (hdisj : ∀ h h' pl pl', h ≠ h' → φr h = some pl → φr h' = some pl' → ∀ g ∈ pl.F, g ∉ pl'.F) (hnd : ∀ h pl, φr h = some pl → pl.F.Nodup) (hge : ∀ h pl, φr h = some pl → ∀ g ∈ pl.F, w.heap.size ≤ g ∧ g < w'.heap.size)
    (hm : MatchV K' φr w' rv v) (hH : ∀ h r pl, findH rs h = some r → Holds Kr φr w' pl r → Holds K' φr w' pl r)
    (hK : ∀ b, K b → K' b) (hK' : ∀ b, K' b → K b ∨ (Kr b ∧ w.heap.size ≤ b ∧ b < w'.heap.size)) (ha : ∀ q ∈ rs, arrR q.2 = true) (hf : ∀ q ∈ rs, Fresh S (hb + q.1)) (hmt : ∀ h ∈ ments rv, ∃ r, findH rs h = some r) :
    ∃ φ', G K' φ' A w0 N (S.apply dst ⟨mapA (hb + ·) rv, [], rs.map fun q => (hb + q.1, q.2)⟩) (a.put dst v) w' ∧ Tr K φ w (· ∈ ([] : List Nat)) (findH (rs.map fun q => (hb + q.1, q.2))) K' φ' w' := by
  have hfs : ∀ h r, findH (rs.map fun q => (hb + q.1, q.2)) h = some r → hb ≤ h ∧ findH rs (h - hb) = some r := fun h r e => by
    rw [findH_shift] at e
    split at e
    · exact ⟨by assumption, e⟩
    · cases e
  have hφs : ∀ h pl, (if hb ≤ h then φr (h - hb) else none) = some pl → hb ≤ h ∧ φr (h - hb) = some pl := fun h pl e => by
    split at e
    · exact ⟨by assumption, e⟩
    · cases e
  have hfresh : ∀ h pl, (if hb ≤ h then φr (h - hb) else none) = some pl → Fresh S h := fun h pl e => by
    obtain ⟨h1, h2⟩ := hφs h pl e
    cases hc : findH rs (h - hb) with
    | none => rw [hnon _ hc] at h2; cases h2
    | some r =>
      have := hf _ (mem_of_findH hc)
      simp only at this
      rwa [show hb + (h - hb) = h by omega] at this
  have hstep := hG.step (C := (· ∈ ([] : List Nat))) (φr := fun h => if hb ≤ h then φr (h - hb) else none) (ρ := findH (rs.map fun q => (hb + q.1, q.2))) (K' := K') (w' := w')
    (Chg.of_below hbel _)
    (fun h pl e => ⟨hnd _ pl (hφs h pl e).2, fun g hg => ⟨(hge _ pl (hφs h pl e).2 g hg).2, .inl (hge _ pl (hφs h pl e).2 g hg).1⟩⟩)
    (fun h h' pl pl' hne e e' => hdisj _ _ pl pl' (fun e2 => hne (by have := (hφs h pl e).1; have := (hφs h' pl' e').1; omega)) (hφs h pl e).2 (hφs h' pl' e').2)
    (fun h r e => by
      obtain ⟨h1, h2⟩ := hfs h r e
      obtain ⟨pl, hp, hh⟩ := hdom _ r h2
      exact ⟨pl, by simp [h1, hp], Holds.arrPhi (ha _ (mem_of_findH h2)) (hH _ r pl h2 hh)⟩)
    (fun h e => by
      rw [findH_shift] at e
      split at e
      · rename_i h1; simp [h1, hnon _ e]
      · rename_i h1; simp [h1])
    hK
    (fun b hb' => by
      rcases hK' b hb' with h1 | ⟨h1, h2, h3⟩
      · exact .inl h1
      · exact .inr ⟨h3, .inl h2, fun h pl e => hkout b h1 _ pl (hφs h pl e).2⟩)
    (fun t h pl hmm e => absurd hmm ((hfresh h pl e).1 t))
    (fun h' r h pl _ hr hmm e => absurd hmm ((hfresh h pl e).2.1 h' r hr))
  refine ⟨_, hstep.put hd (MatchV.map (φ := φr) rv v (fun h pl hh e => ?_) hm), Chg.of_below hbel _, hK, fun b hb' => ?_, fun h pl e => ?_, fun h pl _ e g hg => hbel.block g (hG.ge h pl e g (List.mem_append_right _ hg)).2⟩
  · rcases stepPhi_some e with e | ⟨e1, _, e⟩
    · have := (hφs _ pl e).2
      rwa [show hb + h - hb = h by omega] at this
    · obtain ⟨r, hr⟩ := hmt h hh
      obtain ⟨pl', hp', _⟩ := hdom h r hr
      rw [if_pos (by omega), show hb + h - hb = h by omega, hp'] at e1
      cases e1
  · rcases hK' b hb' with h1 | ⟨h1, h2, h3⟩
    · exact .inl h1
    · exact .inr (.inl h2)
  · rcases stepPhi_some e with e | ⟨_, _, e⟩
    · refine .inr ⟨hG.non h (hfresh h pl e).2.2, ?_, fun g hg => .inl (hge _ pl (hφs h pl e).2 g hg).1⟩
      obtain ⟨h1, h2⟩ := hφs h pl e
      rw [findH_shift, if_pos h1]
      cases hc : findH rs (h - hb) with
      | none => rw [hnon _ hc] at h2; cases h2
      | some r => exact ⟨r, rfl⟩
    · exact .inl e
theorem asArs_rd (hG : G K φ A w0 N S a w) : ∀ {xs : List Operand} {ys : List Ar}, AsArs S (xs.map S.ev) ys → ArsRd (fun b => b < w.heap.size) w ys (xs.map a.eval)
  | [], ys, h => by rw [show ys = [] from h]; exact rfl
  | x :: xs, ys, ⟨y, ys', e, h1, h2⟩ => by subst e; exact ⟨_, _, rfl, asAr_rd hG h1 (hG.ev x), asArs_rd hG h2⟩
theorem asArs_rd0 (hG : G K φ A w0 N S a w) : ∀ {xs : List Operand} {ys : List Ar}, settledL (xs.map S.ev) = true → AsArs S (xs.map S.ev) ys → ArsRd K w ys (xs.map a.eval)
  | [], ys, _, h => by rw [show ys = [] from h]; exact rfl
  | x :: xs, ys, hs, ⟨y, ys', e, h1, h2⟩ => by
    subst e
    simp only [List.map_cons, settledL, Bool.and_eq_true] at hs
    exact ⟨_, _, rfl, asAr_rd0 hs.1 h1 (hG.ev x), asArs_rd0 hG hs.2 h2⟩
theorem run_call {o : Oper} {f : FuncId} {xs : Array Operand} {ts : Array TypeId} (ho : o.op = .call { callee := .value (.func f), args := xs, argTypes := ts }) (hc : callable P f = true) (a : Act) (w : World) : (execOp a.eval o).run P w = .ok (.enter f (xs.map a.eval)) w := by
  unfold callable at hc
  split at hc
  · rename_i fn hf
    simp only [Bool.and_eq_true, Bool.not_eq_true', beq_eq_false_iff_ne, ne_eq] at hc
    obtain ⟨c, hb⟩ := Option.isSome_iff_exists.1 hc.2
    simp [execOp, ho, resolve, Act.eval, Deferred.ofValue, invoke, callFunc, hf, hc.1, hb]
  · cases hc
theorem sound_call {o : Oper} {f : FuncId} {xs : Array Operand} {ts : Array TypeId} {ys : List Ar} {rv : AV} {rs : List (Nat × Rs)} {hb : Nat} (ho : o.op = .call { callee := .value (.func f), args := xs, argTypes := ts }) (hC : Con P f ys rv rs) (hx : AsArs S (xs.toList.map S.ev) ys)
    (hcl : (closedA rv = true ∧ ∀ q ∈ rs, deepR q.2 = true) ∨ settledL (xs.toList.map S.ev) = true) (ha : ∀ q ∈ rs, arrR q.2 = true) (hf : ∀ q ∈ rs, Fresh S (hb + q.1)) (hmt : ∀ h ∈ ments rv, ∃ r, findH rs h = some r) :
    Sound P o S ⟨mapA (hb + ·) rv, [], rs.map fun q => (hb + q.1, q.2)⟩ := by
  intro K φ A w0 N a w Q hd hG
  unfold Oper.wp
  rw [run_call ho hC.1 a w, Oper.upon_enter]
  rcases hcl with ⟨hc1, hc2⟩ | hset
  · refine (hC.2 (fun b => b < w.heap.size) w _ (fun _ h => h) (by simpa using asArs_rd hG hx)).mono ?_
    rintro e w' ⟨v, Kr, φr, rfl, h1, h2, h3, h4, h5, h6, h7, h8, h9⟩
    obtain ⟨φ', g1, g2⟩ := call_done (dst := o.dst) (A' := A) (K' := K) (hb := hb) hG hd h1 h3 h4 h5 h6 h7 h8 (closed_match rv v hc1 h9) (fun h r pl hr hh => Holds.deepK (hc2 _ (mem_of_findH hr)) hh) (fun _ h => h) (fun _ h => .inl h) ha hf hmt
    exact ⟨K, φ', v, rfl, g1, g2⟩
  · refine (hC.2 K w _ (fun b hb => (hG.kin b hb).1) (by simpa using asArs_rd0 hG hset hx)).mono ?_
    rintro e w' ⟨v, Kr, φr, rfl, h1, h2, h3, h4, h5, h6, h7, h8, h9⟩
    have hKr : ∀ b, Kr b → K b ∨ (Kr b ∧ w.heap.size ≤ b ∧ b < w'.heap.size) := fun b hb => by
      rcases (h2 b hb).2 with h | h
      · exact .inl h
      · exact .inr ⟨hb, h, (h2 b hb).1⟩
    obtain ⟨φ', g1, g2⟩ := call_done (dst := o.dst) (A' := A) (K' := fun b => K b ∨ (Kr b ∧ w.heap.size ≤ b ∧ b < w'.heap.size)) (hb := hb) hG hd h1 h3 h4 h5 h6 h7 h8
      (MatchV.mono (K := Kr) (φ := φr) (fun _ _ => rfl) hKr rv v (fun h pl _ e => ⟨e, fun _ _ => rfl⟩) h9)
      (fun h r pl hr hh => Holds.mono (K := Kr) (φ := φr) (fun _ _ => rfl) hKr (fun _ _ => rfl) r (fun h pl _ e => ⟨e, fun _ _ => rfl⟩) hh) (fun _ h => .inl h) (fun _ h => h) ha hf hmt
    exact ⟨_, φ', v, rfl, g1, g2⟩
end
end Go.Proofs.Ytcgjlddpbkponaa
