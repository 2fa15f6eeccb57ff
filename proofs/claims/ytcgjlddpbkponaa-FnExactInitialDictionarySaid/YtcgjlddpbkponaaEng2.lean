/-
  Merged: Ek El Em En Eo Ep Eq Er Es
-/
import Derived.Test.YtcgjlddpbkponaaEng1
import Derived.IntWalk
import Derived.Laws.StructEq
import Derived.Orders
namespace Go.Proofs.Ytcgjlddpbkponaa
open Go.ChangeShapes Go.WideShapes Go.ChangeAt Go.RowKit
set_option linter.unusedVariables false
set_option linter.unusedSimpArgs false

/- Calls by contract. -/

mutual
def mapA (g : Nat → Nat) : AV → AV
  | .p (some h) x => .p (some (g h)) x
  | .p none x => .p none x
  | .own h => .own (g h)
  | .ptr h o => .ptr (g h) o
  | .ep h k i o => .ep (g h) k i o
  | .rp (some h) x => .rp (some (g h)) x
  | .rp none x => .rp none x
  | .agg cs => .agg (mapAL g cs)
  | .tup cs => .tup (mapAL g cs)
  | .fn f cs => .fn f (mapAL g cs)
  | .nil => .nil
  | .bsl h n => .bsl (g h) n
  | .no => .no
def mapAL (g : Nat → Nat) : List AV → List AV
  | [] => []
  | x :: xs => mapA g x :: mapAL g xs
end
mutual
theorem MatchV.map {K : Nat → Prop} {φ φ' : Phi} {w : World} {g : Nat → Nat} : ∀ (x : AV) (v : Value), (∀ h pl, h ∈ ments x → φ' (g h) = some pl → φ h = some pl) → MatchV K φ w x v → MatchV K φ' w (mapA g x) v
  | .p none x, v, _, h => by unfold mapA; unfold MatchV at *; exact h
  | .p (some k) x, v, hm, h => by unfold mapA; unfold MatchV at *; exact fun pl hp => h pl (hm k pl (by simp [ments]) hp)
  | .own k, v, hm, h => by unfold mapA; unfold MatchV at *; exact fun pl hp => h pl (hm k pl (by simp [ments]) hp)
  | .ptr k o, v, hm, h => by unfold mapA; unfold MatchV at *; obtain ⟨g', e, q⟩ := h; exact ⟨g', e, fun pl hp => q pl (hm k pl (by simp [ments]) hp)⟩
  | .ep k _ _ _, v, hm, h => by unfold mapA; unfold MatchV at *; exact fun pl hp => h pl (hm k pl (by simp [ments]) hp)
  | .rp none x, v, _, h => by unfold mapA; unfold MatchV at *; exact h
  | .rp (some k) x, v, hm, h => by unfold mapA; unfold MatchV at *; exact fun pl hp => h pl (hm k pl (by simp [ments]) hp)
  | .agg cs, v, hm, h => by
    unfold mapA
    unfold MatchV at *
    obtain ⟨vs, e, h1, h2⟩ := h
    exact ⟨vs, e, h1, MatchL.map cs _ (fun k pl hk => hm k pl (by simpa [ments] using hk)) h2⟩
  | .tup cs, v, hm, h => by
    unfold mapA
    unfold MatchV at *
    obtain ⟨vs, e, h2⟩ := h
    exact ⟨vs, e, MatchL.map cs _ (fun k pl hk => hm k pl (by simpa [ments] using hk)) h2⟩
  | .fn f cs, v, hm, h => by
    unfold mapA
    unfold MatchV at *
    obtain ⟨vs, e, h2⟩ := h
    exact ⟨vs, e, MatchL.map cs _ (fun k pl hk => hm k pl (by simpa [ments] using hk)) h2⟩
  | .nil, v, _, h => by unfold mapA; unfold MatchV at *; exact h
  | .bsl k n, v, hm, h => by unfold mapA; unfold MatchV at *; exact fun pl hp => h pl (hm k pl (by simp [ments]) hp)
  | .no, v, _, _ => by unfold mapA; unfold MatchV; trivial
theorem MatchL.map {K : Nat → Prop} {φ φ' : Phi} {w : World} {g : Nat → Nat} : ∀ (xs : List AV) (vs : List Value), (∀ h pl, h ∈ mentsL xs → φ' (g h) = some pl → φ h = some pl) → MatchL K φ w xs vs → MatchL K φ' w (mapAL g xs) vs
  | [], vs, _, h => by unfold mapAL; unfold MatchL at *; exact h
  | x :: xs, vs, hm, h => by
    unfold mapAL
    unfold MatchL at *
    obtain ⟨v, vs', e, h1, h2⟩ := h
    exact ⟨v, vs', e, MatchV.map x v (fun k pl hk => hm k pl (by simp [mentsL, hk])) h1, MatchL.map xs vs' (fun k pl hk => hm k pl (by simp [mentsL, hk])) h2⟩
end
mutual
/-- Nothing in it hangs on memory that is only read. -/
def closedA : AV → Bool
  | .p none x => x.val?.isSome
  | .own _ => true
  | .nil => true
  | .agg cs => closedL cs
  | .tup cs => closedL cs
  | .no => true
  | _ => false
def closedL : List AV → Bool
  | [] => true
  | x :: xs => closedA x && closedL xs
end
mutual
theorem closed_match {K K' : Nat → Prop} {φ : Phi} {w : World} : ∀ (x : AV) (v : Value), closedA x = true → MatchV K φ w x v → MatchV K' φ w x v
  | .p none x, v, hc, h => by
    unfold closedA at hc
    unfold MatchV at *
    cases hx : x.val? with
    | none => simp [hx] at hc
    | some u => exact (RdV.scalar hx).2 ((RdV.scalar hx).1 h)
  | .p (some k) x, v, hc, h => by simp [closedA] at hc
  | .own k, v, _, h => by unfold MatchV at *; exact h
  | .ptr k o, v, hc, _ => by simp [closedA] at hc
  | .ep k _ _ _, v, hc, _ => by simp [closedA] at hc
  | .rp none x, v, hc, h => by simp [closedA] at hc
  | .rp (some k) x, v, hc, h => by simp [closedA] at hc
  | .agg cs, v, hc, h => by
    unfold closedA at hc
    unfold MatchV at *
    obtain ⟨vs, e, h1, h2⟩ := h
    exact ⟨vs, e, h1, closedL_match cs _ hc h2⟩
  | .tup cs, v, hc, h => by
    unfold closedA at hc
    unfold MatchV at *
    obtain ⟨vs, e, h2⟩ := h
    exact ⟨vs, e, closedL_match cs _ hc h2⟩
  | .fn f cs, v, hc, h => by simp [closedA] at hc
  | .nil, v, _, h => by unfold MatchV at *; exact h
  | .bsl k n, v, hc, h => by simp [closedA] at hc
  | .no, v, _, _ => by unfold MatchV; trivial
theorem closedL_match {K K' : Nat → Prop} {φ : Phi} {w : World} : ∀ (xs : List AV) (vs : List Value), closedL xs = true → MatchL K φ w xs vs → MatchL K' φ w xs vs
  | [], vs, _, h => by unfold MatchL at *; exact h
  | x :: xs, vs, hc, h => by
    unfold closedL at hc
    simp only [Bool.and_eq_true] at hc
    unfold MatchL at *
    obtain ⟨v, vs', e, h1, h2⟩ := h
    exact ⟨v, vs', e, closed_match x v hc.1 h1, closedL_match xs vs' hc.2 h2⟩
end
/-- Slices that own all their memory. -/
def deepR : Rs → Bool
  | .arr _ _ true _ => true
  | _ => false
def arrR : Rs → Bool
  | .arr _ _ _ _ => true
  | _ => false

inductive Ar where
  | one (x : Dat)
  | agg (xs : List Dat)
def ArRd (A : Nat → Prop) (w : World) : Ar → Value → Prop
  | .one x, v => RdV A w x v
  | .agg xs, v => ∃ vs : Array Value, v = .agg vs ∧ RdL A w xs vs.toList
def ArsRd (A : Nat → Prop) (w : World) : List Ar → List Value → Prop
  | [], vs => vs = []
  | x :: xs, vs => ∃ v vs', vs = v :: vs' ∧ ArRd A w x v ∧ ArsRd A w xs vs'
/-- What a call hands back: a value, and memory of its own (handles 0, 1, ..). -/
def RetOk (A : Nat → Prop) (w : World) (rv : AV) (rs : List (Nat × Rs)) (e : Ending) (w' : World) : Prop :=
  ∃ v K φ, e = .returned v ∧ Below w.heap.size w w' ∧ (∀ b, K b → b < w'.heap.size ∧ (A b ∨ w.heap.size ≤ b)) ∧ (∀ b, K b → ∀ h pl, φ h = some pl → b ∉ pl.F) ∧
    (∀ h r, findH rs h = some r → ∃ pl, φ h = some pl ∧ Holds K φ w' pl r) ∧ (∀ h, findH rs h = none → φ h = none) ∧
    (∀ h h' pl pl', h ≠ h' → φ h = some pl → φ h' = some pl' → ∀ g ∈ pl.F, g ∉ pl'.F) ∧ (∀ h pl, φ h = some pl → pl.F.Nodup) ∧ (∀ h pl, φ h = some pl → ∀ g ∈ pl.F, w.heap.size ≤ g ∧ g < w'.heap.size) ∧
    MatchV K φ w' rv v
def callable (P : Program) (f : FuncId) : Bool := match P.funcs[f]? with | some fn => !(fn.name == "runtime.NumGoroutine") && fn.body.isSome | none => false
/-- The contract of a function: for arguments that read so it hands back this. -/
def Con (P : Program) (f : FuncId) (args : List Ar) (rv : AV) (rs : List (Nat × Rs)) : Prop :=
  callable P f = true ∧ ∀ (A : Nat → Prop) (w : World) (vs : Array Value), (∀ b, A b → b < w.heap.size) → ArsRd A w args vs.toList → Calls P f vs w (RetOk A w rv rs)

/-- A slot's value as an argument's cell. -/
def AsD (S : St) : AV → Dat → Prop
  | .p o x, y => liveO S o ∧ y = x
  | .own h, y => ∃ e k d xs, S.res h = some (.arr e k d xs) ∧ y = .sl e k xs
  | .nil, y => ∃ e k, y = .sl e k []
  | _, _ => False
def AsDs (S : St) : List AV → List Dat → Prop
  | [], ys => ys = []
  | x :: xs, ys => ∃ y ys', ys = y :: ys' ∧ AsD S x y ∧ AsDs S xs ys'
def AsAr (S : St) : AV → Ar → Prop
  | .agg cs, y => ∃ ys, y = .agg ys ∧ AsDs S cs ys
  | x, y => ∃ d, y = .one d ∧ AsD S x d
def AsArs (S : St) : List AV → List Ar → Prop
  | [], ys => ys = []
  | x :: xs, ys => ∃ y ys', ys = y :: ys' ∧ AsAr S x y ∧ AsArs S xs ys'
mutual
/-- Only settled memory hangs on it. -/
def settled : AV → Bool
  | .p none _ => true
  | .nil => true
  | .agg cs => settledL cs
  | _ => false
def settledL : List AV → Bool
  | [] => true
  | x :: xs => settled x && settledL xs
end

section
variable {K : Nat → Prop} {φ : Phi} {A : Nat → Prop} {w0 : Org} {N : Nat} {S : St} {a : Act} {w : World} {P : Program}
theorem rdV_nil {B : Nat → Prop} {e k : Nat} : RdV B w (.sl e k []) (.slice none 0 0) := by
  unfold RdV
  exact ⟨none, 0, rfl, Nat.le_refl _, by unfold maxLen; omega, by unfold RdRs; trivial⟩
theorem G.rdOwn (hG : G K φ A w0 N S a w) {h : Nat} {e k : Nat} {d : Bool} {xs : List (List Dat)} {v : Value} (hr : S.res h = some (.arr e k d xs)) (hm : MatchV K φ w (.own h) v) : RdV (fun b => b < w.heap.size) w (.sl e k xs) v := by
  obtain ⟨pl, css, hp, ho, hcl, hck, htop, hrow⟩ := hG.owned hr
  unfold MatchV at hm
  rw [hm pl hp]
  obtain ⟨b, c, e1, h1, h2, h3, h4⟩ := rows_cells ho hck hcl
  unfold RdV
  refine ⟨b, c, e1, h1, h2, ?_⟩
  by_cases hn : 0 < xs.length
  · obtain ⟨g, rfl, hg⟩ := h3 hn
    have hlt : g < w.heap.size := (hG.ge h pl hp g (List.mem_append_left _ (by rw [htop, hg]; simp))).2
    refine rdRs_of hlt hcl (fun i x c hx hc => ⟨(hrow i x c hx hc).1, RdL.mono (fun _ _ => rfl) (fun b hb => ?_) x c (hrow i x c hx hc).2.1⟩) fun i c hc j u hu => ?_
    · rcases hb with hb | hb
      · exact (hG.kin b hb).1
      · exact (hG.ge h pl hp b (List.mem_append_right _ hb)).2
    · obtain ⟨g', e2, _, hcell⟩ := h4 i c hc
      simp only [Option.some.injEq, Addr.mk.injEq, and_true] at e2
      subst e2
      rw [Nat.zero_add]; exact hcell j u hu
  · have : xs = [] := List.eq_nil_of_length_eq_zero (by omega)
    subst this
    unfold RdRs; trivial
theorem asD_rd (hG : G K φ A w0 N S a w) {x : AV} {y : Dat} {v : Value} (h : AsD S x y) (hm : MatchV K φ w x v) : RdV (fun b => b < w.heap.size) w y v := by
  unfold AsD at h
  split at h
  · rename_i o x'
    obtain ⟨hl, rfl⟩ := h
    cases o with
    | none => unfold MatchV at hm; exact RdV.mono (fun _ _ => rfl) (fun b hb => (hG.kin b hb).1) _ _ hm
    | some g =>
      obtain ⟨r, hr⟩ := hl
      obtain ⟨pl, hp, _⟩ := hG.dom g r hr
      unfold MatchV at hm
      exact RdV.mono (fun _ _ => rfl) (fun b hb => by rcases hb with hb | hb; exact (hG.kin b hb).1; exact (hG.ge g pl hp b (List.mem_append_right _ hb)).2) _ _ (hm pl hp)
  · obtain ⟨e, k, d, xs, hr, rfl⟩ := h
    exact hG.rdOwn hr hm
  · obtain ⟨e, k, rfl⟩ := h
    unfold MatchV at hm
    rw [hm]; exact rdV_nil
  · exact h.elim
theorem asDs_rd (hG : G K φ A w0 N S a w) : ∀ {xs : List AV} {ys : List Dat} {vs : List Value}, AsDs S xs ys → MatchL K φ w xs vs → RdL (fun b => b < w.heap.size) w ys vs
  | [], ys, vs, h, hm => by unfold MatchL at hm; rw [hm, show ys = [] from h]; exact rfl
  | x :: xs, ys, vs, ⟨y, ys', e, h1, h2⟩, hm => by
    subst e
    unfold MatchL at hm
    obtain ⟨v, vs', rfl, h3, h4⟩ := hm
    exact ⟨v, vs', rfl, asD_rd hG h1 h3, asDs_rd hG h2 h4⟩
theorem asAr_rd (hG : G K φ A w0 N S a w) {x : AV} {y : Ar} {v : Value} (h : AsAr S x y) (hm : MatchV K φ w x v) : ArRd (fun b => b < w.heap.size) w y v := by
  unfold AsAr at h
  split at h
  · obtain ⟨ys, rfl, h⟩ := h
    unfold MatchV at hm
    obtain ⟨vs, e, _, hl⟩ := hm
    exact ⟨vs, e, asDs_rd hG h hl⟩
  · obtain ⟨d, rfl, h⟩ := h
    exact asD_rd hG h hm
theorem asD_rd0 {x : AV} {y : Dat} {v : Value} (hs : settled x = true) (h : AsD S x y) (hm : MatchV K φ w x v) : RdV K w y v := by
  unfold AsD at h
  split at h
  · rename_i o x'
    cases o with
    | none => obtain ⟨_, rfl⟩ := h; unfold MatchV at hm; exact hm
    | some g => simp [settled] at hs
  · simp [settled] at hs
  · obtain ⟨e, k, rfl⟩ := h
    unfold MatchV at hm
    rw [hm]; exact rdV_nil
  · exact h.elim
theorem asDs_rd0 : ∀ {xs : List AV} {ys : List Dat} {vs : List Value}, settledL xs = true → AsDs S xs ys → MatchL K φ w xs vs → RdL K w ys vs
  | [], ys, vs, _, h, hm => by unfold MatchL at hm; rw [hm, show ys = [] from h]; exact rfl
  | x :: xs, ys, vs, hs, ⟨y, ys', e, h1, h2⟩, hm => by
    subst e
    unfold settledL at hs
    simp only [Bool.and_eq_true] at hs
    unfold MatchL at hm
    obtain ⟨v, vs', rfl, h3, h4⟩ := hm
    exact ⟨v, vs', rfl, asD_rd0 hs.1 h1 h3, asDs_rd0 hs.2 h2 h4⟩
theorem asAr_rd0 {x : AV} {y : Ar} {v : Value} (hs : settled x = true) (h : AsAr S x y) (hm : MatchV K φ w x v) : ArRd K w y v := by
  unfold AsAr at h
  split at h
  · obtain ⟨ys, rfl, h⟩ := h
    unfold MatchV at hm
    unfold settled at hs
    obtain ⟨vs, e, _, hl⟩ := hm
    exact ⟨vs, e, asDs_rd0 hs h hl⟩
  · obtain ⟨d, rfl, h⟩ := h
    exact asD_rd0 hs h hm
theorem findH_shift (hb : Nat) : ∀ (rs : List (Nat × Rs)) (h : Nat), findH (rs.map fun q => (hb + q.1, q.2)) h = if hb ≤ h then findH rs (h - hb) else none
  | [], h => by simp [findH]
  | (k, r) :: rs, h => by
    simp only [List.map_cons, findH, findH_shift hb rs h]
    by_cases h1 : hb ≤ h
    · by_cases h2 : h - hb = k
      · have : h = hb + k := by omega
        simp [h1, h2, this]
      · have : h ≠ hb + k := by omega
        simp [h1, h2, this]
    · have : h ≠ hb + k := by omega
      simp [h1, this]
theorem Holds.arrPhi {φ' : Phi} {pl : Pl} {r : Rs} (ha : arrR r = true) (h : Holds K φ w pl r) : Holds K φ' w pl r := by
  cases r with
  | box t cs => simp [arrR] at ha
  | arr e k d xs => cases d <;> exact h
theorem Holds.deepK {K' : Nat → Prop} {pl : Pl} {r : Rs} (ha : deepR r = true) (h : Holds K φ w pl r) : Holds K' φ w pl r := by
  cases r with
  | box t cs => simp [deepR] at ha
  | arr e k d xs =>
    cases d with
    | true => exact h
    | false => simp [deepR] at ha
theorem mem_of_findH : ∀ {rs : List (Nat × Rs)} {h : Nat} {r : Rs}, findH rs h = some r → (h, r) ∈ rs
  | [], _, _, e => by simp [findH] at e
  | (k, r') :: rs, h, r, e => by
    simp only [findH] at e
    split at e
    · injection e with e; subst_vars; simp
    · exact List.mem_cons_of_mem _ (mem_of_findH e)
/-- Behind the call. -/
theorem call_done (hG : G K φ A w0 N S a w) {dst : Option Nat} {A' K' : Nat → Prop} {rv : AV} {rs : List (Nat × Rs)} {hb : Nat} {w' : World} {v : Value} {Kr : Nat → Prop} {φr : Phi} (hd : ∀ d, dst = some d → d < N)
    (hbel : Below w.heap.size w w') (hkout : ∀ b, Kr b → ∀ h pl, φr h = some pl → b ∉ pl.F)
    (hdom : ∀ h r, findH rs h = some r → ∃ pl, φr h = some pl ∧ Holds Kr φr w' pl r) (hnon : ∀ h, findH rs h = none → φr h = none)
    (hdisj : ∀ h h' pl pl', h ≠ h' → φr h = some pl → φr h' = some pl' → ∀ g ∈ pl.F, g ∉ pl'.F) (hnd : ∀ h pl, φr h = some pl → pl.F.Nodup) (hge : ∀ h pl, φr h = some pl → ∀ g ∈ pl.F, w.heap.size ≤ g ∧ g < w'.heap.size)
    (hm : MatchV K' φr w' rv v) (hH : ∀ h r pl, findH rs h = some r → Holds Kr φr w' pl r → Holds K' φr w' pl r)
    (hK : ∀ b, K b → K' b) (hK' : ∀ b, K' b → K b ∨ (Kr b ∧ w.heap.size ≤ b ∧ b < w'.heap.size)) (ha : ∀ q ∈ rs, arrR q.2 = true) (hf : ∀ q ∈ rs, Fresh S (hb + q.1)) (hmt : ∀ h ∈ ments rv, ∃ r, findH rs h = some r) :
    ∃ φ', G K' φ' A w0 N (S.apply dst ⟨mapA (hb + ·) rv, [], rs.map fun q => (hb + q.1, q.2)⟩) (a.put dst v) w' ∧ Tr K φ w (· ∈ ([] : List Nat)) (findH (rs.map fun q => (hb + q.1, q.2))) K' φ' w' := by
  have hfs : ∀ h r, findH (rs.map fun q => (hb + q.1, q.2)) h = some r → hb ≤ h ∧ findH rs (h - hb) = some r := fun h r e => by
    rw [findH_shift] at e
    split at e
    · exact ⟨by assumption, e⟩
    · cases e
  have hφs : ∀ h pl, (if hb ≤ h then φr (h - hb) else none) = some pl → hb ≤ h ∧ φr (h - hb) = some pl := fun h pl e => by
    split at e
    · exact ⟨by assumption, e⟩
    · cases e
  have hfresh : ∀ h pl, (if hb ≤ h then φr (h - hb) else none) = some pl → Fresh S h := fun h pl e => by
    obtain ⟨h1, h2⟩ := hφs h pl e
    cases hc : findH rs (h - hb) with
    | none => rw [hnon _ hc] at h2; cases h2
    | some r =>
      have := hf _ (mem_of_findH hc)
      simp only at this
      rwa [show hb + (h - hb) = h by omega] at this
  have hstep := hG.step (C := (· ∈ ([] : List Nat))) (φr := fun h => if hb ≤ h then φr (h - hb) else none) (ρ := findH (rs.map fun q => (hb + q.1, q.2))) (K' := K') (w' := w')
    (Chg.of_below hbel _)
    (fun h pl e => ⟨hnd _ pl (hφs h pl e).2, fun g hg => ⟨(hge _ pl (hφs h pl e).2 g hg).2, .inl (hge _ pl (hφs h pl e).2 g hg).1⟩⟩)
    (fun h h' pl pl' hne e e' => hdisj _ _ pl pl' (fun e2 => hne (by have := (hφs h pl e).1; have := (hφs h' pl' e').1; omega)) (hφs h pl e).2 (hφs h' pl' e').2)
    (fun h r e => by
      obtain ⟨h1, h2⟩ := hfs h r e
      obtain ⟨pl, hp, hh⟩ := hdom _ r h2
      exact ⟨pl, by simp [h1, hp], Holds.arrPhi (ha _ (mem_of_findH h2)) (hH _ r pl h2 hh)⟩)
    (fun h e => by
      rw [findH_shift] at e
      split at e
      · rename_i h1; simp [h1, hnon _ e]
      · rename_i h1; simp [h1])
    hK
    (fun b hb' => by
      rcases hK' b hb' with h1 | ⟨h1, h2, h3⟩
      · exact .inl h1
      · exact .inr ⟨h3, .inl h2, fun h pl e => hkout b h1 _ pl (hφs h pl e).2⟩)
    (fun t h pl hmm e => absurd hmm ((hfresh h pl e).1 t))
    (fun h' r h pl _ hr hmm e => absurd hmm ((hfresh h pl e).2.1 h' r hr))
  have hstep := hstep (fun h pl e => .inr (hfresh h pl e).2.2.2)
  refine ⟨_, hstep.put hd (MatchV.map (φ := φr) rv v (fun h pl hh e => ?_) hm), Chg.of_below hbel _, hK, fun b hb' => ?_, fun h pl e => ?_, fun h pl _ e g hg => hbel.block g (hG.ge h pl e g (List.mem_append_right _ hg)).2⟩
  · rcases stepPhi_some e with e | ⟨e1, _, e⟩
    · have := (hφs _ pl e).2
      rwa [show hb + h - hb = h by omega] at this
    · obtain ⟨r, hr⟩ := hmt h hh
      obtain ⟨pl', hp', _⟩ := hdom h r hr
      rw [if_pos (by omega), show hb + h - hb = h by omega, hp'] at e1
      cases e1
  · rcases hK' b hb' with h1 | ⟨h1, h2, h3⟩
    · exact .inl h1
    · exact .inr (.inl h2)
  · rcases stepPhi_some e with e | ⟨_, _, e⟩
    · refine .inr ⟨hG.non h (hfresh h pl e).2.2.1, ?_, fun g hg => .inl (hge _ pl (hφs h pl e).2 g hg).1⟩
      obtain ⟨h1, h2⟩ := hφs h pl e
      rw [findH_shift, if_pos h1]
      cases hc : findH rs (h - hb) with
      | none => rw [hnon _ hc] at h2; cases h2
      | some r => exact ⟨r, rfl⟩
    · exact .inl e
theorem asArs_rd (hG : G K φ A w0 N S a w) : ∀ {xs : List Operand} {ys : List Ar}, AsArs S (xs.map S.ev) ys → ArsRd (fun b => b < w.heap.size) w ys (xs.map a.eval)
  | [], ys, h => by rw [show ys = [] from h]; exact rfl
  | x :: xs, ys, ⟨y, ys', e, h1, h2⟩ => by subst e; exact ⟨_, _, rfl, asAr_rd hG h1 (hG.ev x), asArs_rd hG h2⟩
theorem asArs_rd0 (hG : G K φ A w0 N S a w) : ∀ {xs : List Operand} {ys : List Ar}, settledL (xs.map S.ev) = true → AsArs S (xs.map S.ev) ys → ArsRd K w ys (xs.map a.eval)
  | [], ys, _, h => by rw [show ys = [] from h]; exact rfl
  | x :: xs, ys, hs, ⟨y, ys', e, h1, h2⟩ => by
    subst e
    simp only [List.map_cons, settledL, Bool.and_eq_true] at hs
    exact ⟨_, _, rfl, asAr_rd0 hs.1 h1 (hG.ev x), asArs_rd0 hG hs.2 h2⟩
theorem run_call {o : Oper} {f : FuncId} {xs : Array Operand} {ts : Array TypeId} (ho : o.op = .call { callee := .value (.func f), args := xs, argTypes := ts }) (hc : callable P f = true) (a : Act) (w : World) : (execOp a.eval o).run P w = .ok (.enter f (xs.map a.eval)) w := by
  unfold callable at hc
  split at hc
  · rename_i fn hf
    simp only [Bool.and_eq_true, Bool.not_eq_true', beq_eq_false_iff_ne, ne_eq] at hc
    obtain ⟨c, hb⟩ := Option.isSome_iff_exists.1 hc.2
    simp [execOp, ho, resolve, Act.eval, Deferred.ofValue, invoke, callFunc, hf, hc.1, hb]
  · cases hc
theorem sound_call {o : Oper} {f : FuncId} {xs : Array Operand} {ts : Array TypeId} {ys : List Ar} {rv : AV} {rs : List (Nat × Rs)} {hb : Nat} (ho : o.op = .call { callee := .value (.func f), args := xs, argTypes := ts }) (hC : Con P f ys rv rs) (hx : AsArs S (xs.toList.map S.ev) ys)
    (hcl : (closedA rv = true ∧ ∀ q ∈ rs, deepR q.2 = true) ∨ settledL (xs.toList.map S.ev) = true) (ha : ∀ q ∈ rs, arrR q.2 = true) (hf : ∀ q ∈ rs, Fresh S (hb + q.1)) (hmt : ∀ h ∈ ments rv, ∃ r, findH rs h = some r) :
    Sound P o S ⟨mapA (hb + ·) rv, [], rs.map fun q => (hb + q.1, q.2)⟩ := by
  intro K φ A w0 N a w Q hd hG
  unfold Oper.wp
  rw [run_call ho hC.1 a w, Oper.upon_enter]
  rcases hcl with ⟨hc1, hc2⟩ | hset
  · refine (hC.2 (fun b => b < w.heap.size) w _ (fun _ h => h) (by simpa using asArs_rd hG hx)).mono ?_
    rintro e w' ⟨v, Kr, φr, rfl, h1, h2, h3, h4, h5, h6, h7, h8, h9⟩
    obtain ⟨φ', g1, g2⟩ := call_done (dst := o.dst) (A' := A) (K' := K) (hb := hb) hG hd h1 h3 h4 h5 h6 h7 h8 (closed_match rv v hc1 h9) (fun h r pl hr hh => Holds.deepK (hc2 _ (mem_of_findH hr)) hh) (fun _ h => h) (fun _ h => .inl h) ha hf hmt
    exact ⟨K, φ', v, rfl, g1, g2⟩
  · refine (hC.2 K w _ (fun b hb => (hG.kin b hb).1) (by simpa using asArs_rd0 hG hset hx)).mono ?_
    rintro e w' ⟨v, Kr, φr, rfl, h1, h2, h3, h4, h5, h6, h7, h8, h9⟩
    have hKr : ∀ b, Kr b → K b ∨ (Kr b ∧ w.heap.size ≤ b ∧ b < w'.heap.size) := fun b hb => by
      rcases (h2 b hb).2 with h | h
      · exact .inl h
      · exact .inr ⟨hb, h, (h2 b hb).1⟩
    obtain ⟨φ', g1, g2⟩ := call_done (dst := o.dst) (A' := A) (K' := fun b => K b ∨ (Kr b ∧ w.heap.size ≤ b ∧ b < w'.heap.size)) (hb := hb) hG hd h1 h3 h4 h5 h6 h7 h8
      (MatchV.mono (K := Kr) (φ := φr) (fun _ _ => rfl) hKr rv v (fun h pl _ e => ⟨e, fun _ _ => rfl⟩) h9)
      (fun h r pl hr hh => Holds.mono (K := Kr) (φ := φr) (fun _ _ => rfl) hKr (fun _ _ => rfl) r (fun h pl _ e => ⟨e, fun _ _ => rfl⟩) hh) (fun _ h => .inl h) (fun _ h => h) ha hf hmt
    exact ⟨_, φ', v, rfl, g1, g2⟩
end

/- Code over symbolic states: sequences, conditions, blocks, loops, regions in the text's order; weakening and renaming; the contract of a function. -/

mutual
theorem MatchV.unmap {K : Nat → Prop} {φ φ' : Phi} {w : World} {g : Nat → Nat} : ∀ (x : AV) (v : Value), (∀ h pl, h ∈ ments x → φ' h = some pl → φ (g h) = some pl) → MatchV K φ w (mapA g x) v → MatchV K φ' w x v
  | .p none x, v, _, h => by unfold mapA at h; unfold MatchV at *; exact h
  | .p (some k) x, v, hm, h => by unfold mapA at h; unfold MatchV at *; exact fun pl hp => h pl (hm k pl (by simp [ments]) hp)
  | .own k, v, hm, h => by unfold mapA at h; unfold MatchV at *; exact fun pl hp => h pl (hm k pl (by simp [ments]) hp)
  | .ptr k o, v, hm, h => by unfold mapA at h; unfold MatchV at *; obtain ⟨g', e, q⟩ := h; exact ⟨g', e, fun pl hp => q pl (hm k pl (by simp [ments]) hp)⟩
  | .ep k _ _ _, v, hm, h => by unfold mapA at h; unfold MatchV at *; exact fun pl hp => h pl (hm k pl (by simp [ments]) hp)
  | .rp none x, v, _, h => by unfold mapA at h; unfold MatchV at *; exact h
  | .rp (some k) x, v, hm, h => by unfold mapA at h; unfold MatchV at *; exact fun pl hp => h pl (hm k pl (by simp [ments]) hp)
  | .agg cs, v, hm, h => by
    unfold mapA at h
    unfold MatchV at *
    obtain ⟨vs, e, h1, h2⟩ := h
    exact ⟨vs, e, h1, MatchL.unmap cs _ (fun k pl hk => hm k pl (by simpa [ments] using hk)) h2⟩
  | .tup cs, v, hm, h => by
    unfold mapA at h
    unfold MatchV at *
    obtain ⟨vs, e, h2⟩ := h
    exact ⟨vs, e, MatchL.unmap cs _ (fun k pl hk => hm k pl (by simpa [ments] using hk)) h2⟩
  | .fn f cs, v, hm, h => by
    unfold mapA at h
    unfold MatchV at *
    obtain ⟨vs, e, h2⟩ := h
    exact ⟨vs, e, MatchL.unmap cs _ (fun k pl hk => hm k pl (by simpa [ments] using hk)) h2⟩
  | .nil, v, _, h => by unfold mapA at h; unfold MatchV at *; exact h
  | .bsl k n, v, hm, h => by unfold mapA at h; unfold MatchV at *; exact fun pl hp => h pl (hm k pl (by simp [ments]) hp)
  | .no, v, _, _ => by unfold MatchV; trivial
theorem MatchL.unmap {K : Nat → Prop} {φ φ' : Phi} {w : World} {g : Nat → Nat} : ∀ (xs : List AV) (vs : List Value), (∀ h pl, h ∈ mentsL xs → φ' h = some pl → φ (g h) = some pl) → MatchL K φ w (mapAL g xs) vs → MatchL K φ' w xs vs
  | [], vs, _, h => by unfold mapAL at h; unfold MatchL at *; exact h
  | x :: xs, vs, hm, h => by
    unfold mapAL at h
    unfold MatchL at *
    obtain ⟨v, vs', e, h1, h2⟩ := h
    exact ⟨v, vs', e, MatchV.unmap x v (fun k pl hk => hm k pl (by simp [mentsL, hk])) h1, MatchL.unmap xs vs' (fun k pl hk => hm k pl (by simp [mentsL, hk])) h2⟩
end
def mapR (g : Nat → Nat) : Rs → Rs
  | .box t cs => .box t (mapAL g cs)
  | .arr e k d xs => .arr e k d xs
def Gam (A : Nat → Prop) (w0 : Org) (N : Nat) (S : St) (a : Act) (w : World) : Prop := ∃ K φ, G K φ A w0 N S a w
/-- S' says no more than S; g: the handles of S' as S names them. -/
structure Le (g : Nat → Nat) (S S' : St) : Prop where
  slots : ∀ t, S'.slots t = .no ∨ S.slots t = mapA g (S'.slots t)
  res : ∀ h r, S'.res h = some r → S.res (g h) = some (mapR g r)
  inj : ∀ h h' r r', S'.res h = some r → S'.res h' = some r' → g h = g h' → h = h'
  low : ∀ h r, S'.res h = some r → h < 100 → g h = h
theorem Gam.le {A : Nat → Prop} {w0 : Org} {N : Nat} {S S' : St} {a : Act} {w : World} {g : Nat → Nat} (h : Gam A w0 N S a w) (hl : Le g S S') : Gam A w0 N S' a w := by
  obtain ⟨K, φ, hG⟩ := h
  have hφ : ∀ h pl, (match S'.res h with | some _ => φ (g h) | none => none) = some pl → (∃ r, S'.res h = some r) ∧ φ (g h) = some pl := fun h pl e => by
    split at e
    · rename_i r hr; exact ⟨⟨r, hr⟩, e⟩
    · cases e
  refine ⟨K, fun h => match S'.res h with | some _ => φ (g h) | none => none, ?_, ?_, ?_, ?_, ?_, hG.kin, ?_, hG.aK, ?_, hG.bel, hG.nd, hG.size, fun h pl pl0 e e0 => ?_⟩
  · intro h r hr
    obtain ⟨pl, hp, hh⟩ := hG.dom _ _ (hl.res h r hr)
    refine ⟨pl, by simp [hr, hp], ?_⟩
    cases r with
    | box t cs =>
      obtain ⟨b, vs, e, h1, h2, h3⟩ := hh
      exact ⟨b, vs, e, h1, h2, MatchL.unmap cs _ (fun k pl _ e => (hφ k pl e).2) h3⟩
    | arr e k d xs => cases d <;> exact hh
  · intro h hr; simp [hr]
  · intro h h' pl pl' hne e e'
    obtain ⟨⟨r, hr⟩, e⟩ := hφ h pl e
    obtain ⟨⟨r', hr'⟩, e'⟩ := hφ h' pl' e'
    exact hG.disj _ _ pl pl' (fun x => hne (hl.inj h h' r r' hr hr' x)) e e'
  · intro h pl e; exact hG.nodup _ pl (hφ h pl e).2
  · intro h pl e; exact hG.ge _ pl (hφ h pl e).2
  · intro b hb h pl e; exact hG.kout b hb _ pl (hφ h pl e).2
  · intro t
    rcases hl.slots t with h | h
    · rw [h]; unfold MatchV; trivial
    · have := hG.slots t
      rw [h] at this
      exact MatchV.unmap _ _ (fun k pl _ e => (hφ k pl e).2) this
  · obtain ⟨⟨r, hr⟩, e'⟩ := (show (∃ r, S'.res h = some r) ∧ φ (g h) = some pl from by
      split at e
      · rename_i r hr; exact ⟨⟨r, hr⟩, e⟩
      · cases e)
    rw [hl.low h r hr (w0.dom h pl0 e0)] at e'
    exact hG.pin h pl pl0 e' e0

def VC (P : Program) (N : Nat) (c : Code) (S : St) (Q : Exit → St → Prop) : Prop :=
  ∀ A w0 a w, Gam A w0 N S a w → c.wp P (fun e a' w' => ∃ S', Gam A w0 N S' a' w' ∧ Q e S') a w
def thenQ (Kn : St → Prop) (Q : Exit → St → Prop) : Exit → St → Prop
  | .normal, S => Kn S
  | e, S => Q e S
def blockQ (id : Nat) (Q : Exit → St → Prop) : Exit → St → Prop
  | .exit id', S => if id' = id then Q .normal S else Q (.exit id') S
  | e, S => Q e S
section
variable {P : Program} {N : Nat} {S : St} {Q : Exit → St → Prop}
theorem VC_skip (h : Q .normal S) : VC P N .skip S Q := fun A w0 a w hG => wp_skip ⟨S, hG, h⟩
theorem VC_ret (h : Q .ret S) : VC P N .ret S Q := fun A w0 a w hG => wp_ret ⟨S, hG, h⟩
theorem VC_exit {id : Nat} (h : Q (.exit id) S) : VC P N (.exit id) S Q := fun A w0 a w hG => wp_exit ⟨S, hG, h⟩
theorem VC_mono {c : Code} {Q' : Exit → St → Prop} (h : VC P N c S Q) (hq : ∀ e S, Q e S → Q' e S) : VC P N c S Q' := fun A w0 a w hG => Code.wp_mono (fun e a w ⟨S', h1, h2⟩ => ⟨S', h1, hq e S' h2⟩) (h A w0 a w hG)
theorem VC_seq {x y : Code} (h : ∀ Kn : St → Prop, (∀ S, VC P N y S Q → Kn S) → VC P N x S (thenQ Kn Q)) : VC P N (.seq x y) S Q := fun A w0 a w hG => by
  refine wp_seq (Code.wp_mono (fun e a w ⟨S', h1, h2⟩ => ?_) (h (fun S => VC P N y S Q) (fun _ h => h) A w0 a w hG))
  cases e with
  | normal => exact h2 A w0 a w h1
  | _ => exact ⟨S', h1, h2⟩
theorem VC_cond {c : Operand} {x y : Code} {t : Bool} (hc : S.ev c = .p none (.bool t)) (hx : t = true → VC P N x S Q) (hy : t = false → VC P N y S Q) : VC P N (.cond c x y) S Q := fun A w0 a w hG => by
  obtain ⟨K, φ, hG'⟩ := hG
  have e : a.eval c = .bool t := conc_match (x := S.ev c) (by rw [hc]; rfl) (hG'.ev c)
  exact wp_cond_split e (fun ht => hx ht A w0 a w ⟨K, φ, hG'⟩) (fun ht => hy ht A w0 a w ⟨K, φ, hG'⟩)
theorem VC_block {id : Nat} {c : Code} (h : VC P N c S (blockQ id Q)) : VC P N (.block id c) S Q := fun A w0 a w hG => by
  refine wp_block (Code.wp_mono (fun e a w ⟨S', h1, h2⟩ => ?_) (h A w0 a w hG))
  cases e with
  | exit id' =>
    simp only [blockQ, Exit.inBlock] at *
    split at h2
    · rename_i hid; rw [if_pos hid]; exact ⟨S', h1, h2⟩
    · rename_i hid; rw [if_neg hid]; exact ⟨S', h1, h2⟩
  | _ => exact ⟨S', h1, h2⟩
theorem VC_le {c : Code} {S' : St} (g : Nat → Nat) (hl : Le g S S') (h : VC P N c S' Q) : VC P N c S Q := fun A w0 a w hG => h A w0 a w (hG.le hl)
theorem exists_min (p : Nat → Prop) (h : ∃ n, p n) : ∃ n, p n ∧ ∀ m, p m → n ≤ m := by
  obtain ⟨n, hn⟩ := h
  induction n using Nat.strongRecOn with
  | _ n ih =>
    by_cases hm : ∃ m, m < n ∧ p m
    · obtain ⟨m, h1, h2⟩ := hm
      exact ih m h1 h2
    · exact ⟨n, hn, fun m h => Nat.le_of_not_lt fun h' => hm ⟨m, h', h⟩⟩
open Classical in
theorem VC_loop {c : Code} (I : Nat → St → Prop) (n : Nat) (h0 : I n S) (round : ∀ n S, I n S → VC P N c S (thenQ (fun S' => ∃ m g S'', m < n ∧ Le g S' S'' ∧ I m S'') Q)) : VC P N (.loop c) S Q := fun A w0 a w hG => by
  let J : Act → World → Nat → Prop := fun a w n => ∃ S, I n S ∧ Gam A w0 N S a w
  refine wp_loop (fun a w => ∃ n, J a w n) (fun a w => if h : ∃ n, J a w n then Classical.choose (exists_min _ h) else 0) ⟨n, S, h0, hG⟩ fun a w hI => ?_
  have hmin := Classical.choose_spec (exists_min _ hI)
  obtain ⟨⟨S1, hI1, hG1⟩, _⟩ := hmin
  refine Code.wp_mono (fun e a' w' ⟨S', h1, h2⟩ => ?_) (round _ S1 hI1 A w0 a w hG1)
  cases e with
  | normal =>
    obtain ⟨m, g, S'', hm, hl, hI2⟩ := h2
    have hex : ∃ n, J a' w' n := ⟨m, S'', hI2, h1.le hl⟩
    refine ⟨hex, ?_⟩
    simp only [dif_pos hI, dif_pos hex]
    exact Nat.lt_of_le_of_lt ((Classical.choose_spec (exists_min _ hex)).2 m ⟨S'', hI2, h1.le hl⟩) hm
  | _ => exact ⟨S', h1, h2⟩

/-- What a slot tells a guard: a truth value, or that there is none. -/
def gvA : AV → Option (Option Bool)
  | .p none (.bool b) => some (some b)
  | .tup [] => some none
  | _ => none
theorem gvA_bool {x : AV} {b : Bool} (h : x = .p none (.bool b)) : gvA x = some (some b) := by rw [h]; rfl
theorem undef_match (K : Nat → Prop) (φ : Phi) (w : World) : MatchV K φ w (.tup []) undef := by
  unfold MatchV
  exact ⟨#[], rfl, by unfold MatchL; rfl⟩
/-- Operations in the text's order. -/
def Ops (P : Program) (N : Nat) (all : Array Oper) : List Oper → St → (St → Prop) → Prop
  | [], S, K => K S
  | o :: rest, S, K => (∀ d, o.dst = some d → d < N) ∧ match o.guard with
    | none => ∃ e, Sound0 P o S e ∧ Ops P N all rest (S.apply o.dst e) K
    | some (j, want) => ∃ d b, (all[j]?).bind (·.dst) = some d ∧ d < N ∧ gvA (S.slots d) = some b ∧ (b = some want → ∃ e, Sound0 P o S e ∧ Ops P N all rest (S.apply o.dst e) K) ∧ (b ≠ some want → Ops P N all rest (S.put o.dst (.tup [])) K)
theorem wanted_of {A : Nat → Prop} {w0 : Org} {S : St} {a : Act} {w : World} {K : Nat → Prop} {φ : Phi} {all : Array Oper} {o : Oper} {j d : Nat} {want : Bool} {b : Option Bool} (hG : G K φ A w0 N S a w) (hg : o.guard = some (j, want)) (hj : (all[j]?).bind (·.dst) = some d) (hd : d < N) (hs : gvA (S.slots d) = some b) :
    Region.wanted o (yielded all a.tmps) = (b == some want) := by
  have h1 := hG.slots d
  have hlt : d < a.tmps.size := by rw [hG.size]; exact hd
  rw [Array.getD_eq_getD_getElem?, Array.getElem?_eq_getElem hlt] at h1
  unfold gvA at hs
  split at hs
  · rename_i b' hx
    rw [hx] at h1
    unfold MatchV RdV at h1
    have h2 : a.tmps[d]? = some (.bool b') := by rw [Array.getElem?_eq_getElem hlt]; simpa using h1
    injection hs with hs
    subst hs
    unfold Region.wanted
    simp only [hg, yielded, hj, Option.bind_some, h2]
  · rename_i hx
    rw [hx] at h1
    unfold MatchV at h1
    obtain ⟨vs, hv, _⟩ := h1
    have h2 : a.tmps[d]? = some (.tuple vs) := by rw [Array.getElem?_eq_getElem hlt]; simpa using hv
    injection hs with hs
    subst hs
    unfold Region.wanted
    simp only [hg, yielded, hj, Option.bind_some, h2]
  · cases hs
theorem ops_sound {all : Array Oper} {Qw : Exit → Act → World → Prop} {A : Nat → Prop} {w0 : Org} {Kn : St → Prop} (hQ : ∀ S a w, Kn S → Gam A w0 N S a w → Qw .normal a w) : ∀ (l : List Oper) (S : St) (a : Act) (w : World), Ops P N all l S Kn → Gam A w0 N S a w → wpList P all Qw l a w
  | [], S, a, w, h, hG => hQ S a w h hG
  | o :: rest, S, a, w, h, ⟨K, φ, hG⟩ => by
    unfold Ops at h
    obtain ⟨hd, h⟩ := h
    have step : ∀ e, Sound0 P o S e → Ops P N all rest (S.apply o.dst e) Kn → o.wp P a w (wpList P all Qw rest) Qw := fun e hs ho =>
      Oper.wp_mono (fun a' w' ⟨K', φ', v, _, hG'⟩ => ops_sound hQ rest _ a' w' ho ⟨K', φ', hG'⟩) (hs K φ A w0 N a w Qw hd hG)
    unfold wpList
    split at h
    · rename_i hg
      obtain ⟨e, hs, ho⟩ := h
      rw [if_pos (by simp [Region.wanted, hg])]
      exact .inl (step e hs ho)
    · rename_i j want hg
      obtain ⟨d, b, hj, hdN, hsl, h1, h2⟩ := h
      rw [wanted_of hG hg hj hdN hsl]
      by_cases hb : b = some want
      · obtain ⟨e, hs, ho⟩ := h1 hb
        rw [if_pos (by simp [hb])]
        exact .inl (step e hs ho)
      · rw [if_neg (by simp [hb])]
        exact ops_sound hQ rest _ _ w (h2 hb) ⟨K, φ, hG.put hd (undef_match _ _ _)⟩
theorem VC_region {id : Nat} {ops : Array Oper} (h : Ops P N ops ops.toList S (Q .normal)) : VC P N (.region id ops false) S Q := fun A w0 a w hG =>
  wp_region_list (ops_sound (fun S a w hq hG => ⟨S, hG, hq⟩) ops.toList S a w h hG)

/-- The results of a function as its state has them. -/
def Res1 (P : Program) (S : St) : ResultVar → AV → Prop
  | .tmp t, x => x = S.slots t
  | .cell t ty, x => ∃ h tb cs ag n bt z, S.slots t = .ptr h 0 ∧ S.res h = some (.box tb cs) ∧ tyOf P ty = some (ag, n, bt, z) ∧ ((ag = true ∧ n = cs.length ∧ x = .agg cs) ∨ (ag = false ∧ cs[0]? = some x))
def ResL (P : Program) (S : St) : List ResultVar → List AV → Prop
  | [], xs => xs = []
  | r :: rs, xs => ∃ x xs', xs = x :: xs' ∧ Res1 P S r x ∧ ResL P S rs xs'
def resAV : List AV → AV
  | [x] => x
  | xs => .tup xs
def resOne (tmps : Array Value) (r : ResultVar) : Sem Value := match r with | .tmp t => pure (tmps.getD t undef) | .cell t ty => do loadVar ty (← asAddr (tmps.getD t undef))
theorem res1_match {A : Nat → Prop} {w0 : Org} {a : Act} {w : World} {K : Nat → Prop} {φ : Phi} (hG : G K φ A w0 N S a w) {r : ResultVar} {x : AV} (h : Res1 P S r x) :
    ∃ v, (resOne a.tmps r).run P w = .ok v w ∧ MatchV K φ w x v := by
  cases r with
  | tmp t =>
    simp only [Res1] at h
    subst h
    exact ⟨_, rfl, hG.slots t⟩
  | cell t ty =>
    simp only [Res1] at h
    obtain ⟨k, tb, cs, ag, n, bt, z, h1, h2, h3, h4⟩ := h
    obtain ⟨g, vs, hp, hB, hone, hl⟩ := hG.boxed h2
    have h5 := hG.slots t
    rw [h1] at h5
    unfold MatchV at h5
    obtain ⟨g', he, hq'⟩ := h5
    have hg' := hq' _ hp
    simp only [List.cons.injEq, and_true] at hg'
    subst hg'
    have hlen := matchL_len hl
    simp only [Array.length_toList] at hlen
    rcases h4 with ⟨rfl, rfl, rfl⟩ | ⟨rfl, hx⟩
    · have := run_loadAgg h3 w g 0 vs.toList (by simpa using hlen) (fun j v hv => by rw [hB.cell, ← Array.getElem?_toList, Nat.zero_add]; exact hv)
      refine ⟨.agg vs, ?_, by unfold MatchV; exact ⟨vs, rfl, hone, hl⟩⟩
      simp only [resOne, he, asAddr, Sem.run_bind, Sem.run_pure, Result.andThen_ok]
      simpa [Instr.loadAt, Instr.sureAddr] using this
    · obtain ⟨v, hv, hm⟩ := matchL_get hl hx
      have := run_loadOne h3 w g 0 v (by rw [hB.cell, ← Array.getElem?_toList]; exact hv)
      refine ⟨v, ?_, hm⟩
      simp only [resOne, he, asAddr, Sem.run_bind, Sem.run_pure, Result.andThen_ok]
      simpa [Instr.loadAt, Instr.sureAddr] using this
theorem resL_match {A : Nat → Prop} {w0 : Org} {a : Act} {w : World} {K : Nat → Prop} {φ : Phi} (hG : G K φ A w0 N S a w) : ∀ {rs : List ResultVar} {xs : List AV}, ResL P S rs xs →
    ∃ vs : List Value, (rs.mapM (resOne a.tmps)).run P w = .ok vs w ∧ MatchL K φ w xs vs
  | [], xs, h => ⟨[], by simp, by rw [show xs = [] from h]; unfold MatchL; rfl⟩
  | r :: rs, xs, ⟨x, xs', e, h1, h2⟩ => by
    subst e
    obtain ⟨v, q1, q2⟩ := res1_match hG h1
    obtain ⟨vs, q3, q4⟩ := resL_match hG h2
    refine ⟨v :: vs, ?_, by unfold MatchL; exact ⟨v, vs, rfl, q2, q4⟩⟩
    simp only [List.mapM_cons, Sem.run_bind]
    rw [q1]
    simp only [Result.andThen_ok, Sem.run_bind]
    rw [q3]
    rfl
theorem results_match {A : Nat → Prop} {w0 : Org} {a : Act} {w : World} {K : Nat → Prop} {φ : Phi} {fn : Func} {xs : List AV} (hG : G K φ A w0 N S a w) (h : ResL P S fn.results.toList xs) : ∃ v, (results fn a.tmps).run P w = .ok v w ∧ MatchV K φ w (resAV xs) v := by
  obtain ⟨vs, h1, h2⟩ := resL_match hG h
  have hl := matchL_len h2
  have hrun : (results fn a.tmps).run P w = .ok (if h : vs.toArray.size = 1 then vs.toArray[0] else .tuple vs.toArray) w := by
    have e : results fn a.tmps = (do let vs ← fn.results.mapM (resOne a.tmps); pure (if h : vs.size = 1 then vs[0] else .tuple vs)) := by
      unfold results
      congr 1
    rw [e, Array.mapM_eq_mapM_toList]
    simp only [Sem.run_bind, Sem.run_map, h1]
    rfl
  refine ⟨_, hrun, ?_⟩
  rcases xs with _ | ⟨x, _ | ⟨y, xs⟩⟩
  · have : vs = [] := List.eq_nil_of_length_eq_zero hl
    subst this
    simp only [resAV]
    unfold MatchV
    exact ⟨#[], rfl, h2⟩
  · unfold MatchL at h2
    obtain ⟨v, vs', rfl, h3, h4⟩ := h2
    unfold MatchL at h4
    subst h4
    exact h3
  · rw [dif_neg (by simp at hl ⊢; omega)]
    simp only [resAV]
    unfold MatchV
    exact ⟨_, rfl, h2⟩
/-- An argument as a slot has it. -/
def arAV : Ar → AV
  | .one x => .p none x
  | .agg xs => .agg (xs.map (AV.p none))
def S0 (args : List Ar) : St := ⟨fun t => match args[t]? with | some x => arAV x | none => .no, fun _ => none⟩
theorem arsRd_at {A : Nat → Prop} {w : World} : ∀ {xs : List Ar} {vs : List Value} {i : Nat} {x : Ar}, ArsRd A w xs vs → xs[i]? = some x → ∃ v, vs[i]? = some v ∧ ArRd A w x v
  | [], _, _, _, _, h => by simp at h
  | y :: xs, _, 0, x, ⟨v, vs', e, h1, _⟩, h => by subst e; simp at h; subst h; exact ⟨v, rfl, h1⟩
  | y :: xs, _, i + 1, x, ⟨v, vs', e, _, h2⟩, h => by
    subst e; simp at h
    obtain ⟨u, hu, hr⟩ := arsRd_at h2 h
    exact ⟨u, by simpa using hu, hr⟩
theorem arsRd_len {A : Nat → Prop} {w : World} : ∀ {xs : List Ar} {vs : List Value}, ArsRd A w xs vs → vs.length = xs.length
  | [], _, h => by rw [show _ = [] from h]; rfl
  | y :: xs, _, ⟨v, vs', e, _, h2⟩ => by subst e; simp [arsRd_len h2]
theorem arAV_match {A : Nat → Prop} {w : World} {φ : Phi} {x : Ar} {v : Value} (h : ArRd A w x v) : MatchV A φ w (arAV x) v := by
  cases x with
  | one x => simp only [arAV]; unfold MatchV; exact h
  | agg xs =>
    obtain ⟨vs, rfl, hl⟩ := h
    simp only [arAV]
    obtain ⟨h1, h2⟩ := rdL_match (K := A) (φ := φ) (w := w) (o := none) (fun x v => by unfold MatchV; exact Iff.rfl) hl
    have e2 : xs.map (pOf none) = xs.map (AV.p none) := by
      apply List.map_congr_left
      intro y _
      unfold pOf
      split <;> rfl
    rw [e2] at h1
    unfold MatchV
    exact ⟨vs, rfl, h2, h1⟩
/-- What the state at the end must show. -/
def Fin (P : Program) (fn : Func) (rv : AV) (rs : List (Nat × Rs)) (e : Exit) (S : St) : Prop :=
  (e = .normal ∨ e = .ret) ∧ ∃ xs g, ResL P S fn.results.toList xs ∧ resAV xs = mapA g rv ∧ (∀ h r, findH rs h = some r → S.res (g h) = some r ∧ arrR r = true) ∧ (∀ h h' r r', findH rs h = some r → findH rs h' = some r' → g h = g h' → h = h')
theorem below_of {w w' : World} (h : Chg (fun _ => False) w w') : Below w.heap.size w w' := ⟨h.os, h.tape, h.output, h.size, fun k hk => h.block k hk id⟩
theorem mine_of {w : World} {φ0 : Phi} {hd : ∀ h pl, φ0 h = some pl → h < 100} {b : Nat} (h : Org.mine ⟨w, fun _ => False, φ0, hd⟩ b) : w.heap.size ≤ b := h.elim id False.elim
theorem con_of_vc {f : FuncId} {fn : Func} {c : Code} {args : List Ar} {rv : AV} {rs : List (Nat × Rs)} (hf : P.funcs[f]? = some fn) (hb : fn.body = some c) (hn : (fn.name == "runtime.NumGoroutine") = false) (hl : args.length ≤ fn.ntmps)
    (h : VC P fn.ntmps c (S0 args) (Fin P fn rv rs)) : Con P f args rv rs := by
  refine ⟨by simp [callable, hf, hb, hn], fun A w vs hA hargs => ?_⟩
  refine calls_of_wp hf hb ?_
  have hlen := arsRd_len hargs
  simp only [Array.length_toList] at hlen
  have hG0 : Gam A ⟨w, fun _ => False, fun _ => none, by simp⟩ fn.ntmps (S0 args) { tmps := vs ++ Array.replicate (fn.ntmps - vs.size) undef, defers := [] } w := by
    refine ⟨A, fun _ => none, by simp [S0], by simp [S0], by simp, by simp, by simp, fun b hb => ⟨hA b hb, .inl hb⟩, by simp, fun _ h => h, fun t => ?_, ⟨rfl, rfl, rfl, Nat.le_refl _, fun _ _ _ => rfl⟩, rfl, by simp; omega, by simp⟩
    simp only [S0]
    split
    · rename_i x hx
      obtain ⟨v, hv, hr⟩ := arsRd_at hargs hx
      have ht : t < vs.size := by have := (List.getElem?_eq_some_iff.1 hv).1; simpa using this
      rw [Array.getD_eq_getD_getElem?, Array.getElem?_append_left ht, ← Array.getElem?_toList, hv]
      exact arAV_match hr
    · unfold MatchV; trivial
  refine Code.wp_mono (fun e a' w' ⟨S, ⟨K, φ, hG⟩, he, xs, g, hres, hrv, hrs, hinj⟩ => ?_) (h A _ _ w hG0)
  obtain ⟨v, hrun, hm⟩ := results_match hG hres
  rw [hrv] at hm
  have hφ : ∀ h pl, (match findH rs h with | some _ => φ (g h) | none => none) = some pl → (∃ r, findH rs h = some r) ∧ φ (g h) = some pl := fun h pl e => by
    split at e
    · rename_i r hr; exact ⟨⟨r, hr⟩, e⟩
    · cases e
  have hR : RetOk A w rv rs (.returned v) w' := by
    refine ⟨v, K, fun h => match findH rs h with | some _ => φ (g h) | none => none, rfl, below_of hG.bel, fun b hb => ⟨(hG.kin b hb).1, (hG.kin b hb).2.imp id mine_of⟩, fun b hb h pl e => hG.kout b hb _ pl (hφ h pl e).2, fun h r hr => ?_, fun h hr => by simp [hr], fun h h' pl pl' hne e e' => ?_, fun h pl e => hG.nodup _ pl (hφ h pl e).2, fun h pl e g hg => ⟨mine_of (hG.ge _ pl (hφ h pl e).2 g hg).1, (hG.ge _ pl (hφ h pl e).2 g hg).2⟩, MatchV.unmap rv v (fun k pl _ e => (hφ k pl e).2) hm⟩
    · obtain ⟨h1, h2⟩ := hrs h r hr
      obtain ⟨pl, hp, hh⟩ := hG.dom _ _ h1
      exact ⟨pl, by simp [hr, hp], Holds.arrPhi h2 hh⟩
    · obtain ⟨⟨r, hr⟩, e⟩ := hφ h pl e
      obtain ⟨⟨r', hr'⟩, e'⟩ := hφ h' pl' e'
      exact hG.disj _ _ pl pl' (fun x => hne (hinj h h' r r' hr hr' x)) e e'
  rcases he with rfl | rfl <;> exact ⟨hG.nd, v, hrun, hR⟩
end

/- States written out, and the operations over them, one lemma each. -/

def findS : List (Nat × AV) → Nat → AV
  | [], _ => .no
  | (k, v) :: l, t => if t = k then v else findS l t
def findO : List (Nat × Option Rs) → Nat → Option Rs
  | [], _ => none
  | (k, r) :: l, h => if h = k then r else findO l h
def mk (sl : List (Nat × AV)) (rs : List (Nat × Option Rs)) : St := ⟨findS sl, findO rs⟩
theorem mk_put (sl : List (Nat × AV)) (rs : List (Nat × Option Rs)) (d : Nat) (v : AV) : (mk sl rs).put (some d) v = mk ((d, v) :: sl) rs := by
  simp only [St.put, mk]
  congr 1
def goneL (del : List Nat) : List (Nat × Option Rs) := del.map fun h => (h, none)
def newL (new : List (Nat × Rs)) : List (Nat × Option Rs) := new.map fun q => (q.1, some q.2)
theorem findO_gone (del : List Nat) (rs : List (Nat × Option Rs)) (h : Nat) : findO (goneL del ++ rs) h = if h ∈ del then none else findO rs h := by
  induction del with
  | nil => simp [goneL]
  | cons k del ih =>
    simp only [goneL, List.map_cons, List.cons_append, findO] at *
    rw [ih]
    by_cases e : h = k <;> simp [e]
theorem findO_new (new : List (Nat × Rs)) (rs : List (Nat × Option Rs)) (h : Nat) : findO (newL new ++ rs) h = match findH new h with | some r => some r | none => findO rs h := by
  induction new with
  | nil => simp [newL, findH]
  | cons q new ih =>
    obtain ⟨k, r⟩ := q
    simp only [newL, List.map_cons, List.cons_append, findO, findH] at *
    rw [ih]
    by_cases e : h = k <;> simp [e]
theorem mk_apply (sl : List (Nat × AV)) (rs : List (Nat × Option Rs)) (d : Nat) (v : AV) (del : List Nat) (new : List (Nat × Rs)) : (mk sl rs).apply (some d) ⟨v, del, new⟩ = mk ((d, v) :: sl) (newL new ++ (goneL del ++ rs)) := by
  unfold St.apply
  rw [← mk_put]
  congr 1
  simp only [mk]
  congr 1
  funext h
  rw [findO_new, findO_gone]
  simp only [stepRes]
  cases findH new h <;> rfl
theorem mk_apply0 (sl : List (Nat × AV)) (rs : List (Nat × Option Rs)) (v : AV) (del : List Nat) (new : List (Nat × Rs)) : (mk sl rs).apply none ⟨v, del, new⟩ = mk sl (newL new ++ (goneL del ++ rs)) := by
  unfold St.apply
  simp only [St.put, mk]
  congr 1
  funext h
  rw [findO_new, findO_gone]
  simp only [stepRes]
  cases findH new h <;> rfl
/-- h is named nowhere, by a look. -/
def freshB (sl : List (Nat × AV)) (rs : List (Nat × Option Rs)) (h : Nat) : Bool :=
  Nat.ble 100 h && (sl.all (fun q => !(ments q.2).contains h) && rs.all (fun q => q.1 != h && match q.2 with | some r => !(mentsR r).contains h | none => true))
theorem fresh_of {sl : List (Nat × AV)} {rs : List (Nat × Option Rs)} {h : Nat} (hb : freshB sl rs h = true) : Fresh (mk sl rs) h := by
  unfold freshB at hb
  rw [Bool.and_eq_true, Bool.and_eq_true, List.all_eq_true, List.all_eq_true] at hb
  obtain ⟨h0, h1, h2⟩ := hb
  refine ⟨fun t ht => ?_, fun h' r hr hm => ?_, ?_, Nat.le_of_ble_eq_true h0⟩
  · simp only [mk] at ht
    have : ∀ (l : List (Nat × AV)), (∀ x ∈ l, (!(ments x.2).contains h) = true) → h ∉ ments (findS l t) := by
      intro l
      induction l with
      | nil => intro _; simp [findS, ments]
      | cons q l ih =>
        intro hl
        obtain ⟨k, v⟩ := q
        simp only [findS]
        split
        · have := hl (k, v) (by simp)
          simpa using this
        · exact ih fun x hx => hl x (by simp [hx])
    exact this sl h1 ht
  · simp only [mk] at hr
    have : ∀ (l : List (Nat × Option Rs)), (∀ x ∈ l, (x.1 != h && match x.2 with | some r => !(mentsR r).contains h | none => true) = true) → findO l h' = some r → h ∉ mentsR r := by
      intro l
      induction l with
      | nil => intro _ e; simp [findO] at e
      | cons q l ih =>
        intro hl e
        obtain ⟨k, v⟩ := q
        simp only [findO] at e
        split at e
        · subst e
          have := hl (k, some r) (by simp)
          simp only [Bool.and_eq_true] at this
          simpa using this.2
        · exact ih (fun x hx => hl x (by simp [hx])) e
    exact this rs h2 hr hm
  · simp only [mk]
    have : ∀ (l : List (Nat × Option Rs)), (∀ x ∈ l, (x.1 != h && match x.2 with | some r => !(mentsR r).contains h | none => true) = true) → findO l h = none := by
      intro l
      induction l with
      | nil => intro _; rfl
      | cons q l ih =>
        intro hl
        obtain ⟨k, v⟩ := q
        simp only [findO]
        have := hl (k, v) (by simp)
        simp only [Bool.and_eq_true, bne_iff_ne, ne_eq] at this
        rw [if_neg (fun e => this.1 e.symm)]
        exact ih fun x hx => hl x (by simp [hx])
    exact this rs h2
def LeS (g : Nat → Nat) (sl : List (Nat × AV)) : List (Nat × AV) → Prop
  | [] => True
  | (t, x) :: l => findS sl t = mapA g x ∧ LeS g sl l
def LeR (g : Nat → Nat) (rs : List (Nat × Option Rs)) : List (Nat × Option Rs) → Prop
  | [] => True
  | (h, some r) :: l => findO rs (g h) = some (mapR g r) ∧ LeR g rs l
  | (_, none) :: l => LeR g rs l
/-- Handles of a list, no two named alike by g. -/
def injB (g : Nat → Nat) : List (Nat × Option Rs) → Bool
  | [] => true
  | (h, _) :: l => (l.all (fun q => q.1 == h || g q.1 != g h) && (Nat.ble 100 h || Nat.beq (g h) h)) && injB g l
theorem le_mk {g : Nat → Nat} {sl sl' : List (Nat × AV)} {rs rs' : List (Nat × Option Rs)} (h1 : LeS g sl sl') (h2 : LeR g rs rs') (h3 : injB g rs' = true) : Le g (mk sl rs) (mk sl' rs') := by
  refine ⟨fun t => ?_, fun h r hr => ?_, fun h h' r r' hr hr' e => ?_, fun h r hr hlt => ?_⟩
  · simp only [mk]
    induction sl' with
    | nil => exact .inl rfl
    | cons q l ih =>
      obtain ⟨k, x⟩ := q
      simp only [findS]
      split
      · rename_i e; subst e; exact .inr h1.1
      · exact ih h1.2
  · simp only [mk] at *
    clear h3
    induction rs' with
    | nil => simp [findO] at hr
    | cons q l ih =>
      obtain ⟨k, x⟩ := q
      simp only [findO] at hr
      split at hr
      · rename_i e; subst e; subst hr; exact h2.1
      · cases x with
        | none => exact ih h2 hr
        | some y => exact ih h2.2 hr
  · simp only [mk] at *
    have key : ∀ {l : List (Nat × Option Rs)} {h : Nat} {r : Rs}, findO l h = some r → ∃ x, (h, x) ∈ l := by
      intro l
      induction l with
      | nil => intro h r e; simp [findO] at e
      | cons q l ih =>
        obtain ⟨k, x⟩ := q
        intro h r e
        simp only [findO] at e
        split at e
        · rename_i e'; subst e'; exact ⟨x, by simp⟩
        · obtain ⟨y, hy⟩ := ih e; exact ⟨y, by simp [hy]⟩
    obtain ⟨x, hx⟩ := key hr
    obtain ⟨x', hx'⟩ := key hr'
    clear h1 h2 hr hr'
    induction rs' with
    | nil => simp at hx
    | cons q l ih =>
      obtain ⟨k, y⟩ := q
      simp only [injB, Bool.and_eq_true, List.all_eq_true, Bool.or_eq_true, beq_iff_eq, bne_iff_ne, ne_eq] at h3
      replace h3 := (⟨h3.1.1, h3.2⟩ : _ ∧ _)
      rcases List.mem_cons.1 hx with q1 | q1 <;> rcases List.mem_cons.1 hx' with q2 | q2
      · injection q1 with a b; injection q2 with a' b'; rw [a, a']
      · injection q1 with a b
        subst a
        rcases h3.1 _ q2 with h | h
        · exact h.symm
        · exact absurd e.symm h
      · injection q2 with a b
        subst a
        rcases h3.1 _ q1 with h | h
        · exact h
        · exact absurd e h
      · exact ih h3.2 q1 q2
  · simp only [mk] at hr
    clear h1 h2
    induction rs' with
    | nil => simp [findO] at hr
    | cons q l ih =>
      obtain ⟨k, x⟩ := q
      simp only [injB, Bool.and_eq_true, Bool.or_eq_true] at h3
      simp only [findO] at hr
      split at hr
      · rename_i e
        subst e
        rcases h3.1.2 with q | q
        · have := Nat.le_of_ble_eq_true q; omega
        · exact Nat.eq_of_beq_eq_true q
      · exact ih h3.2 hr

section
variable {P : Program} {N : Nat} {all : Array Oper} {rest : List Oper} {sl : List (Nat × AV)} {rs : List (Nat × Option Rs)} {K : St → Prop} {ty : TypeId} {pos : String} {aft : Array Edge} {d : Nat} {gd : Option (Nat × Bool)}
def evE (sl : List (Nat × AV)) : Operand → AV
  | .tmp t => findS sl t
  | .const v => avC v
  | .func f => .fn f []
  | .global _ => .no
theorem evE_eq (sl : List (Nat × AV)) (rs : List (Nat × Option Rs)) (x : Operand) : (mk sl rs).ev x = evE sl x := by cases x <;> rfl
theorem op_of {o : Op} {v : AV} {del : List Nat} {new : List (Nat × Rs)} (hs : Sound P ⟨some d, o, ty, pos, aft, none⟩ (mk sl rs) ⟨v, del, new⟩) (hd : d < N) (h : Ops P N all rest (mk ((d, v) :: sl) (newL new ++ (goneL del ++ rs))) K) : Ops P N all (⟨some d, o, ty, pos, aft, none⟩ :: rest) (mk sl rs) K := by
  unfold Ops
  refine ⟨(fun d' e => by injection e with e; subst e; exact hd), ⟨v, del, new⟩, hs.to0, ?_⟩
  rw [mk_apply]
  exact h
theorem op_of0 {o : Op} {v : AV} {del : List Nat} {new : List (Nat × Rs)} (hs : Sound P ⟨none, o, ty, pos, aft, none⟩ (mk sl rs) ⟨v, del, new⟩) (h : Ops P N all rest (mk sl (newL new ++ (goneL del ++ rs))) K) : Ops P N all (⟨none, o, ty, pos, aft, none⟩ :: rest) (mk sl rs) K := by
  unfold Ops
  refine ⟨(fun d' e => by cases e), ⟨v, del, new⟩, hs.to0, ?_⟩
  rw [mk_apply0]
  exact h
/-- Steps of a region in the text's order: a value (V), memory made (N), written (W), grown (A), a call's (C). -/
theorem goV {o : Op} {v : AV} (hs : Sound P ⟨some d, o, ty, pos, aft, none⟩ (mk sl rs) ⟨v, [], []⟩) (hd : d < N) (h : Ops P N all rest (mk ((d, v) :: sl) rs) K) : Ops P N all (⟨some d, o, ty, pos, aft, none⟩ :: rest) (mk sl rs) K := op_of (del := []) (new := []) hs hd h
theorem goN {o : Op} {v : AV} {hh : Nat} {r : Rs} (hs : Sound P ⟨some d, o, ty, pos, aft, none⟩ (mk sl rs) ⟨v, [], [(hh, r)]⟩) (hd : d < N) (h : Ops P N all rest (mk ((d, v) :: sl) ((hh, some r) :: rs)) K) : Ops P N all (⟨some d, o, ty, pos, aft, none⟩ :: rest) (mk sl rs) K := op_of (del := []) (new := [(hh, r)]) hs hd h
theorem goW {o : Op} {hh : Nat} {r : Rs} (hs : Sound P ⟨none, o, ty, pos, aft, none⟩ (mk sl rs) ⟨.no, [hh], [(hh, r)]⟩) (h : Ops P N all rest (mk sl ((hh, some r) :: (hh, none) :: rs)) K) : Ops P N all (⟨none, o, ty, pos, aft, none⟩ :: rest) (mk sl rs) K := op_of0 (v := .no) (del := [hh]) (new := [(hh, r)]) hs h
theorem goA {o : Op} {v : AV} {hh : Nat} {r : Rs} {del : List Nat} (hs : Sound P ⟨some d, o, ty, pos, aft, none⟩ (mk sl rs) ⟨v, del, [(hh, r)]⟩) (hd : d < N) (h : Ops P N all rest (mk ((d, v) :: sl) ((hh, some r) :: (goneL del ++ rs))) K) : Ops P N all (⟨some d, o, ty, pos, aft, none⟩ :: rest) (mk sl rs) K := op_of (del := del) (new := [(hh, r)]) hs hd h
theorem goC {o : Op} {v : AV} {new : List (Nat × Rs)} (hs : Sound P ⟨some d, o, ty, pos, aft, none⟩ (mk sl rs) ⟨v, [], new⟩) (hd : d < N) (h : Ops P N all rest (mk ((d, v) :: sl) (newL new ++ rs)) K) : Ops P N all (⟨some d, o, ty, pos, aft, none⟩ :: rest) (mk sl rs) K := op_of (del := []) (new := new) hs hd h
theorem op_gyes {o : Op} {dst : Option Nat} {S : St} {j dj : Nat} {want b : Bool} (hj : (all[j]?).bind (·.dst) = some dj) (hN : dj < N) (hs : S.slots dj = .p none (.bool b)) (hb : b = want) (h : Ops P N all (⟨dst, o, ty, pos, aft, none⟩ :: rest) S K) : Ops P N all (⟨dst, o, ty, pos, aft, some (j, want)⟩ :: rest) S K := by
  unfold Ops at *
  exact ⟨h.1, dj, some b, hj, hN, gvA_bool hs, fun _ => h.2, fun hn => absurd (by rw [hb]) hn⟩
theorem op_gno {o : Op} {dst : Option Nat} {S : St} {j dj : Nat} {want b : Bool} (hj : (all[j]?).bind (·.dst) = some dj) (hN : dj < N) (hs : S.slots dj = .p none (.bool b)) (hb : b = !want) (hd : ∀ d, dst = some d → d < N) (h : Ops P N all rest (S.put dst (.tup [])) K) : Ops P N all (⟨dst, o, ty, pos, aft, some (j, want)⟩ :: rest) S K := by
  unfold Ops
  refine ⟨hd, dj, some b, hj, hN, gvA_bool hs, fun e => ?_, fun _ => h⟩
  injection e with e
  subst e; cases b <;> cases hb
theorem op_gnoE {o : Op} {j dj : Nat} {want b : Bool} (hj : (all[j]?).bind (·.dst) = some dj) (hN : dj < N) (hs : findS sl dj = .p none (.bool b)) (hb : b = !want) (hd : d < N) (h : Ops P N all rest (mk ((d, .tup []) :: sl) rs) K) : Ops P N all (⟨some d, o, ty, pos, aft, some (j, want)⟩ :: rest) (mk sl rs) K :=
  op_gno hj hN hs hb (fun d' e => by injection e with e; subst e; exact hd) (by rw [mk_put]; exact h)
theorem op_nil (h : K (mk sl rs)) : Ops P N all [] (mk sl rs) K := h

theorem sd_move {x : Operand} {v : AV} (hv : evE sl x = v) : Sound P ⟨some d, .move x, ty, pos, aft, gd⟩ (mk sl rs) ⟨v, [], []⟩ :=
  by rw [← hv, ← evE_eq sl rs]; exact sound_move (.inl rfl)
theorem sd_assign {x : Operand} {v : AV} (hv : evE sl x = v) : Sound P ⟨some d, .assign x, ty, pos, aft, gd⟩ (mk sl rs) ⟨v, [], []⟩ :=
  by rw [← hv, ← evE_eq sl rs]; exact sound_move (.inr rfl)
theorem sd_pick {c x y : Operand} {t : Bool} {v : AV} (hc : evE sl c = .p none (.bool t)) (hv : (if t then evE sl x else evE sl y) = v) : Sound P ⟨some d, .pick c x y, ty, pos, aft, gd⟩ (mk sl rs) ⟨v, [], []⟩ :=
  by rw [← hv, ← evE_eq sl rs, ← evE_eq sl rs]; exact sound_pick rfl (by rw [evE_eq]; exact hc)
theorem sd_pickH {c x y : Operand} {t b : Bool} {v : AV} (hc : evE sl c = .p none (.bool t)) (ht : t = b) (hv : (if b then evE sl x else evE sl y) = v) : Sound P ⟨some d, .pick c x y, ty, pos, aft, gd⟩ (mk sl rs) ⟨v, [], []⟩ := by
  subst ht
  exact sd_pick hc hv
theorem sd_extract {x : Operand} {i : Nat} {vs : List AV} {v : AV} (hx : evE sl x = .tup vs) (hv : vs[i]? = some v) : Sound P ⟨some d, .extract x i, ty, pos, aft, gd⟩ (mk sl rs) ⟨v, [], []⟩ :=
  sound_extract rfl (by rw [evE_eq]; exact hx) hv
/-- A length. -/
theorem sd_len {x : Operand} {t e : TypeId} {n : Nat} (ht : P.underlying t = some (.slice e)) (hn : lenIs (mk sl rs) (evE sl x) n) : Sound P ⟨some d, .call { callee := .builtin .len, args := #[x], argTypes := #[t] }, ty, pos, aft, gd⟩ (mk sl rs) ⟨.p none (.int .i64 n), [], []⟩ :=
  sound_len rfl ht (by rw [evE_eq]; exact hn)
theorem len_p {te k : Nat} {xs : List (List Dat)} : lenIs (mk sl rs) (.p none (.sl te k xs)) xs.length := rfl
theorem len_pm {α : Type} {te k : Nat} {xs : List α} {f : α → List Dat} : lenIs (mk sl rs) (.p none (.sl te k (xs.map f))) xs.length := by simp [lenIs]
theorem len_om {α : Type} {h e k : Nat} {dp : Bool} {xs : List α} {f : α → List Dat} (hr : findO rs h = some (.arr e k dp (xs.map f))) : lenIs (mk sl rs) (.own h) xs.length := ⟨e, k, dp, _, hr, by simp⟩
theorem len_ph {h te k : Nat} {xs : List (List Dat)} {r : Rs} (hr : findO rs h = some r) : lenIs (mk sl rs) (.p (some h) (.sl te k xs)) xs.length := ⟨⟨r, hr⟩, rfl⟩
theorem len_own {h e k : Nat} {dp : Bool} {xs : List (List Dat)} (hr : findO rs h = some (.arr e k dp xs)) : lenIs (mk sl rs) (.own h) xs.length := ⟨e, k, dp, xs, hr, rfl⟩
theorem len_nil : lenIs (mk sl rs) .nil 0 := rfl
/-- Numbers and truth values. -/
theorem sd_scal {o : Op} {x : Dat} {v : Value} (hx : x.val? = some v) (hr : ∀ (e : Operand → Value) (w : World), (∀ y u, conc (evE sl y) = some u → e y = u) → (execOp e ⟨some d, o, ty, pos, aft, gd⟩).run P w = .ok (.value v) w) : Sound P ⟨some d, o, ty, pos, aft, gd⟩ (mk sl rs) ⟨.p none x, [], []⟩ :=
  sound_scal hx fun e w he => hr e w fun y u hu => he y u (by rw [evE_eq]; exact hu)
theorem conc_p {x : AV} {y : Dat} {v : Value} (h : x = .p none y) (hv : y.val? = some v) : conc x = some v := by rw [h]; exact hv
section
variable {x y : Operand} {t t' : TypeId} {k : IntKind} {m n : Int}
theorem sd_bin_int {op : BinOp} {r : Dat} {v : Value} (hx : evE sl x = .p none (.int k m)) (hy : evE sl y = .p none (.int k n)) (hv : r.val? = some v) (hr : ∀ w, (binOp op t (.int k m) (.int k n)).run P w = .ok v w) : Sound P ⟨some d, .binOp op t x y t', ty, pos, aft, gd⟩ (mk sl rs) ⟨.p none r, [], []⟩ :=
  sd_scal hv (fun e w he => by
    have h1 := he x _ (conc_p hx rfl)
    have h2 := he y _ (conc_p hy rfl)
    have hg : (eqGuard op t x y (.int k m) (.int k n)).run P w = .ok () w := by
      unfold eqGuard
      cases op <;> rfl
    simp only [execOp, h1, h2, Sem.run_bind, hg, Result.andThen_ok, hr]
    rfl)
theorem sd_lss (hx : evE sl x = .p none (.int k m)) (hy : evE sl y = .p none (.int k n)) : Sound P ⟨some d, .binOp .lss t x y t', ty, pos, aft, gd⟩ (mk sl rs) ⟨.p none (.bool (decide (m < n))), [], []⟩ :=
  sd_bin_int hx hy rfl (fun w => by simp [binOp, Op.intCmp])
theorem sd_leq (hx : evE sl x = .p none (.int k m)) (hy : evE sl y = .p none (.int k n)) : Sound P ⟨some d, .binOp .leq t x y t', ty, pos, aft, gd⟩ (mk sl rs) ⟨.p none (.bool (decide (m ≤ n))), [], []⟩ :=
  sd_bin_int hx hy rfl (fun w => by simp [binOp, Op.intCmp])
theorem sd_gtr (hx : evE sl x = .p none (.int k m)) (hy : evE sl y = .p none (.int k n)) : Sound P ⟨some d, .binOp .gtr t x y t', ty, pos, aft, gd⟩ (mk sl rs) ⟨.p none (.bool (decide (n < m))), [], []⟩ :=
  sd_bin_int hx hy rfl (fun w => by simp [binOp, Op.intCmp])
theorem sd_geq (hx : evE sl x = .p none (.int k m)) (hy : evE sl y = .p none (.int k n)) : Sound P ⟨some d, .binOp .geq t x y t', ty, pos, aft, gd⟩ (mk sl rs) ⟨.p none (.bool (decide (n ≤ m))), [], []⟩ :=
  sd_bin_int hx hy rfl (fun w => by simp [binOp, Op.intCmp])
theorem sd_eql (hx : evE sl x = .p none (.int k m)) (hy : evE sl y = .p none (.int k n)) : Sound P ⟨some d, .binOp .eql t x y t', ty, pos, aft, gd⟩ (mk sl rs) ⟨.p none (.bool (decide (m = n))), [], []⟩ :=
  sd_bin_int hx hy rfl (fun w => by simp [binOp, Op.intCmp]; rfl)
theorem sd_neq (hx : evE sl x = .p none (.int k m)) (hy : evE sl y = .p none (.int k n)) : Sound P ⟨some d, .binOp .neq t x y t', ty, pos, aft, gd⟩ (mk sl rs) ⟨.p none (.bool (!decide (m = n))), [], []⟩ :=
  sd_bin_int hx hy rfl (fun w => by simp [binOp, Op.intCmp]; rfl)
theorem sd_add (hx : evE sl x = .p none (.int k m)) (hy : evE sl y = .p none (.int k n)) : Sound P ⟨some d, .binOp .add t x y t', ty, pos, aft, gd⟩ (mk sl rs) ⟨.p none (.int k (k.wrap (m + n))), [], []⟩ :=
  sd_bin_int hx hy rfl (fun w => by simp [binOp, Op.intArith])
theorem sd_sub (hx : evE sl x = .p none (.int k m)) (hy : evE sl y = .p none (.int k n)) : Sound P ⟨some d, .binOp .sub t x y t', ty, pos, aft, gd⟩ (mk sl rs) ⟨.p none (.int k (k.wrap (m - n))), [], []⟩ :=
  sd_bin_int hx hy rfl (fun w => by simp [binOp, Op.intArith])
theorem sd_mul (hx : evE sl x = .p none (.int k m)) (hy : evE sl y = .p none (.int k n)) : Sound P ⟨some d, .binOp .mul t x y t', ty, pos, aft, gd⟩ (mk sl rs) ⟨.p none (.int k (k.wrap (m * n))), [], []⟩ :=
  sd_bin_int hx hy rfl (fun w => by simp [binOp, Op.intArith])
theorem sd_addI (hx : evE sl x = .p none (.int .i64 m)) (hy : evE sl y = .p none (.int .i64 n)) (hb : -9223372036854775808 ≤ m + n ∧ m + n ≤ 9223372036854775807) : Sound P ⟨some d, .binOp .add t x y t', ty, pos, aft, gd⟩ (mk sl rs) ⟨.p none (.int .i64 (m + n)), [], []⟩ :=
  by rw [← IntWalk.i64_in _ hb]; exact sd_add hx hy
theorem sd_subI (hx : evE sl x = .p none (.int .i64 m)) (hy : evE sl y = .p none (.int .i64 n)) (hb : -9223372036854775808 ≤ m - n ∧ m - n ≤ 9223372036854775807) : Sound P ⟨some d, .binOp .sub t x y t', ty, pos, aft, gd⟩ (mk sl rs) ⟨.p none (.int .i64 (m - n)), [], []⟩ :=
  by rw [← IntWalk.i64_in _ hb]; exact sd_sub hx hy
theorem sd_mulI (hx : evE sl x = .p none (.int .i64 m)) (hy : evE sl y = .p none (.int .i64 n)) (hb : -9223372036854775808 ≤ m * n ∧ m * n ≤ 9223372036854775807) : Sound P ⟨some d, .binOp .mul t x y t', ty, pos, aft, gd⟩ (mk sl rs) ⟨.p none (.int .i64 (m * n)), [], []⟩ :=
  by rw [← IntWalk.i64_in _ hb]; exact sd_mul hx hy
theorem sd_quo (hx : evE sl x = .p none (.int k m)) (hy : evE sl y = .p none (.int k n)) (h0 : n ≠ 0) : Sound P ⟨some d, .binOp .quo t x y t', ty, pos, aft, gd⟩ (mk sl rs) ⟨.p none (.int k (k.wrap (m.tdiv n))), [], []⟩ :=
  sd_bin_int hx hy rfl (fun w => by simp [binOp, Op.intDiv, h0])
theorem sd_rem (hx : evE sl x = .p none (.int k m)) (hy : evE sl y = .p none (.int k n)) (h0 : n ≠ 0) : Sound P ⟨some d, .binOp .rem t x y t', ty, pos, aft, gd⟩ (mk sl rs) ⟨.p none (.int k (m.tmod n)), [], []⟩ :=
  sd_bin_int hx hy rfl (fun w => by simp [binOp, Op.intDiv, h0])
theorem sd_not {b : Bool} (hx : evE sl x = .p none (.bool b)) : Sound P ⟨some d, .unOp .not t x, ty, pos, aft, gd⟩ (mk sl rs) ⟨.p none (.bool (!b)), [], []⟩ :=
  sd_scal (x := .bool (!b)) rfl (fun e w he => by have h1 := he x _ (conc_p hx rfl); simp [execOp, h1, Op.unary])
theorem sd_neg (hx : evE sl x = .p none (.int k m)) : Sound P ⟨some d, .unOp .neg t x, ty, pos, aft, gd⟩ (mk sl rs) ⟨.p none (.int k (k.wrap (0 - m))), [], []⟩ :=
  sd_scal (x := .int k (k.wrap (0 - m))) rfl (fun e w he => by have h1 := he x _ (conc_p hx rfl); simp [execOp, h1, Op.unary, Op.intArith])
end
theorem sd_bin_bool {op : BinOp} {x y : Operand} {t t' : TypeId} {m n : Bool} {r : Dat} {v : Value} (hx : evE sl x = .p none (.bool m)) (hy : evE sl y = .p none (.bool n)) (hv : r.val? = some v) (hr : ∀ w, (binOp op t (.bool m) (.bool n)).run P w = .ok v w) : Sound P ⟨some d, .binOp op t x y t', ty, pos, aft, gd⟩ (mk sl rs) ⟨.p none r, [], []⟩ :=
  sd_scal hv (fun e w he => by
    have h1 := he x _ (conc_p hx rfl)
    have h2 := he y _ (conc_p hy rfl)
    have hg : (eqGuard op t x y (.bool m) (.bool n)).run P w = .ok () w := by
      unfold eqGuard
      cases op <;> rfl
    simp only [execOp, h1, h2, Sem.run_bind, hg, Result.andThen_ok, hr]
    rfl)
theorem sd_neq_bool {x y : Operand} {t t' : TypeId} {m n : Bool} (hu : P.underlying t = some .bool) (hx : evE sl x = .p none (.bool m)) (hy : evE sl y = .p none (.bool n)) : Sound P ⟨some d, .binOp .neq t x y t', ty, pos, aft, gd⟩ (mk sl rs) ⟨.p none (.bool (!(m == n))), [], []⟩ :=
  sd_bin_bool hx hy rfl (fun w => by
    have h := run_equalIn_bool' (P := P) w 9999 t m n hu
    have h' : (Op.equal t (.bool m) (.bool n)).run P w = .ok (m == n) w := h
    simp only [binOp, Sem.run_bind, h', Result.andThen_ok, Sem.run_pure])
theorem sd_eql_bool {x y : Operand} {t t' : TypeId} {m n : Bool} (hu : P.underlying t = some .bool) (hx : evE sl x = .p none (.bool m)) (hy : evE sl y = .p none (.bool n)) : Sound P ⟨some d, .binOp .eql t x y t', ty, pos, aft, gd⟩ (mk sl rs) ⟨.p none (.bool (m == n)), [], []⟩ :=
  sd_bin_bool hx hy rfl (fun w => by
    have h := run_equalIn_bool' (P := P) w 9999 t m n hu
    have h' : (Op.equal t (.bool m) (.bool n)).run P w = .ok (m == n) w := h
    simp only [binOp, Sem.run_bind, h', Result.andThen_ok, Sem.run_pure])
theorem sd_bin_str {op : BinOp} {x y : Operand} {t t' : TypeId} {m n : ByteArray} {r : Dat} {v : Value} (hx : evE sl x = .p none (.str m)) (hy : evE sl y = .p none (.str n)) (hv : r.val? = some v) (hr : ∀ w, (binOp op t (.string m) (.string n)).run P w = .ok v w) : Sound P ⟨some d, .binOp op t x y t', ty, pos, aft, gd⟩ (mk sl rs) ⟨.p none r, [], []⟩ :=
  sd_scal hv (fun e w he => by
    have h1 := he x _ (conc_p hx rfl)
    have h2 := he y _ (conc_p hy rfl)
    have hg : (eqGuard op t x y (.string m) (.string n)).run P w = .ok () w := by
      unfold eqGuard
      cases op <;> rfl
    simp only [execOp, h1, h2, Sem.run_bind, hg, Result.andThen_ok, hr]
    rfl)
theorem sd_neq_string {x y : Operand} {t t' : TypeId} {m n : ByteArray} (hx : evE sl x = .p none (.str m)) (hy : evE sl y = .p none (.str n)) : Sound P ⟨some d, .binOp .neq t x y t', ty, pos, aft, gd⟩ (mk sl rs) ⟨.p none (.bool (!(m.toList == n.toList))), [], []⟩ :=
  sd_bin_str hx hy rfl (fun w => by simp [binOp, Op.stringOp])
theorem sd_eql_string {x y : Operand} {t t' : TypeId} {m n : ByteArray} (hx : evE sl x = .p none (.str m)) (hy : evE sl y = .p none (.str n)) : Sound P ⟨some d, .binOp .eql t x y t', ty, pos, aft, gd⟩ (mk sl rs) ⟨.p none (.bool (m.toList == n.toList)), [], []⟩ :=
  sd_bin_str hx hy rfl (fun w => by simp [binOp, Op.stringOp])
/-- Addresses. -/
theorem sd_fieldP {x : Operand} {s : TypeId} {f off o' hh : Nat} {ft : TypeId} {r : Rs} (hf : fieldOf P s f = some (off, ft)) (hx : evE sl x = .ptr hh o') (hr : findO rs hh = some r) : Sound P ⟨some d, .fieldAddr s x f, ty, pos, aft, gd⟩ (mk sl rs) ⟨.ptr hh (o' + off), [], []⟩ :=
  sound_field_ptr rfl hf (by rw [evE_eq]; exact hx) ⟨r, hr⟩
theorem sd_fieldE {x : Operand} {s : TypeId} {f off o' hh k i : Nat} {ft : TypeId} {r : Rs} (hf : fieldOf P s f = some (off, ft)) (hx : evE sl x = .ep hh k i o') (hr : findO rs hh = some r) : Sound P ⟨some d, .fieldAddr s x f, ty, pos, aft, gd⟩ (mk sl rs) ⟨.ep hh k i (o' + off), [], []⟩ :=
  sound_field_ep rfl hf (by rw [evE_eq]; exact hx) ⟨r, hr⟩
theorem sd_fieldR {x : Operand} {s : TypeId} {f off : Nat} {ft : TypeId} {xs ys : List Dat} (hf : fieldOf P s f = some (off, ft)) (hx : evE sl x = .rp none xs) (hy : xs.drop off = ys) : Sound P ⟨some d, .fieldAddr s x f, ty, pos, aft, gd⟩ (mk sl rs) ⟨.rp none ys, [], []⟩ :=
  by rw [← hy]; exact sound_field_rp (o' := none) rfl hf (by rw [evE_eq]; exact hx) trivial
theorem sd_index {x y : Operand} {t e : TypeId} {k bt te : Nat} {ag : Bool} {z : Value} {xs : List (List Dat)} {ik : IntKind} {n : Int} {row : List Dat} (ht : P.underlying t = some (.slice e)) (hk : tyOf P e = some (ag, k, bt, z)) (hx : evE sl x = .p none (.sl te k xs)) (hy : evE sl y = .p none (.int ik n)) (h0 : 0 ≤ n) (hr : xs[n.toNat]? = some row) : Sound P ⟨some d, .indexAddr t x y, ty, pos, aft, gd⟩ (mk sl rs) ⟨.rp none row, [], []⟩ :=
  sound_index_p (o' := none) rfl ht hk (by rw [evE_eq]; exact hx) trivial (by rw [evE_eq]; exact hy) h0 hr
theorem sd_indexH {x y : Operand} {t e : TypeId} {k bt te hh : Nat} {ag : Bool} {z : Value} {xs : List (List Dat)} {ik : IntKind} {n : Int} {row : List Dat} {r : Rs} (ht : P.underlying t = some (.slice e)) (hk : tyOf P e = some (ag, k, bt, z)) (hx : evE sl x = .p (some hh) (.sl te k xs)) (hl : findO rs hh = some r) (hy : evE sl y = .p none (.int ik n)) (h0 : 0 ≤ n) (hr : xs[n.toNat]? = some row) : Sound P ⟨some d, .indexAddr t x y, ty, pos, aft, gd⟩ (mk sl rs) ⟨.rp (some hh) row, [], []⟩ :=
  sound_index_p (o' := some hh) rfl ht hk (by rw [evE_eq]; exact hx) ⟨r, hl⟩ (by rw [evE_eq]; exact hy) h0 hr
theorem sd_indexO {x y : Operand} {t e : TypeId} {k bt hh e' : Nat} {ag dp : Bool} {z : Value} {xs : List (List Dat)} {ik : IntKind} {n : Int} (ht : P.underlying t = some (.slice e)) (hk : tyOf P e = some (ag, k, bt, z)) (hx : evE sl x = .own hh) (hr : findO rs hh = some (.arr e' k dp xs)) (hy : evE sl y = .p none (.int ik n)) (h0 : 0 ≤ n) (hn : n < xs.length) : Sound P ⟨some d, .indexAddr t x y, ty, pos, aft, gd⟩ (mk sl rs) ⟨.ep hh k n.toNat 0, [], []⟩ :=
  sound_index_own rfl ht hk (by rw [evE_eq]; exact hx) hr (by rw [evE_eq]; exact hy) h0 hn
/-- Loads. -/
theorem sd_loadB {x : Operand} {t tb : TypeId} {n bt off hh : Nat} {z : Value} {cs vs : List AV} (ht : tyOf P t = some (true, n, bt, z)) (hx : evE sl x = .ptr hh off) (hr : findO rs hh = some (.box tb cs)) (hn : off + n ≤ cs.length) (hv : (cs.drop off).take n = vs) : Sound P ⟨some d, .load t x, ty, pos, aft, gd⟩ (mk sl rs) ⟨.agg vs, [], []⟩ :=
  by rw [← hv]; exact sound_load_box rfl ht (by rw [evE_eq]; exact hx) hr hn
theorem sd_loadB1 {x : Operand} {t tb : TypeId} {n bt off hh : Nat} {z : Value} {cs : List AV} {v : AV} (ht : tyOf P t = some (false, n, bt, z)) (hx : evE sl x = .ptr hh off) (hr : findO rs hh = some (.box tb cs)) (hv : cs[off]? = some v) : Sound P ⟨some d, .load t x, ty, pos, aft, gd⟩ (mk sl rs) ⟨v, [], []⟩ :=
  sound_load_box1 rfl ht (by rw [evE_eq]; exact hx) hr hv
theorem sd_loadR {x : Operand} {t : TypeId} {n bt : Nat} {z : Value} {xs : List Dat} {vs : List AV} (ht : tyOf P t = some (true, n, bt, z)) (hx : evE sl x = .rp none xs) (hn : n ≤ xs.length) (hv : (xs.take n).map (pOf none) = vs) : Sound P ⟨some d, .load t x, ty, pos, aft, gd⟩ (mk sl rs) ⟨.agg vs, [], []⟩ :=
  by rw [← hv]; exact sound_load_rp (o' := none) rfl ht (by rw [evE_eq]; exact hx) trivial hn
theorem sd_loadR1 {x : Operand} {t : TypeId} {n bt : Nat} {z : Value} {xs : List Dat} {y : Dat} {v : AV} (ht : tyOf P t = some (false, n, bt, z)) (hx : evE sl x = .rp none xs) (hy : xs[0]? = some y) (hv : pOf none y = v) : Sound P ⟨some d, .load t x, ty, pos, aft, gd⟩ (mk sl rs) ⟨v, [], []⟩ :=
  by rw [← hv]; exact sound_load_rp1 (o' := none) rfl ht (by rw [evE_eq]; exact hx) trivial hy
theorem sd_loadH1 {x : Operand} {t : TypeId} {n bt hh : Nat} {z : Value} {xs : List Dat} {y : Dat} {v : AV} {r : Rs} (ht : tyOf P t = some (false, n, bt, z)) (hx : evE sl x = .rp (some hh) xs) (hl : findO rs hh = some r) (hy : xs[0]? = some y) (hv : pOf (some hh) y = v) : Sound P ⟨some d, .load t x, ty, pos, aft, gd⟩ (mk sl rs) ⟨v, [], []⟩ :=
  by rw [← hv]; exact sound_load_rp1 (o' := some hh) rfl ht (by rw [evE_eq]; exact hx) ⟨r, hl⟩ hy
theorem sd_loadE {x : Operand} {t : TypeId} {n bt hh e k i off : Nat} {dp : Bool} {z : Value} {xs : List (List Dat)} {row : List Dat} {vs : List AV} (ht : tyOf P t = some (true, n, bt, z)) (hx : evE sl x = .ep hh k i off) (hr : findO rs hh = some (.arr e k dp xs)) (hi : xs[i]? = some row) (hn : off + n ≤ row.length) (hv : ((row.drop off).take n).map (pOf (if dp then some hh else none)) = vs) : Sound P ⟨some d, .load t x, ty, pos, aft, gd⟩ (mk sl rs) ⟨.agg vs, [], []⟩ :=
  by rw [← hv]; exact sound_load_ep rfl ht (by rw [evE_eq]; exact hx) hr hi hn
theorem sd_loadE1 {x : Operand} {t : TypeId} {n bt hh e k i off : Nat} {dp : Bool} {z : Value} {xs : List (List Dat)} {row : List Dat} {y : Dat} {v : AV} (ht : tyOf P t = some (false, n, bt, z)) (hx : evE sl x = .ep hh k i off) (hr : findO rs hh = some (.arr e k dp xs)) (hi : xs[i]? = some row) (hy : row[off]? = some y) (hv : pOf (if dp then some hh else none) y = v) : Sound P ⟨some d, .load t x, ty, pos, aft, gd⟩ (mk sl rs) ⟨v, [], []⟩ :=
  by rw [← hv]; exact sound_load_ep1 rfl ht (by rw [evE_eq]; exact hx) hr hi hy
/-- Memory made. -/
theorem sd_box {x : Operand} {t : TypeId} {cs : List AV} (hc : cell1 (mk sl rs) (evE sl x)) (hcs : cellsA (evE sl x) = cs) (hf : freshB sl rs (100 * d) = true) : Sound P ⟨some d, .box t x, ty, pos, aft, gd⟩ (mk sl rs) ⟨.ptr (100 * d) 0, [], [(100 * d, .box t cs)]⟩ :=
  by rw [← hcs, ← evE_eq sl rs]; exact sound_box rfl (by rw [evE_eq]; exact hc) (fresh_of hf)
theorem sd_alloc {t : TypeId} {ag : Bool} {n bt : Nat} {z : Value} {cs : List AV} (ht : tyOf P t = some (ag, n, bt, z)) (hcs : z.cells.toList.map avC = cs) (hf : freshB sl rs (100 * d) = true) : Sound P ⟨some d, .alloc t, ty, pos, aft, gd⟩ (mk sl rs) ⟨.ptr (100 * d) 0, [], [(100 * d, .box t cs)]⟩ :=
  by rw [← hcs]; exact sound_alloc rfl ht (fresh_of hf)
theorem sd_storeB {x y : Operand} {t tb : TypeId} {ag : Bool} {n bt off hh : Nat} {z : Value} {cs cs' : List AV} (ht : tyOf P t = some (ag, n, bt, z)) (hx : evE sl x = .ptr hh off) (hr : findO rs hh = some (.box tb cs)) (hc : cell1 (mk sl rs) (evE sl y)) (hn : (cellsA (evE sl y)).length = n) (hl : off + n ≤ cs.length) (hv : cs.take off ++ cellsA (evE sl y) ++ cs.drop (off + n) = cs') : Sound P ⟨none, .store t x y, ty, pos, aft, gd⟩ (mk sl rs) ⟨.no, [hh], [(hh, .box tb cs')]⟩ :=
  by rw [← hv, ← evE_eq sl rs]; exact sound_store_box rfl ht (by rw [evE_eq]; exact hx) hr (by rw [evE_eq]; exact hc) (by rw [evE_eq]; exact hn) hl
theorem sd_storeE {x y : Operand} {t : TypeId} {ag dp : Bool} {n bt off hh e k i : Nat} {z : Value} {xs xs' : List (List Dat)} {row ys : List Dat} {vs us : List Value} (ht : tyOf P t = some (ag, n, bt, z)) (hx : evE sl x = .ep hh k i off) (hr : findO rs hh = some (.arr e k dp xs)) (hi : xs[i]? = some row) (hrow : Flat row vs) (hy : cellsA (evE sl y) = ys.map (AV.p none)) (hys : Flat ys us) (hn : ys.length = n) (hl : off + n ≤ row.length)
    (hv : xs.set i (row.take off ++ ys ++ row.drop (off + n)) = xs') : Sound P ⟨none, .store t x y, ty, pos, aft, gd⟩ (mk sl rs) ⟨.no, [hh], [(hh, .arr e k dp xs')]⟩ :=
  by rw [← hv]; exact sound_store_ep rfl ht (by rw [evE_eq]; exact hx) hr hi hrow (by rw [evE_eq]; exact hy) hys hn hl
theorem sd_build {t : TypeId} {parts : Array (Nat × Operand)} {z : Value} {ps : List (Nat × Nat)} {cs : List AV} (ht : placesOf P t = some (z, ps)) (hc : ∀ q ∈ parts.toList, cell1 (mk sl rs) (evE sl q.2)) (hf : fillA (ps.toArray[·]?) (z.cells.toList.map avC) (parts.toList.map fun q => (q.1, evE sl q.2)) = some cs) : Sound P ⟨some d, .build t parts, ty, pos, aft, gd⟩ (mk sl rs) ⟨.agg cs, [], []⟩ :=
  sound_build rfl ht (fun q hq => by rw [evE_eq]; exact hc q hq) (by rw [← hf]; congr 1)
theorem sd_slice0 {t e : TypeId} {k bt : Nat} {ag : Bool} {z : Value} (ht : P.underlying t = some (.slice e)) (hk : tyOf P e = some (ag, k, bt, z)) (hf : freshB sl rs (100 * d) = true) : Sound P ⟨some d, .buildSlice t 0 #[], ty, pos, aft, gd⟩ (mk sl rs) ⟨.own (100 * d), [], [(100 * d, .arr e k true [])]⟩ :=
  sound_slice0 rfl ht hk (fresh_of hf)
theorem sd_sliceA {t e : TypeId} {len k bt : Nat} {ag : Bool} {z : Value} {parts : Array (Nat × Operand)} {rows : List (List Dat)} {css : List (List Value)} (ht : P.underlying t = some (.slice e)) (hk : tyOf P e = some (ag, k, bt, z)) (hs : len * k ≤ 16777216) (hp : 0 < len * k) (hc : ∀ q ∈ parts.toList, cell1 (mk sl rs) (evE sl q.2))
    (hf : fillA (fun i => some (i * k, k)) (List.replicate (len * k) AV.no) (parts.toList.map fun q => (q.1, evE sl q.2)) = some (rows.flatten.map (AV.p none))) (hfl : Flats rows css) (hrk : ∀ x ∈ rows, x.length = k) (hrl : rows.length = len) (hfr : freshB sl rs (100 * d) = true) : Sound P ⟨some d, .buildSlice t len parts, ty, pos, aft, gd⟩ (mk sl rs) ⟨.own (100 * d), [], [(100 * d, .arr e k true rows)]⟩ :=
  sound_sliceA rfl ht hk hs hp (fun q hq => by rw [evE_eq]; exact hc q hq) (by rw [← hf]; congr 1) (fresh_of hfr) hfl hrk hrl
theorem sd_bsl {t e : TypeId} {len k bt : Nat} {ag : Bool} {z : Value} {parts : Array (Nat × Operand)} {cs : List AV} (ht : P.underlying t = some (.slice e)) (hk : tyOf P e = some (ag, k, bt, z)) (hs : len * k ≤ 16777216) (hp : 0 < len * k) (hc : ∀ q ∈ parts.toList, cell1 (mk sl rs) (evE sl q.2))
    (hf : fillA (fun i => some (i * k, k)) (List.replicate (len * k) AV.no) (parts.toList.map fun q => (q.1, evE sl q.2)) = some cs) (hfr : freshB sl rs (100 * d) = true) (hm : (mentsL cs).contains (100 * d) = false) : Sound P ⟨some d, .buildSlice t len parts, ty, pos, aft, gd⟩ (mk sl rs) ⟨.bsl (100 * d) len, [], [(100 * d, .box e cs)]⟩ :=
  sound_bsl rfl ht hk hs hp (fun q hq => by rw [evE_eq]; exact hc q hq) (by rw [← hf]; congr 1) (fresh_of hfr) (by simpa using hm)
theorem sd_make {x y : Operand} {t e : TypeId} {k bt n : Nat} {ag : Bool} {z : Value} {kl kc : IntKind} {zr : List Dat} (ht : P.underlying t = some (.slice e)) (hk : tyOf P e = some (ag, k, bt, z)) (hx : evE sl x = .p none (.int kl n)) (hy : evE sl y = .p none (.int kc n)) (hz : ∀ w, OwCs w zr z.cells.toList []) (hn : bt * n ≤ 281474976710656) (hm : n ≤ maxLen) (hf : freshB sl rs (100 * d) = true) : Sound P ⟨some d, .makeSlice t x y, ty, pos, aft, gd⟩ (mk sl rs) ⟨.own (100 * d), [], [(100 * d, .arr e k true (List.replicate n zr))]⟩ :=
  sound_makeSlice rfl ht hk (by rw [evE_eq]; exact hx) (by rw [evE_eq]; exact hy) hz hn hm (fresh_of hf)
section
variable {s x : Operand} {t e : TypeId} {k bt : Nat} {ag : Bool} {z : Value} {del : List Nat} {dp : Bool} {xs ys : List (List Dat)}
theorem sd_appF {dss : List (List Value)} {zs : List (List Dat)} (ht : P.underlying t = some (.slice e)) (hk : tyOf P e = some (ag, k, bt, z)) (hpos : 0 < k) (htgt : TgtIs (mk sl rs) (evE sl s) del e k dp xs) (hsrc : FlatSrc (mk sl rs) (evE sl x) k ys) (hf : Flats ys dss) (hb : (xs.length + ys.length) * bt ≤ 140737488355328) (h63 : xs.length + ys.length ≤ maxLen) (hzs : xs ++ ys = zs) (hfr : freshB sl rs (100 * d) = true) : Sound P ⟨some d, .call { callee := .builtin .append, args := #[s, x], argTypes := #[t, t] }, ty, pos, aft, gd⟩ (mk sl rs) ⟨.own (100 * d), del, [(100 * d, .arr e k dp zs)]⟩ :=
  by rw [← hzs]; exact sound_app_flat rfl ht hk hpos (by rw [evE_eq]; exact htgt) (by rw [evE_eq]; exact hsrc) hf h63 hb (fresh_of hfr)
theorem sd_appR {zs : List (List Dat)} (ht : P.underlying t = some (.slice e)) (hk : tyOf P e = some (ag, k, bt, z)) (hpos : 0 < k) (htgt : TgtIs (mk sl rs) (evE sl s) del e k dp xs) (hdx : dp = false ∨ xs = []) (hsrc : RoSrc (mk sl rs) (evE sl x) k ys) (hb : (xs.length + ys.length) * bt ≤ 140737488355328) (h63 : xs.length + ys.length ≤ maxLen) (hzs : xs ++ ys = zs) (hfr : freshB sl rs (100 * d) = true) : Sound P ⟨some d, .call { callee := .builtin .append, args := #[s, x], argTypes := #[t, t] }, ty, pos, aft, gd⟩ (mk sl rs) ⟨.own (100 * d), del, [(100 * d, .arr e k false zs)]⟩ :=
  by rw [← hzs]; exact sound_app_ro rfl ht hk hpos (by rw [evE_eq]; exact htgt) hdx (by rw [evE_eq]; exact hsrc) h63 hb (fresh_of hfr)
theorem sd_appM {h2 : Nat} {e2 : TypeId} {cs : List AV} {row : List Dat} {hs : List Nat} {zs : List (List Dat)} (ht : P.underlying t = some (.slice e)) (hk : tyOf P e = some (ag, k, bt, z)) (hpos : 0 < k) (htgt : TgtIs (mk sl rs) (evE sl s) del e k dp xs) (hdx : dp = true ∨ xs = []) (hx : evE sl x = .bsl h2 1) (hr : findO rs h2 = some (.box e2 cs)) (hm : MoveC (mk sl rs) cs row hs) (hrow : row.length = k) (hnd : (del ++ hs).Nodup) (hb : (xs.length + 1) * bt ≤ 140737488355328) (h63 : xs.length + 1 ≤ maxLen) (hzs : xs ++ [row] = zs) (hfr : freshB sl rs (100 * d) = true) : Sound P ⟨some d, .call { callee := .builtin .append, args := #[s, x], argTypes := #[t, t] }, ty, pos, aft, gd⟩ (mk sl rs) ⟨.own (100 * d), (del ++ hs), [(100 * d, .arr e k true zs)]⟩ :=
  by rw [← hzs]; exact sound_app_move rfl ht hk hpos (by rw [evE_eq]; exact htgt) hdx (by rw [evE_eq]; exact hx) hr hm hrow hnd h63 hb (fresh_of hfr)
end
theorem sd_call {f : FuncId} {xs : Array Operand} {ts : Array TypeId} {ys : List Ar} {rv v : AV} {rr : List (Nat × Rs)} (hC : Con P f ys rv rr) (hx : AsArs (mk sl rs) (xs.toList.map (evE sl)) ys) (hcl : (closedA rv && rr.all fun q => deepR q.2) = true ∨ settledL (xs.toList.map (evE sl)) = true) (ha : (rr.all fun q => arrR q.2 && freshB sl rs (100 * d + q.1)) = true) (hmt : ((ments rv).all fun h => (findH rr h).isSome) = true) (hv : mapA (100 * d + ·) rv = v) : Sound P ⟨some d, .call { callee := .value (.func f), args := xs, argTypes := ts }, ty, pos, aft, gd⟩ (mk sl rs) ⟨v, [], rr.map fun q => (100 * d + q.1, q.2)⟩ := by
  have e : xs.toList.map (mk sl rs).ev = xs.toList.map (evE sl) := List.map_congr_left fun q _ => evE_eq sl rs q
  simp only [List.all_eq_true, Bool.and_eq_true] at ha hmt hcl
  rw [← hv]
  exact sound_call rfl hC (by rw [e]; exact hx) (by rw [e]; exact hcl) (fun q hq => (ha q hq).1) (fun q hq => fresh_of (ha q hq).2) (fun k hk => Option.isSome_iff_exists.1 (hmt k hk))
theorem asArs_nil {S : St} : AsArs S [] [] := rfl
theorem asArs_cons {S : St} {x : AV} {y : Ar} {xs : List AV} {ys : List Ar} (h : AsAr S x y) (h' : AsArs S xs ys) : AsArs S (x :: xs) (y :: ys) := ⟨y, ys, rfl, h, h'⟩
theorem asAr_p {S : St} {x : Dat} : AsAr S (.p none x) (.one x) := ⟨x, rfl, trivial, rfl⟩
theorem asAr_ph {h : Nat} {x : Dat} {r : Rs} (hr : findO rs h = some r) : AsAr (mk sl rs) (.p (some h) x) (.one x) := ⟨x, rfl, ⟨r, hr⟩, rfl⟩
theorem asAr_own {h e k : Nat} {dp : Bool} {xs : List (List Dat)} (hr : findO rs h = some (.arr e k dp xs)) : AsAr (mk sl rs) (.own h) (.one (.sl e k xs)) := ⟨_, rfl, e, k, dp, xs, hr, rfl⟩
theorem asAr_nil {S : St} {e k : Nat} : AsAr S .nil (.one (.sl e k [])) := ⟨_, rfl, e, k, rfl⟩
theorem asAr_agg {S : St} {cs : List AV} {ys : List Dat} (h : AsDs S cs ys) : AsAr S (.agg cs) (.agg ys) := ⟨ys, rfl, h⟩
theorem asDs_nil {S : St} : AsDs S [] [] := rfl
theorem asDs_cons {S : St} {x : AV} {y : Dat} {xs : List AV} {ys : List Dat} (h : AsD S x y) (h' : AsDs S xs ys) : AsDs S (x :: xs) (y :: ys) := ⟨y, ys, rfl, h, h'⟩
theorem asD_p {S : St} {x : Dat} : AsD S (.p none x) x := ⟨trivial, rfl⟩
theorem asD_ph {h : Nat} {x : Dat} {r : Rs} (hr : findO rs h = some r) : AsD (mk sl rs) (.p (some h) x) x := ⟨⟨r, hr⟩, rfl⟩
theorem asD_own {h e k : Nat} {dp : Bool} {xs : List (List Dat)} (hr : findO rs h = some (.arr e k dp xs)) : AsD (mk sl rs) (.own h) (.sl e k xs) := ⟨e, k, dp, xs, hr, rfl⟩
theorem asD_nil {S : St} {e k : Nat} : AsD S .nil (.sl e k []) := ⟨e, k, rfl⟩
def asD1 (rs : List (Nat × Option Rs)) : AV → Option Dat
  | .p none x => some x
  | .p (some h) x => match findO rs h with | some _ => some x | none => none
  | .own h => match findO rs h with | some (.arr e k _ xs) => some (.sl e k xs) | _ => none
  | _ => none
def asDsF (rs : List (Nat × Option Rs)) : List AV → Option (List Dat)
  | [] => some []
  | x :: xs => match asD1 rs x with | some y => (match asDsF rs xs with | some ys => some (y :: ys) | none => none) | none => none
def asArF (rs : List (Nat × Option Rs)) : AV → Option Ar
  | .agg cs => match asDsF rs cs with | some ys => some (.agg ys) | none => none
  | x => match asD1 rs x with | some y => some (.one y) | none => none
def asArsF (rs : List (Nat × Option Rs)) : List AV → Option (List Ar)
  | [] => some []
  | x :: xs => match asArF rs x with | some y => (match asArsF rs xs with | some ys => some (y :: ys) | none => none) | none => none
theorem asD1_ok {x : AV} {y : Dat} (h : asD1 rs x = some y) : AsD (mk sl rs) x y := by
  unfold asD1 at h
  split at h
  · injection h with h; subst h; exact asD_p
  · split at h
    · rename_i hr; injection h with h; subst h; exact asD_ph hr
    · cases h
  · split at h
    · rename_i hr; injection h with h; subst h; exact asD_own hr
    · cases h
  · cases h
theorem asDsF_ok : ∀ {xs : List AV} {ys : List Dat}, asDsF rs xs = some ys → AsDs (mk sl rs) xs ys
  | [], ys, h => by unfold asDsF at h; injection h with h; subst h; exact asDs_nil
  | x :: xs, ys, h => by
    unfold asDsF at h
    split at h
    · rename_i y hy
      split at h
      · rename_i zs hz
        injection h with h
        subst h
        exact asDs_cons (asD1_ok hy) (asDsF_ok hz)
      · cases h
    · cases h
theorem asArF_ok {x : AV} {y : Ar} (h : asArF rs x = some y) : AsAr (mk sl rs) x y := by
  unfold asArF at h
  split at h
  · split at h
    · rename_i hy; injection h with h; subst h; exact asAr_agg (asDsF_ok hy)
    · cases h
  · rename_i hna
    split at h
    · rename_i z hz
      injection h with h
      subst h
      have hd := asD1_ok (sl := sl) hz
      cases x with
      | agg cs => exact absurd rfl (hna cs)
      | _ => exact ⟨z, rfl, hd⟩
    · cases h
theorem asArsF_ok : ∀ {xs : List AV} {ys : List Ar}, asArsF rs xs = some ys → AsArs (mk sl rs) xs ys
  | [], ys, h => by unfold asArsF at h; injection h with h; subst h; exact asArs_nil
  | x :: xs, ys, h => by
    unfold asArsF at h
    split at h
    · rename_i y hy
      split at h
      · rename_i zs hz
        injection h with h
        subst h
        exact asArs_cons (asArF_ok hy) (asArsF_ok hz)
      · cases h
    · cases h
theorem sd_callF {f : FuncId} {xs : Array Operand} {ts : Array TypeId} {ys : List Ar} {rv v : AV} {rr : List (Nat × Rs)} (hx : asArsF rs (xs.toList.map (evE sl)) = some ys) (hC : Con P f ys rv rr) (hcl : (closedA rv && rr.all fun q => deepR q.2) = true ∨ settledL (xs.toList.map (evE sl)) = true) (ha : (rr.all fun q => arrR q.2 && freshB sl rs (100 * d + q.1)) = true) (hmt : ((ments rv).all fun h => (findH rr h).isSome) = true) (hv : mapA (100 * d + ·) rv = v) : Sound P ⟨some d, .call { callee := .value (.func f), args := xs, argTypes := ts }, ty, pos, aft, gd⟩ (mk sl rs) ⟨v, [], rr.map fun q => (100 * d + q.1, q.2)⟩ :=
  sd_call hC (asArsF_ok hx) hcl ha hmt hv
theorem VC_lit {id : Nat} {l : List Oper} {S : St} {Q : Exit → St → Prop} (h : Ops P N l.toArray l S (Q .normal)) : VC P N (.region id l.toArray false) S Q := VC_region (by simpa using h)
end

/- A step that is right at a part of a state is right at the whole; regions that draw their order. -/

section
variable {P : Program} {N : Nat}
theorem Chg.mono {U U' : Nat → Prop} {w w' : World} (h : Chg U w w') (hU : ∀ b, U b → U' b) : Chg U' w w' := ⟨h.os, h.tape, h.output, h.size, fun k hk hn => h.block k hk (fun hu => hn (hU k hu))⟩
theorem Sound.lift {o : Oper} {V S : St} {e : Eff} (hs : Sound P o V e) (h1 : ∀ t, V.slots t = .no ∨ S.slots t = V.slots t) (hV : ∀ h r, V.res h = some r → S.res h = some r)
    (hm1 : ∀ t h, h ∈ ments (V.slots t) → S.res h = V.res h) (hm2 : ∀ h0 r h, V.res h0 = some r → h ∈ mentsR r → S.res h = V.res h) (hm3 : ∀ h, h ∈ ments e.v → findH e.new h = none → S.res h = V.res h)
    (hm4 : ∀ k r h, findH e.new k = some r → h ∈ mentsR r → findH e.new h = none → S.res h = V.res h) (hnew : ∀ h r, findH e.new h = some r → ((∃ r', V.res h = some r') ∧ h ∈ e.del) ∨ Fresh S h) : Sound P o S e := by
  intro K φ A w0 N a w Q hd hG
  have hφ1 : ∀ h pl, (match V.res h with | some _ => φ h | none => none) = some pl → (∃ r, V.res h = some r) ∧ φ h = some pl := fun h pl e => by
    split at e
    · rename_i r hr; exact ⟨⟨r, hr⟩, e⟩
    · cases e
  have hφ1' : ∀ h r, V.res h = some r → (match V.res h with | some _ => φ h | none => none) = φ h := fun h r hr => by rw [hr]
  generalize hφ : (fun h => match V.res h with | some _ => φ h | none => none : Phi) = φ1
  have p1 : ∀ h pl, φ1 h = some pl → (∃ r, V.res h = some r) ∧ φ h = some pl := fun h pl e => hφ1 h pl (by rw [← hφ] at e; exact e)
  have p2 : ∀ h r, V.res h = some r → φ1 h = φ h := fun h r hr => by rw [← hφ]; exact hφ1' h r hr
  have p3 : ∀ h, V.res h = none → φ1 h = none := fun h hr => by rw [← hφ]; simp [hr]
  clear hφ1 hφ1' hφ
  have G1 : G K φ1 A w0 N V a w := by
    refine ⟨fun h r hr => ?_, p3, fun h h' pl pl' hne e e' => hG.disj h h' pl pl' hne (p1 h pl e).2 (p1 h' pl' e').2, fun h pl e => hG.nodup h pl (p1 h pl e).2, fun h pl e => hG.ge h pl (p1 h pl e).2, hG.kin, fun b hb h pl e => hG.kout b hb h pl (p1 h pl e).2, hG.aK, fun t => ?_, hG.bel, hG.nd, hG.size, fun h pl pl0 e => hG.pin h pl pl0 (p1 h pl e).2⟩
    · obtain ⟨pl, hp, hh⟩ := hG.dom h r (hV h r hr)
      exact ⟨pl, by rw [p2 h r hr]; exact hp, Holds.mono (fun _ _ => rfl) (fun _ h => h) (fun _ _ => rfl) r (fun h' pl' _ e => ⟨(p1 h' pl' e).2, fun _ _ => rfl⟩) hh⟩
    · rcases h1 t with e | e
      · rw [e]; unfold MatchV; trivial
      · rw [← e]; exact MatchV.mono (fun _ _ => rfl) (fun _ h => h) _ _ (fun h' pl' _ e => ⟨(p1 h' pl' e).2, fun _ _ => rfl⟩) (hG.slots t)
  refine Oper.wp_mono (fun a' w' ⟨K', φ', v, ha, G', tr⟩ => ?_) (hs K φ1 A w0 N a w Q hd G1)
  have hfoot : ∀ b, Foot φ1 (· ∈ e.del) b → Foot φ (· ∈ e.del) b := fun b ⟨h, pl, hc, hp, hb⟩ => ⟨h, pl, hc, (p1 h pl hp).2, hb⟩
  have hres : ∀ h, (V.apply o.dst e).res h = stepRes (· ∈ e.del) (findH e.new) V.res h := fun h => by unfold St.apply St.put; cases o.dst <;> rfl
  have hnewdom : ∀ h r, findH e.new h = some r → ∃ pl, φ' h = some pl ∧ Holds K' φ' w' pl r := fun h r hr => G'.dom h r (by rw [hres]; simp [stepRes, hr])
  have hφr : ∀ h pl, (if (findH e.new h).isSome then φ' h else none) = some pl → (∃ r, findH e.new h = some r) ∧ φ' h = some pl := fun h pl e' => by
    split at e'
    · rename_i hx; exact ⟨Option.isSome_iff_exists.1 hx, e'⟩
    · cases e'
  -- a handle that is named by what the step hands out is known alike to both
  have hsame : ∀ h pl, (findH e.new h = none → S.res h = V.res h) → stepPhi (· ∈ e.del) (fun h => if (findH e.new h).isSome then φ' h else none) φ h = some pl → φ' h = some pl := fun h pl hh e' => by
    rcases stepPhi_some e' with e' | ⟨e0, hc, e'⟩
    · exact (hφr h pl e').2
    · cases hx : findH e.new h with
      | some r =>
        obtain ⟨pl', hp', _⟩ := hnewdom h r hx
        simp [hx, hp'] at e0
      | none =>
        have hs' := hh hx
        cases hv : V.res h with
        | none => rw [hv] at hs'; rw [hG.non h hs'] at e'; cases e'
        | some r =>
          obtain ⟨pl', hp', _⟩ := G'.dom h r (by rw [hres]; simp [stepRes, hx, hc, hv])
          rcases tr.ph h pl' hp' with q | ⟨q, _⟩
          · rw [p2 h r hv, e'] at q
            injection q with q
            subst q; exact hp'
          · rw [p2 h r hv, e'] at q; cases q
  have hold : ∀ h pl, ¬ Fresh S h → (if (findH e.new h).isSome then φ' h else none) = some pl → φ h = some pl ∧ SameOn (· ∈ pl.sub) w w' := fun h pl hnf e' => by
    obtain ⟨⟨r, hr⟩, e'⟩ := hφr h pl e'
    rcases hnew h r hr with ⟨⟨r', hr'⟩, _⟩ | hf
    · rcases tr.ph h pl e' with q | ⟨q, _⟩
      · exact ⟨(p1 h pl q).2, tr.sub h pl e' q⟩
      · obtain ⟨pl0, hp0, _⟩ := G1.dom h r' hr'
        rw [q] at hp0; cases hp0
    · exact absurd hf hnf
  have hstep := hG.step (C := (· ∈ e.del)) (φr := fun h => if (findH e.new h).isSome then φ' h else none) (ρ := findH e.new) (K' := K') (w' := w')
    (tr.chg.mono hfoot)
    (fun h pl e' => by
      obtain ⟨⟨r, hr⟩, e'⟩ := hφr h pl e'
      refine ⟨G'.nodup h pl e', fun g hg => ⟨(G'.ge h pl e' g hg).2, ?_⟩⟩
      rcases tr.ph h pl e' with q | ⟨_, _, q⟩
      · rcases hnew h r hr with ⟨_, hdl⟩ | hf
        · exact .inr ⟨h, pl, hdl, (p1 h pl q).2, hg⟩
        · have := (p1 h pl q).2
          rw [hG.non h hf.2.2.1] at this; cases this
      · rcases q g hg with q | q
        · exact .inl q
        · exact .inr (hfoot g q))
    (fun h h' pl pl' hne e1 e2 => G'.disj h h' pl pl' hne (hφr h pl e1).2 (hφr h' pl' e2).2)
    (fun h r hr => by
      obtain ⟨pl, hp, hh⟩ := hnewdom h r hr
      exact ⟨pl, by simp [hr, hp], Holds.mono (fun _ _ => rfl) (fun _ h => h) (fun _ _ => rfl) r (fun h' pl' hm' e' => ⟨hsame h' pl' (hm4 h r h' hr hm') e', fun _ _ => rfl⟩) hh⟩)
    (fun h hr => by simp [hr])
    tr.kk
    (fun b hb => by
      rcases tr.kk' b hb with q | q
      · exact .inl q
      · refine .inr ⟨(G'.kin b hb).1, ?_, fun h pl e' => G'.kout b hb h pl (hφr h pl e').2⟩
        rcases q with q | q
        · exact .inl q
        · exact .inr (hfoot b q))
    (fun t h pl hm' e' => hold h pl (fun hf => hf.1 t hm') e')
    (fun h' r h pl _ hr hm' e' => hold h pl (fun hf => hf.2.1 h' r hr hm') e')
    (fun h pl e' => by
      obtain ⟨⟨r, hr⟩, e'⟩ := hφr h pl e'
      rcases hnew h r hr with ⟨⟨r', hr'⟩, _⟩ | hf
      · rcases tr.ph h pl e' with q | ⟨q, _⟩
        · exact .inl (p1 h pl q).2
        · obtain ⟨pl0, hp0, _⟩ := G1.dom h r' hr'
          rw [q] at hp0; cases hp0
      · exact .inr hf.2.2.2)
  refine ⟨K', stepPhi (· ∈ e.del) (fun h => if (findH e.new h).isSome then φ' h else none) φ, v, ha, ?_, ⟨tr.chg.mono hfoot, tr.kk, fun b hb => ?_, fun h pl e' => ?_, fun h pl e' e2 => ?_⟩⟩
  · have hsl : ∀ d, o.dst = some d → MatchV K' (stepPhi (· ∈ e.del) (fun h => if (findH e.new h).isSome then φ' h else none) φ) w' e.v v := fun d hdst => by
      have hsl := G'.slots d
      have h2 : (V.apply o.dst e).slots d = e.v := by rw [hdst]; simp [St.apply, St.put, upd]
      rw [h2, ha, hdst] at hsl
      simp only [Act.put] at hsl
      rw [Array.getD_eq_getD_getElem?, Array.getElem?_setIfInBounds_self_of_lt (by rw [hG.size]; exact hd d hdst)] at hsl
      exact MatchV.mono (K := K') (φ := φ') (w := w') (fun _ _ => rfl) (fun _ h => h) e.v v (fun h' pl' hm' e' => ⟨hsame h' pl' (hm3 h' hm') e', fun _ _ => rfl⟩) hsl
    rw [ha]
    cases hdst : o.dst with
    | none => exact hstep
    | some d => exact hstep.put (d := some d) (fun d' e' => by injection e' with e'; subst e'; exact hd d hdst) (hsl d hdst)
  · rcases tr.kk' b hb with q | q | q
    · exact .inl q
    · exact .inr (.inl q)
    · exact .inr (.inr (hfoot b q))
  · rcases stepPhi_some e' with e' | ⟨_, _, e'⟩
    · obtain ⟨⟨r, hr⟩, e'⟩ := hφr h pl e'
      rcases tr.ph h pl e' with q | ⟨q1, q2, q3⟩
      · exact .inl (p1 h pl q).2
      · rcases hnew h r hr with ⟨⟨r', hr'⟩, _⟩ | hf
        · obtain ⟨pl0, hp0, _⟩ := G1.dom h r' hr'
          rw [q1] at hp0; cases hp0
        · exact .inr ⟨hG.non h hf.2.2.1, q2, fun g hg => by rcases q3 g hg with q | q; exact .inl q; exact .inr (hfoot g q)⟩
    · exact .inl e'
  · rcases stepPhi_some e' with e' | ⟨_, hc, e'⟩
    · obtain ⟨⟨r, hr⟩, e3⟩ := hφr h pl e'
      exact (hold h pl (fun hf => by rw [hG.non h hf.2.2.1] at e2; cases e2) e').2
    · intro g hg
      exact (tr.chg.mono hfoot).block g (hG.ge h pl e' g (List.mem_append_right _ hg)).2 (fun ⟨h3, pl3, hc3, q3, hm3'⟩ => by
        by_cases ex : h = h3
        · subst ex; exact hc hc3
        · exact hG.disj h h3 pl pl3 ex e' q3 g (List.mem_append_right _ hg) hm3')
end

/- Regions that draw their order: one run in the text's order, and the look that any two operations that may change places are apart. -/

/-- One operation of a run: what it looks at, and what it does. -/
structure Rec where
  i : Nat
  o : Oper
  skip : Bool
  vs : List (Nat × AV)
  vr : List (Nat × Option Rs)
  e : Eff
/-- It looks at slots only (marked in vr). -/
def Rec.fr (r : Rec) : Bool := match r.vr with | [(99, none)] => true | _ => false
/-- Handles that it takes or writes. -/
def Rec.W (r : Rec) : List Nat := if r.skip then [] else r.e.del ++ r.e.new.map (·.1)
/-- Handles that are new. -/
def Rec.Nw (r : Rec) : List Nat := if r.skip then [] else (r.e.new.map (·.1)).filter fun h => !r.e.del.contains h
def Rec.M (r : Rec) : List Nat := if r.skip then [] else ments r.e.v ++ (r.e.new.map fun q => mentsR q.2).flatten
/-- Handles that it looks at or names. -/
def Rec.T (r : Rec) : List Nat := if r.skip || r.fr then [] else r.vr.map (·.1) ++ (r.vs.map fun q => ments q.2).flatten ++ (r.vr.map fun q => match q.2 with | some r => mentsR r | none => []).flatten ++ r.M
def Rec.gs (ops : Array Oper) (r : Rec) : List Nat := match r.o.guard with | some (j, _) => ((ops[j]?).bind (·.dst)).toList | none => []
def Rec.looks (ops : Array Oper) (r : Rec) : List Nat := r.vs.map (·.1) ++ r.gs ops
def Rec.next (r : Rec) (S : St) : St := if r.skip then S.put r.o.dst (.tup []) else S.apply r.o.dst r.e
def disjB (a b : List Nat) : Bool := a.all fun h => !b.contains h
theorem disjB_spec {a b : List Nat} (h : disjB a b = true) : ∀ x ∈ a, x ∉ b := by
  unfold disjB at h
  simp only [List.all_eq_true, Bool.not_eq_true', List.contains_eq_mem, decide_eq_false_iff_not] at h
  exact h
/-- x and y may change places. -/
def apartB (ops : Array Oper) (x y : Rec) : Bool :=
  disjB x.o.dst.toList (y.looks ops ++ y.o.dst.toList) && disjB y.o.dst.toList (x.looks ops) && disjB x.W (y.T ++ y.W) && disjB y.W x.T
/-- What x makes is not named by y. -/
def farB (x y : Rec) : Bool := disjB x.Nw (y.M ++ y.W)
def afterB (x y : Rec) : Bool := y.o.after.any fun e => e.on == x.i && Region.binds .any e
/-- The whole look: y comes behind x in the text. -/
def pairB (ops : Array Oper) (x y : Rec) : Bool := (afterB x y || (apartB ops x y && farB x y)) && farB y x
def looksB (ops : Array Oper) : List Rec → Bool
  | [] => true
  | x :: l => l.all (fun y => decide (x.i < y.i) && pairB ops x y) && x.o.after.all (fun e => !Region.binds .any e || decide (e.on < x.i)) && (x.skip || x.e.new.all fun q => !x.e.del.contains q.1 || (findO x.vr q.1).isSome) && looksB ops l

section
variable {P : Program} {N : Nat} {ops : Array Oper}
/-- Right at its view; or, if it looks at slots only, at all states that show these slots. -/
def SoundR (P : Program) (r : Rec) : Prop := (r.fr = false → Sound P r.o (mk r.vs r.vr) r.e) ∧ (r.fr = true → ∀ S : St, (∀ t ∈ r.vs.map (·.1), S.slots t = findS r.vs t) → Sound P r.o S r.e)
def Ok (P : Program) (N : Nat) (ops : Array Oper) (r : Rec) (S : St) : Prop :=
  ops[r.i]? = some r.o ∧ (∀ d, r.o.dst = some d → d < N) ∧
  (match r.o.guard with
    | none => r.skip = false
    | some (j, want) => ∃ d b, (ops[j]?).bind (·.dst) = some d ∧ d < N ∧ gvA (S.slots d) = some b ∧ r.skip = (b != some want)) ∧
  (r.skip = false → SoundR P r ∧ (∀ t ∈ r.vs.map (·.1), S.slots t = findS r.vs t) ∧ ∀ h ∈ r.T, S.res h = findO r.vr h)
def Runs (P : Program) (N : Nat) (ops : Array Oper) : List Rec → St → (St → Prop) → Prop
  | [], S, K => K S
  | r :: l, S, K => Ok P N ops r S ∧ Runs P N ops l (r.next S) K
theorem next_slot {r : Rec} {S : St} {t : Nat} (h : r.o.dst ≠ some t) : (r.next S).slots t = S.slots t := by
  unfold Rec.next
  have put : ∀ (S : St) v, (S.put r.o.dst v).slots t = S.slots t := fun S v => by
    cases hd : r.o.dst with
    | none => rfl
    | some d => simp only [St.put, upd]; rw [if_neg (fun e => h (by rw [hd, e]))]
  split
  · exact put S _
  · unfold St.apply; exact put _ _
theorem next_res {r : Rec} {S : St} {h : Nat} (hw : h ∉ r.W) : (r.next S).res h = S.res h := by
  unfold Rec.next
  have put : ∀ (S : St) v, (S.put r.o.dst v).res = S.res := fun S v => by cases r.o.dst <;> rfl
  split
  · rw [put]
  · rename_i hs
    unfold Rec.W at hw
    rw [if_neg hs] at hw
    simp only [List.mem_append, not_or] at hw
    unfold St.apply
    rw [put]
    simp only [stepRes]
    have : findH r.e.new h = none := by
      cases hf : findH r.e.new h with
      | none => rfl
      | some x => exact absurd (List.mem_map.2 ⟨_, mem_of_findH hf, rfl⟩) hw.2
    rw [this]
    simp [hw.1]
theorem Ok.swap {x y : Rec} {S : St} (h : Ok P N ops y (x.next S)) (hd : ∀ t ∈ x.o.dst.toList, t ∉ y.looks ops) (hw : ∀ k ∈ x.W, k ∉ y.T) : Ok P N ops y S := by
  have hsl : ∀ t ∈ y.looks ops, (x.next S).slots t = S.slots t := fun t ht => next_slot (fun e => hd t (by simp [e]) ht)
  obtain ⟨h1, h2, h3, h4⟩ := h
  refine ⟨h1, h2, ?_, fun hs => ?_⟩
  · split at h3
    · exact h3
    · rename_i j want hg
      obtain ⟨d, b, q1, q2, q3, q4⟩ := h3
      exact ⟨d, b, q1, q2, by rw [← q3]; exact congrArg gvA (hsl d (by simp [Rec.looks, Rec.gs, hg, q1])).symm, q4⟩
  · obtain ⟨q1, q2, q3⟩ := h4 hs
    exact ⟨q1, fun t ht => by rw [← q2 t ht]; exact (hsl t (by simp only [Rec.looks, List.mem_append]; exact .inl ht)).symm, fun k hk => by rw [← q3 k hk]; exact (next_res (fun e => hw k e hk)).symm⟩
theorem Ok.swap' {x y : Rec} {S : St} (h : Ok P N ops x S) (hd : ∀ t ∈ y.o.dst.toList, t ∉ x.looks ops) (hw : ∀ k ∈ y.W, k ∉ x.T) : Ok P N ops x (y.next S) := by
  have hsl : ∀ t ∈ x.looks ops, (y.next S).slots t = S.slots t := fun t ht => next_slot (fun e => hd t (by simp [e]) ht)
  obtain ⟨h1, h2, h3, h4⟩ := h
  refine ⟨h1, h2, ?_, fun hs => ?_⟩
  · split at h3
    · exact h3
    · rename_i j want hg
      obtain ⟨d, b, q1, q2, q3, q4⟩ := h3
      exact ⟨d, b, q1, q2, by rw [← q3]; exact congrArg gvA (hsl d (by simp [Rec.looks, Rec.gs, hg, q1])), q4⟩
  · obtain ⟨q1, q2, q3⟩ := h4 hs
    exact ⟨q1, fun t ht => by rw [← q2 t ht]; exact hsl t (by simp only [Rec.looks, List.mem_append]; exact .inl ht), fun k hk => by rw [← q3 k hk]; exact next_res (fun e => hw k e hk)⟩
def Rec.v (r : Rec) : AV := if r.skip then .tup [] else r.e.v
theorem next_slots (r : Rec) (S : St) : (r.next S).slots = match r.o.dst with | some d => upd S.slots d r.v | none => S.slots := by
  unfold Rec.next Rec.v
  split <;> cases r.o.dst <;> rfl
theorem next_resf (r : Rec) (S : St) : (r.next S).res = if r.skip then S.res else stepRes (· ∈ r.e.del) (findH r.e.new) S.res := by
  unfold Rec.next
  split <;> (try unfold St.apply) <;> cases r.o.dst <;> rfl
theorem St.ext' {S S' : St} (h1 : S.slots = S'.slots) (h2 : S.res = S'.res) : S = S' := by cases S; cases S'; simp_all
theorem next_comm {x y : Rec} {S : St} (hd : ∀ t ∈ x.o.dst.toList, t ∉ y.o.dst.toList) (hw : ∀ k ∈ x.W, k ∉ y.W) : y.next (x.next S) = x.next (y.next S) := by
  apply St.ext'
  · rw [next_slots, next_slots, next_slots, next_slots]
    cases hx : x.o.dst with
    | none => cases hy : y.o.dst <;> rfl
    | some dx =>
      cases hy : y.o.dst with
      | none => rfl
      | some dy =>
        have hne : dx ≠ dy := fun e => hd dx (by simp [hx]) (by simp [hy, e])
        funext t
        simp only [upd]
        by_cases h1 : t = dx
        · subst h1; simp [hne]
        · by_cases h2 : t = dy
          · subst h2; simp [h1]
          · simp [h1, h2]
  · funext h
    by_cases h1 : h ∈ x.W
    · have h2 := hw h h1
      rw [next_res h2]
      by_cases h3 : x.skip = true
      · unfold Rec.W at h1; simp [h3] at h1
      · rw [next_resf x, next_resf x, if_neg h3, if_neg h3]
        simp only [stepRes]
        rw [next_res h2]
    · rw [next_res (r := x) h1]
      by_cases h2 : h ∈ y.W
      · by_cases h3 : y.skip = true
        · unfold Rec.W at h2; simp [h3] at h2
        · rw [next_resf y, next_resf y, if_neg h3, if_neg h3]
          simp only [stepRes]
          rw [next_res h1]
      · rw [next_res h2, next_res h2, next_res h1]
theorem Runs.bubble {y : Rec} {l2 : List Rec} {K : St → Prop} : ∀ {l1 : List Rec} {S : St}, Runs P N ops (l1 ++ y :: l2) S K → (∀ x ∈ l1, apartB ops x y = true) → Ok P N ops y S ∧ Runs P N ops (l1 ++ l2) (y.next S) K
  | [], S, h, _ => h
  | x :: l1, S, h, ha => by
    obtain ⟨h1, h2⟩ := h
    obtain ⟨h3, h4⟩ := Runs.bubble h2 (fun z hz => ha z (by simp [hz]))
    have := ha x (by simp)
    simp only [apartB, Bool.and_eq_true] at this
    obtain ⟨⟨⟨q1, q2⟩, q3⟩, q4⟩ := this
    have q1 := disjB_spec q1
    have q2 := disjB_spec q2
    have q3 := disjB_spec q3
    have q4 := disjB_spec q4
    refine ⟨h3.swap (fun t ht hm => q1 t ht (List.mem_append_left _ hm)) (fun k hk hm => q3 k hk (List.mem_append_left _ hm)), h1.swap' q2 q4, ?_⟩
    rw [← next_comm (fun t ht hm => q1 t ht (List.mem_append_right _ hm)) (fun k hk hm => q3 k hk (List.mem_append_right _ hm))]
    exact h4
theorem Runs.bubble' {y : Rec} {l2 : List Rec} {K : St → Prop} : ∀ {l1 : List Rec} {S : St}, Runs P N ops (l1 ++ y :: l2) S K → ops[y.i]? = some y.o ∧ True
  | [], S, h => ⟨h.1.1, trivial⟩
  | x :: l1, S, h => Runs.bubble' h.2
theorem findS_key {l : List (Nat × AV)} {t : Nat} (h : findS l t ≠ .no) : t ∈ l.map (·.1) := by
  induction l with
  | nil => simp [findS] at h
  | cons q l ih =>
    obtain ⟨k, v⟩ := q
    simp only [findS] at h
    split at h
    · simp_all
    · simp [ih h]
theorem findS_ments {l : List (Nat × AV)} {t h : Nat} (hm : h ∈ ments (findS l t)) : h ∈ (l.map fun q => ments q.2).flatten := by
  induction l with
  | nil => simp [findS, ments] at hm
  | cons q l ih =>
    obtain ⟨k, v⟩ := q
    simp only [findS] at hm
    simp only [List.map_cons, List.flatten_cons, List.mem_append]
    split at hm
    · exact .inl hm
    · exact .inr (ih hm)
theorem findO_key {l : List (Nat × Option Rs)} {h : Nat} {r : Rs} (e : findO l h = some r) : h ∈ l.map (·.1) ∧ ∀ k ∈ mentsR r, k ∈ (l.map fun q => match q.2 with | some r => mentsR r | none => []).flatten := by
  induction l with
  | nil => simp [findO] at e
  | cons q l ih =>
    obtain ⟨k, v⟩ := q
    simp only [findO] at e
    split at e
    · subst e
      rename_i hk
      subst hk
      exact ⟨by simp, fun k hk => by simp [hk]⟩
    · obtain ⟨q1, q2⟩ := ih e
      exact ⟨by simp at q1 ⊢; exact .inr q1, fun k hk => by simp only [List.map_cons, List.flatten_cons, List.mem_append]; exact .inr (q2 k hk)⟩
theorem Ok.sound {r : Rec} {S : St} (h : Ok P N ops r S) (hs : r.skip = false) (hf : ∀ k ∈ r.Nw, Fresh S k) (hn : (r.e.new.all fun q => !r.e.del.contains q.1 || (findO r.vr q.1).isSome) = true) : Sound P r.o S r.e := by
  obtain ⟨_, _, _, h4⟩ := h
  obtain ⟨q1, q2, q3⟩ := h4 hs
  cases hfr : r.fr with
  | true => exact q1.2 hfr S q2
  | false =>
  replace q1 := q1.1 hfr
  have hT : ∀ k, k ∈ r.vr.map (·.1) ∨ k ∈ (r.vs.map fun q => ments q.2).flatten ∨ k ∈ (r.vr.map fun q => match q.2 with | some r => mentsR r | none => []).flatten ∨ k ∈ r.M → S.res k = findO r.vr k := fun k hk => q3 k (by
    unfold Rec.T
    rw [hs, hfr]
    simp only [Bool.or_self, Bool.false_eq_true, if_false, List.mem_append]
    rcases hk with hk | hk | hk | hk <;> simp [hk])
  have hM : ∀ k, k ∈ ments r.e.v ∨ k ∈ (r.e.new.map fun q => mentsR q.2).flatten → k ∈ r.M := fun k hk => by
    unfold Rec.M
    rw [hs]
    simp only [Bool.false_eq_true, if_false, List.mem_append]
    exact hk
  refine q1.lift (fun t => ?_) (fun k x hx => ?_) (fun t k hk => ?_) (fun k0 x k hx hk => ?_) (fun k hk _ => hT k (.inr (.inr (.inr (hM k (.inl hk)))))) (fun k x h' hx hk _ => ?_) (fun k x hx => ?_)
  · by_cases e : findS r.vs t = .no
    · exact .inl e
    · exact .inr (q2 t (findS_key e))
  · rw [hT k (.inl (findO_key hx).1)]; exact hx
  · exact hT k (.inr (.inl (findS_ments hk)))
  · exact hT k (.inr (.inr (.inl ((findO_key hx).2 k hk))))
  · exact hT h' (.inr (.inr (.inr (hM h' (.inr (List.mem_flatten.2 ⟨_, List.mem_map.2 ⟨_, mem_of_findH hx, rfl⟩, hk⟩))))))
  · by_cases e : k ∈ r.e.del
    · refine .inl ⟨?_, e⟩
      have := List.all_eq_true.1 hn _ (mem_of_findH hx)
      simp only [List.contains_eq_mem, e, decide_true, Bool.not_true, Bool.false_or] at this
      exact Option.isSome_iff_exists.1 this
    · exact .inr (hf k (by
        unfold Rec.Nw
        rw [hs]
        simp only [Bool.false_eq_true, if_false, List.mem_filter, List.contains_eq_mem, e, decide_false, Bool.not_false, and_true]
        exact List.mem_map.2 ⟨_, mem_of_findH hx, rfl⟩))
theorem Fresh.next {r : Rec} {S : St} {k : Nat} (hf : Fresh S k) (h : k ∉ r.M ++ r.W) : Fresh (r.next S) k := by
  simp only [List.mem_append, not_or] at h
  refine ⟨fun t ht => ?_, fun h' x hx hm => ?_, by rw [next_res h.2]; exact hf.2.2.1, hf.2.2.2⟩
  · rw [next_slots] at ht
    have hv : k ∉ ments r.v := fun hm => by
      unfold Rec.v at hm
      split at hm
      · simp [ments, mentsL] at hm
      · rename_i hs
        exact h.1 (by unfold Rec.M; rw [if_neg hs]; exact List.mem_append_left _ hm)
    cases hd : r.o.dst with
    | none => rw [hd] at ht; exact hf.1 t ht
    | some d =>
      rw [hd] at ht
      simp only [upd] at ht
      by_cases e : t = d
      · rw [if_pos e] at ht; exact hv ht
      · rw [if_neg e] at ht; exact hf.1 t ht
  · rw [next_resf] at hx
    split at hx
    · exact hf.2.1 h' x hx hm
    · rename_i hs
      simp only [stepRes] at hx
      split at hx
      · rename_i y hy
        injection hx with hx
        subst hx
        exact h.1 (by unfold Rec.M; rw [if_neg hs]; exact List.mem_append_right _ (List.mem_flatten.2 ⟨_, List.mem_map.2 ⟨_, mem_of_findH hy, rfl⟩, hm⟩))
      · split at hx
        · cases hx
        · exact hf.2.1 h' x hx hm
theorem looksB_split {ops : Array Oper} {y : Rec} {l2 : List Rec} : ∀ {l1 : List Rec}, looksB ops (l1 ++ y :: l2) = true → looksB ops (l1 ++ l2) = true ∧ (∀ x ∈ l1, x.i < y.i ∧ pairB ops x y = true) ∧ (∀ z ∈ l2, y.i < z.i ∧ pairB ops y z = true) ∧ (y.skip || y.e.new.all fun q => !y.e.del.contains q.1 || (findO y.vr q.1).isSome) = true
  | [], h => by
    simp only [List.nil_append, looksB, Bool.and_eq_true, List.all_eq_true, decide_eq_true_eq] at h
    obtain ⟨⟨⟨h1, h2⟩, h3⟩, h4⟩ := h
    exact ⟨h4, by simp, h1, h3⟩
  | x :: l1, h => by
    simp only [List.cons_append, looksB, Bool.and_eq_true] at h
    obtain ⟨⟨⟨h1, h2⟩, h3⟩, h4⟩ := h
    obtain ⟨q1, q2, q3, q4⟩ := looksB_split h4
    rw [List.all_eq_true] at h1
    have hy := h1 y (by simp)
    simp only [Bool.and_eq_true, decide_eq_true_eq] at hy
    refine ⟨?_, fun z hz => ?_, q3, q4⟩
    · simp only [List.cons_append, looksB, Bool.and_eq_true]
      refine ⟨⟨⟨List.all_eq_true.2 fun z hz => h1 z ?_, h2⟩, h3⟩, q1⟩
      simp only [List.mem_append, List.mem_cons] at hz ⊢
      rcases hz with hz | hz <;> simp [hz]
    · rcases List.mem_cons.1 hz with rfl | hz
      · exact hy
      · exact q2 z hz
/-- Whatever the order. -/
theorem any_sound {Qw : Exit → Act → World → Prop} {A : Nat → Prop} {w0 : Org} {Kn : St → Prop} (hQ : ∀ S a w, Kn S → Gam A w0 N S a w → Qw .normal a w) : ∀ (fuel : Nat) (l : List Rec) (listed : Array Bool) (S : St) (a : Act) (w : World), l.length ≤ fuel → Runs P N ops l S Kn → looksB ops l = true →
    (∀ i, i < ops.size → (listed.getD i true = false ↔ ∃ r ∈ l, r.i = i)) → (∀ i, i < ops.size → listed.getD i false = listed.getD i true) → (∀ r ∈ l, r.i < ops.size) → (∀ r ∈ l, ∀ k ∈ r.Nw, Fresh S k) → Gam A w0 N S a w → wpAny P .any ops Qw fuel listed a w := by
  intro fuel
  induction fuel with
  | zero =>
    intro l listed S a w hl hr hlk hli hli2 hsz hf hG
    have : l = [] := List.eq_nil_of_length_eq_zero (by omega)
    subst this
    refine ⟨?_, hQ S a w hr hG⟩
    unfold Region.ready
    rw [List.filter_eq_nil_iff]
    intro i hi hc
    simp only [Bool.and_eq_true, Bool.not_eq_true'] at hc
    obtain ⟨r, hr, _⟩ := (hli i (List.mem_range.1 hi)).1 hc.1
    simp at hr
  | succ fuel ih =>
    intro l listed S a w hl hr hlk hli hli2 hsz hf hG
    refine ⟨fun hnil => ?_, fun i hi => ?_⟩
    · rcases l with _ | ⟨r, l⟩
      · exact hQ S a w hr hG
      · exfalso
        have hrd : r.i ∈ Region.ready .any ops listed := by
          rw [mem_ready]
          have hsr := hsz r (by simp)
          refine ⟨(hli r.i hsr).2 ⟨r, by simp, rfl⟩, r.o, hr.1.1, fun e he hb => ?_⟩
          simp only [looksB, Bool.and_eq_true, List.all_eq_true, decide_eq_true_eq] at hlk
          obtain ⟨⟨⟨h1, h2⟩, _⟩, _⟩ := hlk
          have h2' := Array.all_eq_true_iff_forall_mem.1 h2 e he
          simp only [hb, Bool.not_true, Bool.false_or, decide_eq_true_eq] at h2'
          rw [hli2 e.on (by omega)]
          cases hx : listed.getD e.on true with
          | true => rfl
          | false =>
            obtain ⟨z, hz, hzi⟩ := (hli e.on (by omega)).1 hx
            rcases List.mem_cons.1 hz with rfl | hz
            · omega
            · have := (h1 z hz).1; omega
        rw [hnil] at hrd
        simp at hrd
    · rw [mem_ready] at hi
      obtain ⟨hi1, o, ho, hdep⟩ := hi
      have hsi : i < ops.size := (Array.getElem?_eq_some_iff.1 ho).1
      obtain ⟨y, hy, rfl⟩ := (hli i hsi).1 hi1
      obtain ⟨l1, l2, rfl⟩ := List.append_of_mem hy
      obtain ⟨k1, k2, k3, k4⟩ := looksB_split hlk
      have hna : ∀ x ∈ l1, afterB x y = false := fun x hx => by
        cases hc : afterB x y with
        | false => rfl
        | true =>
          exfalso
          unfold afterB at hc
          rw [Array.any_eq_true] at hc
          obtain ⟨j, hj, hc⟩ := hc
          simp only [Bool.and_eq_true, beq_iff_eq] at hc
          have hyo := (Runs.bubble' hr).1
          rw [hyo] at ho
          injection ho with ho
          subst ho
          have h1 := hdep _ (Array.getElem_mem hj) hc.2
          rw [hc.1] at h1
          have hxs := hsz x (by simp [hx])
          rw [hli2 x.i hxs] at h1
          have := (hli x.i hxs).2 ⟨x, by simp [hx], rfl⟩
          rw [h1] at this; cases this
      have hap : ∀ x ∈ l1, apartB ops x y = true := fun x hx => by
        have := (k2 x hx).2
        simp only [pairB, hna x hx, Bool.false_or, Bool.and_eq_true] at this
        exact this.1.1
      obtain ⟨hok, hrest⟩ := Runs.bubble hr hap
      have hfr : ∀ x ∈ l1 ++ l2, ∀ k ∈ x.Nw, Fresh (y.next S) k := fun x hx k hk => by
        have hfx := hf x (by simp only [List.mem_append, List.mem_cons] at hx ⊢; rcases hx with hx | hx <;> simp [hx]) k hk
        refine hfx.next ?_
        rcases List.mem_append.1 hx with hx | hx
        · have := (k2 x hx).2
          simp only [pairB, hna x hx, Bool.false_or, Bool.and_eq_true] at this
          exact disjB_spec this.1.2 k hk
        · have := (k3 x hx).2
          simp only [pairB, Bool.and_eq_true] at this
          exact disjB_spec this.2 k hk
      have hgo : ∀ (a' : Act) (w' : World), Gam A w0 N (y.next S) a' w' → wpAny P .any ops Qw fuel (listed.setIfInBounds y.i true) a' w' := fun a' w' hG' => by
        have hne : ∀ x ∈ l1 ++ l2, x.i ≠ y.i := fun x hx => by
          rcases List.mem_append.1 hx with hx | hx
          · have := (k2 x hx).1; omega
          · have := (k3 x hx).1; omega
        have hls : y.i < listed.size := by
          rcases Nat.lt_or_ge y.i listed.size with h | h
          · exact h
          · rw [Array.getD_eq_getD_getElem?, Array.getElem?_eq_none h] at hi1; simp at hi1
        refine ih (l1 ++ l2) _ _ a' w' (by simp at hl ⊢; omega) hrest k1 (fun i hi => ?_) (fun i hi => ?_) (fun r hr => hsz r (by simp only [List.mem_append, List.mem_cons] at hr ⊢; rcases hr with hr | hr <;> simp [hr])) hfr hG'
        · by_cases e : y.i = i
          · subst e
            rw [Array.getD_eq_getD_getElem?, Array.getElem?_setIfInBounds_self_of_lt hls]
            simp only [Option.getD_some, Bool.true_eq_false, false_iff, not_exists, not_and]
            exact fun x hx => hne x hx
          · rw [getD_set_ne true e, hli i hi]
            constructor
            · rintro ⟨r, hr, rfl⟩
              refine ⟨r, ?_, rfl⟩
              simp only [List.mem_append, List.mem_cons] at hr ⊢
              rcases hr with hr | hr | hr
              · exact .inl hr
              · subst hr; exact absurd rfl e
              · exact .inr hr
            · rintro ⟨r, hr, rfl⟩
              refine ⟨r, ?_, rfl⟩
              simp only [List.mem_append, List.mem_cons] at hr ⊢
              rcases hr with hr | hr <;> simp [hr]
        · by_cases e : y.i = i
          · subst e
            rw [Array.getD_eq_getD_getElem?, Array.getD_eq_getD_getElem?, Array.getElem?_setIfInBounds_self_of_lt hls]
            rfl
          · rw [getD_set_ne true e, getD_set_ne false e, hli2 i hi]
      obtain ⟨K, φ, hG⟩ := hG
      have hok' := hok
      obtain ⟨o1, o2, o3, o4⟩ := hok'
      unfold wpOp
      rw [o1]
      simp only
      have exec : y.skip = false → y.o.wp P a w (wpAny P .any ops Qw fuel (listed.setIfInBounds y.i true)) Qw := fun hs => by
        have hn : (y.e.new.all fun q => !y.e.del.contains q.1 || (findO y.vr q.1).isSome) = true := by simpa [hs] using k4
        have := hok.sound hs (hf y (by simp)) hn
        refine Oper.wp_mono (fun a' w' ⟨K', φ', v, _, hG', _⟩ => hgo a' w' ⟨K', φ', ?_⟩) (this K φ A w0 N a w Qw o2 hG)
        unfold Rec.next
        rw [hs]
        exact hG'
      split at o3
      · rename_i hg
        rw [if_pos (by simp [Region.wanted, hg])]
        exact .inl (exec o3)
      · rename_i j want hg
        obtain ⟨d, b, q1, q2, q3, q4⟩ := o3
        rw [wanted_of hG hg q1 q2 q3]
        by_cases hb : b = some want
        · rw [if_pos (by simp [hb])]
          exact .inl (exec (by rw [q4]; simp [hb]))
        · rw [if_neg (by simp [hb])]
          refine hgo _ w ⟨K, φ, ?_⟩
          unfold Rec.next
          rw [if_pos (by rw [q4]; simp [hb])]
          exact hG.put o2 (undef_match _ _ _)
end

/- A run of a region that draws its order, written down operation by operation. -/

def viewL (sl : List (Nat × AV)) : List Operand → List (Nat × AV)
  | .tmp t :: l => (t, findS sl t) :: viewL sl l
  | _ :: l => viewL sl l
  | [] => []
def opL : Op → List Operand
  | .move x | .assign x | .box _ x | .load _ x | .nilCheck x | .unOp _ _ x | .convert _ _ x | .fieldAddr _ x _ | .field _ x _ | .extract x _ => [x]
  | .pick c a b => [c, a, b]
  | .build _ ps | .buildSlice _ _ ps => ps.toList.map (·.2)
  | .store _ a v | .binOp _ _ a v _ | .makeSlice _ a v | .indexAddr _ a v | .index _ a v => [a, v]
  | .call c => (match c.callee with | .value f => f :: c.args.toList | _ => c.args.toList)
  | .slice _ x l h m => x :: (l.toList ++ h.toList ++ m.toList)
  | _ => []
def viewS (o : Op) (sl : List (Nat × AV)) : List (Nat × AV) := viewL sl (opL o)
def mentsO (rs : List (Nat × Option Rs)) (l : List Nat) : List Nat := l.flatMap fun h => match findO rs h with | some r => mentsR r | none => []
def viewR (o : Op) (sl : List (Nat × AV)) (rs : List (Nat × Option Rs)) : List (Nat × Option Rs) :=
  let m0 := (viewS o sl).flatMap fun q => ments q.2
  let m1 := mentsO rs m0
  (m0 ++ m1 ++ mentsO rs m1).map fun h => (h, findO rs h)
theorem findS_viewL (sl : List (Nat × AV)) : ∀ (l : List Operand) (t : Nat), t ∈ (viewL sl l).map (·.1) → findS (viewL sl l) t = findS sl t
  | [], t, h => by simp [viewL] at h
  | .tmp u :: l, t, h => by
    simp only [viewL, List.map_cons, List.mem_cons, findS] at h ⊢
    by_cases e : t = u
    · simp [e]
    · rw [if_neg e]; exact findS_viewL sl l t (h.resolve_left e)
  | .const _ :: l, t, h => findS_viewL sl l t h
  | .func _ :: l, t, h => findS_viewL sl l t h
  | .global _ :: l, t, h => findS_viewL sl l t h
theorem findO_map (rs : List (Nat × Option Rs)) : ∀ (l : List Nat) (h : Nat), findO (l.map fun k => (k, findO rs k)) h = if h ∈ l then findO rs h else none
  | [], h => by simp [findO]
  | k :: l, h => by
    simp only [List.map_cons, findO, findO_map rs l h]
    by_cases e : h = k <;> simp [e]

section
variable {P : Program} {N : Nat} {all : Array Oper}
def recOf (i : Nat) (o : Oper) (sl : List (Nat × AV)) (rs : List (Nat × Option Rs)) (v : AV) (del : List Nat) (new : List (Nat × Rs)) : Rec := ⟨i, o, false, viewS o.op sl, viewR o.op sl rs, ⟨v, del, new⟩⟩
def recF (i : Nat) (o : Oper) (sl : List (Nat × AV)) (v : AV) : Rec := ⟨i, o, false, viewS o.op sl, [(99, none)], ⟨v, [], []⟩⟩
def tOk (r : Rec) (rs : List (Nat × Option Rs)) : Bool := !r.fr && r.T.all fun h => (r.vr.map (·.1)).contains h || (findO rs h).isNone
def putS (sl : List (Nat × AV)) : Option Nat → AV → List (Nat × AV)
  | some d, v => (d, v) :: sl
  | none, _ => sl
def DOps (P : Program) (N : Nat) (all : Array Oper) : Nat → List Oper → List (Nat × AV) → List (Nat × Option Rs) → List Rec → (St → List Rec → Prop) → Prop
  | i, [], sl, rs, acc, K => K (mk sl rs) acc.reverse
  | i, o :: rest, sl, rs, acc, K => all[i]? = some o ∧ (∀ d, o.dst = some d → d < N) ∧ match o.guard with
    | none => (∃ v del new, Sound P o (mk (viewS o.op sl) (viewR o.op sl rs)) ⟨v, del, new⟩ ∧ tOk (recOf i o sl rs v del new) rs = true ∧ DOps P N all (i + 1) rest (putS sl o.dst v) (newL new ++ (goneL del ++ rs)) (recOf i o sl rs v del new :: acc) K) ∨
      (∃ v, SoundR P (recF i o sl v) ∧ DOps P N all (i + 1) rest (putS sl o.dst v) rs (recF i o sl v :: acc) K)
    | some (j, want) => ∃ d b, (all[j]?).bind (·.dst) = some d ∧ d < N ∧ gvA (findS sl d) = some b ∧
      (b = some want → (∃ v del new, Sound P o (mk (viewS o.op sl) (viewR o.op sl rs)) ⟨v, del, new⟩ ∧ tOk (recOf i o sl rs v del new) rs = true ∧ DOps P N all (i + 1) rest (putS sl o.dst v) (newL new ++ (goneL del ++ rs)) (recOf i o sl rs v del new :: acc) K) ∨
        (∃ v, SoundR P (recF i o sl v) ∧ DOps P N all (i + 1) rest (putS sl o.dst v) rs (recF i o sl v :: acc) K)) ∧
      (b ≠ some want → DOps P N all (i + 1) rest (putS sl o.dst (.tup [])) rs (⟨i, o, true, [], [], ⟨.no, [], []⟩⟩ :: acc) K)
theorem mk_applyO (sl : List (Nat × AV)) (rs : List (Nat × Option Rs)) (d : Option Nat) (v : AV) (del : List Nat) (new : List (Nat × Rs)) : (mk sl rs).apply d ⟨v, del, new⟩ = mk (putS sl d v) (newL new ++ (goneL del ++ rs)) := by
  cases d with
  | none => exact mk_apply0 sl rs v del new
  | some d => exact mk_apply sl rs d v del new
theorem mk_putO (sl : List (Nat × AV)) (rs : List (Nat × Option Rs)) (d : Option Nat) (v : AV) : (mk sl rs).put d v = mk (putS sl d v) rs := by
  cases d with
  | none => rfl
  | some d => exact mk_put sl rs d v
theorem dops_runs {K : St → List Rec → Prop} : ∀ (l : List Oper) (i : Nat) (sl : List (Nat × AV)) (rs : List (Nat × Option Rs)) (acc : List Rec), DOps P N all i l sl rs acc K →
    ∃ recs S', Runs P N all recs (mk sl rs) (fun S => S = S') ∧ K S' (acc.reverse ++ recs) ∧ recs.map (·.i) = List.range' i l.length
  | [], i, sl, rs, acc, h => ⟨[], mk sl rs, rfl, by simpa [DOps] using h, by simp⟩
  | o :: rest, i, sl, rs, acc, h => by
    unfold DOps at h
    obtain ⟨hi, hd, h⟩ := h
    have exec : (match o.guard with | none => True | some (j, want) => ∃ d, (all[j]?).bind (·.dst) = some d ∧ d < N ∧ gvA (findS sl d) = some (some want)) → (∃ v del new, Sound P o (mk (viewS o.op sl) (viewR o.op sl rs)) ⟨v, del, new⟩ ∧ tOk (recOf i o sl rs v del new) rs = true ∧ DOps P N all (i + 1) rest (putS sl o.dst v) (newL new ++ (goneL del ++ rs)) (recOf i o sl rs v del new :: acc) K) →
        ∃ recs S', Runs P N all recs (mk sl rs) (fun S => S = S') ∧ K S' (acc.reverse ++ recs) ∧ recs.map (·.i) = List.range' i (o :: rest).length := by
      rintro hg ⟨v, del, new, hs, ht, hrest⟩
      obtain ⟨recs, S', h1, h2, h3⟩ := dops_runs rest (i + 1) _ _ _ hrest
      unfold tOk at ht
      rw [Bool.and_eq_true, Bool.not_eq_true'] at ht
      obtain ⟨hfr, ht⟩ := ht
      refine ⟨recOf i o sl rs v del new :: recs, S', ⟨⟨hi, hd, ?_, fun _ => ⟨⟨fun _ => hs, fun e => by rw [hfr] at e; cases e⟩, fun t ht => ?_, fun k hk => ?_⟩⟩, ?_⟩, by simpa using h2, by simp [h3, recOf, List.range'_succ]⟩
      · cases hgd : o.guard with
        | none => simp [recOf, hgd]
        | some q =>
          obtain ⟨j, want⟩ := q
          rw [hgd] at hg
          obtain ⟨d, q1, q2, q3⟩ := hg
          simp only [recOf, hgd]
          exact ⟨d, some want, q1, q2, q3, by simp⟩
      · exact (findS_viewL sl _ t ht).symm
      · have := List.all_eq_true.1 ht k hk
        simp only [Bool.or_eq_true, List.contains_eq_mem, decide_eq_true_eq] at this
        simp only [recOf, viewR, List.map_map] at this ⊢
        rw [findO_map]
        split
        · rfl
        · rename_i hn
          rcases this with q | q
          · exact absurd (by simpa [Function.comp_def] using q) hn
          · show findO rs k = none
            simpa using q
      · unfold Rec.next
        simp only [recOf, Bool.false_eq_true, if_false]
        rw [mk_applyO]
        exact h1
    have execF : (match o.guard with | none => True | some (j, want) => ∃ d, (all[j]?).bind (·.dst) = some d ∧ d < N ∧ gvA (findS sl d) = some (some want)) → (∃ v, SoundR P (recF i o sl v) ∧ DOps P N all (i + 1) rest (putS sl o.dst v) rs (recF i o sl v :: acc) K) →
        ∃ recs S', Runs P N all recs (mk sl rs) (fun S => S = S') ∧ K S' (acc.reverse ++ recs) ∧ recs.map (·.i) = List.range' i (o :: rest).length := by
      rintro hg ⟨v, hs, hrest⟩
      obtain ⟨recs, S', h1, h2, h3⟩ := dops_runs rest (i + 1) _ _ _ hrest
      refine ⟨recF i o sl v :: recs, S', ⟨⟨hi, hd, ?_, fun _ => ⟨hs, fun t ht => ?_, fun k hk => ?_⟩⟩, ?_⟩, by simpa using h2, by simp [h3, recF, List.range'_succ]⟩
      · cases hgd : o.guard with
        | none => simp [recF, hgd]
        | some q =>
          obtain ⟨j, want⟩ := q
          rw [hgd] at hg
          obtain ⟨d, q1, q2, q3⟩ := hg
          simp only [recF, hgd]
          exact ⟨d, some want, q1, q2, q3, by simp⟩
      · exact (findS_viewL sl _ t ht).symm
      · simp [Rec.T, Rec.fr, recF] at hk
      · unfold Rec.next
        simp only [recF, Bool.false_eq_true, if_false]
        rw [mk_applyO]
        exact h1
    split at h
    · rename_i hg
      exact h.elim (exec (by rw [hg]; trivial)) (execF (by rw [hg]; trivial))
    · rename_i j want hg
      obtain ⟨d, b, q1, q2, q3, q4, q5⟩ := h
      by_cases hb : b = some want
      · exact (q4 hb).elim (exec (by rw [hg]; exact ⟨d, q1, q2, by rw [q3, hb]⟩)) (execF (by rw [hg]; exact ⟨d, q1, q2, by rw [q3, hb]⟩))
      · obtain ⟨recs, S', h1, h2, h3⟩ := dops_runs rest (i + 1) _ _ _ (q5 hb)
        refine ⟨⟨i, o, true, [], [], ⟨.no, [], []⟩⟩ :: recs, S', ⟨⟨hi, hd, ?_, fun e => by cases e⟩, ?_⟩, by simpa using h2, by simp [h3, List.range'_succ]⟩
        · simp only [hg]
          exact ⟨d, b, q1, q2, q3, by simp [hb]⟩
        · unfold Rec.next
          simp only [if_true]
          rw [mk_putO]
          exact h1
theorem Gam.drew {A : Nat → Prop} {w0 : Org} {S : St} {a : Act} {w : World} (h : Gam A w0 N S a w) : Gam A w0 N S a { w with drawn := w.drawn + 1 } := by
  obtain ⟨K, φ, hG⟩ := h
  have hs : ∀ (B : Nat → Prop), SameOn B w { w with drawn := w.drawn + 1 } := fun _ _ _ => rfl
  refine ⟨K, φ, fun h r hr => ?_, hG.non, hG.disj, hG.nodup, hG.ge, hG.kin, hG.kout, hG.aK, fun t => MatchV.mono (hs _) (fun _ h => h) _ _ (fun h pl _ e => ⟨e, hs _⟩) (hG.slots t), ⟨hG.bel.os, hG.bel.tape, hG.bel.output, hG.bel.size, hG.bel.block⟩, hG.nd, hG.size, hG.pin⟩
  obtain ⟨pl, hp, hh⟩ := hG.dom h r hr
  exact ⟨pl, hp, Holds.mono (hs _) (fun _ h => h) (fun _ _ => rfl) r (fun h pl _ e => ⟨e, hs _⟩) hh⟩
/-- The look at the end of a drawn region's run. -/
def endOk (all : Array Oper) (sl : List (Nat × AV)) (rs : List (Nat × Option Rs)) (recs : List Rec) : Bool := looksB all recs && recs.all fun r => r.Nw.all fun k => freshB sl rs k
theorem VC_drawn {id : Nat} {l : List Oper} {sl : List (Nat × AV)} {rs : List (Nat × Option Rs)} {Q : Exit → St → Prop} (hm : P.follows .mixedOrders = true) (h : DOps P N l.toArray 0 l sl rs [] (fun S recs => endOk l.toArray sl rs recs = true ∧ Q .normal S)) : VC P N (.region id l.toArray true) (mk sl rs) Q := by
  intro A w0 a w hG
  obtain ⟨recs, S', h1, ⟨h2, h3⟩, h4⟩ := dops_runs l 0 sl rs [] h
  simp only [List.reverse_nil, List.nil_append] at h2
  unfold endOk at h2
  rw [Bool.and_eq_true, List.all_eq_true] at h2
  have hmem : ∀ i, (∃ r ∈ recs, r.i = i) ↔ i < l.length := fun i => by
    have : (∃ r ∈ recs, r.i = i) ↔ i ∈ recs.map (·.i) := by simp
    rw [this, h4]
    simp [List.mem_range']
  have hsz : l.toArray.size = l.length := by simp
  refine wp_region_any hm (any_sound (Kn := fun S => S = S') (fun S a w hS hG => ⟨S, hG, by rw [hS]; exact h3⟩) _ recs _ (mk sl rs) a _ (by rw [hsz, ← List.length_map (f := fun r : Rec => r.i), h4]; simp) h1 h2.1 (fun i hi => ?_) (fun i hi => ?_) (fun r hr => ?_) (fun r hr k hk => fresh_of (List.all_eq_true.1 (h2.2 r hr) k hk)) hG.drew)
  · rw [hmem]
    rw [hsz] at hi
    simp [hi]
  · rw [hsz] at hi
    simp [hi]
  · rw [hsz]; exact (hmem r.i).1 ⟨r, hr, rfl⟩

section
variable {rest : List Oper} {sl : List (Nat × AV)} {rs : List (Nat × Option Rs)} {K : St → List Rec → Prop} {ty : TypeId} {pos : String} {aft : Array Edge} {d i : Nat} {acc : List Rec} {o : Op}
theorem dgo {dst : Option Nat} {v : AV} {del : List Nat} {new : List (Nat × Rs)} (hs : Sound P ⟨dst, o, ty, pos, aft, none⟩ (mk (viewS o sl) (viewR o sl rs)) ⟨v, del, new⟩) (hi : all[i]? = some ⟨dst, o, ty, pos, aft, none⟩) (hd : ∀ d, dst = some d → d < N) (ht : tOk (recOf i ⟨dst, o, ty, pos, aft, none⟩ sl rs v del new) rs = true)
    (h : DOps P N all (i + 1) rest (putS sl dst v) (newL new ++ (goneL del ++ rs)) (recOf i ⟨dst, o, ty, pos, aft, none⟩ sl rs v del new :: acc) K) : DOps P N all i (⟨dst, o, ty, pos, aft, none⟩ :: rest) sl rs acc K := by
  unfold DOps
  exact ⟨hi, hd, .inl ⟨v, del, new, hs, ht, h⟩⟩
theorem dgoY {dst : Option Nat} {v : AV} {del : List Nat} {new : List (Nat × Rs)} {j dj : Nat} {want b : Bool} (hj : (all[j]?).bind (·.dst) = some dj) (hN : dj < N) (hb : findS sl dj = .p none (.bool b)) (hbw : b = want) (hs : Sound P ⟨dst, o, ty, pos, aft, some (j, want)⟩ (mk (viewS o sl) (viewR o sl rs)) ⟨v, del, new⟩) (hi : all[i]? = some ⟨dst, o, ty, pos, aft, some (j, want)⟩) (hd : ∀ d, dst = some d → d < N) (ht : tOk (recOf i ⟨dst, o, ty, pos, aft, some (j, want)⟩ sl rs v del new) rs = true)
    (h : DOps P N all (i + 1) rest (putS sl dst v) (newL new ++ (goneL del ++ rs)) (recOf i ⟨dst, o, ty, pos, aft, some (j, want)⟩ sl rs v del new :: acc) K) : DOps P N all i (⟨dst, o, ty, pos, aft, some (j, want)⟩ :: rest) sl rs acc K := by
  unfold DOps
  exact ⟨hi, hd, dj, some b, hj, hN, gvA_bool hb, fun _ => .inl ⟨v, del, new, hs, ht, h⟩, fun hn => absurd (by rw [hbw]) hn⟩
theorem dgoX {dst : Option Nat} {j dj : Nat} {want b : Bool} (hj : (all[j]?).bind (·.dst) = some dj) (hN : dj < N) (hb : findS sl dj = .p none (.bool b)) (hbw : b = !want) (hi : all[i]? = some ⟨dst, o, ty, pos, aft, some (j, want)⟩) (hd : ∀ d, dst = some d → d < N)
    (h : DOps P N all (i + 1) rest (putS sl dst (.tup [])) rs (⟨i, ⟨dst, o, ty, pos, aft, some (j, want)⟩, true, [], [], ⟨.no, [], []⟩⟩ :: acc) K) : DOps P N all i (⟨dst, o, ty, pos, aft, some (j, want)⟩ :: rest) sl rs acc K := by
  unfold DOps
  refine ⟨hi, hd, dj, some b, hj, hN, gvA_bool hb, fun e => ?_, fun _ => h⟩
  injection e with e
  subst e; cases b <;> cases hbw
theorem dstOk (h : d < N) : ∀ d', some d = some d' → d' < N := fun d' e => by injection e with e; subst e; exact h
theorem dstNo : ∀ d', (none : Option Nat) = some d' → d' < N := fun d' e => by cases e
theorem dnil (h : K (mk sl rs) acc.reverse) : DOps P N all i [] sl rs acc K := h
end
end

/- How a function's contract begins and ends; contracts out of calls that only compute. -/

def slots0 : Nat → List Ar → List (Nat × AV)
  | _, [] => []
  | i, x :: xs => (i, arAV x) :: slots0 (i + 1) xs
theorem findS_slots0 : ∀ (xs : List Ar) (i t : Nat), findS (slots0 i xs) t = if i ≤ t then (match xs[t - i]? with | some x => arAV x | none => .no) else .no
  | [], i, t => by simp [slots0, findS]
  | x :: xs, i, t => by
    simp only [slots0, findS, findS_slots0 xs (i + 1) t]
    by_cases e : t = i
    · subst e; simp
    · by_cases h : i ≤ t
      · have : t - i = (t - (i + 1)) + 1 := by omega
        rw [if_neg e, if_pos (by omega), if_pos h, this, List.getElem?_cons_succ]
      · rw [if_neg e, if_neg (by omega), if_neg h]
theorem S0_mk (args : List Ar) : S0 args = mk (slots0 0 args) [] := by
  apply St.ext'
  · funext t
    simp only [S0, mk, findS_slots0, Nat.zero_le, if_true, Nat.sub_zero]
    try (cases args[t]? <;> rfl)
  · funext h
    simp [S0, mk, findO]
mutual
theorem mapA_id : ∀ (x : AV), mapA id x = x
  | .p none _ => by unfold mapA; rfl
  | .p (some _) _ => by unfold mapA; rfl
  | .own _ => by unfold mapA; rfl
  | .ptr _ _ => by unfold mapA; rfl
  | .ep _ _ _ _ => by unfold mapA; rfl
  | .rp none _ => by unfold mapA; rfl
  | .rp (some _) _ => by unfold mapA; rfl
  | .agg cs => by unfold mapA; rw [mapAL_id cs]
  | .tup cs => by unfold mapA; rw [mapAL_id cs]
  | .fn _ cs => by unfold mapA; rw [mapAL_id cs]
  | .nil => by unfold mapA; rfl
  | .bsl _ _ => by unfold mapA; rfl
  | .no => by unfold mapA; rfl
theorem mapAL_id : ∀ (xs : List AV), mapAL id xs = xs
  | [] => by unfold mapAL; rfl
  | x :: xs => by unfold mapAL; rw [mapA_id x, mapAL_id xs]
end
section
variable {P : Program}
/-- The end, nothing of memory handed back. -/
theorem fin0 {fn : Func} {rv : AV} {e : Exit} {S : St} {xs : List AV} (he : e = .normal ∨ e = .ret) (hr : ResL P S fn.results.toList xs) (hv : resAV xs = rv) : Fin P fn rv [] e S :=
  ⟨he, xs, id, hr, by rw [mapA_id]; exact hv, (fun _ _ e => by cases e), (fun _ _ _ _ e => by cases e)⟩
/-- The end, with memory handed back; g: its handles. -/
theorem fin1 {fn : Func} {rv : AV} {e : Exit} {S : St} {xs : List AV} {rs : List (Nat × Rs)} (g : Nat → Nat) (he : e = .normal ∨ e = .ret) (hr : ResL P S fn.results.toList xs) (hv : resAV xs = mapA g rv) (hrs : rs.foldr (fun q p => (S.res (g q.1) = some q.2 ∧ arrR q.2 = true) ∧ p) True) (hi : (rs.all fun q => rs.all fun q' => q.1 == q'.1 || g q.1 != g q'.1) = true) : Fin P fn rv rs e S := by
  have key : ∀ {l : List (Nat × Rs)}, l.foldr (fun q p => (S.res (g q.1) = some q.2 ∧ arrR q.2 = true) ∧ p) True → ∀ q ∈ l, S.res (g q.1) = some q.2 ∧ arrR q.2 = true := by
    intro l
    induction l with
    | nil => intro _ q hq; simp at hq
    | cons a l ih =>
      intro h q hq
      rcases List.mem_cons.1 hq with rfl | hq
      · exact h.1
      · exact ih h.2 q hq
  refine ⟨he, xs, g, hr, hv, fun h r e => key hrs _ (mem_of_findH e), fun h h' r r' e e' eg => ?_⟩
  have := List.all_eq_true.1 (List.all_eq_true.1 hi _ (mem_of_findH e)) _ (mem_of_findH e')
  simp only [Bool.or_eq_true, beq_iff_eq, bne_iff_ne, ne_eq] at this
  exact this.resolve_right (fun hn => hn eg)
theorem con_of {N : Nat} {f : FuncId} {fn : Func} {c : Code} {args : List Ar} {rv : AV} {rs : List (Nat × Rs)} (hf : P.funcs[f]? = some fn) (hb : fn.body = some c) (hN : fn.ntmps = N) (hn : (fn.name == "runtime.NumGoroutine") = false) (hl : args.length ≤ N)
    (h : VC P N c (mk (slots0 0 args) []) (Fin P fn rv rs)) : Con P f args rv rs := by
  subst hN
  exact con_of_vc hf hb hn hl (by rw [S0_mk]; exact h)
theorem con_calls {f : FuncId} {args : List Ar} {vs : Array Value} {rv : AV} {v : Value} (hc : callable P f = true) (ha : ∀ A w us, ArsRd A w args us → us = vs.toList) (hv : ∀ K φ w, MatchV K φ w rv v) (h : ∀ w, Calls P f vs w fun e w' => e = .returned v ∧ Below w.heap.size w w') : Con P f args rv [] := by
  refine ⟨hc, fun A w us hA hus => ?_⟩
  have : us = vs := by apply Array.ext'; exact ha A w _ hus
  subst this
  refine (h w).mono fun e w' ⟨he, hb⟩ => ?_
  exact ⟨v, fun _ => False, fun _ => none, he, hb, by simp, by simp, by simp [findH], by simp, by simp, by simp, by simp, hv _ _ _⟩
end
/-- A slice of numbers, as plain data. -/
abbrev intD (n : Int) : List Dat := [.int .i64 n]
def ints (l : List Int) : Dat := .sl 3 1 (l.map intD)
theorem map_at {α β : Type} {f : α → β} {l : List α} {k : Nat} {x : α} (h : l[k]? = some x) : (l.map f)[k]? = some (f x) := by simp [h]
theorem cells_ok {S : St} {sl : List (Nat × AV)} : ∀ {l : List (Nat × Operand)}, (∀ q ∈ l, cell1 S (evE sl q.2)) ↔ (l.foldr (fun q p => cell1 S (evE sl q.2) ∧ p) True)
  | [] => by simp
  | q :: l => by
    rw [List.foldr_cons, ← cells_ok (l := l)]
    exact List.forall_mem_cons

/- From readings of typed data to plain data and back; contracts as calls. -/

abbrev Lv (w : World) : Nat → Prop := fun b => b < w.heap.size
section
variable {α : Type}
theorem rdRs_slice {R : Rd α} {enc : α → List Dat} {w : World} {k : Nat} {a : Option Addr} (hR : ∀ cs x, R w cs x → RdL (Lv w) w (enc x) cs) : ∀ (xs : List α) (o : Nat),
    (∀ i x, xs[i]? = some x → ∃ b off cs', a = some ⟨b, off, none⟩ ∧ cs'.length = k ∧ (∀ j u, cs'[j]? = some u → w.cell? ⟨b, off + (o + i * k) + j, none⟩ = some u) ∧ R w cs' x) → RdRs (Lv w) w k (xs.map enc) a o
  | [], o, _ => by simp only [List.map_nil]; unfold RdRs; trivial
  | x :: xs, o, h => by
    simp only [List.map_cons]
    unfold RdRs
    obtain ⟨b, off, cs, rfl, hl, hc, hr⟩ := h 0 x rfl
    have hrd := hR cs x hr
    have hlen := hrd.len
    refine ⟨by omega, RdCs.mk (fun hne => ?_) hrd (fun j u hu => by have := hc j u hu; simpa using this), rdRs_slice hR xs (o + k) fun i y hy => ?_⟩
    · have h0 : 0 < cs.length := by
        rcases Nat.eq_zero_or_pos cs.length with h | h
        · exact absurd (List.eq_nil_of_length_eq_zero (by omega)) hne
        · exact h
      have := hc 0 _ (List.getElem?_eq_getElem h0)
      exact World.block_lt_of_cell? w _ this
    · obtain ⟨b', off', cs', e, hl', hc', hr'⟩ := h (i + 1) y (by simpa using hy)
      refine ⟨b', off', cs', e, hl', fun j u hu => ?_, hr'⟩
      have := hc' j u hu
      rw [show off' + (o + k + i * k) + j = off' + (o + (i + 1) * k) + j by rw [Nat.add_mul]; omega]; exact this
theorem rd_slice {R : Rd α} {enc : α → List Dat} {w : World} {e k : Nat} {v : Value} {xs : List α} (hR : ∀ cs x, R w cs x → RdL (Lv w) w (enc x) cs) (h : SliceR k R w [v] xs) : RdV (Lv w) w (.sl e k (xs.map enc)) v := by
  obtain ⟨a, c, hv, h1, h2, h3⟩ := h
  simp only [List.cons.injEq, and_true] at hv
  subst hv
  unfold RdV
  refine ⟨a, c, by simp, by simpa using h1, h2, rdRs_slice hR xs 0 fun i x hx => ?_⟩
  obtain ⟨b, off, cs, e, hl, hc, hr⟩ := h3 i x hx
  exact ⟨b, off, cs, e, hl, fun j u hu => by have := hc j u hu; simpa using this, hr⟩
theorem slice_rd {R : Rd α} {enc : α → List Dat} {A : Nat → Prop} {w : World} {e k : Nat} {v : Value} {xs : List α} (hR : ∀ x ∈ xs, ∀ cs, RdL A w (enc x) cs → R w cs x) (hk : ∀ x, (enc x).length = k) (h : RdV A w (.sl e k (xs.map enc)) v) : SliceR k R w [v] xs := by
  unfold RdV at h
  obtain ⟨a, c, rfl, h1, h2, h3⟩ := h
  refine ⟨a, c, by simp, by simpa using h1, h2, fun i x hx => ?_⟩
  obtain ⟨h4, h5⟩ := h3.at_ (map_at (f := enc) hx)
  obtain ⟨b, off, vs, e, hb, hl, hc⟩ := h5.vals
  exact ⟨b, off, vs, e, by rw [hl.len]; exact hk x, fun j u hu => by have := hc j u hu; simpa using this, hR x (List.mem_of_getElem? hx) vs hl⟩
theorem rd_ints {w : World} {v : Value} {l : List Int} (h : SliceR 1 IntR w [v] l) : RdV (Lv w) w (ints l) v :=
  rd_slice (enc := intD) (fun cs x h => by rw [h.1]; exact ⟨_, _, rfl, by unfold RdV; rfl, rfl⟩) h
theorem ints_rd {A : Nat → Prop} {w : World} {v : Value} {l : List Int} (hf : ∀ x ∈ l, Fits x) (h : RdV A w (ints l) v) : SliceR 1 IntR w [v] l :=
  slice_rd (enc := intD) (fun x hx cs h => by
    obtain ⟨v, vs, rfl, h1, h2⟩ := h
    unfold RdV at h1
    rw [h1, show vs = [] from h2]
    exact ⟨rfl, hf x hx⟩) (fun _ => rfl) h
theorem rdL_int {A : Nat → Prop} {w : World} {n : Int} : RdL A w [.int .i64 n] [.int .i64 n] := ⟨_, _, rfl, by unfold RdV; rfl, rfl⟩
/-- Owned data, typed. -/
theorem own_slice {O : Od α} {enc : α → List Dat} {w : World} {k : Nat} (hk : ∀ x, (enc x).length = k) : ∀ {xs : List α} {css : List (List Value)} {Fs : List (List Nat)}, (∀ x ∈ xs, ∀ cs F, OwCs w (enc x) cs F → O w F cs x) → OwRs w k (xs.map enc) css Fs →
    css.length = xs.length ∧ Fs.length = xs.length ∧ ∀ (i : Nat) x, xs[i]? = some x → ∃ Fi ci, Fs[i]? = some Fi ∧ css[i]? = some ci ∧ ci.length = k ∧ O w Fi ci x
  | [], css, Fs, _, h => by simp only [List.map_nil] at h; unfold OwRs at h; rw [h.1, h.2]; simp
  | x :: xs, css, Fs, hO, h => by
    simp only [List.map_cons] at h
    unfold OwRs at h
    obtain ⟨c, css', F, Fs', rfl, rfl, h1, h2, h3⟩ := h
    obtain ⟨q1, q2, q3⟩ := own_slice hk (fun y hy => hO y (by simp [hy])) h3
    refine ⟨by simp [q1], by simp [q2], fun i y hy => ?_⟩
    rcases i with _ | i
    · simp at hy; subst hy
      exact ⟨F, c, rfl, rfl, by rw [h2.len, h1], hO x (by simp) c F h2⟩
    · exact q3 i y (by simpa using hy)
theorem owV_slice {O : Od α} {enc : α → List Dat} {w : World} {e k : Nat} {xs : List α} {v : Value} {F : List Nat} (hk : ∀ x, (enc x).length = k) (hO : ∀ x ∈ xs, ∀ cs F, OwCs w (enc x) cs F → O w F cs x) (h : OwV w (.sl e k (xs.map enc)) v F) : SliceO e k O w F [v] xs := by
  unfold OwV at h
  obtain ⟨css, Fs, h1, h2, h3⟩ := h
  obtain ⟨q1, q2, q3⟩ := own_slice hk hO h3
  exact ⟨v, Fs, css, rfl, by simpa using h1, h2, q1, q2, q3⟩
theorem owV_ints {w : World} {l : List Int} {v : Value} {F : List Nat} (hf : ∀ x ∈ l, Fits x) (h : OwV w (ints l) v F) : IntsO w F [v] l := by
  unfold ints OwV at h
  obtain ⟨css, Fs, h1, h2, h3⟩ := h
  have hfl : Flats (l.map intD) (l.map fun n => [Value.int .i64 n]) := by
    clear h1 h2 h3
    induction l with
    | nil => exact rfl
    | cons a l ih => exact ⟨_, _, rfl, rfl, ih (fun x hx => hf x (by simp [hx]))⟩
  have h4 : RdRows (fun _ => True) w 1 (l.map intD) css := rdRows_of h3.len.1 (fun i x c hx hc => OwRs.rd 1 _ css Fs i x c (by simp) h3 hx hc)
  have e1 := h4.flats_eq hfl
  subst e1
  have e2 : Fs.flatten = [] := by
    have h5 := own_slice (O := fun _ F _ _ => F = []) (enc := intD) (fun _ => rfl) (fun x hx cs F hF => (Flat.owCs_eq (x := intD x) (vs := [.int .i64 x]) rfl hF).2) h3
    rw [List.flatten_eq_nil_iff]
    intro F hF
    obtain ⟨i, hi, rfl⟩ := List.getElem_of_mem hF
    obtain ⟨Fi, ci, q1, _, _, q4⟩ := h5.2.2 i _ (List.getElem?_eq_getElem (by rw [← h5.2.1]; exact hi))
    rw [List.getElem?_eq_getElem hi] at q1
    injection q1 with q1
    rw [q1]; exact q4
  refine ⟨v, rfl, ?_, by rw [h2, e2]; simp, hf⟩
  unfold OwnI vals
  have : (l.map fun n => [Value.int .i64 n]).flatten = l.map (Value.int .i64) := by
    clear h1 h2 h3 h4 hfl e2 hf
    induction l with
    | nil => rfl
    | cons a l ih => simp [ih]
  rw [this] at h1
  simpa using h1
end
section
variable {P : Program}
theorem arsRd_nil {A : Nat → Prop} {w : World} : ArsRd A w [] [] := rfl
theorem arsRd_one {A : Nat → Prop} {w : World} {x : Dat} {xs : List Ar} {v : Value} {vs : List Value} (h : RdV A w x v) (h' : ArsRd A w xs vs) : ArsRd A w (.one x :: xs) (v :: vs) := ⟨v, vs, rfl, h, h'⟩
theorem arsRd_agg {A : Nat → Prop} {w : World} {x : List Dat} {xs : List Ar} {us : Array Value} {vs : List Value} (h : RdL A w x us.toList) (h' : ArsRd A w xs vs) : ArsRd A w (.agg x :: xs) (.agg us :: vs) := ⟨_, vs, rfl, ⟨us, rfl, h⟩, h'⟩
theorem rdV_int {A : Nat → Prop} {w : World} {k : IntKind} {n : Int} : RdV A w (.int k n) (.int k n) := by unfold RdV; rfl
theorem rdL_cons {A : Nat → Prop} {w : World} {x : Dat} {xs : List Dat} {v : Value} {vs : List Value} (h : RdV A w x v) (h' : RdL A w xs vs) : RdL A w (x :: xs) (v :: vs) := ⟨v, vs, rfl, h, h'⟩
theorem rdL_nil {A : Nat → Prop} {w : World} : RdL A w [] [] := rfl
/-- A contract whose result has no memory, as a call. -/
theorem Con.calls {f : FuncId} {args : List Ar} {rv : AV} {val : Value} {w : World} {vs : Array Value} (h : Con P f args rv []) (ha : ArsRd (Lv w) w args vs.toList) (hv : ∀ K φ w v, MatchV K φ w rv v → v = val) : Calls P f vs w fun e w' => e = .returned val ∧ Below w.heap.size w w' :=
  (h.2 (Lv w) w vs (fun _ h => h) ha).mono fun e w' ⟨v, K, φ, he, hb, _, _, _, _, _, _, _, hm⟩ => ⟨by rw [he, hv _ _ _ _ hm], hb⟩
theorem match_bool {b : Bool} : ∀ K φ w v, MatchV K φ w (.p none (.bool b)) v → v = .bool b := fun K φ w v h => by unfold MatchV RdV at h; exact h
theorem match_int {k : IntKind} {n : Int} : ∀ K φ w v, MatchV K φ w (.p none (.int k n)) v → v = .int k n := fun K φ w v h => by unfold MatchV RdV at h; exact h
theorem match_str {s : ByteArray} : ∀ K φ w v, MatchV K φ w (.p none (.str s)) v → v = .string s := fun K φ w v h => by unfold MatchV RdV at h; exact h
theorem match_q {a b : Int} {c : Bool} : ∀ K φ w v, MatchV K φ w (.tup [.agg [.p none (.int .i64 a), .p none (.int .i64 b)], .p none (.bool c)]) v → v = .tuple #[.agg #[.int .i64 a, .int .i64 b], .bool c] := fun K φ w v h => by
  unfold MatchV at h
  obtain ⟨vs, rfl, h⟩ := h
  have hl := matchL_len h
  unfold MatchL at h
  obtain ⟨v1, vs1, e1, m1, h⟩ := h
  unfold MatchL at h
  obtain ⟨v2, vs2, e2, m2, h⟩ := h
  unfold MatchL at h
  have q1 : v1 = .agg #[.int .i64 a, .int .i64 b] := conc_match (K := K) (φ := φ) (w := w) rfl m1
  have q2 : v2 = .bool c := conc_match (K := K) (φ := φ) (w := w) rfl m2
  subst h; subst e2; subst q1; subst q2
  congr 1
  apply Array.ext'
  simpa using e1
end

/- What the laws' copies hand back, as contracts. -/

section
variable {α : Type}
theorem ow_rows {O : Od α} {enc : α → List Dat} {w : World} {k : Nat} (hO : ∀ F cs x, O w F cs x → OwCs w (enc x) cs F) (hk : ∀ x, (enc x).length = k) : ∀ {xs : List α} {css : List (List Value)} {Fs : List (List Nat)}, css.length = xs.length → Fs.length = xs.length →
    (∀ (i : Nat) x, xs[i]? = some x → ∃ Fi ci, Fs[i]? = some Fi ∧ css[i]? = some ci ∧ ci.length = k ∧ O w Fi ci x) → OwRs w k (xs.map enc) css Fs
  | [], css, Fs, h1, h2, _ => by
    simp only [List.map_nil]; unfold OwRs
    exact ⟨List.eq_nil_of_length_eq_zero h1, List.eq_nil_of_length_eq_zero h2⟩
  | x :: xs, [], Fs, h1, _, _ => by simp at h1
  | x :: xs, c :: css, [], _, h2, _ => by simp at h2
  | x :: xs, c :: css, F :: Fs, h1, h2, h => by
    simp only [List.map_cons]
    unfold OwRs
    obtain ⟨Fi, ci, e1, e2, _, ho⟩ := h 0 x rfl
    simp at e1 e2
    subst e1
    subst e2
    exact ⟨c, css, F, Fs, rfl, rfl, hk x, hO F c x ho, ow_rows hO hk (by simpa using h1) (by simpa using h2) fun i y hy => by
      obtain ⟨Fi, ci, e1, e2, e3⟩ := h (i + 1) y (by simpa using hy)
      exact ⟨Fi, ci, by simpa using e1, by simpa using e2, e3⟩⟩
theorem ow_slice {O : Od α} {enc : α → List Dat} {w : World} {e k : Nat} {F : List Nat} {v : Value} {xs : List α} (hO : ∀ F cs x, O w F cs x → OwCs w (enc x) cs F) (hk : ∀ x, (enc x).length = k) (h : SliceO e k O w F [v] xs) : OwV w (.sl e k (xs.map enc)) v F := by
  obtain ⟨v', Fs, css, hv, h1, h2, h3, h4, h5⟩ := h
  simp only [List.cons.injEq, and_true] at hv
  subst hv
  unfold OwV
  exact ⟨css, Fs, by simpa using h1, h2, ow_rows hO hk h3 h4 h5⟩
theorem ow_ints {w : World} {F : List Nat} {v : Value} {l : List Int} (h : IntsO w F [v] l) : OwV w (ints l) v F := by
  obtain ⟨v', hv, h1, h2, h3⟩ := h
  simp only [List.cons.injEq, and_true] at hv
  subst hv
  unfold ints OwV
  have hfl : Flats (l.map intD) (l.map fun n => [Value.int .i64 n]) := by
    clear h1 h2 h3
    induction l with
    | nil => exact rfl
    | cons a l ih => exact ⟨_, _, rfl, rfl, ih⟩
  have hfe : (l.map fun n => [Value.int .i64 n]).flatten = l.map (Value.int .i64) := by
    clear h1 h2 h3 hfl
    induction l with
    | nil => rfl
    | cons a l ih => simp [ih]
  refine ⟨_, _, ?_, ?_, hfl.owRs (fun x hx => by obtain ⟨a, _, rfl⟩ := List.mem_map.1 hx; rfl)⟩
  · rw [hfe]; simpa [OwnI, vals] using h1
  · rw [h2, flatten_nils]; simp
theorem owCs_cons {w : World} {p : Dat} {ps : List Dat} {v : Value} {cs : List Value} {F1 F2 : List Nat} (h1 : OwV w p v F1) (h2 : OwCs w ps cs F2) : OwCs w (p :: ps) (v :: cs) (F1 ++ F2) := by
  unfold OwCs
  exact ⟨v, cs, F1, F2, rfl, rfl, h1, h2⟩
theorem owCs_nil {w : World} : OwCs w [] [] [] := by unfold OwCs; exact ⟨rfl, rfl⟩
theorem owV_int {w : World} {k : IntKind} {n : Int} : OwV w (.int k n) (.int k n) [] := by unfold OwV; exact ⟨rfl, rfl⟩
theorem owV_bool {w : World} {b : Bool} : OwV w (.bool b) (.bool b) [] := by unfold OwV; exact ⟨rfl, rfl⟩
theorem owV_str {w : World} {s : ByteArray} : OwV w (.str s) (.string s) [] := by unfold OwV; exact ⟨rfl, rfl⟩
end
mutual
theorem OwV.lt {w : World} : ∀ {x : Dat} {v : Value} {F : List Nat}, OwV w x v F → ∀ g ∈ F, g < w.heap.size
  | .int _ _, _, _, h, g, hg => by unfold OwV at h; rw [h.2] at hg; simp at hg
  | .bool _, _, _, h, g, hg => by unfold OwV at h; rw [h.2] at hg; simp at hg
  | .str _, _, _, h, g, hg => by unfold OwV at h; rw [h.2] at hg; simp at hg
  | .sl e k xs, v, F, h, g, hg => by
    unfold OwV at h
    obtain ⟨css, Fs, h1, rfl, h2⟩ := h
    rcases List.mem_append.1 hg with hg | hg
    · exact (owns_lt h1 g hg).2
    · exact OwRs.lt h2 g hg
theorem OwRs.lt {w : World} {k : Nat} : ∀ {xs : List (List Dat)} {css : List (List Value)} {Fs : List (List Nat)}, OwRs w k xs css Fs → ∀ g ∈ Fs.flatten, g < w.heap.size
  | [], css, Fs, h, g, hg => by unfold OwRs at h; rw [h.2] at hg; simp at hg
  | x :: xs, css, Fs, h, g, hg => by
    unfold OwRs at h
    obtain ⟨c, css', F, Fs', rfl, rfl, h1, h2, h3⟩ := h
    rcases List.mem_append.1 (by simpa using hg : g ∈ F ++ Fs'.flatten) with hg | hg
    · exact OwCs.lt h2 g hg
    · exact OwRs.lt h3 g hg
theorem OwCs.lt {w : World} : ∀ {ds : List Dat} {cs : List Value} {F : List Nat}, OwCs w ds cs F → ∀ g ∈ F, g < w.heap.size
  | [], cs, F, h, g, hg => by unfold OwCs at h; rw [h.2] at hg; simp at hg
  | p :: ps, cs, F, h, g, hg => by
    unfold OwCs at h
    obtain ⟨v, cs', F1, F2, rfl, rfl, h1, h2⟩ := h
    rcases List.mem_append.1 hg with hg | hg
    · exact OwV.lt h1 g hg
    · exact OwCs.lt h2 g hg
end
/-- Owned data as a contract's result has it: handles from h on. -/
def ownA : Nat → List Dat → List AV
  | _, [] => []
  | h, .sl _ _ _ :: ds => .own h :: ownA (h + 1) ds
  | h, .int k n :: ds => .p none (.int k n) :: ownA (h + 1) ds
  | h, .bool b :: ds => .p none (.bool b) :: ownA (h + 1) ds
  | h, .str s :: ds => .p none (.str s) :: ownA (h + 1) ds
def ownR : Nat → List Dat → List (Nat × Rs)
  | _, [] => []
  | h, .sl e k xs :: ds => (h, .arr e k true xs) :: ownR (h + 1) ds
  | h, .int _ _ :: ds => ownR (h + 1) ds
  | h, .bool _ :: ds => ownR (h + 1) ds
  | h, .str _ :: ds => ownR (h + 1) ds
theorem own_ret {w : World} : ∀ {ds : List Dat} {cs : List Value} {F : List Nat} (h : Nat), OwCs w ds cs F → F.Nodup → ∃ φ : Phi,
    (∀ k r, findH (ownR h ds) k = some r → ∃ pl, φ k = some pl ∧ ∀ K φ', Holds K φ' w pl r) ∧ (∀ k, findH (ownR h ds) k = none → φ k = none) ∧ (∀ k pl, φ k = some pl → h ≤ k ∧ pl.F.Nodup ∧ ∀ g ∈ pl.F, g ∈ F) ∧
    (∀ k k' pl pl', k ≠ k' → φ k = some pl → φ k' = some pl' → ∀ g ∈ pl.F, g ∉ pl'.F) ∧ ∀ K, MatchL K φ w (ownA h ds) cs
  | [], cs, F, h, ho, _ => by
    unfold OwCs at ho
    exact ⟨fun _ => none, by simp [ownR, findH], by simp, by simp, by simp, fun K => by simp only [ownA]; unfold MatchL; exact ho.1⟩
  | d :: ds, cs, F, h, ho, hn => by
    unfold OwCs at ho
    obtain ⟨v, cs', F1, F2, rfl, rfl, h1, h2⟩ := ho
    have hn' := List.nodup_append.1 hn
    obtain ⟨φ, q1, q2, q3, q4, q5⟩ := own_ret (h + 1) h2 hn'.2.1
    have plain : ∀ x : Dat, d = x → x.val? = some v → ownR h (d :: ds) = ownR (h + 1) ds → ownA h (d :: ds) = .p none x :: ownA (h + 1) ds → ∃ φ : Phi,
        (∀ k r, findH (ownR h (d :: ds)) k = some r → ∃ pl, φ k = some pl ∧ ∀ K φ', Holds K φ' w pl r) ∧ (∀ k, findH (ownR h (d :: ds)) k = none → φ k = none) ∧ (∀ k pl, φ k = some pl → h ≤ k ∧ pl.F.Nodup ∧ ∀ g ∈ pl.F, g ∈ F1 ++ F2) ∧
        (∀ k k' pl pl', k ≠ k' → φ k = some pl → φ k' = some pl' → ∀ g ∈ pl.F, g ∉ pl'.F) ∧ ∀ K, MatchL K φ w (ownA h (d :: ds)) (v :: cs') := fun x _ hv e1 e2 => by
      rw [e1, e2]
      refine ⟨φ, q1, q2, fun k pl hk => ⟨by have := (q3 k pl hk).1; omega, (q3 k pl hk).2.1, fun g hg => List.mem_append_right _ ((q3 k pl hk).2.2 g hg)⟩, q4, fun K => ?_⟩
      unfold MatchL
      exact ⟨v, cs', rfl, by unfold MatchV; exact (RdV.scalar hv).2 rfl, q5 K⟩
    cases d with
    | int k n => unfold OwV at h1; exact plain (.int k n) rfl (by rw [h1.1]; rfl) rfl rfl
    | bool b => unfold OwV at h1; exact plain (.bool b) rfl (by rw [h1.1]; rfl) rfl rfl
    | str s => unfold OwV at h1; exact plain (.str s) rfl (by rw [h1.1]; rfl) rfl rfl
    | sl e k xs =>
      unfold OwV at h1
      obtain ⟨css, Fs, r1, r2, r3⟩ := h1
      have hpl : (⟨v, v.ownBlock.toList, Fs.flatten⟩ : Pl).F = F1 := by unfold Pl.F; exact r2.symm
      have hnew : ∀ k', φ k' ≠ none → k' ≠ h := fun k' hk e => by
        cases hp : φ k' with
        | none => exact hk hp
        | some pl => have := (q3 k' pl hp).1; omega
      refine ⟨fun x => if x = h then some ⟨v, v.ownBlock.toList, Fs.flatten⟩ else φ x, fun x r hx => ?_, fun x hx => ?_, fun x pl hx => ?_, fun x x' pl pl' hne hx hx' g hg hg' => ?_, fun K => ?_⟩
      · simp only [ownR, findH] at hx
        split at hx
        · rename_i e1
          injection hx with hx
          subst hx
          exact ⟨_, if_pos e1, fun K φ' => ⟨css, Fs, r1, rfl, rfl, r3⟩⟩
        · rename_i e1
          obtain ⟨pl, s1, s2⟩ := q1 x r hx
          exact ⟨pl, by simp only [if_neg e1]; exact s1, s2⟩
      · simp only [ownR, findH] at hx
        split at hx
        · cases hx
        · rename_i e1; simp only [if_neg e1]; exact q2 x hx
      · simp only at hx
        split at hx
        · rename_i e1
          injection hx with hx
          subst hx
          exact ⟨by omega, by rw [hpl]; exact hn'.1, fun g hg => List.mem_append_left _ (by rw [hpl] at hg; exact hg)⟩
        · exact ⟨by have := (q3 x pl hx).1; omega, (q3 x pl hx).2.1, fun g hg => List.mem_append_right _ ((q3 x pl hx).2.2 g hg)⟩
      · simp only at hx hx'
        split at hx
        · injection hx with hx
          subst hx
          split at hx'
          · subst_vars; exact hne rfl
          · rw [hpl] at hg
            exact hn'.2.2 g hg g ((q3 x' pl' hx').2.2 g hg') rfl
        · split at hx'
          · injection hx' with hx'
            subst hx'
            rw [hpl] at hg'
            exact hn'.2.2 g hg' g ((q3 x pl hx).2.2 g hg) rfl
          · exact q4 x x' pl pl' hne hx hx' g hg hg'
      · simp only [ownA]
        unfold MatchL
        refine ⟨v, cs', rfl, ?_, ?_⟩
        · unfold MatchV
          intro pl hp
          simp only [if_true, Option.some.injEq] at hp
          subst hp; rfl
        · refine MatchL.mono (K := K) (φ := φ) (fun _ _ => rfl) (fun _ h => h) _ _ (fun k pl hk hp => ⟨?_, fun _ _ => rfl⟩) (q5 K)
          split at hp
          · rename_i e1
            exfalso
            have : ∀ (ds : List Dat) (j : Nat), k ∈ mentsL (ownA j ds) → j ≤ k := by
              intro ds
              induction ds with
              | nil => intro j hj; simp [ownA, mentsL] at hj
              | cons d ds ih =>
                intro j hj
                cases d <;> simp only [ownA, mentsL, ments, List.nil_append, List.mem_append, List.mem_singleton, List.cons_append, List.mem_cons] at hj
                · have := ih _ hj; omega
                · have := ih _ hj; omega
                · have := ih _ hj; omega
                · rcases hj with hj | hj
                  · omega
                  · have := ih _ hj; omega
            have := this ds (h + 1) hk
            omega
          · exact hp
section
variable {P : Program}
/-- A call that hands back a struct, all its memory new. -/
theorem con_newA {f : FuncId} {args : List Ar} {ds : List Dat} (hc : callable P f = true) (h : ∀ A w (vs : Array Value), (∀ b, A b → b < w.heap.size) → ArsRd A w args vs.toList → Calls P f vs w (fun e w' => ∃ (cs : Array Value) (F : List Nat), e = .returned (.agg cs) ∧ OwCs w' ds cs.toList F ∧ F.Nodup ∧ (∀ g ∈ F, w.heap.size ≤ g) ∧ Below w.heap.size w w')) :
    Con P f args (.agg (ownA 0 ds)) (ownR 0 ds) := by
  refine ⟨hc, fun A w vs hA ha => (h A w vs hA ha).mono fun e w' ⟨cs, F, he, ho, hn, hg, hb⟩ => ?_⟩
  obtain ⟨φ, q1, q2, q3, q4, q5⟩ := own_ret 0 ho hn
  refine ⟨.agg cs, fun _ => False, φ, he, hb, by simp, by simp, fun k r hk => ?_, q2, q4, fun k pl hk => (q3 k pl hk).2.1, fun k pl hk g hg' => ?_, ?_⟩
  · obtain ⟨pl, s1, s2⟩ := q1 k r hk
    exact ⟨pl, s1, s2 _ _⟩
  · have := (q3 k pl hk).2.2 g hg'
    exact ⟨hg g this, ho.lt g this⟩
  · unfold MatchV
    exact ⟨cs, rfl, owCs_one ho, q5 _⟩
theorem con_newS {f : FuncId} {args : List Ar} {e k : Nat} {xs : List (List Dat)} (hc : callable P f = true) (h : ∀ A w (vs : Array Value), (∀ b, A b → b < w.heap.size) → ArsRd A w args vs.toList → Calls P f vs w (fun en w' => ∃ (v : Value) (F : List Nat), en = .returned v ∧ OwV w' (.sl e k xs) v F ∧ F.Nodup ∧ (∀ g ∈ F, w.heap.size ≤ g) ∧ Below w.heap.size w w')) :
    Con P f args (.own 0) [(0, .arr e k true xs)] := by
  refine ⟨hc, fun A w vs hA ha => (h A w vs hA ha).mono fun en w' ⟨v, F, he, ho, hn, hg, hb⟩ => ?_⟩
  have ho' : OwCs w' [.sl e k xs] [v] (F ++ []) := owCs_cons ho owCs_nil
  rw [List.append_nil] at ho'
  obtain ⟨φ, q1, q2, q3, q4, q5⟩ := own_ret 0 ho' hn
  refine ⟨v, fun _ => False, φ, he, hb, by simp, by simp, fun k r hk => ?_, q2, q4, fun k pl hk => (q3 k pl hk).2.1, fun k pl hk g hg' => ?_, ?_⟩
  · obtain ⟨pl, s1, s2⟩ := q1 k r hk
    exact ⟨pl, s1, s2 _ _⟩
  · have := (q3 k pl hk).2.2 g hg'
    exact ⟨hg g this, ho.lt g this⟩
  · have := q5 (fun _ => False)
    simp only [ownA] at this
    unfold MatchL at this
    obtain ⟨v', vs', e1, m, _⟩ := this
    injection e1 with e1 _
    subst e1
    exact m
end

end Go.Proofs.Ytcgjlddpbkponaa
