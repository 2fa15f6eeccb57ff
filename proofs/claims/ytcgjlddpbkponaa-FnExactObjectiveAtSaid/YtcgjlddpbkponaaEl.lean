/-
  Code over symbolic states: sequences, conditions, blocks, loops, regions in the text's order; weakening and renaming; the contract of a function.
-/
import Derived.Test.YtcgjlddpbkponaaEk
namespace Go.Proofs.Ytcgjlddpbkponaa
open Go.ChangeShapes Go.WideShapes Go.ChangeAt Go.RowKit
set_option linter.unusedVariables false
set_option linter.unusedSimpArgs false

mutual
theorem MatchV.unmap {K : Nat → Prop} {φ φ' : Phi} {w : World} {g : Nat → Nat} : ∀ (x : AV) (v : Value), (∀ h pl, h ∈ ments x → φ' h = some pl → φ (g h) = some pl) → MatchV K φ w (mapA g x) v → MatchV K φ' w x v
  | .p none x, v, _, h => by unfold mapA at h; unfold MatchV at *; exact h
  | .p (some k) x, v, hm, h => by unfold mapA at h; unfold MatchV at *; exact fun pl hp => h pl (hm k pl (by simp [ments]) hp)
  | .own k, v, hm, h => by unfold mapA at h; unfold MatchV at *; exact fun pl hp => h pl (hm k pl (by simp [ments]) hp)
  | .ptr k o, v, hm, h => by unfold mapA at h; unfold MatchV at *; exact fun pl hp => h pl (hm k pl (by simp [ments]) hp)
  | .ep k _ _ _, v, hm, h => by unfold mapA at h; unfold MatchV at *; exact fun pl hp => h pl (hm k pl (by simp [ments]) hp)
  | .rp none x, v, _, h => by unfold mapA at h; unfold MatchV at *; exact h
  | .rp (some k) x, v, hm, h => by unfold mapA at h; unfold MatchV at *; exact fun pl hp => h pl (hm k pl (by simp [ments]) hp)
  | .agg cs, v, hm, h => by
    unfold mapA at h
    unfold MatchV at *
    obtain ⟨vs, e, h1, h2⟩ := h
    exact ⟨vs, e, h1, MatchL.unmap cs _ (fun k pl hk => hm k pl (by simpa [ments] using hk)) h2⟩
  | .tup cs, v, hm, h => by
    unfold mapA at h
    unfold MatchV at *
    obtain ⟨vs, e, h2⟩ := h
    exact ⟨vs, e, MatchL.unmap cs _ (fun k pl hk => hm k pl (by simpa [ments] using hk)) h2⟩
  | .fn f cs, v, hm, h => by
    unfold mapA at h
    unfold MatchV at *
    obtain ⟨vs, e, h2⟩ := h
    exact ⟨vs, e, MatchL.unmap cs _ (fun k pl hk => hm k pl (by simpa [ments] using hk)) h2⟩
  | .nil, v, _, h => by unfold mapA at h; unfold MatchV at *; exact h
  | .bsl k n, v, hm, h => by unfold mapA at h; unfold MatchV at *; exact fun pl hp => h pl (hm k pl (by simp [ments]) hp)
  | .no, v, _, _ => by unfold MatchV; trivial
theorem MatchL.unmap {K : Nat → Prop} {φ φ' : Phi} {w : World} {g : Nat → Nat} : ∀ (xs : List AV) (vs : List Value), (∀ h pl, h ∈ mentsL xs → φ' h = some pl → φ (g h) = some pl) → MatchL K φ w (mapAL g xs) vs → MatchL K φ' w xs vs
  | [], vs, _, h => by unfold mapAL at h; unfold MatchL at *; exact h
  | x :: xs, vs, hm, h => by
    unfold mapAL at h
    unfold MatchL at *
    obtain ⟨v, vs', e, h1, h2⟩ := h
    exact ⟨v, vs', e, MatchV.unmap x v (fun k pl hk => hm k pl (by simp [mentsL, hk])) h1, MatchL.unmap xs vs' (fun k pl hk => hm k pl (by simp [mentsL, hk])) h2⟩
end
def mapR (g : Nat → Nat) : Rs → Rs
  | .box t cs => .box t (mapAL g cs)
  | .arr e k d xs => .arr e k d xs
def Gam (A : Nat → Prop) (w0 : World) (N : Nat) (S : St) (a : Act) (w : World) : Prop := ∃ K φ, G K φ A w0 N S a w
/-- S' says no more than S; g: the handles of S' as S names them. -/
structure Le (g : Nat → Nat) (S S' : St) : Prop where
  slots : ∀ t, S'.slots t = .no ∨ S.slots t = mapA g (S'.slots t)
  res : ∀ h r, S'.res h = some r → S.res (g h) = some (mapR g r)
  inj : ∀ h h' r r', S'.res h = some r → S'.res h' = some r' → g h = g h' → h = h'
theorem Gam.le {A : Nat → Prop} {w0 : World} {N : Nat} {S S' : St} {a : Act} {w : World} {g : Nat → Nat} (h : Gam A w0 N S a w) (hl : Le g S S') : Gam A w0 N S' a w := by
  obtain ⟨K, φ, hG⟩ := h
  have hφ : ∀ h pl, (match S'.res h with | some _ => φ (g h) | none => none) = some pl → (∃ r, S'.res h = some r) ∧ φ (g h) = some pl := fun h pl e => by
    split at e
    · rename_i r hr; exact ⟨⟨r, hr⟩, e⟩
    · cases e
  refine ⟨K, fun h => match S'.res h with | some _ => φ (g h) | none => none, ?_, ?_, ?_, ?_, ?_, hG.kin, ?_, hG.aK, ?_, hG.bel, hG.nd, hG.size⟩
  · intro h r hr
    obtain ⟨pl, hp, hh⟩ := hG.dom _ _ (hl.res h r hr)
    refine ⟨pl, by simp [hr, hp], ?_⟩
    cases r with
    | box t cs =>
      obtain ⟨b, vs, e, h1, h2, h3⟩ := hh
      exact ⟨b, vs, e, h1, h2, MatchL.unmap cs _ (fun k pl _ e => (hφ k pl e).2) h3⟩
    | arr e k d xs => cases d <;> exact hh
  · intro h hr; simp [hr]
  · intro h h' pl pl' hne e e'
    obtain ⟨⟨r, hr⟩, e⟩ := hφ h pl e
    obtain ⟨⟨r', hr'⟩, e'⟩ := hφ h' pl' e'
    exact hG.disj _ _ pl pl' (fun x => hne (hl.inj h h' r r' hr hr' x)) e e'
  · intro h pl e; exact hG.nodup _ pl (hφ h pl e).2
  · intro h pl e; exact hG.ge _ pl (hφ h pl e).2
  · intro b hb h pl e; exact hG.kout b hb _ pl (hφ h pl e).2
  · intro t
    rcases hl.slots t with h | h
    · rw [h]; unfold MatchV; trivial
    · have := hG.slots t
      rw [h] at this
      exact MatchV.unmap _ _ (fun k pl _ e => (hφ k pl e).2) this

def VC (P : Program) (N : Nat) (c : Code) (S : St) (Q : Exit → St → Prop) : Prop :=
  ∀ A w0 a w, Gam A w0 N S a w → c.wp P (fun e a' w' => ∃ S', Gam A w0 N S' a' w' ∧ Q e S') a w
def thenQ (Kn : St → Prop) (Q : Exit → St → Prop) : Exit → St → Prop
  | .normal, S => Kn S
  | e, S => Q e S
def blockQ (id : Nat) (Q : Exit → St → Prop) : Exit → St → Prop
  | .exit id', S => if id' = id then Q .normal S else Q (.exit id') S
  | e, S => Q e S
section
variable {P : Program} {N : Nat} {S : St} {Q : Exit → St → Prop}
theorem VC_skip (h : Q .normal S) : VC P N .skip S Q := fun A w0 a w hG => wp_skip ⟨S, hG, h⟩
theorem VC_ret (h : Q .ret S) : VC P N .ret S Q := fun A w0 a w hG => wp_ret ⟨S, hG, h⟩
theorem VC_exit {id : Nat} (h : Q (.exit id) S) : VC P N (.exit id) S Q := fun A w0 a w hG => wp_exit ⟨S, hG, h⟩
theorem VC_mono {c : Code} {Q' : Exit → St → Prop} (h : VC P N c S Q) (hq : ∀ e S, Q e S → Q' e S) : VC P N c S Q' := fun A w0 a w hG => Code.wp_mono (fun e a w ⟨S', h1, h2⟩ => ⟨S', h1, hq e S' h2⟩) (h A w0 a w hG)
theorem VC_seq {x y : Code} (h : ∀ Kn : St → Prop, (∀ S, VC P N y S Q → Kn S) → VC P N x S (thenQ Kn Q)) : VC P N (.seq x y) S Q := fun A w0 a w hG => by
  refine wp_seq (Code.wp_mono (fun e a w ⟨S', h1, h2⟩ => ?_) (h (fun S => VC P N y S Q) (fun _ h => h) A w0 a w hG))
  cases e with
  | normal => exact h2 A w0 a w h1
  | _ => exact ⟨S', h1, h2⟩
theorem VC_cond {c : Operand} {x y : Code} {t : Bool} (hc : S.ev c = .p none (.bool t)) (hx : t = true → VC P N x S Q) (hy : t = false → VC P N y S Q) : VC P N (.cond c x y) S Q := fun A w0 a w hG => by
  obtain ⟨K, φ, hG'⟩ := hG
  have e : a.eval c = .bool t := conc_match (x := S.ev c) (by rw [hc]; rfl) (hG'.ev c)
  exact wp_cond_split e (fun ht => hx ht A w0 a w ⟨K, φ, hG'⟩) (fun ht => hy ht A w0 a w ⟨K, φ, hG'⟩)
theorem VC_block {id : Nat} {c : Code} (h : VC P N c S (blockQ id Q)) : VC P N (.block id c) S Q := fun A w0 a w hG => by
  refine wp_block (Code.wp_mono (fun e a w ⟨S', h1, h2⟩ => ?_) (h A w0 a w hG))
  cases e with
  | exit id' =>
    simp only [blockQ, Exit.inBlock] at *
    split at h2
    · rename_i hid; rw [if_pos hid]; exact ⟨S', h1, h2⟩
    · rename_i hid; rw [if_neg hid]; exact ⟨S', h1, h2⟩
  | _ => exact ⟨S', h1, h2⟩
theorem VC_le {c : Code} {S' : St} (g : Nat → Nat) (hl : Le g S S') (h : VC P N c S' Q) : VC P N c S Q := fun A w0 a w hG => h A w0 a w (hG.le hl)
theorem exists_min (p : Nat → Prop) (h : ∃ n, p n) : ∃ n, p n ∧ ∀ m, p m → n ≤ m := by
  obtain ⟨n, hn⟩ := h
  induction n using Nat.strongRecOn with
  | _ n ih =>
    by_cases hm : ∃ m, m < n ∧ p m
    · obtain ⟨m, h1, h2⟩ := hm
      exact ih m h1 h2
    · exact ⟨n, hn, fun m h => Nat.le_of_not_lt fun h' => hm ⟨m, h', h⟩⟩
open Classical in
theorem VC_loop {c : Code} (I : Nat → St → Prop) (n : Nat) (h0 : I n S) (round : ∀ n S, I n S → VC P N c S (thenQ (fun S' => ∃ m g S'', m < n ∧ Le g S' S'' ∧ I m S'') Q)) : VC P N (.loop c) S Q := fun A w0 a w hG => by
  let J : Act → World → Nat → Prop := fun a w n => ∃ S, I n S ∧ Gam A w0 N S a w
  refine wp_loop (fun a w => ∃ n, J a w n) (fun a w => if h : ∃ n, J a w n then Classical.choose (exists_min _ h) else 0) ⟨n, S, h0, hG⟩ fun a w hI => ?_
  have hmin := Classical.choose_spec (exists_min _ hI)
  obtain ⟨⟨S1, hI1, hG1⟩, _⟩ := hmin
  refine Code.wp_mono (fun e a' w' ⟨S', h1, h2⟩ => ?_) (round _ S1 hI1 A w0 a w hG1)
  cases e with
  | normal =>
    obtain ⟨m, g, S'', hm, hl, hI2⟩ := h2
    have hex : ∃ n, J a' w' n := ⟨m, S'', hI2, h1.le hl⟩
    refine ⟨hex, ?_⟩
    simp only [dif_pos hI, dif_pos hex]
    exact Nat.lt_of_le_of_lt ((Classical.choose_spec (exists_min _ hex)).2 m ⟨S'', hI2, h1.le hl⟩) hm
  | _ => exact ⟨S', h1, h2⟩

/-- Operations in the text's order. -/
def Ops (P : Program) (N : Nat) (all : Array Oper) : List Oper → St → (St → Prop) → Prop
  | [], S, K => K S
  | o :: rest, S, K => (∀ d, o.dst = some d → d < N) ∧ match o.guard with
    | none => ∃ e, Sound P o S e ∧ Ops P N all rest (S.apply o.dst e) K
    | some (j, want) => ∃ d b, (all[j]?).bind (·.dst) = some d ∧ d < N ∧ S.slots d = .p none (.bool b) ∧ (b = want → ∃ e, Sound P o S e ∧ Ops P N all rest (S.apply o.dst e) K) ∧ (b ≠ want → Ops P N all rest (S.put o.dst .no) K)
theorem wanted_of {A : Nat → Prop} {w0 : World} {S : St} {a : Act} {w : World} {K : Nat → Prop} {φ : Phi} {all : Array Oper} {o : Oper} {j d : Nat} {want b : Bool} (hG : G K φ A w0 N S a w) (hg : o.guard = some (j, want)) (hj : (all[j]?).bind (·.dst) = some d) (hd : d < N) (hs : S.slots d = .p none (.bool b)) :
    Region.wanted o (yielded all a.tmps) = (b == want) := by
  have h1 := hG.slots d
  rw [hs] at h1
  unfold MatchV RdV at h1
  have h2 : a.tmps[d]? = some (.bool b) := by
    have hlt : d < a.tmps.size := by rw [hG.size]; exact hd
    rw [Array.getD_eq_getD_getElem?, Array.getElem?_eq_getElem hlt] at h1
    rw [Array.getElem?_eq_getElem hlt]
    simpa using h1
  unfold Region.wanted
  simp only [hg, yielded, hj, Option.bind_some, h2]
  cases b <;> cases want <;> rfl
theorem ops_sound {all : Array Oper} {Qw : Exit → Act → World → Prop} {A : Nat → Prop} {w0 : World} {Kn : St → Prop} (hQ : ∀ S a w, Kn S → Gam A w0 N S a w → Qw .normal a w) : ∀ (l : List Oper) (S : St) (a : Act) (w : World), Ops P N all l S Kn → Gam A w0 N S a w → wpList P all Qw l a w
  | [], S, a, w, h, hG => hQ S a w h hG
  | o :: rest, S, a, w, h, ⟨K, φ, hG⟩ => by
    unfold Ops at h
    obtain ⟨hd, h⟩ := h
    have step : ∀ e, Sound P o S e → Ops P N all rest (S.apply o.dst e) Kn → o.wp P a w (wpList P all Qw rest) Qw := fun e hs ho =>
      Oper.wp_mono (fun a' w' ⟨K', φ', v, _, hG', _⟩ => ops_sound hQ rest _ a' w' ho ⟨K', φ', hG'⟩) (hs K φ A w0 N a w Qw hd hG)
    unfold wpList
    split at h
    · rename_i hg
      obtain ⟨e, hs, ho⟩ := h
      rw [if_pos (by simp [Region.wanted, hg])]
      exact .inl (step e hs ho)
    · rename_i j want hg
      obtain ⟨d, b, hj, hdN, hsl, h1, h2⟩ := h
      rw [wanted_of hG hg hj hdN hsl]
      by_cases hb : b = want
      · obtain ⟨e, hs, ho⟩ := h1 hb
        rw [if_pos (by simp [hb])]
        exact .inl (step e hs ho)
      · rw [if_neg (by simp [hb])]
        exact ops_sound hQ rest _ _ w (h2 hb) ⟨K, φ, hG.put hd (by unfold MatchV; trivial)⟩
theorem VC_region {id : Nat} {ops : Array Oper} (h : Ops P N ops ops.toList S (Q .normal)) : VC P N (.region id ops false) S Q := fun A w0 a w hG =>
  wp_region_list (ops_sound (fun S a w hq hG => ⟨S, hG, hq⟩) ops.toList S a w h hG)

/-- The results of a function as its state has them. -/
def Res1 (P : Program) (S : St) : ResultVar → AV → Prop
  | .tmp t, x => x = S.slots t
  | .cell t ty, x => ∃ h tb cs ag n bt z, S.slots t = .ptr h 0 ∧ S.res h = some (.box tb cs) ∧ tyOf P ty = some (ag, n, bt, z) ∧ ((ag = true ∧ n = cs.length ∧ x = .agg cs) ∨ (ag = false ∧ cs[0]? = some x))
def ResL (P : Program) (S : St) : List ResultVar → List AV → Prop
  | [], xs => xs = []
  | r :: rs, xs => ∃ x xs', xs = x :: xs' ∧ Res1 P S r x ∧ ResL P S rs xs'
def resAV : List AV → AV
  | [x] => x
  | xs => .tup xs
def resOne (tmps : Array Value) (r : ResultVar) : Sem Value := match r with | .tmp t => pure (tmps.getD t undef) | .cell t ty => do loadVar ty (← asAddr (tmps.getD t undef))
theorem res1_match {A : Nat → Prop} {w0 : World} {a : Act} {w : World} {K : Nat → Prop} {φ : Phi} (hG : G K φ A w0 N S a w) {r : ResultVar} {x : AV} (h : Res1 P S r x) :
    ∃ v, (resOne a.tmps r).run P w = .ok v w ∧ MatchV K φ w x v := by
  cases r with
  | tmp t =>
    simp only [Res1] at h
    subst h
    exact ⟨_, rfl, hG.slots t⟩
  | cell t ty =>
    simp only [Res1] at h
    obtain ⟨k, tb, cs, ag, n, bt, z, h1, h2, h3, h4⟩ := h
    obtain ⟨g, vs, hp, hB, hone, hl⟩ := hG.boxed h2
    have h5 := hG.slots t
    rw [h1] at h5
    unfold MatchV at h5
    obtain ⟨g', hg', he⟩ := h5 _ hp
    simp only [List.cons.injEq, and_true] at hg'
    subst hg'
    have hlen := matchL_len hl
    simp only [Array.length_toList] at hlen
    rcases h4 with ⟨rfl, rfl, rfl⟩ | ⟨rfl, hx⟩
    · have := run_loadAgg h3 w g 0 vs.toList (by simpa using hlen) (fun j v hv => by rw [hB.cell, ← Array.getElem?_toList, Nat.zero_add]; exact hv)
      refine ⟨.agg vs, ?_, by unfold MatchV; exact ⟨vs, rfl, hone, hl⟩⟩
      simp only [resOne, he, asAddr, Sem.run_bind, Sem.run_pure, Result.andThen_ok]
      simpa [Instr.loadAt, Instr.sureAddr] using this
    · obtain ⟨v, hv, hm⟩ := matchL_get hl hx
      have := run_loadOne h3 w g 0 v (by rw [hB.cell, ← Array.getElem?_toList]; exact hv)
      refine ⟨v, ?_, hm⟩
      simp only [resOne, he, asAddr, Sem.run_bind, Sem.run_pure, Result.andThen_ok]
      simpa [Instr.loadAt, Instr.sureAddr] using this
theorem resL_match {A : Nat → Prop} {w0 : World} {a : Act} {w : World} {K : Nat → Prop} {φ : Phi} (hG : G K φ A w0 N S a w) : ∀ {rs : List ResultVar} {xs : List AV}, ResL P S rs xs →
    ∃ vs : List Value, (rs.mapM (resOne a.tmps)).run P w = .ok vs w ∧ MatchL K φ w xs vs
  | [], xs, h => ⟨[], by simp, by rw [show xs = [] from h]; unfold MatchL; rfl⟩
  | r :: rs, xs, ⟨x, xs', e, h1, h2⟩ => by
    subst e
    obtain ⟨v, q1, q2⟩ := res1_match hG h1
    obtain ⟨vs, q3, q4⟩ := resL_match hG h2
    refine ⟨v :: vs, ?_, by unfold MatchL; exact ⟨v, vs, rfl, q2, q4⟩⟩
    simp only [List.mapM_cons, Sem.run_bind]
    rw [q1]
    simp only [Result.andThen_ok, Sem.run_bind]
    rw [q3]
    rfl
theorem results_match {A : Nat → Prop} {w0 : World} {a : Act} {w : World} {K : Nat → Prop} {φ : Phi} {fn : Func} {xs : List AV} (hG : G K φ A w0 N S a w) (h : ResL P S fn.results.toList xs) : ∃ v, (results fn a.tmps).run P w = .ok v w ∧ MatchV K φ w (resAV xs) v := by
  obtain ⟨vs, h1, h2⟩ := resL_match hG h
  have hl := matchL_len h2
  have hrun : (results fn a.tmps).run P w = .ok (if h : vs.toArray.size = 1 then vs.toArray[0] else .tuple vs.toArray) w := by
    have e : results fn a.tmps = (do let vs ← fn.results.mapM (resOne a.tmps); pure (if h : vs.size = 1 then vs[0] else .tuple vs)) := by
      unfold results
      congr 1
    rw [e, Array.mapM_eq_mapM_toList]
    simp only [Sem.run_bind, Sem.run_map, h1]
    rfl
  refine ⟨_, hrun, ?_⟩
  rcases xs with _ | ⟨x, _ | ⟨y, xs⟩⟩
  · have : vs = [] := List.eq_nil_of_length_eq_zero hl
    subst this
    simp only [resAV]
    unfold MatchV
    exact ⟨#[], rfl, h2⟩
  · unfold MatchL at h2
    obtain ⟨v, vs', rfl, h3, h4⟩ := h2
    unfold MatchL at h4
    subst h4
    exact h3
  · rw [dif_neg (by simp at hl ⊢; omega)]
    simp only [resAV]
    unfold MatchV
    exact ⟨_, rfl, h2⟩
/-- An argument as a slot has it. -/
def arAV : Ar → AV
  | .one x => .p none x
  | .agg xs => .agg (xs.map (AV.p none))
def S0 (args : List Ar) : St := ⟨fun t => match args[t]? with | some x => arAV x | none => .no, fun _ => none⟩
theorem arsRd_at {A : Nat → Prop} {w : World} : ∀ {xs : List Ar} {vs : List Value} {i : Nat} {x : Ar}, ArsRd A w xs vs → xs[i]? = some x → ∃ v, vs[i]? = some v ∧ ArRd A w x v
  | [], _, _, _, _, h => by simp at h
  | y :: xs, _, 0, x, ⟨v, vs', e, h1, _⟩, h => by subst e; simp at h; subst h; exact ⟨v, rfl, h1⟩
  | y :: xs, _, i + 1, x, ⟨v, vs', e, _, h2⟩, h => by
    subst e; simp at h
    obtain ⟨u, hu, hr⟩ := arsRd_at h2 h
    exact ⟨u, by simpa using hu, hr⟩
theorem arsRd_len {A : Nat → Prop} {w : World} : ∀ {xs : List Ar} {vs : List Value}, ArsRd A w xs vs → vs.length = xs.length
  | [], _, h => by rw [show _ = [] from h]; rfl
  | y :: xs, _, ⟨v, vs', e, _, h2⟩ => by subst e; simp [arsRd_len h2]
theorem arAV_match {A : Nat → Prop} {w : World} {φ : Phi} {x : Ar} {v : Value} (h : ArRd A w x v) : MatchV A φ w (arAV x) v := by
  cases x with
  | one x => simp only [arAV]; unfold MatchV; exact h
  | agg xs =>
    obtain ⟨vs, rfl, hl⟩ := h
    simp only [arAV]
    obtain ⟨h1, h2⟩ := rdL_match (K := A) (φ := φ) (w := w) (o := none) (fun x v => by unfold MatchV; exact Iff.rfl) hl
    have e2 : xs.map (pOf none) = xs.map (AV.p none) := by
      apply List.map_congr_left
      intro y _
      unfold pOf
      split <;> rfl
    rw [e2] at h1
    unfold MatchV
    exact ⟨vs, rfl, h2, h1⟩
/-- What the state at the end must show. -/
def Fin (P : Program) (fn : Func) (rv : AV) (rs : List (Nat × Rs)) (e : Exit) (S : St) : Prop :=
  (e = .normal ∨ e = .ret) ∧ ∃ xs g, ResL P S fn.results.toList xs ∧ resAV xs = mapA g rv ∧ (∀ h r, findH rs h = some r → S.res (g h) = some r ∧ arrR r = true) ∧ (∀ h h' r r', findH rs h = some r → findH rs h' = some r' → g h = g h' → h = h')
theorem con_of_vc {f : FuncId} {fn : Func} {c : Code} {args : List Ar} {rv : AV} {rs : List (Nat × Rs)} (hf : P.funcs[f]? = some fn) (hb : fn.body = some c) (hn : (fn.name == "runtime.NumGoroutine") = false) (hl : args.length ≤ fn.ntmps)
    (h : VC P fn.ntmps c (S0 args) (Fin P fn rv rs)) : Con P f args rv rs := by
  refine ⟨by simp [callable, hf, hb, hn], fun A w vs hA hargs => ?_⟩
  refine calls_of_wp hf hb ?_
  have hlen := arsRd_len hargs
  simp only [Array.length_toList] at hlen
  have hG0 : Gam A w fn.ntmps (S0 args) { tmps := vs ++ Array.replicate (fn.ntmps - vs.size) undef, defers := [] } w := by
    refine ⟨A, fun _ => none, by simp [S0], by simp [S0], by simp, by simp, by simp, fun b hb => ⟨hA b hb, .inl hb⟩, by simp, fun _ h => h, fun t => ?_, Below.refl _ _, rfl, by simp; omega⟩
    simp only [S0]
    split
    · rename_i x hx
      obtain ⟨v, hv, hr⟩ := arsRd_at hargs hx
      have ht : t < vs.size := by have := (List.getElem?_eq_some_iff.1 hv).1; simpa using this
      rw [Array.getD_eq_getD_getElem?, Array.getElem?_append_left ht, ← Array.getElem?_toList, hv]
      exact arAV_match hr
    · unfold MatchV; trivial
  refine Code.wp_mono (fun e a' w' ⟨S, ⟨K, φ, hG⟩, he, xs, g, hres, hrv, hrs, hinj⟩ => ?_) (h A w _ w hG0)
  obtain ⟨v, hrun, hm⟩ := results_match hG hres
  rw [hrv] at hm
  have hφ : ∀ h pl, (match findH rs h with | some _ => φ (g h) | none => none) = some pl → (∃ r, findH rs h = some r) ∧ φ (g h) = some pl := fun h pl e => by
    split at e
    · rename_i r hr; exact ⟨⟨r, hr⟩, e⟩
    · cases e
  have hR : RetOk A w rv rs (.returned v) w' := by
    refine ⟨v, K, fun h => match findH rs h with | some _ => φ (g h) | none => none, rfl, hG.bel, hG.kin, fun b hb h pl e => hG.kout b hb _ pl (hφ h pl e).2, fun h r hr => ?_, fun h hr => by simp [hr], fun h h' pl pl' hne e e' => ?_, fun h pl e => hG.nodup _ pl (hφ h pl e).2, fun h pl e => hG.ge _ pl (hφ h pl e).2, MatchV.unmap rv v (fun k pl _ e => (hφ k pl e).2) hm⟩
    · obtain ⟨h1, h2⟩ := hrs h r hr
      obtain ⟨pl, hp, hh⟩ := hG.dom _ _ h1
      exact ⟨pl, by simp [hr, hp], Holds.arrPhi h2 hh⟩
    · obtain ⟨⟨r, hr⟩, e⟩ := hφ h pl e
      obtain ⟨⟨r', hr'⟩, e'⟩ := hφ h' pl' e'
      exact hG.disj _ _ pl pl' (fun x => hne (hinj h h' r r' hr hr' x)) e e'
  rcases he with rfl | rfl <;> exact ⟨hG.nd, v, hrun, hR⟩
end
end Go.Proofs.Ytcgjlddpbkponaa
