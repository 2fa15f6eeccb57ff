/-
  append: plain rows; rows that are only read; rows whose memory is handed over.
-/
import Derived.Test.YtcgjlddpbkponaaEi
namespace Go.Proofs.Ytcgjlddpbkponaa
open Go.ChangeShapes Go.WideShapes Go.ChangeAt Go.RowKit
set_option linter.unusedVariables false
set_option linter.unusedSimpArgs false

theorem rdRows_of {B : Nat → Prop} {w : World} {k : Nat} : ∀ {xs : List (List Dat)} {css : List (List Value)}, css.length = xs.length → (∀ (i : Nat) x c, xs[i]? = some x → css[i]? = some c → x.length = k ∧ RdL B w x c) → RdRows B w k xs css
  | [], [], _, _ => rfl
  | [], c :: css, h, _ => by simp at h
  | x :: xs, [], h, _ => by simp at h
  | x :: xs, c :: css, h, hr => ⟨c, css, rfl, (hr 0 x c rfl rfl).1, (hr 0 x c rfl rfl).2, rdRows_of (by simpa using h) fun i x' c' hx hc => hr (i + 1) x' c' (by simpa using hx) (by simpa using hc)⟩
/-- Rows without memory behind them that append may take. -/
def FlatSrc (S : St) : AV → Nat → List (List Dat) → Prop
  | .p o (.sl _ k' xs), k, ys => liveO S o ∧ k' = k ∧ ys = xs
  | .own h, k, ys => ∃ e d, S.res h = some (.arr e k d ys)
  | .nil, _, ys => ys = []
  | _, _, _ => False
/-- Rows that are only read. -/
def RoSrc (S : St) : AV → Nat → List (List Dat) → Prop
  | .p none (.sl _ k' xs), k, ys => k' = k ∧ ys = xs
  | .bsl h n, k, ys => ∃ e row, n = 1 ∧ S.res h = some (.box e (row.map (AV.p none))) ∧ row.length = k ∧ ys = [row]
  | _, _, _ => False
def Move1 (S : St) : AV → Dat → List Nat → Prop
  | .p none y, x, h => x = y ∧ y.val?.isSome = true ∧ h = []
  | .own g, x, h => ∃ e k ys, S.res g = some (.arr e k true ys) ∧ x = .sl e k ys ∧ h = [g]
  | .nil, x, h => ∃ e k, x = .sl e k [] ∧ h = []
  | _, _, _ => False
def MoveC (S : St) : List AV → List Dat → List Nat → Prop
  | [], row, hs => row = [] ∧ hs = []
  | c :: cs, row, hs => ∃ x row' h1 h2, row = x :: row' ∧ hs = h1 ++ h2 ∧ Move1 S c x h1 ∧ MoveC S cs row' h2

section
variable {K : Nat → Prop} {φ : Phi} {A : Nat → Prop} {w0 : World} {N : Nat} {S : St} {a : Act} {w : World} {P : Program}
theorem src_of_rs {B : Nat → Prop} {k : Nat} {xs : List (List Dat)} {b : Option Addr} {c : Nat} (h : RdRs B w k xs b 0) : ∃ css, RdRows B w k xs css ∧ Src w k (.slice b xs.length c) xs.length css.flatten := by
  obtain ⟨css, h1, h2⟩ := h.vals
  refine ⟨css, h1, b, c, rfl, by rw [flatten_len h1.len.2, h1.len.1], fun hb => ?_, fun ad e j u hu => ?_⟩
  · rcases xs with _ | ⟨x, xs⟩
    · rfl
    · obtain ⟨_, _, e, _⟩ := h2 (by simp)
      rw [hb] at e; cases e
  · have hne : xs ≠ [] := by
      rintro rfl
      rw [show css = [] from h1] at hu
      simp at hu
    obtain ⟨b', off, e', hc⟩ := h2 hne
    rw [e] at e'
    injection e' with e'
    subst e'
    rw [add_none]
    have := hc j u hu
    simpa using this
theorem src_of_own {e k n : Nat} {v : Value} {css : List (List Value)} (ho : w.ownsRow 0 e k v n css.flatten) (hk : 0 < k) : Src w k v n css.flatten := by
  obtain ⟨b, c, rfl, h1, h2, h3⟩ := owns_shape ho
  refine ⟨b, c, rfl, ho.1, fun hb => ?_, fun ad e j u hu => ?_⟩
  · rcases Nat.eq_zero_or_pos n with hn | hn
    · exact hn
    · obtain ⟨g, e, _⟩ := h3 hn
      rw [hb] at e; cases e
  · have hj : j < n * k := by have := (List.getElem?_eq_some_iff.1 hu).1; rw [ho.1] at this; exact this
    have hn : 0 < n := by
      rcases Nat.eq_zero_or_pos n with hn | hn
      · subst hn; simp at hj
      · exact hn
    obtain ⟨g, e', _⟩ := h3 hn
    rw [e] at e'
    injection e' with e'
    subst e'
    subst e
    rw [add_none, Nat.zero_add, ho.cellAt j hj]
    exact hu
theorem flatSrc_match (hG : G K φ A w0 N S a w) {x : AV} {k : Nat} {ys : List (List Dat)} {dss : List (List Value)} {v : Value} (hk : 0 < k) (h : FlatSrc S x k ys) (hf : Flats ys dss) (hm : MatchV K φ w x v) : Src w k v ys.length dss.flatten ∧ ∀ y ∈ ys, y.length = k := by
  have lens : ∀ {B : Nat → Prop} {css : List (List Value)}, RdRows B w k ys css → ∀ y ∈ ys, y.length = k := by
    intro B css hr y hy
    obtain ⟨i, hi, rfl⟩ := List.getElem_of_mem hy
    have hc : i < css.length := by rw [hr.len.1]; exact hi
    exact (hr.at_ (List.getElem?_eq_getElem hi) (List.getElem?_eq_getElem hc)).1
  unfold FlatSrc at h
  split at h
  · rename_i o _ k' xs
    obtain ⟨hl, rfl, rfl⟩ := h
    obtain ⟨B, hB, _⟩ := hG.inO hl
    have := (hB _ _).1 hm
    unfold RdV at this
    obtain ⟨b, c, rfl, _, _, hr⟩ := this
    obtain ⟨css, h1, h2⟩ := src_of_rs (c := c) hr
    rw [h1.flats_eq hf] at h2
    exact ⟨h2, lens h1⟩
  · rename_i h
    obtain ⟨e, d, hr⟩ := h
    obtain ⟨pl, css, hp, ho, hcl, hck, _, hrow⟩ := hG.owned hr
    unfold MatchV at hm
    rw [hm pl hp]
    have h1 : RdRows (In K pl) w k ys css := rdRows_of hcl fun i x c hx hc => ⟨(hrow i x c hx hc).1, (hrow i x c hx hc).2.1⟩
    rw [h1.flats_eq hf] at ho
    exact ⟨src_of_own ho hk, lens h1⟩
  · subst h
    unfold MatchV at hm
    rw [hm, show dss = [] from hf]
    exact ⟨⟨none, 0, rfl, by simp, fun _ => rfl, by simp⟩, by simp⟩
  · exact h.elim
theorem roSrc_match (hG : G K φ A w0 N S a w) {x : AV} {k : Nat} {ys : List (List Dat)} {v : Value} (h : RoSrc S x k ys) (hm : MatchV K φ w x v) : ∃ dss, Src w k v ys.length dss.flatten ∧ RdRows K w k ys dss := by
  unfold RoSrc at h
  split at h
  · obtain ⟨rfl, rfl⟩ := h
    unfold MatchV RdV at hm
    obtain ⟨b, c, rfl, _, _, hr⟩ := hm
    obtain ⟨css, h1, h2⟩ := src_of_rs (c := c) hr
    exact ⟨css, h2, h1⟩
  · obtain ⟨e, row, rfl, hr, hk, rfl⟩ := h
    obtain ⟨g, vs, hp, hB, h1, hl⟩ := hG.boxed hr
    unfold MatchV at hm
    obtain ⟨g', hg', rfl⟩ := hm _ hp
    simp only [List.cons.injEq, and_true] at hg'
    subst hg'
    have hrd : RdL K w row vs.toList := by
      clear h1 hB hr hk hp
      generalize vs.toList = us at *
      induction row generalizing us with
      | nil => simp only [List.map_nil] at hl; unfold MatchL at hl; exact hl
      | cons y row ih =>
        simp only [List.map_cons] at hl
        unfold MatchL at hl
        obtain ⟨u, us', rfl, q1, q2⟩ := hl
        unfold MatchV at q1
        exact ⟨u, us', rfl, q1, ih _ q2⟩
    refine ⟨[vs.toList], ?_, vs.toList, [], rfl, hk, hrd, rfl⟩
    have := Src.one hB (K := k) (by have := hrd.len; simp at this; omega)
    simpa using this
  · exact h.elim
theorem rdRows_one {K : Nat → Prop} {w : World} {k : Nat} : ∀ {xs : List (List Dat)} {css : List (List Value)}, RdRows K w k xs css → ∀ u ∈ css.flatten, u.oneCell' = true
  | [], css, h => by rw [show css = [] from h]; simp
  | x :: xs, _, ⟨c, css', e, h1, h2, h3⟩ => by
    subst e
    intro u hu
    simp only [List.flatten_cons, List.mem_append] at hu
    rcases hu with hu | hu
    · exact (rdL_match (K := K) (φ := fun _ => none) (w := w) (o := none) (fun x v => by unfold MatchV; exact Iff.rfl) h2).2 u hu
    · exact rdRows_one h3 u hu
/-- The operation itself. -/
theorem append_run {o : Oper} {s x : Operand} {t e : TypeId} {k bt : Nat} {ag : Bool} {z : Value} {n m : Nat} {old news : List Value} {K1 : Act → World → Prop} {Q : Exit → Act → World → Prop} (ho : o.op = .call { callee := .builtin .append, args := #[s, x], argTypes := #[t, t] })
    (ht : P.underlying t = some (.slice e)) (hk : tyOf P e = some (ag, k, bt, z)) (hpos : 0 < k) (hown : w.ownsRow 0 e k (a.eval s) n old) (hsrc : Src w k (a.eval x) m news) (h1 : ∀ u ∈ news, u.oneCell' = true) (h63 : n + m ≤ maxLen) (hb : (n + m) * bt ≤ 140737488355328)
    (h : ∀ v' w', w'.ownsRow 0 e k v' (n + m) (old ++ news) → w.grownBy w' (a.eval s).ownBlock → (v'.ownBlock = (a.eval s).ownBlock ∨ v'.ownBlock = some w.heap.size) → K1 (a.put o.dst v') w') : o.wp P a w K1 Q := by
  obtain ⟨_, _, _, _, q5, q6, q7, q8⟩ := tyOf_spec hk w
  exact wp_append_src w s x t ho 0 e _ z k bt ht q6 q8 q7 q5 (tyOf_zero hk).1 hpos _ n old rfl hown _ m news rfl hsrc h1 h63 hb (Nat.zero_le _) h
/-- Where the grown slice lies. -/
theorem app_place (hG : G K φ A w0 N S a w) {del : List Nat} {v v' : Value} {w' : World} {e k n : Nat} {xs : List Value} {sub : List Nat} (hg : w.grownBy w' v.ownBlock) (ho : w'.ownsRow 0 e k v' n xs) (hv : v'.ownBlock = v.ownBlock ∨ v'.ownBlock = some w.heap.size)
    (hd : ∀ g ∈ v.ownBlock.toList, Foot φ (· ∈ del) g) (hs : ∀ g ∈ sub, Foot φ (· ∈ del) g) (hn : (v.ownBlock.toList ++ sub).Nodup) :
    (v'.ownBlock.toList ++ sub).Nodup ∧ (∀ g ∈ v'.ownBlock.toList ++ sub, g < w'.heap.size ∧ (w.heap.size ≤ g ∨ Foot φ (· ∈ del) g)) ∧ Chg (Foot φ (· ∈ del)) w w' ∧ KeptOn sub w w' ∧ SameOn K w w' := by
  have hlt : ∀ g, Foot φ (· ∈ del) g → g < w.heap.size := fun g ⟨h, pl, _, hp, hm⟩ => (hG.ge h pl hp g hm).2
  have hc : Chg (Foot φ (· ∈ del)) w w' := chg_grown hg hd
  refine ⟨?_, fun g hm => ?_, hc, fun g hm => hg.block g (hlt g (hs g hm)) (fun e => (List.nodup_append.1 hn).2.2 g (by rw [← e]; simp) g hm rfl), fun b hb => hc.block b (hG.kin b hb).1 (fun ⟨h, pl, _, hp, hm⟩ => hG.kout b hb h pl hp hm)⟩
  · rcases hv with hv | hv
    · rw [hv]; exact hn
    · rw [hv]
      simp only [Option.toList_some, List.singleton_append, List.nodup_cons]
      exact ⟨fun hm => by have := hlt _ (hs _ hm); omega, (List.nodup_append.1 hn).2.1⟩
  · rcases List.mem_append.1 hm with hm | hm
    · refine ⟨(owns_lt ho g hm).2, ?_⟩
      rcases hv with hv | hv
      · rw [hv] at hm; exact .inr (hd g hm)
      · rw [hv] at hm; simp at hm; subst hm; exact .inl (Nat.le_refl _)
    · have := hlt g (hs g hm)
      exact ⟨Nat.lt_of_lt_of_le this hg.size, .inr (hs g hm)⟩
theorem own_new {h : Nat} {pl : Pl} {C : Nat → Prop} [DecidablePred C] {w' : World} : MatchV K (stepPhi C (fun x => if x = h then some pl else none) φ) w' (.own h) pl.val := by
  unfold MatchV
  intro pl' hp
  simp only [stepPhi, if_true, Option.some.injEq] at hp
  subst hp; rfl
section
variable {o : Oper} {s x : Operand} {t e : TypeId} {k bt : Nat} {ag : Bool} {z : Value} {del : List Nat} {d : Bool} {xs ys : List (List Dat)} {h : Nat}
theorem sound_app_flat {dss : List (List Value)} (ho : o.op = .call { callee := .builtin .append, args := #[s, x], argTypes := #[t, t] }) (ht : P.underlying t = some (.slice e)) (hk : tyOf P e = some (ag, k, bt, z)) (hpos : 0 < k)
    (htgt : TgtIs S (S.ev s) del e k d xs) (hsrc : FlatSrc S (S.ev x) k ys) (hf : Flats ys dss) (h63 : xs.length + ys.length ≤ maxLen) (hb : (xs.length + ys.length) * bt ≤ 140737488355328) (hfr : Fresh S h) :
    Sound P o S ⟨.own h, del, [(h, .arr e k d (xs ++ ys))]⟩ := by
  intro K φ A w0 N a w Q hd hG
  obtain ⟨css, h1, h2, h3, h4, h5, h6⟩ := tgt_match hG htgt (hG.ev s)
  obtain ⟨hS, hyk⟩ := flatSrc_match hG hpos hsrc hf (hG.ev x)
  refine append_run ho ht hk hpos h1 hS hf.one h63 hb fun v' w' hown hg hv => ?_
  cases d with
  | true =>
    obtain ⟨Fs, q1, q2, q3⟩ := h5 rfl
    obtain ⟨p1, p2, p3, p4, p5⟩ := app_place hG hg hown hv h4 q3 q2
    have := hG.consume (r := .arr e k true (xs ++ ys)) (pl := ⟨v', v'.ownBlock.toList, Fs.flatten⟩) (K' := K) p3 hfr p1 p2 (fun _ h => h) (fun _ h => .inl h)
      ⟨css ++ dss, Fs ++ List.replicate ys.length [], by simpa using hown, rfl, by simp, (OwRs.kept _ _ _ _ p4 q1).append (hf.owRs hyk)⟩
    exact ⟨_, _, _, rfl, this.put hd own_new, tr_consume hG p3 hfr p2⟩
  | false =>
    have q1 := h6 (.inl rfl)
    obtain ⟨p1, p2, p3, p4, p5⟩ := app_place (sub := []) hG hg hown hv h4 (by simp) (by cases (a.eval s).ownBlock <;> simp)
    have := hG.consume (r := .arr e k false (xs ++ ys)) (pl := ⟨v', v'.ownBlock.toList, []⟩) (K' := K) p3 hfr p1 p2 (fun _ h => h) (fun _ h => .inl h)
      ⟨css ++ dss, by simpa using hown, rfl, rfl, (q1.mono p5 (fun _ h => h)).append (hf.rdRows hyk)⟩
    exact ⟨_, _, _, rfl, this.put hd own_new, tr_consume hG p3 hfr p2⟩
theorem sound_app_ro (ho : o.op = .call { callee := .builtin .append, args := #[s, x], argTypes := #[t, t] }) (ht : P.underlying t = some (.slice e)) (hk : tyOf P e = some (ag, k, bt, z)) (hpos : 0 < k)
    (htgt : TgtIs S (S.ev s) del e k d xs) (hdx : d = false ∨ xs = []) (hsrc : RoSrc S (S.ev x) k ys) (h63 : xs.length + ys.length ≤ maxLen) (hb : (xs.length + ys.length) * bt ≤ 140737488355328) (hfr : Fresh S h) :
    Sound P o S ⟨.own h, del, [(h, .arr e k false (xs ++ ys))]⟩ := by
  intro K φ A w0 N a w Q hd hG
  obtain ⟨css, h1, h2, h3, h4, h5, h6⟩ := tgt_match hG htgt (hG.ev s)
  obtain ⟨dss, hS, hR⟩ := roSrc_match hG hsrc (hG.ev x)
  refine append_run ho ht hk hpos h1 hS (rdRows_one hR) h63 hb fun v' w' hown hg hv => ?_
  have q1 := h6 hdx
  obtain ⟨p1, p2, p3, p4, p5⟩ := app_place (sub := []) hG hg hown hv h4 (by simp) (by cases (a.eval s).ownBlock <;> simp)
  have := hG.consume (r := .arr e k false (xs ++ ys)) (pl := ⟨v', v'.ownBlock.toList, []⟩) (K' := K) p3 hfr p1 p2 (fun _ h => h) (fun _ h => .inl h)
    ⟨css ++ dss, by simpa using hown, rfl, rfl, (q1.append hR).mono p5 (fun _ h => h)⟩
  exact ⟨_, _, _, rfl, this.put hd own_new, tr_consume hG p3 hfr p2⟩
theorem moveC_match (hG : G K φ A w0 N S a w) : ∀ {cs : List AV} {row : List Dat} {hs : List Nat} {vs : List Value}, MoveC S cs row hs → hs.Nodup → MatchL K φ w cs vs → ∃ F, OwCs w row vs F ∧ F.Nodup ∧ ∀ g ∈ F, Foot φ (· ∈ hs) g
  | [], row, hs, vs, h, _, hm => by
    unfold MoveC at h
    unfold MatchL at hm
    rw [h.1, h.2, hm]
    exact ⟨[], by unfold OwCs; exact ⟨rfl, rfl⟩, by simp, by simp⟩
  | c :: cs, row, hs, vs, h, hnd, hm => by
    unfold MoveC at h
    obtain ⟨x, row', g1, g2, rfl, rfl, hc, hcs⟩ := h
    unfold MatchL at hm
    obtain ⟨v, vs', rfl, hv, hvs⟩ := hm
    have hn := List.nodup_append.1 hnd
    obtain ⟨F2, r1, r2, r3⟩ := moveC_match hG hcs hn.2.1 hvs
    have hone : ∃ F1, OwV w x v F1 ∧ F1.Nodup ∧ ∀ g ∈ F1, Foot φ (· ∈ g1) g := by
      unfold Move1 at hc
      split at hc
      · obtain ⟨rfl, hs, rfl⟩ := hc
        unfold MatchV at hv
        refine ⟨[], ?_, by simp, by simp⟩
        cases x <;> unfold RdV at hv <;> unfold OwV
        · exact ⟨hv, rfl⟩
        · exact ⟨hv, rfl⟩
        · exact ⟨hv, rfl⟩
        · simp [Dat.val?] at hs
      · rename_i g
        obtain ⟨e, k, ys, hr, rfl, rfl⟩ := hc
        obtain ⟨pl, hp, css, Fs, q1, q2, q3, q4⟩ := hG.dom g _ hr
        unfold MatchV at hv
        have e1 := hv pl hp
        subst e1
        refine ⟨pl.F, ?_, hG.nodup g pl hp, fun b hb => ⟨g, pl, by simp, hp, hb⟩⟩
        unfold OwV
        exact ⟨css, Fs, q1, by unfold Pl.F; rw [q2, q3], q4⟩
      · obtain ⟨e, k, rfl, rfl⟩ := hc
        unfold MatchV at hv
        refine ⟨[], ?_, by simp, by simp⟩
        unfold OwV
        exact ⟨[], [], by rw [hv]; exact ⟨by simp, .inl ⟨rfl, rfl⟩⟩, by rw [hv]; rfl, by unfold OwRs; exact ⟨rfl, rfl⟩⟩
      · exact hc.elim
    obtain ⟨F1, s1, s2, s3⟩ := hone
    refine ⟨F1 ++ F2, by unfold OwCs; exact ⟨v, vs', F1, F2, rfl, rfl, s1, r1⟩, ?_, fun g hg => ?_⟩
    · rw [List.nodup_append]
      refine ⟨s2, r2, fun p hp q hq e => ?_⟩
      subst e
      obtain ⟨h1, pl1, m1, p1, b1⟩ := s3 p hp
      obtain ⟨h2, pl2, m2, p2, b2⟩ := r3 p hq
      exact hG.disj h1 h2 pl1 pl2 (fun e => hn.2.2 h1 m1 h2 m2 e) p1 p2 p b1 b2
    · rcases List.mem_append.1 hg with hg | hg
      · obtain ⟨h1, pl1, m1, p1, b1⟩ := s3 g hg
        exact ⟨h1, pl1, List.mem_append_left _ m1, p1, b1⟩
      · obtain ⟨h1, pl1, m1, p1, b1⟩ := r3 g hg
        exact ⟨h1, pl1, List.mem_append_right _ m1, p1, b1⟩
theorem owCs_one {w : World} {row : List Dat} {vs : List Value} {F : List Nat} (h : OwCs w row vs F) : ∀ u ∈ vs, u.oneCell' = true :=
  (rdL_match (K := fun _ => True) (φ := fun _ => none) (w := w) (o := none) (fun x v => by unfold MatchV; exact Iff.rfl) (OwCs.rd (A := fun _ => True) row vs F (by simp) h)).2
/-- One element more, its memory handed over. -/
theorem sound_app_move {h2 : Nat} {e2 : TypeId} {cs : List AV} {row : List Dat} {hs : List Nat} (ho : o.op = .call { callee := .builtin .append, args := #[s, x], argTypes := #[t, t] }) (ht : P.underlying t = some (.slice e)) (hk : tyOf P e = some (ag, k, bt, z)) (hpos : 0 < k)
    (htgt : TgtIs S (S.ev s) del e k d xs) (hdx : d = true ∨ xs = []) (hx : S.ev x = .bsl h2 1) (hr : S.res h2 = some (.box e2 cs)) (hm : MoveC S cs row hs) (hrow : row.length = k) (hnd : (del ++ hs).Nodup) (h63 : xs.length + 1 ≤ maxLen) (hb : (xs.length + 1) * bt ≤ 140737488355328) (hfr : Fresh S h) :
    Sound P o S ⟨.own h, del ++ hs, [(h, .arr e k true (xs ++ [row]))]⟩ := by
  intro K φ A w0 N a w Q hd hG
  obtain ⟨css, h1, h2', h3, h4, h5, h6⟩ := tgt_match hG htgt (hG.ev s)
  obtain ⟨g, vs, hp, hB, hone, hl⟩ := hG.boxed hr
  have hn := List.nodup_append.1 hnd
  obtain ⟨F, r1, r2, r3⟩ := moveC_match hG hm hn.2.1 hl
  have hev := hG.ev x
  rw [hx] at hev
  unfold MatchV at hev
  obtain ⟨g', hg', he⟩ := hev _ hp
  simp only [List.cons.injEq, and_true] at hg'
  subst hg'
  have hS : Src w k (a.eval x) 1 vs.toList := by
    rw [he]
    exact Src.one hB (by have := r1.len; simp at this; omega)
  have hT : ∃ Fs, OwRs w k xs css Fs ∧ ((a.eval s).ownBlock.toList ++ Fs.flatten).Nodup ∧ ∀ g ∈ Fs.flatten, Foot φ (· ∈ del) g := by
    cases d with
    | true => exact h5 rfl
    | false =>
      have hxs : xs = [] := by rcases hdx with h | h; cases h; exact h
      subst hxs
      have : css = [] := List.eq_nil_of_length_eq_zero (by simpa using h2')
      subst this
      exact ⟨[], by unfold OwRs; exact ⟨rfl, rfl⟩, by cases (a.eval s).ownBlock <;> simp, by simp⟩
  obtain ⟨Fs, q1, q2, q3⟩ := hT
  refine append_run ho ht hk hpos h1 hS (owCs_one r1) h63 hb fun v' w' hown hg hv => ?_
  have up1 : ∀ b, Foot φ (· ∈ del) b → Foot φ (· ∈ del ++ hs) b := fun b ⟨h1, pl1, m1, p1, b1⟩ => ⟨h1, pl1, List.mem_append_left _ m1, p1, b1⟩
  have up2 : ∀ b, Foot φ (· ∈ hs) b → Foot φ (· ∈ del ++ hs) b := fun b ⟨h1, pl1, m1, p1, b1⟩ => ⟨h1, pl1, List.mem_append_right _ m1, p1, b1⟩
  have apart : ∀ b, Foot φ (· ∈ del) b → ¬ Foot φ (· ∈ hs) b := fun b ⟨h1, pl1, m1, p1, b1⟩ ⟨h2, pl2, m2, p2, b2⟩ => hG.disj h1 h2 pl1 pl2 (fun e => hn.2.2 h1 m1 h2 m2 e) p1 p2 b b1 b2
  obtain ⟨p1, p2, p3, p4, p5⟩ := app_place (del := del ++ hs) (sub := Fs.flatten ++ F) hG hg hown hv (fun g hg => up1 g (h4 g hg)) (fun g hg => by rcases List.mem_append.1 hg with hg | hg; exact up1 g (q3 g hg); exact up2 g (r3 g hg)) (by
    rw [← List.append_assoc, List.nodup_append]
    refine ⟨q2, r2, fun p hp q hq e => ?_⟩
    subst e
    rcases List.mem_append.1 hp with hp | hp
    · exact apart p (h4 p hp) (r3 p hq)
    · exact apart p (q3 p hp) (r3 p hq))
  have := hG.consume (r := .arr e k true (xs ++ [row])) (pl := ⟨v', v'.ownBlock.toList, Fs.flatten ++ F⟩) (K' := K) p3 hfr p1 p2 (fun _ h => h) (fun _ h => .inl h)
    ⟨css ++ [vs.toList], Fs ++ [F], by simpa using hown, rfl, by simp, (OwRs.kept _ _ _ _ (p4.mono fun g hg => List.mem_append_left _ hg) q1).append (by unfold OwRs; exact ⟨vs.toList, [], F, [], rfl, rfl, hrow, OwCs.kept _ _ _ (p4.mono fun g hg => List.mem_append_right _ hg) r1, by unfold OwRs; exact ⟨rfl, rfl⟩⟩)⟩
  exact ⟨_, _, _, rfl, this.put hd own_new, tr_consume hG p3 hfr p2⟩
end
end
end Go.Proofs.Ytcgjlddpbkponaa
