/-
  append onto a row of the call's own, whatever the source: nil, empty or not.
-/
import Derived.Test.YtcgjlddpbkponaaShapes
import Derived.Maps.AppendAt
import Derived.RegionTactic
import Derived.Deep.DeepCutAuto
namespace Go.Proofs.Ytcgjlddpbkponaa
open Go.ChangeShapes Go.WideShapes Go.ChangeAt Go.RowKit

/-- The slice value sv of m elements, K cells each, holds the cells news. -/
def Src (w : World) (K : Nat) (sv : Value) (m : Nat) (news : List Value) : Prop :=
  ∃ A c, sv = .slice A m c ∧ news.length = m * K ∧ (A = none → m = 0) ∧ ∀ b, A = some b → ∀ j u, news[j]? = some u → w.cell? (b.add j) = some u
theorem add_none (b off j : Nat) : (⟨b, off, none⟩ : Addr).add j = ⟨b, off + j, none⟩ := by unfold Addr.add; split <;> simp_all
theorem Src.one {w : World} {K : Nat} {b : Nat} {t : TypeId} {cs : Array Value} (h : Blk w b t cs) (hK : cs.size = K) : Src w K (.slice (some ⟨b, 0, none⟩) 1 1) 1 cs.toList :=
  ⟨some ⟨b, 0, none⟩, 1, rfl, by simp [hK], by simp, fun b' e => by
    simp only [Option.some.injEq] at e
    subst e
    exact fun j u hu => by rw [add_none, Nat.zero_add, h.cell j]; simpa using hu⟩
theorem Src.kept {w w' : World} {K : Nat} {sv : Value} {m : Nat} {news : List Value} (h : Src w K sv m news) (hk : Kept w w') : Src w' K sv m news := by
  obtain ⟨A, c, rfl, h1, h2, h3⟩ := h
  exact ⟨A, c, rfl, h1, h2, fun b e j u hu => hk _ _ (h3 b e j u hu)⟩

section
variable {P : Program} (w : World)
theorem run_append_src (base : Nat) (t ty e : TypeId) (i : TypeInfo) (z : Value) (size bytes : Nat) (ht : P.underlying t = some (.slice e)) (hi : P.info? e = some i) (hz : i.zero = some z)
    (hsize : i.size = size) (hby : i.bytes = bytes) (hzs : z.cells.size = size) (hsz : 0 < size)
    (v : Value) (n : Nat) (xs : List Value) (hown : w.ownsRow base e size v n xs) (sv : Value) (m : Nat) (news : List Value) (hr : Src w size sv m news) (h1 : ∀ u ∈ news, u.oneCell' = true)
    (h63 : n + m ≤ maxLen) (hbytes : (n + m) * bytes ≤ 140737488355328) (hbase : base ≤ w.heap.size) :
    ∃ v' w', (Builtin.append_ #[t, t] ty #[v, sv]).run P w = .ok v' w' ∧ w'.ownsRow base e size v' (n + m) (xs ++ news) ∧ w.grownBy w' v.ownBlock ∧ (v'.ownBlock = v.ownBlock ∨ v'.ownBlock = some w.heap.size) := by
  obtain ⟨A, c, rfl, hl, hA, hc⟩ := hr
  rcases A with _ | ad
  · have hm := hA rfl
    subst hm
    have hn : news = [] := List.eq_nil_of_length_eq_zero (by simpa using hl)
    subst hn
    refine ⟨v, w, ?_, by simpa using hown, World.grownBy.refl w _, .inl rfl⟩
    rcases hown.2 with ⟨rfl, rfl⟩ | ⟨g, cap, cur, rfl, _, _, hnc, _⟩
    · simp [Builtin.append_, run_underlying ht, sizeOf, typeInfo, hi, Builtin.lenOf, Builtin.firstCells]
    · simp [Builtin.append_, run_underlying ht, sizeOf, typeInfo, hi, Builtin.lenOf, Builtin.firstCells, hnc, storeCells]
  · obtain ⟨v', w', hrun, h2, h3, _, h5⟩ := run_append_own_at (P := P) w base t ty e i z size bytes ht hi hz hsize hby hzs hsz v n xs hown ad m c news hl (hc ad rfl) h1 h63 hbytes hbase
    exact ⟨v', w', hrun, h2, h3, h5⟩
theorem wp_append_src {o : Oper} {a : Act} {K : Act → World → Prop} {Q : Exit → Act → World → Prop} (s x : Operand) (t : TypeId)
    (ho : o.op = .call { callee := .builtin .append, args := #[s, x], argTypes := #[t, t] })
    (base : Nat) (e : TypeId) (i : TypeInfo) (z : Value) (size bytes : Nat) (ht : P.underlying t = some (.slice e)) (hi : P.info? e = some i) (hz : i.zero = some z)
    (hsize : i.size = size) (hby : i.bytes = bytes) (hzs : z.cells.size = size) (hsz : 0 < size)
    (v : Value) (n : Nat) (xs : List Value) (hs : a.eval s = v) (hown : w.ownsRow base e size v n xs) (sv : Value) (m : Nat) (news : List Value) (hx : a.eval x = sv) (hr : Src w size sv m news) (h1 : ∀ u ∈ news, u.oneCell' = true)
    (h63 : n + m ≤ maxLen) (hbytes : (n + m) * bytes ≤ 140737488355328) (hbase : base ≤ w.heap.size)
    (h : ∀ v' w', w'.ownsRow base e size v' (n + m) (xs ++ news) → w.grownBy w' v.ownBlock → (v'.ownBlock = v.ownBlock ∨ v'.ownBlock = some w.heap.size) → K (a.put o.dst v') w') : o.wp P a w K Q := by
  obtain ⟨v', w', hrun, h2, h3, h4⟩ := run_append_src (P := P) w base t o.type e i z size bytes ht hi hz hsize hby hzs hsz v n xs hown sv m news hr h1 h63 hbytes hbase
  unfold Oper.wp execOp
  simp only [ho, resolve, invoke, builtin, Sem.run_bind, Sem.run_pure, Result.andThen_ok, List.map_toArray, List.map_cons, List.map_nil, hs, hx, hrun]
  exact h v' w' h2 h3 h4
theorem wpList_append_src {ops : Array Oper} {rest : List Oper} {o : Oper} {a : Act} {Q : Exit → Act → World → Prop} (hgd : o.guard = none) (s x : Operand) (t : TypeId)
    (ho : o.op = .call { callee := .builtin .append, args := #[s, x], argTypes := #[t, t] })
    (base : Nat) (e : TypeId) (i : TypeInfo) (z : Value) (size bytes : Nat) (ht : P.underlying t = some (.slice e)) (hi : P.info? e = some i) (hz : i.zero = some z)
    (hsize : i.size = size) (hby : i.bytes = bytes) (hzs : z.cells.size = size) (hsz : 0 < size)
    (v : Value) (n : Nat) (xs : List Value) (hs : a.eval s = v) (hown : w.ownsRow base e size v n xs) (sv : Value) (m : Nat) (news : List Value) (hx : a.eval x = sv) (hr : Src w size sv m news) (h1 : ∀ u ∈ news, u.oneCell' = true)
    (h63 : n + m ≤ maxLen) (hbytes : (n + m) * bytes ≤ 140737488355328) (hbase : base ≤ w.heap.size)
    (h : ∀ v' w', w'.ownsRow base e size v' (n + m) (xs ++ news) → w.grownBy w' v.ownBlock → (v'.ownBlock = v.ownBlock ∨ v'.ownBlock = some w.heap.size) → wpList P ops Q rest (a.put o.dst v') w') : wpList P ops Q (o :: rest) a w :=
  wpList_plain hgd fun _ hK => wp_append_src w s x t ho base e i z size bytes ht hi hz hsize hby hzs hsz v n xs hs hown sv m news hx hr h1 h63 hbytes hbase fun v' w' h2 h3 h4 => hK _ _ (h v' w' h2 h3 h4)
theorem step_append_src {ops : Array Oper} {o : Oper} {a : Act} {K : Act → World → Prop} {Q : Exit → Act → World → Prop} {E : Prop} (hgd : o.guard = none) (s x : Operand) (t : TypeId)
    (ho : o.op = .call { callee := .builtin .append, args := #[s, x], argTypes := #[t, t] })
    (base : Nat) (e : TypeId) (i : TypeInfo) (z : Value) (size bytes : Nat) (ht : P.underlying t = some (.slice e)) (hi : P.info? e = some i) (hz : i.zero = some z)
    (hsize : i.size = size) (hby : i.bytes = bytes) (hzs : z.cells.size = size) (hsz : 0 < size)
    (v : Value) (n : Nat) (xs : List Value) (hs : a.eval s = v) (hown : w.ownsRow base e size v n xs) (sv : Value) (m : Nat) (news : List Value) (hx : a.eval x = sv) (hr : Src w size sv m news) (h1 : ∀ u ∈ news, u.oneCell' = true)
    (h63 : n + m ≤ maxLen) (hbytes : (n + m) * bytes ≤ 140737488355328) (hbase : base ≤ w.heap.size)
    (h : ∀ v' w', w'.ownsRow base e size v' (n + m) (xs ++ news) → w.grownBy w' v.ownBlock → (v'.ownBlock = v.ownBlock ∨ v'.ownBlock = some w.heap.size) → K (a.put o.dst v') w') :
    if Region.wanted o (yielded ops a.tmps) = true then Oper.wp P o a w K Q else E := by
  have hw : Region.wanted o (yielded ops a.tmps) = true := by simp [Region.wanted, hgd]
  rw [if_pos hw]
  exact wp_append_src w s x t ho base e i z size bytes ht hi hz hsize hby hzs hsz v n xs hs hown sv m news hx hr h1 h63 hbytes hbase h
end
/-- The cells of a slice that reads: what append takes of it. -/
theorem SliceR.src {α : Type} {K : Nat} {R : Rd α} {w : World} {v : Value} {xs : List α} (h : SliceR K R w [v] xs) : ∃ css : List (List Value), Src w K v xs.length css.flatten ∧ css.length = xs.length ∧ ∀ (i : Nat) x, xs[i]? = some x → ∃ c, css[i]? = some c ∧ c.length = K ∧ R w c x := by
  obtain ⟨A, c, hv, h1, h2, h3⟩ := h
  have hv' : v = .slice A xs.length c := by simpa using hv
  subst hv'
  have hlist : ∀ m, m ≤ xs.length → ∃ css : List (List Value), css.length = m ∧ ∀ (i : Nat) d, css[i]? = some d → ∃ x b off, xs[i]? = some x ∧ A = some ⟨b, off, none⟩ ∧ d.length = K ∧ (∀ j u, d[j]? = some u → w.cell? ⟨b, off + i * K + j, none⟩ = some u) ∧ R w d x := by
    intro m
    induction m with
    | zero => intro _; exact ⟨[], rfl, fun i d hd => by simp at hd⟩
    | succ m ih =>
      intro hm
      obtain ⟨css, hl, hc⟩ := ih (by omega)
      obtain ⟨b, off, d, hA, hd, hcell, hr⟩ := h3 m _ (List.getElem?_eq_getElem (by omega : m < xs.length))
      refine ⟨css ++ [d], by simp [hl], fun i d' hd' => ?_⟩
      by_cases hi : i < css.length
      · rw [List.getElem?_append_left hi] at hd'
        exact hc i d' hd'
      · rw [List.getElem?_append_right (by omega)] at hd'
        have him : i = m := by
          have := (List.getElem?_eq_some_iff.1 hd').1
          simp at this; omega
        subst him
        simp [hl] at hd'
        subst hd'
        exact ⟨_, b, off, List.getElem?_eq_getElem (by omega), hA, hd, hcell, hr⟩
  obtain ⟨css, hl, hc⟩ := hlist xs.length (Nat.le_refl _)
  have hK : ∀ d ∈ css, d.length = K := by
    intro d hd
    obtain ⟨i, hi, rfl⟩ := List.getElem_of_mem hd
    obtain ⟨_, _, _, _, _, h, _⟩ := hc i _ (List.getElem?_eq_getElem hi)
    exact h
  have hfl : css.flatten.length = xs.length * K := by
    rw [← hl]
    clear hc h3 hv h1 h2 hlist hl
    induction css with
    | nil => simp
    | cons d css ih =>
      rw [List.flatten_cons, List.length_append, hK d (by simp), ih (fun d hd => hK d (by simp [hd])), List.length_cons, Nat.add_mul]; omega
  refine ⟨css, ⟨A, c, rfl, hfl, fun hA => ?_, fun b hb => ?_⟩, hl, fun i x hx => ?_⟩
  · rcases Nat.eq_zero_or_pos xs.length with h0 | h0
    · exact h0
    · obtain ⟨_, _, _, hA', _⟩ := h3 0 _ (List.getElem?_eq_getElem h0)
      rw [hA] at hA'; cases hA'
  · subst hb
    intro j u hu
    have hj : j < xs.length * K := by rw [← hfl]; exact (List.getElem?_eq_some_iff.1 hu).1
    have hKp : 0 < K := by
      rcases Nat.eq_zero_or_pos K with h0 | h0
      · subst h0; simp at hj
      · exact h0
    have hq : j / K < xs.length := Nat.div_lt_of_lt_mul (by rw [Nat.mul_comm]; exact hj)
    obtain ⟨x', b', off, _, hA, hd, hcell, _⟩ := hc (j / K) _ (List.getElem?_eq_getElem (by omega : j / K < css.length))
    simp only [Option.some.injEq] at hA
    subst hA
    have hr := flatten_at css hK (j / K) (j % K) _ (List.getElem?_eq_getElem (by omega : j / K < css.length)) (Nat.mod_lt _ hKp)
    have hdm : j / K * K + j % K = j := by rw [Nat.mul_comm]; exact Nat.div_add_mod j K
    rw [hdm, hu] at hr
    have := hcell (j % K) u hr.symm
    rw [add_none]
    rw [Nat.add_assoc, hdm] at this
    exact this
  · have hi : i < css.length := by rw [hl]; exact (List.getElem?_eq_some_iff.1 hx).1
    obtain ⟨x', b, off, hx', hA, hd, hcell, hr⟩ := hc i _ (List.getElem?_eq_getElem hi)
    rw [hx] at hx'
    injection hx' with hx'
    subst hx'
    exact ⟨_, List.getElem?_eq_getElem hi, hd, hr⟩

theorem app_below {B : Nat} {W wx w1 : World} {e size n : Nat} {v : Value} {xs : List Value} (hb : Below B W wx) (ho : wx.ownsRow B e size v n xs) (hg : wx.grownBy w1 v.ownBlock) (hB : B ≤ wx.heap.size) : Below B W w1 :=
  hb.grown hg hB (fun j hj => (ho.lt j hj).1)
/-- As step_append_src; what lay below the base stays. -/
theorem step_append_below {P : Program} (w : World) {ops : Array Oper} {o : Oper} {a : Act} {K : Act → World → Prop} {Q : Exit → Act → World → Prop} {E : Prop} (hgd : o.guard = none) (s x : Operand) (t : TypeId)
    (ho : o.op = .call { callee := .builtin .append, args := #[s, x], argTypes := #[t, t] })
    (W : World) (base : Nat) (hbel : Below base W w) (e : TypeId) (i : TypeInfo) (z : Value) (size bytes : Nat) (ht : P.underlying t = some (.slice e)) (hi : P.info? e = some i) (hz : i.zero = some z)
    (hsize : i.size = size) (hby : i.bytes = bytes) (hzs : z.cells.size = size) (hsz : 0 < size)
    (v : Value) (n : Nat) (xs : List Value) (hs : a.eval s = v) (hown : w.ownsRow base e size v n xs) (sv : Value) (m : Nat) (news : List Value) (hx : a.eval x = sv) (hr : Src w size sv m news) (h1 : ∀ u ∈ news, u.oneCell' = true)
    (h63 : n + m ≤ maxLen) (hbytes : (n + m) * bytes ≤ 140737488355328) (hbase : base ≤ w.heap.size)
    (h : ∀ v' w', w'.ownsRow base e size v' (n + m) (xs ++ news) → w.grownBy w' v.ownBlock → Below base W w' → K (a.put o.dst v') w') :
    if Region.wanted o (yielded ops a.tmps) = true then Oper.wp P o a w K Q else E :=
  step_append_src w hgd s x t ho base e i z size bytes ht hi hz hsize hby hzs hsz v n xs hs hown sv m news hx hr h1 h63 hbytes hbase fun v' w' h2 h3 _ => h v' w' h2 h3 (app_below hbel hown h3 hbase)
theorem made_row {w : World} {n base e : Nat} (K : Nat) (h : w.heap.size = n) (hb : base ≤ w.heap.size) : (w.alloc (.cells #[] e)).ownsRow base e K (.slice (some ⟨n, 0, none⟩) 0 0) 0 [] := by
  have := World.ownsRow_made (base := base) (e := e) (size := K) w #[] 0 hb (Nat.zero_le _) (by simp)
  rw [show (⟨w.heap.size, 0, none⟩ : Addr) = ⟨n, 0, none⟩ by rw [h]] at this
  exact this
end Go.Proofs.Ytcgjlddpbkponaa
