/-
  The operations' demands (Wp) are enough: each gives a right step.
-/
import Derived.Test.YtcgjlddpbkponaaWp
namespace Go.Proofs.Ytcgjlddpbkponaa
open Go.ChangeShapes Go.WideShapes Go.ChangeAt Go.RowKit
set_option linter.unusedVariables false
set_option linter.unusedSimpArgs false

theorem live_of {sl : Sl} {rs : Rl} : ∀ {o : Option Nat}, liveB rs o = true → liveO (mk sl rs) o
  | none, _ => trivial
  | some h, e => Option.isSome_iff_exists.1 e
theorem live_some {rs : Rl} {h : Nat} (e : liveB rs (some h) = true) : ∃ r, findO rs h = some r := Option.isSome_iff_exists.1 e
theorem arW_ok {k : IntKind} {r : Int} {t : T} {K : AV → T → Prop} (h : arW k r t K) : ∃ t', K (.p none (.int k (k.wrap r))) t' := by
  unfold arW at h
  split at h
  · split at h
    · exact ⟨_, h⟩
    · have e : IntKind.i64.wrap r = r := IntWalk.i64_in _ h.1
      rw [e]; exact ⟨_, h.2⟩
  · exact ⟨_, h⟩
section
variable {P : Program} {tb : Tb} {sl : Sl} {rs : Rl} {ty : TypeId} {pos : String} {aft : Array Edge} {d : Nat} {gd : Option (Nat × Bool)}
section
variable {x y : Operand} {s s' : TypeId}
theorem sd_shift {op : BinOp} {k k' : IntKind} {m n : Int} {r : Dat} {v : Value} (hx : evE sl x = .p none (.int k m)) (hy : evE sl y = .p none (.int k' n)) (hv : r.val? = some v) (hr : ∀ w, (binOp op s (.int k m) (.int k' n)).run P w = .ok v w) : Sound P ⟨some d, .binOp op s x y s', ty, pos, aft, gd⟩ (mk sl rs) ⟨.p none r, [], []⟩ :=
  sd_scal hv (fun e w he => by
    have h1 := he x _ (conc_p hx rfl)
    have h2 := he y _ (conc_p hy rfl)
    have hg : (eqGuard op s x y (.int k m) (.int k' n)).run P w = .ok () w := by
      unfold eqGuard
      cases op <;> rfl
    simp only [execOp, h1, h2, Sem.run_bind, hg, Result.andThen_ok, hr]
    rfl)
theorem intW_ok {op : BinOp} {k : IntKind} {m n : Int} {t : T} {K : AV → T → Prop} (hx : evE sl x = .p none (.int k m)) (hy : evE sl y = .p none (.int k n)) (h : intW op k m n t K) : ∃ v t', Sound P ⟨some d, .binOp op s x y s', ty, pos, aft, gd⟩ (mk sl rs) ⟨v, [], []⟩ ∧ K v t' := by
  unfold intW at h
  split at h
  · exact ⟨_, _, sd_lss hx hy, h⟩
  · exact ⟨_, _, sd_leq hx hy, h⟩
  · exact ⟨_, _, sd_gtr hx hy, h⟩
  · exact ⟨_, _, sd_geq hx hy, h⟩
  · exact ⟨_, _, sd_eql hx hy, h⟩
  · exact ⟨_, _, sd_neq hx hy, h⟩
  · obtain ⟨t', h⟩ := arW_ok h
    exact ⟨_, _, sd_add hx hy, h⟩
  · obtain ⟨t', h⟩ := arW_ok h
    exact ⟨_, _, sd_sub hx hy, h⟩
  · obtain ⟨t', h⟩ := arW_ok h
    exact ⟨_, _, sd_mul hx hy, h⟩
  · obtain ⟨t', h'⟩ := arW_ok h.2
    exact ⟨_, _, sd_quo hx hy h.1, h'⟩
  · exact ⟨_, _, sd_rem hx hy h.1, h.2⟩
  · exact ⟨_, _, sd_bin_int hx hy rfl (fun w => by simp [binOp, Op.intBits, bitI]), h⟩
  · exact ⟨_, _, sd_bin_int hx hy rfl (fun w => by simp [binOp, Op.intBits, bitI]), h⟩
  · exact ⟨_, _, sd_bin_int hx hy rfl (fun w => by simp [binOp, Op.intBits, bitI]), h⟩
  · exact ⟨_, _, sd_bin_int hx hy rfl (fun w => by simp [binOp, Op.intBits, bitI]), h⟩
  · cases h
theorem shW_ok {op : BinOp} {k k' : IntKind} {m n : Int} {t : T} {K : AV → T → Prop} (hx : evE sl x = .p none (.int k m)) (hy : evE sl y = .p none (.int k' n)) (h : shW op k m n t K) : ∃ v t', Sound P ⟨some d, .binOp op s x y s', ty, pos, aft, gd⟩ (mk sl rs) ⟨v, [], []⟩ ∧ K v t' := by
  unfold shW at h
  split at h
  · split at h
    · obtain ⟨⟨h0, h1⟩, h⟩ := h
      obtain ⟨t', h⟩ := arW_ok h
      have hm : min n.toNat 64 = n.toNat := by omega
      refine ⟨_, _, sd_shift hx hy rfl (fun w => ?_), h⟩
      simp only [binOp, Op.shift]
      rw [if_neg (by omega)]
      simp [IntKind.bits, hm]
    · obtain ⟨⟨h0, h1⟩, h⟩ := h
      have hm : min n.toNat 64 = n.toNat := by omega
      refine ⟨_, _, sd_shift hx hy rfl (fun w => ?_), h⟩
      simp only [binOp, Op.shift]
      rw [if_neg (by omega)]
      have : (0 : Int) ≤ 2 ^ n.toNat := by exact_mod_cast Nat.zero_le (2 ^ n.toNat)
      simp [IntKind.bits, hm, Int.fdiv_eq_ediv_of_nonneg _ this]
    · cases h
  · cases h
theorem strW_ok {op : BinOp} {m n : ByteArray} {t : T} {K : AV → T → Prop} (hx : evE sl x = .p none (.str m)) (hy : evE sl y = .p none (.str n)) (h : strW op m n t K) : ∃ v t', Sound P ⟨some d, .binOp op s x y s', ty, pos, aft, gd⟩ (mk sl rs) ⟨v, [], []⟩ ∧ K v t' := by
  unfold strW at h
  split at h
  · exact ⟨_, _, sd_eql_string hx hy, h⟩
  · exact ⟨_, _, sd_neq_string hx hy, h⟩
  · refine ⟨_, _, sd_bin_str hx hy rfl (fun w => ?_), h.2⟩
    simp only [binOp, Op.stringOp]
    rw [if_neg (by have := h.1; have e : IntKind.i64.max = 9223372036854775807 := by decide
                   rw [e]; omega)]
    simp
  · exact ⟨_, _, sd_bin_str hx hy rfl (fun w => by simp [binOp, Op.stringOp]), h⟩
  · exact ⟨_, _, sd_bin_str hx hy rfl (fun w => by simp [binOp, Op.stringOp]), h⟩
  · cases h
theorem binW_ok {op : BinOp} {t : T} {K : AV → T → Prop} (hT : TbOk P tb) (h : binW tb op s (evE sl x) (evE sl y) t K) : ∃ v t', Sound P ⟨some d, .binOp op s x y s', ty, pos, aft, gd⟩ (mk sl rs) ⟨v, [], []⟩ ∧ K v t' := by
  unfold binW at h
  split at h
  · rename_i k m hx
    split at h
    · rename_i k' n hy
      split at h
      · exact shW_ok hx hy h
      · exact shW_ok hx hy h
      · split at h
        · rename_i e
          subst e
          exact intW_ok hx hy h
        · cases h
    · cases h
  · rename_i m hx
    split at h
    · rename_i n hy
      split at h
      · rename_i u hu
        have hu := look_of hT.bo hu
        split at h
        · exact ⟨_, _, sd_eql_bool hu hx hy, h⟩
        · exact ⟨_, _, sd_neq_bool hu hx hy, h⟩
        · cases h
      · cases h
    · cases h
  · rename_i m hx
    split at h
    · rename_i n hy
      exact strW_ok hx hy h
    · cases h
  · cases h
theorem unW_ok {op : UnOp} {t : T} {K : AV → T → Prop} (h : unW op (evE sl x) t K) : ∃ v t', Sound P ⟨some d, .unOp op s x, ty, pos, aft, gd⟩ (mk sl rs) ⟨v, [], []⟩ ∧ K v t' := by
  unfold unW at h
  split at h
  · split at h
    · rename_i b hx
      exact ⟨_, _, sd_not hx, h⟩
    · cases h
  · split at h
    · rename_i k m hx
      obtain ⟨t', h⟩ := arW_ok h
      exact ⟨_, t', sd_neg hx, by rw [Int.zero_sub]; exact h⟩
    · cases h
  · cases h
theorem pickW_ok {c : Operand} {t : T} {K : AV → T → Prop} (h : pickW (evE sl c) (evE sl x) (evE sl y) t K) : ∃ v t', Sound P ⟨some d, .pick c x y, ty, pos, aft, gd⟩ (mk sl rs) ⟨v, [], []⟩ ∧ K v t' := by
  unfold pickW at h
  split at h
  · rename_i b hc
    split at h
    · cases b with
      | true => exact ⟨_, _, sd_pick hc rfl, h.1 rfl⟩
      | false => exact ⟨_, _, sd_pick hc rfl, h.2 rfl⟩
    · cases b with
      | true => exact ⟨_, _, sd_pick hc rfl, h⟩
      | false => exact ⟨_, _, sd_pick hc rfl, h⟩
    · obtain ⟨e, h⟩ := h
      subst e
      exact ⟨_, _, sd_pick hc rfl, h⟩
    · obtain ⟨e, h⟩ := h
      subst e
      exact ⟨_, _, sd_pick hc rfl, h⟩
    · cases b with
      | true => exact ⟨_, _, sd_pick hc rfl, h⟩
      | false => exact ⟨_, _, sd_pick hc rfl, h⟩
  · cases h
theorem elemW_ok {xs : List (List Dat)} {i : Nat} {t : T} {K : List Dat → T → Prop} (h : elemW xs i t K) : ∃ r t', xs[i]? = some r ∧ K r t' := by
  unfold elemW at h
  split at h
  · obtain ⟨rfl, h1, h2⟩ := h
    rename_i l t' 
    exact ⟨_, _, map_at (List.getElem?_eq_getElem h1), h2 _ (List.getElem?_eq_getElem h1)⟩
  · exact ⟨_, _, h.1, h.2⟩
  · cases h
theorem idxW_ok {t : T} {K : AV → T → Prop} (hT : TbOk P tb) (h : idxW tb rs s (evE sl x) (evE sl y) t K) : ∃ v t', Sound P ⟨some d, .indexAddr s x y, ty, pos, aft, gd⟩ (mk sl rs) ⟨v, [], []⟩ ∧ K v t' := by
  unfold idxW at h
  split at h
  · rename_i ik n hy
    split at h
    · rename_i e he
      split at h
      · rename_i q hq
        obtain ⟨ag, k0, bt, z⟩ := q
        have he := look_of hT.sl he
        have hq := look_of hT.ty hq
        split at h
        · rename_i o te k xs hx
          split at h
          · rename_i hb
            rw [Bool.and_eq_true] at hb
            have hk := Nat.eq_of_beq_eq_true hb.1
            dsimp only at hk
            subst hk
            obtain ⟨r, t', h1, h2⟩ := elemW_ok h.2
            exact ⟨_, _, sound_index_p (o' := o) rfl he hq (by rw [evE_eq]; exact hx) (live_of hb.2) (by rw [evE_eq]; exact hy) h.1 h1, h2⟩
          · cases h
        · rename_i hh hx
          split at h
          · rename_i e' k dp xs hr
            split at h
            · rename_i hb
              have hk := Nat.eq_of_beq_eq_true hb
              dsimp only at hk
              subst hk
              split at h
              · obtain ⟨h0, h1, h2, h3⟩ := h
                exact ⟨_, _, sd_indexO he hq hx hr hy h0 (by omega), h3⟩
              · cases h
            · cases h
          · cases h
        · cases h
      · cases h
    · cases h
  · cases h
theorem fldW_ok {f : Nat} {K : AV → Prop} (hT : TbOk P tb) (h : fldW tb rs s (evE sl x) f K) : ∃ v, Sound P ⟨some d, .fieldAddr s x f, ty, pos, aft, gd⟩ (mk sl rs) ⟨v, [], []⟩ ∧ K v := by
  unfold fldW at h
  split at h
  · rename_i l hl
    split at h
    · rename_i q hq
      have hf := look_of (look_of hT.fl hl) hq
      obtain ⟨off, ft⟩ := q
      split at h
      · rename_i hh o hx
        exact ⟨_, sound_field_ptr0 rfl hf (by rw [evE_eq]; exact hx), h⟩
      · rename_i hh k i o hx
        split at h
        · rename_i hb
          obtain ⟨r, hr⟩ := live_some hb
          exact ⟨_, sd_fieldE hf hx hr, h⟩
        · cases h
      · rename_i o xs hx
        split at h
        · rename_i hb
          exact ⟨_, sound_field_rp (o' := o) rfl hf (by rw [evE_eq]; exact hx) (live_of hb), h⟩
        · cases h
      · cases h
    · cases h
  · cases h
theorem loadW_ok {t : T} {K : AV → T → Prop} (hT : TbOk P tb) (h : loadW tb rs s (evE sl x) t K) : ∃ v t', Sound P ⟨some d, .load s x, ty, pos, aft, gd⟩ (mk sl rs) ⟨v, [], []⟩ ∧ K v t' := by
  unfold loadW at h
  split at h
  · rename_i ag n bt z hq
    have hq := look_of hT.ty hq
    split at h
    · rename_i hh off hx
      split at h
      · rename_i tq cs hr
        split at h
        · split at h
          · rename_i hb
            exact ⟨_, _, sd_loadB hq hx hr (Nat.le_of_ble_eq_true hb) rfl, h⟩
          · cases h
        · split at h
          · rename_i v hv
            exact ⟨_, _, sd_loadB1 hq hx hr hv, h⟩
          · cases h
      · cases h
    · rename_i o xs hx
      split at h
      · rename_i hl
        split at h
        · split at h
          · rename_i hb
            exact ⟨_, _, sound_load_rp (o' := o) rfl hq (by rw [evE_eq]; exact hx) (live_of hl) (Nat.le_of_ble_eq_true hb), h⟩
          · cases h
        · split at h
          · rename_i y hy
            exact ⟨_, _, sound_load_rp1 (o' := o) rfl hq (by rw [evE_eq]; exact hx) (live_of hl) hy, h⟩
          · cases h
      · cases h
    · rename_i hh k i off hx
      split at h
      · rename_i e k' dp xs hr
        split at h
        · rename_i hb
          have := Nat.eq_of_beq_eq_true hb
          subst this
          obtain ⟨row, t', h1, h2⟩ := elemW_ok h
          cases ag with
          | true =>
            dsimp only at h2
            split at h2
            · rename_i hb2
              cases dp with
              | true => exact ⟨_, _, sd_loadE hq hx hr h1 (Nat.le_of_ble_eq_true hb2) rfl, h2⟩
              | false => exact ⟨_, _, sd_loadE hq hx hr h1 (Nat.le_of_ble_eq_true hb2) rfl, h2⟩
            · cases h2
          | false =>
            dsimp only at h2
            split at h2
            · rename_i y hy
              cases dp with
              | true => exact ⟨_, _, sd_loadE1 hq hx hr h1 hy rfl, h2⟩
              | false => exact ⟨_, _, sd_loadE1 hq hx hr h1 hy rfl, h2⟩
            · cases h2
        · cases h
      · cases h
    · cases h
  · cases h
theorem sv_box {c : Operand} {t : TypeId} (hc : cell1 (mk sl rs) (evE sl c)) (hf : freshV sl rs (100 * d) = true) : Sound P ⟨some d, .box t c, ty, pos, aft, gd⟩ (mk sl rs) ⟨.ptr (100 * d) 0, [], [(100 * d, .box t (cellsA (evE sl c)))]⟩ :=
  by rw [← evE_eq sl rs]; exact sound_box rfl (by rw [evE_eq]; exact hc) (freshV_ok hf)
theorem sv_alloc {t : TypeId} {ag : Bool} {n bt : Nat} {z : Value} (ht : tyOf P t = some (ag, n, bt, z)) (hf : freshV sl rs (100 * d) = true) : Sound P ⟨some d, .alloc t, ty, pos, aft, gd⟩ (mk sl rs) ⟨.ptr (100 * d) 0, [], [(100 * d, .box t (z.cells.toList.map avC))]⟩ :=
  sound_alloc rfl ht (freshV_ok hf)
theorem sv_slice0 {t e : TypeId} {k bt : Nat} {ag : Bool} {z : Value} (ht : P.underlying t = some (.slice e)) (hk : tyOf P e = some (ag, k, bt, z)) (hf : freshV sl rs (100 * d) = true) : Sound P ⟨some d, .buildSlice t 0 #[], ty, pos, aft, gd⟩ (mk sl rs) ⟨.own (100 * d), [], [(100 * d, .arr e k true [])]⟩ :=
  sound_slice0 rfl ht hk (freshV_ok hf)
theorem sv_sliceA {t e : TypeId} {len k bt : Nat} {ag : Bool} {z : Value} {parts : Array (Nat × Operand)} {rows : List (List Dat)} {css : List (List Value)} (ht : P.underlying t = some (.slice e)) (hk : tyOf P e = some (ag, k, bt, z)) (hs : len * k ≤ 16777216) (hp : 0 < len * k) (hc : ∀ q ∈ parts.toList, cell1 (mk sl rs) (evE sl q.2))
    (hf : fillA (fun i => some (i * k, k)) (List.replicate (len * k) AV.no) (parts.toList.map fun q => (q.1, evE sl q.2)) = some (rows.flatten.map (AV.p none))) (hfl : Flats rows css) (hrk : ∀ x ∈ rows, x.length = k) (hrl : rows.length = len) (hfr : freshV sl rs (100 * d) = true) : Sound P ⟨some d, .buildSlice t len parts, ty, pos, aft, gd⟩ (mk sl rs) ⟨.own (100 * d), [], [(100 * d, .arr e k true rows)]⟩ :=
  sound_sliceA rfl ht hk hs hp (fun q hq => by rw [evE_eq]; exact hc q hq) (by rw [← hf]; congr 1) (freshV_ok hfr) hfl hrk hrl
theorem sv_bsl {t e : TypeId} {len k bt : Nat} {ag : Bool} {z : Value} {parts : Array (Nat × Operand)} {cs : List AV} (ht : P.underlying t = some (.slice e)) (hk : tyOf P e = some (ag, k, bt, z)) (hs : len * k ≤ 16777216) (hp : 0 < len * k) (hc : ∀ q ∈ parts.toList, cell1 (mk sl rs) (evE sl q.2))
    (hf : fillA (fun i => some (i * k, k)) (List.replicate (len * k) AV.no) (parts.toList.map fun q => (q.1, evE sl q.2)) = some cs) (hfr : freshV sl rs (100 * d) = true) (hm : (mentsL cs).contains (100 * d) = false) : Sound P ⟨some d, .buildSlice t len parts, ty, pos, aft, gd⟩ (mk sl rs) ⟨.bsl (100 * d) len, [], [(100 * d, .box e cs)]⟩ :=
  sound_bsl rfl ht hk hs hp (fun q hq => by rw [evE_eq]; exact hc q hq) (by rw [← hf]; congr 1) (freshV_ok hfr) (by simpa using hm)
theorem sv_make {u v : Operand} {t e : TypeId} {k bt n : Nat} {ag : Bool} {z : Value} {kl kc : IntKind} {zr : List Dat} (ht : P.underlying t = some (.slice e)) (hk : tyOf P e = some (ag, k, bt, z)) (hx : evE sl u = .p none (.int kl n)) (hy : evE sl v = .p none (.int kc n)) (hz : ∀ w, OwCs w zr z.cells.toList []) (hn : bt * n ≤ 281474976710656) (hm : n ≤ maxLen) (hf : freshV sl rs (100 * d) = true) : Sound P ⟨some d, .makeSlice t u v, ty, pos, aft, gd⟩ (mk sl rs) ⟨.own (100 * d), [], [(100 * d, .arr e k true (List.replicate n zr))]⟩ :=
  sound_makeSlice rfl ht hk (by rw [evE_eq]; exact hx) (by rw [evE_eq]; exact hy) hz hn hm (freshV_ok hf)
section
variable {u v : Operand} {t e : TypeId} {k bt : Nat} {ag : Bool} {z : Value} {del : List Nat} {dp : Bool} {xs ys : List (List Dat)}
theorem sv_appF {dss : List (List Value)} {zs : List (List Dat)} (ht : P.underlying t = some (.slice e)) (hk : tyOf P e = some (ag, k, bt, z)) (hpos : 0 < k) (htgt : TgtIs (mk sl rs) (evE sl u) del e k dp xs) (hsrc : FlatSrc (mk sl rs) (evE sl v) k ys) (hf : Flats ys dss) (hb : (xs.length + ys.length) * bt ≤ 140737488355328) (h63 : xs.length + ys.length ≤ maxLen) (hzs : xs ++ ys = zs) (hfr : freshV sl rs (100 * d) = true) : Sound P ⟨some d, .call { callee := .builtin .append, args := #[u, v], argTypes := #[t, t] }, ty, pos, aft, gd⟩ (mk sl rs) ⟨.own (100 * d), del, [(100 * d, .arr e k dp zs)]⟩ :=
  by rw [← hzs]; exact sound_app_flat rfl ht hk hpos (by rw [evE_eq]; exact htgt) (by rw [evE_eq]; exact hsrc) hf h63 hb (freshV_ok hfr)
theorem sv_appM {h2 : Nat} {e2 : TypeId} {cs : List AV} {row : List Dat} {hs : List Nat} {zs : List (List Dat)} (ht : P.underlying t = some (.slice e)) (hk : tyOf P e = some (ag, k, bt, z)) (hpos : 0 < k) (htgt : TgtIs (mk sl rs) (evE sl u) del e k dp xs) (hdx : dp = true ∨ xs = []) (hx : evE sl v = .bsl h2 1) (hr : findO rs h2 = some (.box e2 cs)) (hm : MoveC (mk sl rs) cs row hs) (hrow : row.length = k) (hnd : (del ++ hs).Nodup) (hb : (xs.length + 1) * bt ≤ 140737488355328) (h63 : xs.length + 1 ≤ maxLen) (hzs : xs ++ [row] = zs) (hfr : freshV sl rs (100 * d) = true) : Sound P ⟨some d, .call { callee := .builtin .append, args := #[u, v], argTypes := #[t, t] }, ty, pos, aft, gd⟩ (mk sl rs) ⟨.own (100 * d), (del ++ hs), [(100 * d, .arr e k true zs)]⟩ :=
  by rw [← hzs]; exact sound_app_move rfl ht hk hpos (by rw [evE_eq]; exact htgt) hdx (by rw [evE_eq]; exact hx) hr hm hrow hnd h63 hb (freshV_ok hfr)
end
theorem sv_call {f : FuncId} {xs : Array Operand} {ts : Array TypeId} {ys : List Ar} {rv : AV} {rr : List (Nat × Rs)} (hx : asArsF rs (xs.toList.map (evE sl)) = some ys) (hC : Con P f ys rv rr) (hcl : (closedA rv && rr.all fun q => deepR q.2) = true ∨ settledL (xs.toList.map (evE sl)) = true) (ha : (rr.all fun q => arrR q.2 && freshV sl rs (100 * d + q.1)) = true) (hmt : ((ments rv).all fun h => (findH rr h).isSome) = true) : Sound P ⟨some d, .call { callee := .value (.func f), args := xs, argTypes := ts }, ty, pos, aft, gd⟩ (mk sl rs) ⟨mapA (100 * d + ·) rv, [], rr.map fun q => (100 * d + q.1, q.2)⟩ := by
  have e : xs.toList.map (mk sl rs).ev = xs.toList.map (evE sl) := List.map_congr_left fun q _ => evE_eq sl rs q
  simp only [List.all_eq_true, Bool.and_eq_true] at ha hmt hcl
  exact sound_call rfl hC (by rw [e]; exact asArsF_ok hx) (by rw [e]; exact hcl) (fun q hq => (ha q hq).1) (fun q hq => freshV_ok (ha q hq).2) (fun k hk => Option.isSome_iff_exists.1 (hmt k hk))
theorem cell1_of {x : AV} (h : cell1B rs x = true) : cell1 (mk sl rs) x := by
  cases x <;> simp only [cell1B] at h <;> first | exact live_of h | trivial | cases h
theorem datsOf_ok : ∀ {cs : List AV} {ds : List Dat}, datsOf cs = some ds → cs = ds.map (AV.p none) ∧ ∃ us, Flat ds us
  | [], ds, h => by simp only [datsOf, Option.some.injEq] at h; subst h; exact ⟨rfl, [], rfl⟩
  | c :: cs, ds, h => by
    unfold datsOf at h
    split at h
    · rename_i e; cases e
    · rename_i x l e
      injection e with e1 e2
      subst e1; subst e2
      split at h
      · rename_i v hv
        split at h
        · rename_i ds' hd
          injection h with h
          subst h
          obtain ⟨h1, us, h2⟩ := datsOf_ok hd
          exact ⟨by rw [h1]; rfl, v :: us, by simp only [Flat, List.map_cons, hv] at h2 ⊢; rw [h2]⟩
        · cases h
      · cases h
    · cases h
theorem flatB_ok : ∀ {ds : List Dat}, flatB ds = true → ∃ us, Flat ds us
  | [], _ => ⟨[], rfl⟩
  | x :: l, h => by
    simp only [flatB, Bool.and_eq_true] at h
    obtain ⟨us, h2⟩ := flatB_ok h.2
    obtain ⟨v, hv⟩ := Option.isSome_iff_exists.1 h.1
    exact ⟨v :: us, by simp only [Flat, List.map_cons, hv] at h2 ⊢; rw [h2]⟩
theorem flats_map {α : Type} {enc : α → List Dat} (h : ∀ x, flatB (enc x) = true) : ∀ (l : List α), ∃ css, Flats (l.map enc) css
  | [] => ⟨[], rfl⟩
  | x :: l => by
    obtain ⟨us, h1⟩ := flatB_ok (h x)
    obtain ⟨css, h2⟩ := flats_map h l
    exact ⟨us :: css, us, css, rfl, h1, h2⟩
theorem stW_ok {t : T} {K : List Nat → List (Nat × Rs) → T → Prop} (hT : TbOk P tb) (h : stW tb rs s (evE sl x) (evE sl y) t K) : ∃ del new t', Sound P ⟨none, .store s x y, ty, pos, aft, gd⟩ (mk sl rs) ⟨.no, del, new⟩ ∧ K del new t' := by
  unfold stW at h
  split at h
  · rename_i ag n bt z hq
    have hq := look_of hT.ty hq
    split at h
    · rename_i hh off hx
      split at h
      · rename_i tq cs hr
        split at h
        · rename_i hb
          simp only [Bool.and_eq_true] at hb
          exact ⟨_, _, _, sd_storeB hq hx hr (cell1_of hb.1.1) (Nat.eq_of_beq_eq_true hb.1.2) (Nat.le_of_ble_eq_true hb.2) rfl, h⟩
        · cases h
      · cases h
    · rename_i hh k i off hx
      split at h
      · rename_i e k' dp xs hr
        split at h
        · rename_i hb
          have := Nat.eq_of_beq_eq_true hb
          subst this
          split at h
          · rename_i ys hys
            split at h
            · rename_i hn
              split at h
              · obtain ⟨h1, h2, h3⟩ := h
                obtain ⟨h4, h5, h6, h7⟩ := h3 _ (List.getElem?_eq_getElem h2)
                obtain ⟨hy1, us, hy2⟩ := datsOf_ok hys
                obtain ⟨vs, hv⟩ := flatB_ok h4
                subst h1
                exact ⟨_, _, _, sd_storeE hq hx hr (map_at (List.getElem?_eq_getElem h2)) hv hy1 hy2 (Nat.eq_of_beq_eq_true hn) h5 (by rw [h6, List.map_set]), h7⟩
              · cases h
            · cases h
          · cases h
        · cases h
      · cases h
    · cases h
  · cases h
theorem all_cells {parts : List (Nat × Operand)} (h : (parts.map fun q => (q.1, evE sl q.2)).all (fun q => cell1B rs q.2) = true) : ∀ q ∈ parts, cell1 (mk sl rs) (evE sl q.2) := fun q hq => by
  have := List.all_eq_true.1 h (q.1, evE sl q.2) (List.mem_map_of_mem (f := fun q : Nat × Operand => (q.1, evE sl q.2)) hq)
  exact cell1_of this
theorem buildW_ok {parts : Array (Nat × Operand)} {K : AV → Prop} (hT : TbOk P tb) (h : buildW tb rs s (parts.toList.map fun q => (q.1, evE sl q.2)) K) : ∃ v, Sound P ⟨some d, .build s parts, ty, pos, aft, gd⟩ (mk sl rs) ⟨v, [], []⟩ ∧ K v := by
  unfold buildW at h
  split at h
  · rename_i z ps hp
    have hp := look_of hT.pl hp
    split at h
    · rename_i hc
      split at h
      · rename_i cs hf
        exact ⟨_, sd_build hp (all_cells hc) hf, h⟩
      · cases h
    · cases h
  · cases h
theorem chunk_ok (k : Nat) : ∀ (n : Nat) (l : List Dat), l.length = n * k → (chunk k n l).flatten = l ∧ (∀ x ∈ chunk k n l, x.length = k) ∧ (chunk k n l).length = n
  | 0, l, h => by
    have : l = [] := List.eq_nil_of_length_eq_zero (by simpa using h)
    subst this; simp [chunk]
  | n + 1, l, h => by
    have hk : k ≤ l.length := by rw [h, Nat.succ_mul]; omega
    obtain ⟨h1, h2, h3⟩ := chunk_ok k n (l.drop k) (by rw [List.length_drop, h, Nat.succ_mul]; omega)
    simp only [chunk]
    refine ⟨by rw [List.flatten_cons, h1, List.take_append_drop], fun x hx => ?_, by simp [h3]⟩
    rcases List.mem_cons.1 hx with rfl | hx
    · simp; omega
    · exact h2 x hx
theorem flats_chunk (k : Nat) : ∀ (n : Nat) (l : List Dat), (∀ x ∈ l, x.val?.isSome = true) → ∃ css, Flats (chunk k n l) css
  | 0, l, h => ⟨[], rfl⟩
  | n + 1, l, h => by
    obtain ⟨css, h1⟩ := flats_chunk k n (l.drop k) (fun x hx => h x (List.mem_of_mem_drop hx))
    have hf : ∀ (m : List Dat), (∀ x ∈ m, x.val?.isSome = true) → flatB m = true := by
      intro m
      induction m with
      | nil => intro _; rfl
      | cons a m ih => intro hm; simp only [flatB, Bool.and_eq_true]; exact ⟨hm a (by simp), ih fun x hx => hm x (by simp [hx])⟩
    obtain ⟨us, h2⟩ := flatB_ok (hf (l.take k) (fun x hx => h x (List.mem_of_mem_take hx)))
    exact ⟨us :: css, us, css, rfl, h2, h1⟩
theorem flat_some : ∀ {ds : List Dat} {us : List Value}, Flat ds us → ∀ x ∈ ds, x.val?.isSome = true
  | [], _, _, x, hx => by simp at hx
  | y :: ds, [], h, x, hx => by simp [Flat] at h
  | y :: ds, u :: us, h, x, hx => by
    simp only [Flat, List.map_cons, List.cons.injEq] at h
    rcases List.mem_cons.1 hx with rfl | hx
    · rw [h.1]; rfl
    · exact flat_some (us := us) h.2 x hx
theorem bslW_ok {n : Nat} {parts : Array (Nat × Operand)} {K : AV → List (Nat × Rs) → Prop} (hT : TbOk P tb) (h : bslW tb sl rs d s n (parts.toList.map fun q => (q.1, evE sl q.2)) K) : ∃ v new, Sound P ⟨some d, .buildSlice s n parts, ty, pos, aft, gd⟩ (mk sl rs) ⟨v, [], new⟩ ∧ K v new := by
  unfold bslW at h
  split at h
  · rename_i e he
    have he := look_of hT.sl he
    split at h
    · rename_i ag k bt z hq
      have hq := look_of hT.ty hq
      split at h
      · rename_i hf
        split at h
        · split at h
          · rename_i hp
            have : parts = #[] := by
              apply Array.ext'
              simpa using hp
            subst this
            exact ⟨_, _, sv_slice0 he hq hf, h⟩
          · cases h
        · split at h
          · rename_i hb
            simp only [Bool.and_eq_true] at hb
            have hb1 := Nat.le_of_ble_eq_true hb.1.2
            have hb2 : 0 < n * k := by have := hb.2; simpa [Nat.blt_eq] using this
            split at h
            · rename_i cs hcs
              split at h
              · rename_i ds hds
                split at h
                · rename_i hl
                  obtain ⟨h1, us, h2⟩ := datsOf_ok hds
                  obtain ⟨q1, q2, q3⟩ := chunk_ok k n ds (Nat.eq_of_beq_eq_true hl)
                  obtain ⟨css, q4⟩ := flats_chunk k n ds (flat_some h2)
                  exact ⟨_, _, sv_sliceA he hq hb1 hb2 (all_cells hb.1.1) (by rw [hcs, h1, q1]) q4 q2 q3 hf, h⟩
                · cases h
              · split at h
                · cases h
                · rename_i hm
                  exact ⟨_, _, sv_bsl he hq hb1 hb2 (all_cells hb.1.1) hcs hf hm, h⟩
            · cases h
          · cases h
      · cases h
    · cases h
  · cases h
theorem zeroB_ok {w : World} : ∀ {vs : List Value} {ds : List Dat}, zeroB vs ds = true → OwCs w ds vs []
  | [], [], _ => owCs_nil
  | .int k n :: vs, .int k' m :: ds, h => by
    simp only [zeroB, Bool.and_eq_true] at h
    obtain ⟨⟨h1, h2⟩, h3⟩ := h
    have e1 : k = k' := by by_cases e : k = k' <;> simp [e] at h1 ⊢
    have e2 : n = m := by by_cases e : n = m <;> simp [e] at h2 ⊢
    subst e1; subst e2
    exact owCs_cons (F1 := []) owV_int (zeroB_ok h3)
  | .bool a :: vs, .bool b :: ds, h => by
    simp only [zeroB, Bool.and_eq_true, beq_iff_eq] at h
    obtain ⟨h1, h3⟩ := h
    subst h1
    exact owCs_cons (F1 := []) owV_bool (zeroB_ok h3)
  | v :: vs, d :: ds, h => by
    unfold zeroB at h
    split at h
    · rename_i e; cases e
    · rename_i k n vs' k' m ds' e1 e2
      simp only [Bool.and_eq_true] at h
      injection e1 with e1 e3
      injection e2 with e2 e4
      subst e1; subst e2; subst e3; subst e4
      obtain ⟨⟨h1, h2⟩, h3⟩ := h
      have e1 : k = k' := by by_cases e : k = k' <;> simp [e] at h1 ⊢
      have e2 : n = m := by by_cases e : n = m <;> simp [e] at h2 ⊢
      subst e1; subst e2
      exact owCs_cons (F1 := []) owV_int (zeroB_ok h3)
    · rename_i a vs' b ds' e1 e2
      simp only [Bool.and_eq_true, beq_iff_eq] at h
      injection e1 with e1 e3
      injection e2 with e2 e4
      subst e1; subst e2; subst e3; subst e4
      obtain ⟨h1, h3⟩ := h
      subst h1
      exact owCs_cons (F1 := []) owV_bool (zeroB_ok h3)
    · rename_i vs' e k ds' e1 e2
      injection e1 with e1 e3
      injection e2 with e2 e4
      subst e1; subst e2; subst e3; subst e4
      refine owCs_cons (F1 := []) ?_ (zeroB_ok h)
      unfold OwV
      refine ⟨[], [], ?_, rfl, by unfold OwRs; exact ⟨rfl, rfl⟩⟩
      exact World.ownsRow_nil w 0 e k
    · cases h
  | [], _ :: _, h => by simp [zeroB] at h
  | _ :: _, [], h => by simp [zeroB] at h
theorem mkW_ok {t : T} {K : AV → List (Nat × Rs) → T → Prop} (hT : TbOk P tb) (h : mkW tb sl rs d s (evE sl x) (evE sl y) t K) : ∃ v new t', Sound P ⟨some d, .makeSlice s x y, ty, pos, aft, gd⟩ (mk sl rs) ⟨v, [], new⟩ ∧ K v new t' := by
  unfold mkW at h
  split at h
  · rename_i e he
    have he := look_of hT.sl he
    split at h
    · rename_i ag k bt z hq
      have hq := look_of hT.ty hq
      split at h
      · rename_i hf
        split at h
        · rename_i ka a hx
          split at h
          · rename_i kb b hy
            split at h
            · split at h
              · rename_i n zr zs t' hz
                obtain ⟨h1, h2, h3, h4, h5, h6⟩ := h
                subst h5
                subst h1
                subst h2
                exact ⟨_, _, _, sv_make he hq hx hy (fun w => zeroB_ok hz) h3 (by unfold maxLen; omega) hf, h6⟩
              · cases h
            · cases h
          · cases h
        · cases h
      · cases h
    · cases h
  · cases h
theorem lenW_ok {t : T} {K : AV → T → Prop} {e : Nat} (he : P.underlying s = some (.slice e)) (h : lenW rs (evE sl x) t K) : ∃ v t', Sound P ⟨some d, .call { callee := .builtin .len, args := #[x], argTypes := #[s] }, ty, pos, aft, gd⟩ (mk sl rs) ⟨v, [], []⟩ ∧ K v t' := by
  unfold lenW at h
  split at h
  · rename_i o e' k xs hx
    split at h
    · rename_i hl
      split at h
      · obtain ⟨h1, h2⟩ := h
        refine ⟨_, _, sd_len he ?_, h2⟩
        rw [hx]
        cases o with
        | none => exact h1.symm
        | some hh => exact ⟨live_some hl, h1.symm⟩
      · cases h
    · cases h
  · rename_i hh hx
    split at h
    · rename_i e' k dp xs hr
      split at h
      · obtain ⟨h1, h2⟩ := h
        refine ⟨_, _, sd_len he ?_, h2⟩
        rw [hx]
        exact ⟨_, _, _, _, hr, h1.symm⟩
      · cases h
    · cases h
  · rename_i hx
    exact ⟨_, _, sd_len (n := 0) he (by rw [hx]; rfl), h⟩
  · cases h
theorem moveP_ok {K : Prop} : ∀ {cs : List AV} {row : List Dat}, moveP rs cs row K → MoveC (mk sl rs) cs row (moveH cs) ∧ K
  | [], row, h => by
    unfold moveP at h
    split at h
    · exact ⟨⟨rfl, rfl⟩, h⟩
    · cases h
  | c :: cs, row, h => by
    unfold moveP at h
    split at h
    · cases h
    · rename_i y row'
      split at h
      · rename_i x
        split at h
        · rename_i v hv
          exact ⟨⟨_, _, [], _, rfl, rfl, ⟨h.1.eq.symm, by rw [hv]; rfl, rfl⟩, (moveP_ok h.2).1⟩, (moveP_ok h.2).2⟩
        · cases h
      · rename_i g
        split at h
        · rename_i e k ys
          split at h
          · rename_i e' k' xs hr
            split at h
            · rename_i hb
              rw [Bool.and_eq_true] at hb
              have e1 := Nat.eq_of_beq_eq_true hb.1
              have e2 := Nat.eq_of_beq_eq_true hb.2
              subst e1; subst e2
              obtain ⟨rfl, h2⟩ := h
              exact ⟨⟨_, _, [g], _, rfl, rfl, ⟨_, _, _, hr, rfl, rfl⟩, (moveP_ok h2).1⟩, (moveP_ok h2).2⟩
            · cases h
          · cases h
        · cases h
      · split at h
        · rename_i e k ys
          obtain ⟨rfl, h2⟩ := h
          exact ⟨⟨_, _, [], _, rfl, rfl, ⟨_, _, rfl, rfl⟩, (moveP_ok h2).1⟩, (moveP_ok h2).2⟩
        · cases h
      · cases h
theorem tgtW_ok {e k : Nat} {a : AV} {K : List Nat → Bool → List (List Dat) → Prop} (h : tgtW rs e k a K) : ∃ del dp xs, TgtIs (mk sl rs) a del e k dp xs ∧ K del dp xs := by
  unfold tgtW at h
  split at h
  · rename_i hh
    split at h
    · rename_i e' k' dp xs hr
      split at h
      · rename_i hb
        rw [Bool.and_eq_true] at hb
        have e1 := Nat.eq_of_beq_eq_true hb.1
        have e2 := Nat.eq_of_beq_eq_true hb.2
        subst e1; subst e2
        exact ⟨_, _, _, ⟨hr, rfl⟩, h⟩
      · cases h
    · cases h
  · exact ⟨_, _, _, ⟨rfl, rfl⟩, h⟩
  · cases h
theorem srcW_ok {k : Nat} {a : AV} {K : List (List Dat) → Prop} (h : srcW rs k a K) : ∃ ys, FlatSrc (mk sl rs) a k ys ∧ K ys := by
  unfold srcW at h
  split at h
  · rename_i o e k' xs
    split at h
    · rename_i hb
      rw [Bool.and_eq_true] at hb
      exact ⟨_, ⟨live_of hb.1, Nat.eq_of_beq_eq_true hb.2, rfl⟩, h⟩
    · cases h
  · rename_i hh
    split at h
    · rename_i e k' dp xs hr
      split at h
      · rename_i hb
        have e1 := Nat.eq_of_beq_eq_true hb
        subst e1
        exact ⟨_, ⟨_, _, hr⟩, h⟩
      · cases h
    · cases h
  · exact ⟨_, rfl, h⟩
  · cases h
theorem nodupB_ok : ∀ {l : List Nat}, nodupB l = true → l.Nodup
  | [], _ => List.nodup_nil
  | x :: l, h => by
    simp only [nodupB, Bool.and_eq_true, Bool.not_eq_true', List.contains_eq_mem, decide_eq_false_iff_not] at h
    exact List.nodup_cons.2 ⟨h.1, nodupB_ok h.2⟩
theorem appW_ok {t : T} {K : AV → List Nat → List (Nat × Rs) → T → Prop} (hT : TbOk P tb) (h : appW tb sl rs d s (evE sl x) (evE sl y) t K) : ∃ v del new t', Sound P ⟨some d, .call { callee := .builtin .append, args := #[x, y], argTypes := #[s, s] }, ty, pos, aft, gd⟩ (mk sl rs) ⟨v, del, new⟩ ∧ K v del new t' := by
  unfold appW at h
  split at h
  · rename_i e he
    have he := look_of hT.sl he
    split at h
    · rename_i ag k bt z hq
      have hq := look_of hT.ty hq
      split at h
      · rename_i hb
        simp only [Bool.and_eq_true] at hb
        have hk : 0 < k := by have := hb.1.2; simpa [Nat.blt_eq] using this
        have hbt : 0 < bt := by have := hb.2; simpa [Nat.blt_eq] using this
        obtain ⟨del, dp, xs, ht, h⟩ := tgtW_ok (sl := sl) h
        have small : ∀ n, n * bt ≤ 140737488355328 → n ≤ maxLen := fun n hn => by
          have : n * 1 ≤ n * bt := Nat.mul_le_mul_left n hbt
          unfold maxLen; omega
        split at h
        · obtain ⟨rfl, h2, h3, h4, h5⟩ := h
          obtain ⟨ys, q1, rfl⟩ := srcW_ok (sl := sl) h2
          rename_i enc l l2 t'
          obtain ⟨css, hc⟩ := flats_map h3 l2
          exact ⟨_, _, _, _, sv_appF he hq hk ht q1 hc (by simpa using h4) (by simpa using small _ h4) (by rw [List.map_append]) hb.1.1, h5⟩
        · split at h
          · split at h
            · rename_i h2 hx
              split at h
              · rename_i e2 cs hr
                split at h
                · rename_i hn
                  split at h
                  rotate_left
                  · cases h
                  rename_i q3
                  have q3 := Nat.eq_of_beq_eq_true q3
                  obtain ⟨rfl, h⟩ := h
                  obtain ⟨q2, q4, q5⟩ := moveP_ok (sl := sl) h
                  exact ⟨_, _, _, _, sv_appM he hq hk ht (.inl rfl) hx hr q2 q3 (nodupB_ok hn) (by simpa using q4) (by simpa using small _ q4) (by rw [List.map_append]; rfl) hb.1.1, q5⟩
                · cases h
              · cases h
            · cases h
          · cases h
        · cases h
      · cases h
    · cases h
  · cases h
theorem asArs_rdL {K : Nat → Prop} {φ : Phi} {A : Nat → Prop} {w0 : Org} {N : Nat} {S : St} {a : Act} {w : World} (hG : G K φ A w0 N S a w) : ∀ {xs : List AV} {ys : List Ar} {vs : List Value}, AsArs S xs ys → MatchL K φ w xs vs → ArsRd (fun b => b < w.heap.size) w ys vs
  | [], ys, vs, h, hm => by unfold MatchL at hm; rw [hm, show ys = [] from h]; exact rfl
  | x :: xs, ys, vs, ⟨y, ys', e, h1, h2⟩, hm => by
    subst e
    unfold MatchL at hm
    obtain ⟨v, vs', rfl, h3, h4⟩ := hm
    exact ⟨v, vs', rfl, asAr_rd hG h1 h3, asArs_rdL hG h2 h4⟩
theorem asArs_rdL0 {K : Nat → Prop} {φ : Phi} {A : Nat → Prop} {w0 : Org} {N : Nat} {S : St} {a : Act} {w : World} (hG : G K φ A w0 N S a w) : ∀ {xs : List AV} {ys : List Ar} {vs : List Value}, settledL xs = true → AsArs S xs ys → MatchL K φ w xs vs → ArsRd K w ys vs
  | [], ys, vs, _, h, hm => by unfold MatchL at hm; rw [hm, show ys = [] from h]; exact rfl
  | x :: xs, ys, vs, hs, ⟨y, ys', e, h1, h2⟩, hm => by
    subst e
    simp only [settledL, Bool.and_eq_true] at hs
    unfold MatchL at hm
    obtain ⟨v, vs', rfl, h3, h4⟩ := hm
    exact ⟨v, vs', rfl, asAr_rd0 hs.1 h1 h3, asArs_rdL0 hG hs.2 h2 h4⟩
theorem evL_match {K : Nat → Prop} {φ : Phi} {A : Nat → Prop} {w0 : Org} {N : Nat} {a : Act} {w : World} (hG : G K φ A w0 N (mk sl rs) a w) : ∀ (xs : List Operand), MatchL K φ w (xs.map (evE sl)) (xs.map a.eval)
  | [] => by simp only [List.map_nil]; unfold MatchL; rfl
  | x :: xs => by
    simp only [List.map_cons]
    unfold MatchL
    exact ⟨_, _, rfl, by have := hG.ev x; rw [evE_eq] at this; exact this, evL_match hG xs⟩
/-- A call of a function value: which function is entered, with which values. -/
theorem run_callV {o : Oper} {c : Operand} {f : FuncId} {caps : List AV} {xs : List Operand} {ts : Array TypeId} (ho : o.op = .call { callee := .value c, args := ⟨xs⟩, argTypes := ts }) (hc : callable P f = true) (hx : evE sl c = .fn f caps) (K : Nat → Prop) (φ : Phi) (A : Nat → Prop) (w0 : Org) (N : Nat) (a : Act) (w : World) (hG : G K φ A w0 N (mk sl rs) a w) :
    ∃ vs : Array Value, (execOp a.eval o).run P w = .ok (.enter f vs) w ∧ MatchL K φ w (xs.map (evE sl) ++ caps) vs.toList := by
  have hev := hG.ev c
  rw [evE_eq, hx] at hev
  unfold MatchV at hev
  obtain ⟨cs, he, hm⟩ := hev
  refine ⟨(xs.map a.eval).toArray ++ cs, ?_, ?_⟩
  · unfold callable at hc
    split at hc
    · rename_i fn hf
      simp only [Bool.and_eq_true, Bool.not_eq_true', beq_eq_false_iff_ne, ne_eq] at hc
      obtain ⟨cd, hb⟩ := Option.isSome_iff_exists.1 hc.2
      simp [execOp, ho, resolve, he, Deferred.ofValue, invoke, callFunc, hf, hc.1, hb]
    · cases hc
  · have := matchL_append (evL_match hG xs) hm
    simpa using this
theorem sv_callV {o : Oper} {f : FuncId} {avs : List AV} {ys : List Ar} {rv : AV} {rr : List (Nat × Rs)} {hb : Nat} (hrun : ∀ K φ A w0 N a w, G K φ A w0 N (mk sl rs) a w → ∃ vs : Array Value, (execOp a.eval o).run P w = .ok (.enter f vs) w ∧ MatchL K φ w avs vs.toList) (hx : asArsF rs avs = some ys) (hC : Con P f ys rv rr)
    (hcl : (closedA rv && rr.all fun q => deepR q.2) = true ∨ settledL avs = true) (ha : (rr.all fun q => arrR q.2 && freshV sl rs (hb + q.1)) = true) (hmt : ((ments rv).all fun h => (findH rr h).isSome) = true) : Sound P o (mk sl rs) ⟨mapA (hb + ·) rv, [], rr.map fun q => (hb + q.1, q.2)⟩ := by
  intro K φ A w0 N a w Q hd hG
  have hx := asArsF_ok (sl := sl) hx
  simp only [List.all_eq_true, Bool.and_eq_true] at ha hmt hcl
  have hfr : ∀ q ∈ rr, Fresh (mk sl rs) (hb + q.1) := fun q hq => freshV_ok (ha q hq).2
  have har : ∀ q ∈ rr, arrR q.2 = true := fun q hq => (ha q hq).1
  have hmt : ∀ h ∈ ments rv, ∃ r, findH rr h = some r := fun k hk => Option.isSome_iff_exists.1 (hmt k hk)
  obtain ⟨vs, hrn, hmv⟩ := hrun K φ A w0 N a w hG
  unfold Oper.wp
  rw [hrn, Oper.upon_enter]
  rcases hcl with ⟨hc1, hc2⟩ | hset
  · refine (hC.2 (fun b => b < w.heap.size) w _ (fun _ h => h) (asArs_rdL hG hx hmv)).mono ?_
    rintro e w' ⟨v, Kr, φr, rfl, h1, h2, h3, h4, h5, h6, h7, h8, h9⟩
    obtain ⟨φ', g1, g2⟩ := call_done (dst := o.dst) (A' := A) (K' := K) (hb := hb) hG hd h1 h3 h4 h5 h6 h7 h8 (closed_match rv v hc1 h9) (fun h r pl hr hh => Holds.deepK (hc2 _ (mem_of_findH hr)) hh) (fun _ h => h) (fun _ h => .inl h) har hfr hmt
    exact ⟨K, φ', v, rfl, g1, g2⟩
  · refine (hC.2 K w _ (fun b hb => (hG.kin b hb).1) (asArs_rdL0 hG hset hx hmv)).mono ?_
    rintro e w' ⟨v, Kr, φr, rfl, h1, h2, h3, h4, h5, h6, h7, h8, h9⟩
    have hKr : ∀ b, Kr b → K b ∨ (Kr b ∧ w.heap.size ≤ b ∧ b < w'.heap.size) := fun b hb => by
      rcases (h2 b hb).2 with h | h
      · exact .inl h
      · exact .inr ⟨hb, h, (h2 b hb).1⟩
    obtain ⟨φ', g1, g2⟩ := call_done (dst := o.dst) (A' := A) (K' := fun b => K b ∨ (Kr b ∧ w.heap.size ≤ b ∧ b < w'.heap.size)) (hb := hb) hG hd h1 h3 h4 h5 h6 h7 h8
      (MatchV.mono (K := Kr) (φ := φr) (fun _ _ => rfl) hKr rv v (fun h pl _ e => ⟨e, fun _ _ => rfl⟩) h9)
      (fun h r pl hr hh => Holds.mono (K := Kr) (φ := φr) (fun _ _ => rfl) hKr (fun _ _ => rfl) r (fun h pl _ e => ⟨e, fun _ _ => rfl⟩) hh) (fun _ h => .inl h) (fun _ h => h) har hfr hmt
    exact ⟨_, φ', v, rfl, g1, g2⟩
theorem callW_ok {f : FuncId} {avs : List AV} {o : Oper} {t : T} {K : AV → List (Nat × Rs) → T → Prop} (hrun : callable P f = true → ∀ K φ A w0 N a w, G K φ A w0 N (mk sl rs) a w → ∃ vs : Array Value, (execOp a.eval o).run P w = .ok (.enter f vs) w ∧ MatchL K φ w avs vs.toList) (h : callW P sl rs d f avs t K) : ∃ v new t', Sound P o (mk sl rs) ⟨v, [], new⟩ ∧ K v new t' := by
  unfold callW at h
  split at h
  · split at h
    · rename_i ys hys
      split at h
      · rename_i hb
        simp only [Bool.and_eq_true, Bool.or_eq_true] at hb
        obtain ⟨hC, h⟩ := h
        refine ⟨_, _, _, sv_callV (hrun hC.1) hys hC ?_ hb.1.2 hb.2, h⟩
        simpa using hb.1.1
      · cases h
    · cases h
  · cases h
theorem makeFunc_ok {f : FuncId} {captured : Array Operand} : Sound P ⟨some d, .makeFunc (.func f) ⟨[]⟩ captured, ty, pos, aft, gd⟩ (mk sl rs) ⟨.fn f (captured.toList.map (evE sl)), [], []⟩ :=
  sound_val fun K φ A w0 N a w hG => by
    refine ⟨.func (.func f) #[] (captured.map a.eval), by simp [execOp, Instr.makeFunc], ?_⟩
    unfold MatchV
    exact ⟨_, rfl, by simpa using evL_match hG captured.toList⟩
theorem valW_ok {o : Op} {t : T} {K : AV → List Nat → List (Nat × Rs) → T → Prop} (hT : TbOk P tb) (h : valW P tb sl rs d o t K) : ∃ v del new t', Sound P ⟨some d, o, ty, pos, aft, gd⟩ (mk sl rs) ⟨v, del, new⟩ ∧ K v del new t' := by
  unfold valW at h
  split at h
  · exact ⟨_, _, _, _, sd_move rfl, h⟩
  · exact ⟨_, _, _, _, sd_assign rfl, h⟩
  · obtain ⟨v, t', h1, h2⟩ := pickW_ok h
    exact ⟨_, _, _, _, h1, h2⟩
  · split at h
    · rename_i vs hx
      split at h
      · rename_i v hv
        exact ⟨_, _, _, _, sd_extract hx hv, h⟩
      · cases h
    · cases h
  · obtain ⟨v, t', h1, h2⟩ := binW_ok hT h
    exact ⟨_, _, _, _, h1, h2⟩
  · obtain ⟨v, t', h1, h2⟩ := unW_ok h
    exact ⟨_, _, _, _, h1, h2⟩
  · obtain ⟨v, h1, h2⟩ := fldW_ok hT h
    exact ⟨_, _, _, _, h1, h2⟩
  · obtain ⟨v, t', h1, h2⟩ := idxW_ok hT h
    exact ⟨_, _, _, _, h1, h2⟩
  · obtain ⟨v, t', h1, h2⟩ := loadW_ok hT h
    exact ⟨_, _, _, _, h1, h2⟩
  · split at h
    · rename_i hq
      have hq := look_of hT.ty hq
      split at h
      · rename_i hf
        exact ⟨_, _, _, _, sv_alloc hq hf, h⟩
      · cases h
    · cases h
  · split at h
    · rename_i hb
      rw [Bool.and_eq_true] at hb
      exact ⟨_, _, _, _, sv_box (cell1_of hb.1) hb.2, h⟩
    · cases h
  · obtain ⟨v, h1, h2⟩ := buildW_ok hT h
    exact ⟨_, _, _, _, h1, h2⟩
  · obtain ⟨v, new, h1, h2⟩ := bslW_ok hT h
    exact ⟨_, _, _, _, h1, h2⟩
  · obtain ⟨v, new, t', h1, h2⟩ := mkW_ok hT h
    exact ⟨_, _, _, _, h1, h2⟩
  · split at h
    · split at h
      · split at h
        · split at h
          · rename_i he
            obtain ⟨v, t', h1, h2⟩ := lenW_ok (look_of hT.sl he) h
            exact ⟨_, _, _, _, h1, h2⟩
          · cases h
        · cases h
      · split at h
        · obtain ⟨e, h⟩ := h.eq
          subst e
          exact appW_ok hT h
        · cases h
      · cases h
    · split at h
      · rename_i hx
        obtain ⟨v, new, t', h1, h2⟩ := callW_ok (o := ⟨some d, .call ⟨.value _, ⟨_⟩, _⟩, ty, pos, aft, gd⟩) (fun hc => run_callV rfl hc hx) h
        exact ⟨_, _, _, _, h1, h2⟩
      · cases h
    · cases h
  · exact ⟨_, _, _, _, makeFunc_ok, h⟩
  · cases h
end
theorem opW_ok {o : Oper} {t : T} {K : AV → List Nat → List (Nat × Rs) → T → Prop} (hT : TbOk P tb) (h : opW P tb sl rs o.dst o.op t K) : ∃ v del new t', Sound P o (mk sl rs) ⟨v, del, new⟩ ∧ K v del new t' := by
  obtain ⟨dst, op, ty, pos, aft, gd⟩ := o
  unfold opW at h
  dsimp only at h
  split at h
  · exact valW_ok hT h
  · split at h
    · obtain ⟨del, new, t', h1, h2⟩ := stW_ok hT h
      exact ⟨_, _, _, _, h1, h2⟩
    · cases h
end
end Go.Proofs.Ytcgjlddpbkponaa
