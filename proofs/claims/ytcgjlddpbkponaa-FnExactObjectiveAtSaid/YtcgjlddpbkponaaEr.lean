/-
  From readings of typed data to plain data and back; contracts as calls.
-/
import Derived.Test.YtcgjlddpbkponaaEq
namespace Go.Proofs.Ytcgjlddpbkponaa
open Go.ChangeShapes Go.WideShapes Go.ChangeAt Go.RowKit
set_option linter.unusedVariables false
set_option linter.unusedSimpArgs false

abbrev Lv (w : World) : Nat → Prop := fun b => b < w.heap.size
section
variable {α : Type}
theorem rdRs_slice {R : Rd α} {enc : α → List Dat} {w : World} {k : Nat} {a : Option Addr} (hR : ∀ cs x, R w cs x → RdL (Lv w) w (enc x) cs) : ∀ (xs : List α) (o : Nat),
    (∀ i x, xs[i]? = some x → ∃ b off cs', a = some ⟨b, off, none⟩ ∧ cs'.length = k ∧ (∀ j u, cs'[j]? = some u → w.cell? ⟨b, off + (o + i * k) + j, none⟩ = some u) ∧ R w cs' x) → RdRs (Lv w) w k (xs.map enc) a o
  | [], o, _ => by simp only [List.map_nil]; unfold RdRs; trivial
  | x :: xs, o, h => by
    simp only [List.map_cons]
    unfold RdRs
    obtain ⟨b, off, cs, rfl, hl, hc, hr⟩ := h 0 x rfl
    have hrd := hR cs x hr
    have hlen := hrd.len
    refine ⟨by omega, RdCs.mk (fun hne => ?_) hrd (fun j u hu => by have := hc j u hu; simpa using this), rdRs_slice hR xs (o + k) fun i y hy => ?_⟩
    · have h0 : 0 < cs.length := by
        rcases Nat.eq_zero_or_pos cs.length with h | h
        · exact absurd (List.eq_nil_of_length_eq_zero (by omega)) hne
        · exact h
      have := hc 0 _ (List.getElem?_eq_getElem h0)
      exact World.block_lt_of_cell? w _ this
    · obtain ⟨b', off', cs', e, hl', hc', hr'⟩ := h (i + 1) y (by simpa using hy)
      refine ⟨b', off', cs', e, hl', fun j u hu => ?_, hr'⟩
      have := hc' j u hu
      rw [show off' + (o + k + i * k) + j = off' + (o + (i + 1) * k) + j by rw [Nat.add_mul]; omega]; exact this
theorem rd_slice {R : Rd α} {enc : α → List Dat} {w : World} {e k : Nat} {v : Value} {xs : List α} (hR : ∀ cs x, R w cs x → RdL (Lv w) w (enc x) cs) (h : SliceR k R w [v] xs) : RdV (Lv w) w (.sl e k (xs.map enc)) v := by
  obtain ⟨a, c, hv, h1, h2, h3⟩ := h
  simp only [List.cons.injEq, and_true] at hv
  subst hv
  unfold RdV
  refine ⟨a, c, by simp, by simpa using h1, h2, rdRs_slice hR xs 0 fun i x hx => ?_⟩
  obtain ⟨b, off, cs, e, hl, hc, hr⟩ := h3 i x hx
  exact ⟨b, off, cs, e, hl, fun j u hu => by have := hc j u hu; simpa using this, hr⟩
theorem slice_rd {R : Rd α} {enc : α → List Dat} {A : Nat → Prop} {w : World} {e k : Nat} {v : Value} {xs : List α} (hR : ∀ x ∈ xs, ∀ cs, RdL A w (enc x) cs → R w cs x) (hk : ∀ x, (enc x).length = k) (h : RdV A w (.sl e k (xs.map enc)) v) : SliceR k R w [v] xs := by
  unfold RdV at h
  obtain ⟨a, c, rfl, h1, h2, h3⟩ := h
  refine ⟨a, c, by simp, by simpa using h1, h2, fun i x hx => ?_⟩
  obtain ⟨h4, h5⟩ := h3.at_ (map_at (f := enc) hx)
  obtain ⟨b, off, vs, e, hb, hl, hc⟩ := h5.vals
  exact ⟨b, off, vs, e, by rw [hl.len]; exact hk x, fun j u hu => by have := hc j u hu; simpa using this, hR x (List.mem_of_getElem? hx) vs hl⟩
theorem rd_ints {w : World} {v : Value} {l : List Int} (h : SliceR 1 IntR w [v] l) : RdV (Lv w) w (ints l) v :=
  rd_slice (enc := intD) (fun cs x h => by rw [h.1]; exact ⟨_, _, rfl, by unfold RdV; rfl, rfl⟩) h
theorem ints_rd {A : Nat → Prop} {w : World} {v : Value} {l : List Int} (hf : ∀ x ∈ l, Fits x) (h : RdV A w (ints l) v) : SliceR 1 IntR w [v] l :=
  slice_rd (enc := intD) (fun x hx cs h => by
    obtain ⟨v, vs, rfl, h1, h2⟩ := h
    unfold RdV at h1
    rw [h1, show vs = [] from h2]
    exact ⟨rfl, hf x hx⟩) (fun _ => rfl) h
theorem rdL_int {A : Nat → Prop} {w : World} {n : Int} : RdL A w [.int .i64 n] [.int .i64 n] := ⟨_, _, rfl, by unfold RdV; rfl, rfl⟩
/-- Owned data, typed. -/
theorem own_slice {O : Od α} {enc : α → List Dat} {w : World} {k : Nat} (hk : ∀ x, (enc x).length = k) : ∀ {xs : List α} {css : List (List Value)} {Fs : List (List Nat)}, (∀ x ∈ xs, ∀ cs F, OwCs w (enc x) cs F → O w F cs x) → OwRs w k (xs.map enc) css Fs →
    css.length = xs.length ∧ Fs.length = xs.length ∧ ∀ (i : Nat) x, xs[i]? = some x → ∃ Fi ci, Fs[i]? = some Fi ∧ css[i]? = some ci ∧ ci.length = k ∧ O w Fi ci x
  | [], css, Fs, _, h => by simp only [List.map_nil] at h; unfold OwRs at h; rw [h.1, h.2]; simp
  | x :: xs, css, Fs, hO, h => by
    simp only [List.map_cons] at h
    unfold OwRs at h
    obtain ⟨c, css', F, Fs', rfl, rfl, h1, h2, h3⟩ := h
    obtain ⟨q1, q2, q3⟩ := own_slice hk (fun y hy => hO y (by simp [hy])) h3
    refine ⟨by simp [q1], by simp [q2], fun i y hy => ?_⟩
    rcases i with _ | i
    · simp at hy; subst hy
      exact ⟨F, c, rfl, rfl, by rw [h2.len, h1], hO x (by simp) c F h2⟩
    · exact q3 i y (by simpa using hy)
theorem owV_slice {O : Od α} {enc : α → List Dat} {w : World} {e k : Nat} {xs : List α} {v : Value} {F : List Nat} (hk : ∀ x, (enc x).length = k) (hO : ∀ x ∈ xs, ∀ cs F, OwCs w (enc x) cs F → O w F cs x) (h : OwV w (.sl e k (xs.map enc)) v F) : SliceO e k O w F [v] xs := by
  unfold OwV at h
  obtain ⟨css, Fs, h1, h2, h3⟩ := h
  obtain ⟨q1, q2, q3⟩ := own_slice hk hO h3
  exact ⟨v, Fs, css, rfl, by simpa using h1, h2, q1, q2, q3⟩
theorem owV_ints {w : World} {l : List Int} {v : Value} {F : List Nat} (hf : ∀ x ∈ l, Fits x) (h : OwV w (ints l) v F) : IntsO w F [v] l := by
  unfold ints OwV at h
  obtain ⟨css, Fs, h1, h2, h3⟩ := h
  have hfl : Flats (l.map intD) (l.map fun n => [Value.int .i64 n]) := by
    clear h1 h2 h3
    induction l with
    | nil => exact rfl
    | cons a l ih => exact ⟨_, _, rfl, rfl, ih (fun x hx => hf x (by simp [hx]))⟩
  have h4 : RdRows (fun _ => True) w 1 (l.map intD) css := rdRows_of h3.len.1 (fun i x c hx hc => OwRs.rd 1 _ css Fs i x c (by simp) h3 hx hc)
  have e1 := h4.flats_eq hfl
  subst e1
  have e2 : Fs.flatten = [] := by
    have h5 := own_slice (O := fun _ F _ _ => F = []) (enc := intD) (fun _ => rfl) (fun x hx cs F hF => (Flat.owCs_eq (x := intD x) (vs := [.int .i64 x]) rfl hF).2) h3
    rw [List.flatten_eq_nil_iff]
    intro F hF
    obtain ⟨i, hi, rfl⟩ := List.getElem_of_mem hF
    obtain ⟨Fi, ci, q1, _, _, q4⟩ := h5.2.2 i _ (List.getElem?_eq_getElem (by rw [← h5.2.1]; exact hi))
    rw [List.getElem?_eq_getElem hi] at q1
    injection q1 with q1
    rw [q1]; exact q4
  refine ⟨v, rfl, ?_, by rw [h2, e2]; simp, hf⟩
  unfold OwnI vals
  have : (l.map fun n => [Value.int .i64 n]).flatten = l.map (Value.int .i64) := by
    clear h1 h2 h3 h4 hfl e2 hf
    induction l with
    | nil => rfl
    | cons a l ih => simp [ih]
  rw [this] at h1
  simpa using h1
end
section
variable {P : Program}
theorem arsRd_nil {A : Nat → Prop} {w : World} : ArsRd A w [] [] := rfl
theorem arsRd_one {A : Nat → Prop} {w : World} {x : Dat} {xs : List Ar} {v : Value} {vs : List Value} (h : RdV A w x v) (h' : ArsRd A w xs vs) : ArsRd A w (.one x :: xs) (v :: vs) := ⟨v, vs, rfl, h, h'⟩
theorem arsRd_agg {A : Nat → Prop} {w : World} {x : List Dat} {xs : List Ar} {us : Array Value} {vs : List Value} (h : RdL A w x us.toList) (h' : ArsRd A w xs vs) : ArsRd A w (.agg x :: xs) (.agg us :: vs) := ⟨_, vs, rfl, ⟨us, rfl, h⟩, h'⟩
theorem rdV_int {A : Nat → Prop} {w : World} {k : IntKind} {n : Int} : RdV A w (.int k n) (.int k n) := by unfold RdV; rfl
theorem rdL_cons {A : Nat → Prop} {w : World} {x : Dat} {xs : List Dat} {v : Value} {vs : List Value} (h : RdV A w x v) (h' : RdL A w xs vs) : RdL A w (x :: xs) (v :: vs) := ⟨v, vs, rfl, h, h'⟩
theorem rdL_nil {A : Nat → Prop} {w : World} : RdL A w [] [] := rfl
/-- A contract whose result has no memory, as a call. -/
theorem Con.calls {f : FuncId} {args : List Ar} {rv : AV} {val : Value} {w : World} {vs : Array Value} (h : Con P f args rv []) (ha : ArsRd (Lv w) w args vs.toList) (hv : ∀ K φ w v, MatchV K φ w rv v → v = val) : Calls P f vs w fun e w' => e = .returned val ∧ Below w.heap.size w w' :=
  (h.2 (Lv w) w vs (fun _ h => h) ha).mono fun e w' ⟨v, K, φ, he, hb, _, _, _, _, _, _, _, hm⟩ => ⟨by rw [he, hv _ _ _ _ hm], hb⟩
theorem match_bool {b : Bool} : ∀ K φ w v, MatchV K φ w (.p none (.bool b)) v → v = .bool b := fun K φ w v h => by unfold MatchV RdV at h; exact h
theorem match_int {k : IntKind} {n : Int} : ∀ K φ w v, MatchV K φ w (.p none (.int k n)) v → v = .int k n := fun K φ w v h => by unfold MatchV RdV at h; exact h
theorem match_str {s : ByteArray} : ∀ K φ w v, MatchV K φ w (.p none (.str s)) v → v = .string s := fun K φ w v h => by unfold MatchV RdV at h; exact h
theorem match_q {a b : Int} {c : Bool} : ∀ K φ w v, MatchV K φ w (.tup [.agg [.p none (.int .i64 a), .p none (.int .i64 b)], .p none (.bool c)]) v → v = .tuple #[.agg #[.int .i64 a, .int .i64 b], .bool c] := fun K φ w v h => by
  unfold MatchV at h
  obtain ⟨vs, rfl, h⟩ := h
  have hl := matchL_len h
  unfold MatchL at h
  obtain ⟨v1, vs1, e1, m1, h⟩ := h
  unfold MatchL at h
  obtain ⟨v2, vs2, e2, m2, h⟩ := h
  unfold MatchL at h
  have q1 : v1 = .agg #[.int .i64 a, .int .i64 b] := conc_match (K := K) (φ := φ) (w := w) rfl m1
  have q2 : v2 = .bool c := conc_match (K := K) (φ := φ) (w := w) rfl m2
  subst h; subst e2; subst q1; subst q2
  congr 1
  apply Array.ext'
  simpa using e1
end
end Go.Proofs.Ytcgjlddpbkponaa
