/-
  The laws' helpers as contracts.
-/
import Derived.Test.YtcgjlddpbkponaaLpD
import Derived.Test.YtcgjlddpbkponaaEng2
namespace Go.Proofs.Ytcgjlddpbkponaa
open Go.ChangeShapes Go.WideShapes Go.ChangeAt Go.RowKit
set_option linter.unusedVariables false
set_option linter.unusedSimpArgs false
theorem rd_prog' {w : World} {cs : List Value} {p : ProgramD} (h : ProgramR w cs p) : RdL (Lv w) w (progD p) cs := by
  have h' := h
  obtain ⟨c0, c1, c2, rfl, _⟩ := h'
  exact rd_prog h
theorem rats_rd {A : Nat → Prop} {w : World} {v : Value} {l : List RationalD} (hf : ∀ x ∈ l, Fits x.num ∧ Fits x.den) (h : RdV A w (rats l) v) : SliceR 2 RationalR w [v] l :=
  slice_rd (enc := ratD) (fun x hx cs h => by
    obtain ⟨v, vs, rfl, h1, h2⟩ := h
    obtain ⟨v', vs', rfl, h3, h4⟩ := h2
    unfold RdV at h1 h3
    rw [h1, h3, show vs' = [] from h4]
    exact ⟨rfl, hf x hx⟩) (fun _ => rfl) h
theorem fits_rats {w : World} {v : Value} {l : List RationalD} (h : SliceR 2 RationalR w [v] l) : ∀ x ∈ l, Fits x.num ∧ Fits x.den := h.all_ (p := fun x => Fits x.num ∧ Fits x.den) (fun w cs x hx => hx.2)
theorem ow_rats {w : World} {F : List Nat} {v : Value} {l : List RationalD} (h : SliceO 35 2 RationalO w F [v] l) : OwV w (rats l) v F :=
  ow_slice (enc := ratD) (fun F cs x h => by rw [h.1, h.2.1]; exact owCs_cons owV_int (owCs_cons owV_int owCs_nil)) (fun _ => rfl) h
theorem ow_rows2 {w : World} {F : List Nat} {v : Value} {l : List (List Int)} (h : SliceO 22 1 IntsO w F [v] l) : OwV w (rowsD l) v F :=
  ow_slice (enc := rowD) (fun F cs x h => by
    have h' := h
    obtain ⟨v, rfl, _⟩ := h'
    have := owCs_cons (ow_ints h) owCs_nil
    rwa [List.append_nil] at this) (fun _ => rfl) h
theorem ow_prog {w : World} {F : List Nat} {cs : List Value} {p : ProgramD} (h : ProgramO w F cs p) : OwCs w (progD p) cs F := by
  obtain ⟨F0, F1, F2, c0, c1, c2, rfl, rfl, h0, h1, h2⟩ := h
  have := owCs_cons (ow_ints h0) (owCs_cons (ow_rows2 h1) (owCs_cons (ow_ints h2) owCs_nil))
  rwa [List.append_nil] at this
theorem c_toProgram {p : ProgramD} (hf : FitsP p) (hc : p.count ≤ 1048576) : Con Try.prog 17 [.agg (progD p)] (.agg (ownA 0 (progD p))) (ownR 0 (progD p)) :=
  con_newA (by kernel_rfl) fun A w us hA hus => by
    obtain ⟨v, vs, e, ⟨cs, rfl, hl⟩, h2⟩ := hus
    rw [show vs = [] from h2] at e
    have hp := prog_rd hf hl
    have hp' := hp
    obtain ⟨c0, c1, c2, ec, _⟩ := hp'
    have eu : us = #[.agg #[c0, c1, c2]] := by
      apply Array.ext'
      rw [e]
      have : cs = #[c0, c1, c2] := by apply Array.ext'; simpa using ec
      rw [this]
    rw [eu]
    rw [ec] at hp
    refine (toProgram_new c0 c1 c2 p w hp hc).mono fun e w' ⟨F, cs, he, ho, hn, hg, hb⟩ => ?_
    exact ⟨cs, F, he, ow_prog ho, hn, hg, hb⟩
theorem c_eqProgram {p : ProgramD} (hf : FitsP p) : Con Try.prog 19 [.agg (progD p), .agg (progD p)] (.p none (.bool true)) [] := by
  refine ⟨by kernel_rfl, fun A w us hA hus => ?_⟩
  obtain ⟨v, vs, e, ⟨cs, rfl, hl⟩, v', vs', rfl, ⟨cs', rfl, hl'⟩, h2⟩ := hus
  rw [show vs' = [] from h2] at e
  have hp := prog_rd hf hl
  have hq := prog_rd hf hl'
  have hp' := hp
  have hq' := hq
  obtain ⟨c0, c1, c2, ec, _⟩ := hp'
  obtain ⟨d0, d1, d2, ed, _⟩ := hq'
  have eu : us = #[.agg #[c0, c1, c2], .agg #[d0, d1, d2]] := by
    apply Array.ext'
    rw [e]
    have : cs = #[c0, c1, c2] := by apply Array.ext'; simpa using ec
    have : cs' = #[d0, d1, d2] := by apply Array.ext'; simpa using ed
    simp [*]
  rw [eu]
  rw [ec] at hp
  rw [ed] at hq
  refine (eqProgram_self c0 c1 c2 d0 d1 d2 p w hp hq).mono fun e w' ⟨he, hb⟩ => ?_
  exact ⟨_, fun _ => False, fun _ => none, he, hb, by simp, by simp, by simp [findH], by simp, by simp, by simp, by simp, by unfold MatchV RdV; rfl⟩
theorem c_szProgram {p : ProgramD} {m t : Int} (hf : FitsP p) (h0 : 0 ≤ m) (h1 : m ≤ 1048576) (ht : szStep p.count m = t) : Con Try.prog 15 [.agg (progD p), .one (.int .i64 m)] (.p none (.int .i64 t)) [] := by
  subst ht
  refine ⟨by kernel_rfl, fun A w us hA hus => ?_⟩
  obtain ⟨v, vs, e, ⟨cs, rfl, hl⟩, v', vs', rfl, hm, h2⟩ := hus
  simp only [ArRd] at hm
  unfold RdV at hm
  rw [show vs' = [] from h2, hm] at e
  have hp := prog_rd hf hl
  have hp' := hp
  obtain ⟨c0, c1, c2, ec, _⟩ := hp'
  have eu : us = #[.agg #[c0, c1, c2], .int .i64 m] := by
    apply Array.ext'
    rw [e]
    have : cs = #[c0, c1, c2] := by apply Array.ext'; simpa using ec
    rw [this]
  rw [eu]
  rw [ec] at hp
  refine (szProgram_any c0 c1 c2 p m w hp h0 h1).mono fun e w' ⟨he, hb⟩ => ?_
  exact ⟨_, fun _ => False, fun _ => none, he, hb, by simp, by simp, by simp [findH], by simp, by simp, by simp, by simp, by unfold MatchV RdV; rfl⟩
theorem c_toRats {l : List RationalD} (hf : ∀ x ∈ l, Fits x.num ∧ Fits x.den) (hc : l.length ≤ 1048576) : Con Try.prog 22 [.one (rats l)] (.own 0) [(0, .arr 35 2 true (l.map ratD))] :=
  con_newS (by kernel_rfl) fun A w us hA hus => by
    obtain ⟨v, vs, e, hl, h2⟩ := hus
    rw [show vs = [] from h2] at e
    have hr := rats_rd hf hl
    have eu : us = #[v] := by apply Array.ext'; rw [e]
    rw [eu]
    refine (toRationalS_new v l w hr hc).mono fun e w' ⟨F, a, c, he, ho, hn, hg, hb⟩ => ?_
    exact ⟨_, F, he, ow_rats ho, hn, hg, hb⟩
theorem c_eqRats {l : List RationalD} (hf : ∀ x ∈ l, Fits x.num ∧ Fits x.den) : Con Try.prog 25 [.one (rats l), .one (rats l)] (.p none (.bool true)) [] := by
  refine ⟨by kernel_rfl, fun A w us hA hus => ?_⟩
  obtain ⟨v, vs, e, hl, v', vs', rfl, hl', h2⟩ := hus
  rw [show vs' = [] from h2] at e
  have eu : us = #[v, v'] := by apply Array.ext'; rw [e]
  rw [eu]
  refine (eqRationalS_self v v' l w (rats_rd hf hl) (rats_rd hf hl')).mono fun e w' ⟨he, hb⟩ => ?_
  exact ⟨_, fun _ => False, fun _ => none, he, hb, by simp, by simp, by simp [findH], by simp, by simp, by simp, by simp, by unfold MatchV RdV; rfl⟩
theorem c_szRats {l : List RationalD} {m t : Int} (hf : ∀ x ∈ l, Fits x.num ∧ Fits x.den) (h0 : 0 ≤ m) (h1 : m ≤ 1048576) (ht : szStep l.length m = t) : Con Try.prog 20 [.one (rats l), .one (.int .i64 m)] (.p none (.int .i64 t)) [] := by
  subst ht
  refine ⟨by kernel_rfl, fun A w us hA hus => ?_⟩
  obtain ⟨v, vs, e, hl, v', vs', rfl, hm, h2⟩ := hus
  simp only [ArRd] at hm
  unfold RdV at hm
  rw [show vs' = [] from h2, hm] at e
  have eu : us = #[v, .int .i64 m] := by apply Array.ext'; rw [e]
  rw [eu]
  refine (szRationalS_any v l m w (rats_rd hf hl) h0 h1).mono fun e w' ⟨he, hb⟩ => ?_
  exact ⟨_, fun _ => False, fun _ => none, he, hb, by simp, by simp, by simp [findH], by simp, by simp, by simp, by simp, by unfold MatchV RdV; rfl⟩

set_option maxRecDepth 100000 in
set_option maxHeartbeats 4000000 in
theorem c_eqRational (a b : Int) :
    Con Try.prog 24 [qA a b, qA a b] (.p none (.bool true)) [] := by
  refine con_of (N := 15) Try.func24 rfl rfl (by decide) (Nat.le_of_ble_eq_true rfl) ?_
  refine VC_seq (fun K1 k1 => ?_)
  refine VC_lit ?_
  refine goN (sd_box (cs := [.p none (.int _ _), .p none (.int _ _)]) (by first | exact trivial | exact ⟨_, rfl⟩) rfl rfl) (Nat.le_of_ble_eq_true rfl) ?_
  refine goN (sd_box (cs := [.p none (.int _ _), .p none (.int _ _)]) (by first | exact trivial | exact ⟨_, rfl⟩) rfl rfl) (Nat.le_of_ble_eq_true rfl) ?_
  refine goV (sd_assign (v := .p none _) rfl) (Nat.le_of_ble_eq_true rfl) ?_
  refine op_nil ?_
  refine k1 _ ?_
  refine VC_seq (fun K2 k2 => ?_)
  refine VC_seq (fun K3 k3 => ?_)
  refine VC_lit ?_
  refine goV (sd_fieldP fl35_0 rfl rfl) (Nat.le_of_ble_eq_true rfl) ?_
  refine goV (sd_loadB1 (v := .p none (.int _ _)) ty3 rfl rfl rfl) (Nat.le_of_ble_eq_true rfl) ?_
  refine goV (sd_fieldP fl35_0 rfl rfl) (Nat.le_of_ble_eq_true rfl) ?_
  refine goV (sd_loadB1 (v := .p none (.int _ _)) ty3 rfl rfl rfl) (Nat.le_of_ble_eq_true rfl) ?_
  refine goV (sd_neq rfl rfl) (Nat.le_of_ble_eq_true rfl) ?_
  refine op_nil ?_
  refine k3 _ ?_
  refine VC_cond rfl (fun c0 => absurd c0 (by simp)) (fun c0 => ?_)
  refine VC_skip ?_
  refine k2 _ ?_
  refine VC_seq (fun K4 k4 => ?_)
  refine VC_seq (fun K5 k5 => ?_)
  refine VC_lit ?_
  refine goV (sd_fieldP fl35_1 rfl rfl) (Nat.le_of_ble_eq_true rfl) ?_
  refine goV (sd_loadB1 (v := .p none (.int _ _)) ty3 rfl rfl rfl) (Nat.le_of_ble_eq_true rfl) ?_
  refine goV (sd_fieldP fl35_1 rfl rfl) (Nat.le_of_ble_eq_true rfl) ?_
  refine goV (sd_loadB1 (v := .p none (.int _ _)) ty3 rfl rfl rfl) (Nat.le_of_ble_eq_true rfl) ?_
  refine goV (sd_neq rfl rfl) (Nat.le_of_ble_eq_true rfl) ?_
  refine op_nil ?_
  refine k5 _ ?_
  refine VC_cond rfl (fun c1 => absurd c1 (by simp)) (fun c1 => ?_)
  refine VC_skip ?_
  refine k4 _ ?_
  refine VC_seq (fun K6 k6 => ?_)
  refine VC_lit ?_
  refine goV (sd_assign (v := .p none _) rfl) (Nat.le_of_ble_eq_true rfl) ?_
  refine op_nil ?_
  refine k6 _ ?_
  refine VC_ret ?_
  show Fin _ _ _ _ _ _
  refine fin0 (xs := [.p none (.bool _)]) (.inr rfl) ⟨_, _, rfl, rfl, rfl⟩ ?_
  show AV.p none (.bool _) = _
  rfl

theorem szStep_two {a b : Nat} {m : Int} (h : (a : Int) ≤ m) (h' : (b : Int) ≤ m - a) : szStep (a + b) m = m - a - b := by rw [szStep_yes (by omega)]; omega
theorem szStep_no1 {a b : Nat} {m : Int} (h : ¬ (a : Int) ≤ m) : szStep (a + b) m = -1 := szStep_no (by omega)
theorem szStep_no2 {a b : Nat} {m : Int} (h' : ¬ (b : Int) ≤ m - a) : szStep (a + b) m = -1 := szStep_no (by omega)

set_option maxRecDepth 100000 in
set_option maxHeartbeats 4000000 in
theorem c_toRational (a b : Int) :
    Con Try.prog 66 [qA a b] (.agg [.p none (.int .i64 a), .p none (.int .i64 b)]) [] := by
  refine con_of (N := 11) Try.func66 rfl rfl (by decide) (Nat.le_of_ble_eq_true rfl) ?_
  refine VC_seq (fun K1 k1 => ?_)
  refine VC_lit ?_
  refine goN (sd_box (cs := [.p none (.int _ _), .p none (.int _ _)]) (by first | exact trivial | exact ⟨_, rfl⟩) rfl rfl) (Nat.le_of_ble_eq_true rfl) ?_
  refine goN (sd_alloc (cs := [.p none (.int _ _), .p none (.int _ _)]) ty35 rfl rfl) (Nat.le_of_ble_eq_true rfl) ?_
  refine op_nil ?_
  refine k1 _ ?_
  refine VC_seq (fun K2 k2 => ?_)
  refine VC_lit ?_
  refine goN (sd_alloc (cs := [.p none (.int _ _), .p none (.int _ _)]) ty35 rfl rfl) (Nat.le_of_ble_eq_true rfl) ?_
  refine op_nil ?_
  refine k2 _ ?_
  refine VC_seq (fun K3 k3 => ?_)
  refine VC_lit ?_
  refine goV (sd_fieldP fl52_0 rfl rfl) (Nat.le_of_ble_eq_true rfl) ?_
  refine goV (sd_loadB1 (v := .p none (.int _ _)) ty3 rfl rfl rfl) (Nat.le_of_ble_eq_true rfl) ?_
  refine goV (sd_fieldP fl35_0 rfl rfl) (Nat.le_of_ble_eq_true rfl) ?_
  refine goW (sd_storeB (cs' := [.p none (.int _ _), .p none (.int _ _)]) ty3 rfl rfl (by first | exact trivial | exact ⟨_, rfl⟩) rfl (Nat.le_of_ble_eq_true rfl) rfl) ?_
  refine op_nil ?_
  refine k3 _ ?_
  refine VC_seq (fun K4 k4 => ?_)
  refine VC_lit ?_
  refine goV (sd_fieldP fl52_1 rfl rfl) (Nat.le_of_ble_eq_true rfl) ?_
  refine goV (sd_loadB1 (v := .p none (.int _ _)) ty3 rfl rfl rfl) (Nat.le_of_ble_eq_true rfl) ?_
  refine goV (sd_fieldP fl35_1 rfl rfl) (Nat.le_of_ble_eq_true rfl) ?_
  refine goW (sd_storeB (cs' := [.p none (.int _ _), .p none (.int _ _)]) ty3 rfl rfl (by first | exact trivial | exact ⟨_, rfl⟩) rfl (Nat.le_of_ble_eq_true rfl) rfl) ?_
  refine op_nil ?_
  refine k4 _ ?_
  refine VC_seq (fun K5 k5 => ?_)
  refine VC_lit ?_
  refine goV (sd_loadB (vs := [.p none (.int _ _), .p none (.int _ _)]) ty35 rfl rfl (Nat.le_of_ble_eq_true rfl) rfl) (Nat.le_of_ble_eq_true rfl) ?_
  refine goW (sd_storeB (cs' := [.p none (.int _ _), .p none (.int _ _)]) ty35 rfl rfl (by first | exact trivial | exact ⟨_, rfl⟩) rfl (Nat.le_of_ble_eq_true rfl) rfl) ?_
  refine op_nil ?_
  refine k5 _ ?_
  refine VC_ret ?_
  show Fin _ _ _ _ _ _
  refine fin0 (xs := [.agg [.p none (.int _ _), .p none (.int _ _)]]) (.inr rfl) ⟨_, _, rfl, ⟨_, _, _, _, _, _, _, rfl, rfl, ty35, .inl ⟨rfl, rfl, rfl⟩⟩, rfl⟩ ?_
  show AV.agg [.p none (.int _ _), .p none (.int _ _)] = _
  rfl
end Go.Proofs.Ytcgjlddpbkponaa
