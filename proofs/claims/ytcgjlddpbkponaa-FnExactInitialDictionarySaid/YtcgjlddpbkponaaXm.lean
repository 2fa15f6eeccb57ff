/-
  Marks.
-/
import Derived.Test.YtcgjlddpbkponaaWt
import Derived.Test.YtcgjlddpbkponaaWj
import Derived.Test.YtcgjlddpbkponaaDc0
namespace Go.Proofs.Ytcgjlddpbkponaa
open Go.ChangeShapes Go.WideShapes Go.ChangeAt Go.RowKit
set_option linter.unusedVariables false
set_option linter.unusedSimpArgs false
theorem owV_rats {w : World} {F : List Nat} {v : Value} {l : List RationalD} (hf : FitsQ l) (h : OwV w (rats l) v F) : SliceO 35 2 RationalO w F [v] l :=
  owV_slice (enc := ratD) (fun _ => rfl) (fun x hx cs F ho => by
    unfold OwCs at ho
    obtain ⟨v1, cs1, F1, F2, rfl, rfl, h1, ho⟩ := ho
    unfold OwCs at ho
    obtain ⟨v2, cs2, F3, F4, rfl, rfl, h2, ho⟩ := ho
    unfold OwCs at ho
    unfold OwV at h1 h2
    refine ⟨by simp [h1.2, h2.2, ho.2], by rw [h1.1, h2.1, ho.1], (hf x hx).1, (hf x hx).2⟩) h
theorem owV_ratss {w : World} {F : List Nat} {v : Value} {l : List (List RationalD)} (hf : ∀ r ∈ l, FitsQ r) (h : OwV w (ratss l) v F) : SliceO 38 1 (SliceO 35 2 RationalO) w F [v] l :=
  owV_slice (enc := ratsD) (fun _ => rfl) (fun x hx cs F ho => by
    unfold OwCs at ho
    obtain ⟨v1, cs1, F1, F2, rfl, rfl, h1, ho⟩ := ho
    unfold OwCs at ho
    rw [ho.1, ho.2, List.append_nil]
    exact owV_rats (hf x hx) h1) h
theorem m_IntS {l : List Int} {k : Int} (hf : ∀ x ∈ l, Fits x) (h0 : 0 ≤ k) (hk : k + l.length ≤ 4611686018427387904) : Con2 Try.prog 72 [.own 0, vI k] [(0, .arr 3 1 true (l.map intD))] (vI (k + l.length)) [(0, .arr 3 1 true ((iota k l.length).map intD))] :=
  con2_mark (by kernel_rfl) fun w v F ho hn => (markIntS_own v l F k w (owV_ints hf ho) h0 hk).mono fun e w' ⟨he, ho', hon⟩ => ⟨he, ow_ints ho', hon⟩
theorem m_RatS {l : List RationalD} {k : Int} (hf : FitsQ l) (h0 : 0 ≤ k) (hk : k + 2 * (l.length : Int) ≤ 4611686018427387904) : Con2 Try.prog 75 [.own 0, vI k] [(0, .arr 35 2 true (l.map ratD))] (vI (k + 2 * (l.length : Int))) [(0, .arr 35 2 true ((markRationalS k l).map ratD))] :=
  con2_mark (by kernel_rfl) fun w v F ho hn => (markRationalS_own v l F k w (owV_rats hf ho) h0 hk).mono fun e w' ⟨he, ho', hon⟩ => ⟨he, ow_rats ho', hon⟩
theorem m_RatSS {l : List (List RationalD)} {k : Int} (hf : ∀ r ∈ l, FitsQ r) (h0 : 0 ≤ k) (hk : k + (sumL len2 l : Nat) ≤ 4611686018427387904) : Con2 Try.prog 74 [.own 0, vI k] [(0, .arr 38 1 true (l.map ratsD))] (vI (k + (sumL len2 l : Nat))) [(0, .arr 38 1 true ((markL markRationalS len2 k l).map ratsD))] :=
  con2_mark (by kernel_rfl) fun w v F ho hn => (markRationalSS_own v l F k w (owV_ratss hf ho) hn h0 hk).mono fun e w' ⟨he, ho', hon⟩ => ⟨he, ow_ratss ho', hon⟩

def markDic (k : Int) (d : DictionaryD) : DictionaryD :=
  ⟨iota k d.basic.length, iota (k + d.basic.length) d.others.length, markL markRationalS len2 (k + d.basic.length + d.others.length) d.table, markRationalS (k + d.basic.length + d.others.length + (sumL len2 d.table : Nat)) d.consts, markRationalS (k + d.basic.length + d.others.length + (sumL len2 d.table : Nat) + 2 * (d.consts.length : Int)) d.costs, d.value⟩
def sumDic (d : DictionaryD) : Nat := d.basic.length + d.others.length + sumL len2 d.table + 2 * d.consts.length + 2 * d.costs.length

set_option maxRecDepth 100000 in
set_option maxHeartbeats 4000000 in
theorem m_Dic (d : DictionaryD) (k : Int) (hf : FitsD d) (h0 : 0 ≤ k) (hk : k + sumDic d ≤ 4611686018427387904) : Con2 Try.prog 32 [.agg [.own 0, .own 1, .own 2, .own 3, .own 4, vI d.value.num, vI d.value.den], vI k] [(0, .arr 3 1 true (d.basic.map intD)), (1, .arr 3 1 true (d.others.map intD)), (2, .arr 38 1 true (d.table.map ratsD)), (3, .arr 35 2 true (d.consts.map ratD)), (4, .arr 35 2 true (d.costs.map ratD))] (vI (k + sumDic d)) [(0, .arr 3 1 true (((markDic k d).basic).map intD)), (1, .arr 3 1 true (((markDic k d).others).map intD)), (2, .arr 38 1 true (((markDic k d).table).map ratsD)), (3, .arr 35 2 true (((markDic k d).consts).map ratD)), (4, .arr 35 2 true (((markDic k d).costs).map ratD))] := by
  refine con2_x tbOk mixedW Try.func32 (by kernel_rfl) (by kernel_rfl) (.callx [.own 0, vI k] [(0, .arr 3 1 true (d.basic.map intD))] [(0, 0)] (vI (k + (d.basic.length : Int))) [(0, .arr 3 1 true ((iota k d.basic.length).map intD))] <| .callx [.own 0, vI (k + (d.basic.length : Int))] [(0, .arr 3 1 true (d.others.map intD))] [(0, 1)] (vI ((k + (d.basic.length : Int)) + (d.others.length : Int))) [(0, .arr 3 1 true ((iota (k + (d.basic.length : Int)) d.others.length).map intD))] <| .callx [.own 0, vI ((k + (d.basic.length : Int)) + (d.others.length : Int))] [(0, .arr 38 1 true (d.table.map ratsD))] [(0, 2)] (vI (((k + (d.basic.length : Int)) + (d.others.length : Int)) + (sumL len2 d.table : Nat))) [(0, .arr 38 1 true ((markL markRationalS len2 ((k + (d.basic.length : Int)) + (d.others.length : Int)) d.table).map ratsD))] <| .callx [.own 0, vI (((k + (d.basic.length : Int)) + (d.others.length : Int)) + (sumL len2 d.table : Nat))] [(0, .arr 35 2 true (d.consts.map ratD))] [(0, 3)] (vI ((((k + (d.basic.length : Int)) + (d.others.length : Int)) + (sumL len2 d.table : Nat)) + 2 * (d.consts.length : Int))) [(0, .arr 35 2 true ((markRationalS (((k + (d.basic.length : Int)) + (d.others.length : Int)) + (sumL len2 d.table : Nat)) d.consts).map ratD))] <| .callx [.own 0, vI ((((k + (d.basic.length : Int)) + (d.others.length : Int)) + (sumL len2 d.table : Nat)) + 2 * (d.consts.length : Int))] [(0, .arr 35 2 true (d.costs.map ratD))] [(0, 4)] (vI (((((k + (d.basic.length : Int)) + (d.others.length : Int)) + (sumL len2 d.table : Nat)) + 2 * (d.consts.length : Int)) + 2 * (d.costs.length : Int))) [(0, .arr 35 2 true ((markRationalS ((((k + (d.basic.length : Int)) + (d.others.length : Int)) + (sumL len2 d.table : Nat)) + 2 * (d.consts.length : Int)) d.costs).map ratD))] <| .fin [(0, 0), (1, 1), (2, 2), (3, 3), (4, 4)]) ?_
  refine Eq.mpr (by kernel_rfl : _ = (Con2 Try.prog 72 [.own 0, vI k] [(0, .arr 3 1 true (d.basic.map intD))] (vI (k + (d.basic.length : Int))) [(0, .arr 3 1 true ((iota k d.basic.length).map intD))] ∧ k = k ∧ d.basic.map intD = d.basic.map intD ∧ Con2 Try.prog 72 [.own 0, vI (k + (d.basic.length : Int))] [(0, .arr 3 1 true (d.others.map intD))] (vI ((k + (d.basic.length : Int)) + (d.others.length : Int))) [(0, .arr 3 1 true ((iota (k + (d.basic.length : Int)) d.others.length).map intD))] ∧ (k + (d.basic.length : Int)) = (k + (d.basic.length : Int)) ∧ d.others.map intD = d.others.map intD ∧ Con2 Try.prog 74 [.own 0, vI ((k + (d.basic.length : Int)) + (d.others.length : Int))] [(0, .arr 38 1 true (d.table.map ratsD))] (vI (((k + (d.basic.length : Int)) + (d.others.length : Int)) + (sumL len2 d.table : Nat))) [(0, .arr 38 1 true ((markL markRationalS len2 ((k + (d.basic.length : Int)) + (d.others.length : Int)) d.table).map ratsD))] ∧ ((k + (d.basic.length : Int)) + (d.others.length : Int)) = ((k + (d.basic.length : Int)) + (d.others.length : Int)) ∧ d.table.map ratsD = d.table.map ratsD ∧ Con2 Try.prog 75 [.own 0, vI (((k + (d.basic.length : Int)) + (d.others.length : Int)) + (sumL len2 d.table : Nat))] [(0, .arr 35 2 true (d.consts.map ratD))] (vI ((((k + (d.basic.length : Int)) + (d.others.length : Int)) + (sumL len2 d.table : Nat)) + 2 * (d.consts.length : Int))) [(0, .arr 35 2 true ((markRationalS (((k + (d.basic.length : Int)) + (d.others.length : Int)) + (sumL len2 d.table : Nat)) d.consts).map ratD))] ∧ (((k + (d.basic.length : Int)) + (d.others.length : Int)) + (sumL len2 d.table : Nat)) = (((k + (d.basic.length : Int)) + (d.others.length : Int)) + (sumL len2 d.table : Nat)) ∧ d.consts.map ratD = d.consts.map ratD ∧ Con2 Try.prog 75 [.own 0, vI ((((k + (d.basic.length : Int)) + (d.others.length : Int)) + (sumL len2 d.table : Nat)) + 2 * (d.consts.length : Int))] [(0, .arr 35 2 true (d.costs.map ratD))] (vI (((((k + (d.basic.length : Int)) + (d.others.length : Int)) + (sumL len2 d.table : Nat)) + 2 * (d.consts.length : Int)) + 2 * (d.costs.length : Int))) [(0, .arr 35 2 true ((markRationalS ((((k + (d.basic.length : Int)) + (d.others.length : Int)) + (sumL len2 d.table : Nat)) + 2 * (d.consts.length : Int)) d.costs).map ratD))] ∧ ((((k + (d.basic.length : Int)) + (d.others.length : Int)) + (sumL len2 d.table : Nat)) + 2 * (d.consts.length : Int)) = ((((k + (d.basic.length : Int)) + (d.others.length : Int)) + (sumL len2 d.table : Nat)) + 2 * (d.consts.length : Int)) ∧ d.costs.map ratD = d.costs.map ratD ∧ (((((k + (d.basic.length : Int)) + (d.others.length : Int)) + (sumL len2 d.table : Nat)) + 2 * (d.consts.length : Int)) + 2 * (d.costs.length : Int)) = (k + sumDic d) ∧ (iota k d.basic.length).map intD = ((markDic k d).basic).map intD ∧ (iota (k + (d.basic.length : Int)) d.others.length).map intD = ((markDic k d).others).map intD ∧ (markL markRationalS len2 ((k + (d.basic.length : Int)) + (d.others.length : Int)) d.table).map ratsD = ((markDic k d).table).map ratsD ∧ (markRationalS (((k + (d.basic.length : Int)) + (d.others.length : Int)) + (sumL len2 d.table : Nat)) d.consts).map ratD = ((markDic k d).consts).map ratD ∧ (markRationalS ((((k + (d.basic.length : Int)) + (d.others.length : Int)) + (sumL len2 d.table : Nat)) + 2 * (d.consts.length : Int)) d.costs).map ratD = ((markDic k d).costs).map ratD ∧ True)) ?_
  unfold sumDic at hk
  refine ⟨m_IntS hf.1 (by omega) (by omega), rfl, rfl, ?_⟩
  refine ⟨m_IntS hf.2.1 (by omega) (by omega), rfl, rfl, ?_⟩
  refine ⟨m_RatSS hf.2.2.1 (by omega) (by omega), rfl, rfl, ?_⟩
  refine ⟨m_RatS hf.2.2.2.1 (by omega) (by omega), rfl, rfl, ?_⟩
  refine ⟨m_RatS hf.2.2.2.2.1 (by omega) (by omega), rfl, rfl, ?_⟩
  refine ⟨?_, ?_, ?_, ?_, ?_, ?_, trivial⟩
  · first | rfl | (simp only [sumDic]; omega)
  · first | rfl | (simp only [sumDic]; omega)
  · first | rfl | (simp only [sumDic]; omega)
  · first | rfl | (simp only [sumDic]; omega)
  · first | rfl | (simp only [sumDic]; omega)
  · first | rfl | (simp only [sumDic]; omega)

theorem owV_rows {w : World} {F : List Nat} {v : Value} {l : List (List Int)} (hf : ∀ r ∈ l, ∀ x ∈ r, Fits x) (h : OwV w (rowsD l) v F) : SliceO 22 1 IntsO w F [v] l :=
  owV_slice (enc := rowD) (fun _ => rfl) (fun x hx cs F ho => by
    unfold OwCs at ho
    obtain ⟨v1, cs1, F1, F2, rfl, rfl, h1, ho⟩ := ho
    unfold OwCs at ho
    rw [ho.1, ho.2, List.append_nil]
    exact owV_ints (hf x hx) h1) h
theorem ow_rowsI {w : World} {F : List Nat} {v : Value} {l : List (List Int)} (h : SliceO 22 1 IntsO w F [v] l) : OwV w (rowsD l) v F :=
  ow_slice (enc := rowD) (fun F cs x h => by
    have h' := h
    obtain ⟨v, ev, _⟩ := h'
    subst ev
    have := owCs_cons (ow_ints h) owCs_nil
    rwa [List.append_nil] at this) (fun _ => rfl) h
theorem m_IntSS {l : List (List Int)} {k : Int} (hf : ∀ r ∈ l, ∀ x ∈ r, Fits x) (h0 : 0 ≤ k) (hk : k + (sumL List.length l : Nat) ≤ 4611686018427387904) : Con2 Try.prog 73 [.own 0, vI k] [(0, .arr 22 1 true (l.map rowD))] (vI (k + (sumL List.length l : Nat))) [(0, .arr 22 1 true ((markL iotaL List.length k l).map rowD))] :=
  con2_mark (by kernel_rfl) fun w v F ho hn => (markIntSS_own v l F k w (owV_rows hf ho) hn h0 hk).mono fun e w' ⟨he, ho', hon⟩ => ⟨he, ow_rowsI ho', hon⟩
def markProg (k : Int) (p : ProgramD) : ProgramD := ⟨iota k p.objective.length, markL iotaL List.length (k + p.objective.length) p.rows, iota (k + p.objective.length + (sumL List.length p.rows : Nat)) p.limits.length⟩
def sumProg (p : ProgramD) : Nat := p.objective.length + sumL List.length p.rows + p.limits.length

set_option maxRecDepth 100000 in
set_option maxHeartbeats 4000000 in
theorem m_Prog (p : ProgramD) (k : Int) (hf : FitsP p) (h0 : 0 ≤ k) (hk : k + sumProg p ≤ 4611686018427387904) : Con2 Try.prog 31 [.agg [.own 0, .own 1, .own 2], vI k] [(0, .arr 3 1 true (p.objective.map intD)), (1, .arr 22 1 true (p.rows.map rowD)), (2, .arr 3 1 true (p.limits.map intD))] (vI (k + sumProg p)) [(0, .arr 3 1 true (((markProg k p).objective).map intD)), (1, .arr 22 1 true (((markProg k p).rows).map rowD)), (2, .arr 3 1 true (((markProg k p).limits).map intD))] := by
  refine con2_x tbOk mixedW Try.func31 (by kernel_rfl) (by kernel_rfl) (.callx [.own 0, vI k] [(0, .arr 3 1 true (p.objective.map intD))] [(0, 0)] (vI (k + (p.objective.length : Int))) [(0, .arr 3 1 true ((iota k p.objective.length).map intD))] <| .callx [.own 0, vI (k + (p.objective.length : Int))] [(0, .arr 22 1 true (p.rows.map rowD))] [(0, 1)] (vI ((k + (p.objective.length : Int)) + (sumL List.length p.rows : Nat))) [(0, .arr 22 1 true ((markL iotaL List.length (k + (p.objective.length : Int)) p.rows).map rowD))] <| .callx [.own 0, vI ((k + (p.objective.length : Int)) + (sumL List.length p.rows : Nat))] [(0, .arr 3 1 true (p.limits.map intD))] [(0, 2)] (vI (((k + (p.objective.length : Int)) + (sumL List.length p.rows : Nat)) + (p.limits.length : Int))) [(0, .arr 3 1 true ((iota ((k + (p.objective.length : Int)) + (sumL List.length p.rows : Nat)) p.limits.length).map intD))] <| .fin [(0, 0), (1, 1), (2, 2)]) ?_
  refine Eq.mpr (by kernel_rfl : _ = (Con2 Try.prog 72 [.own 0, vI k] [(0, .arr 3 1 true (p.objective.map intD))] (vI (k + (p.objective.length : Int))) [(0, .arr 3 1 true ((iota k p.objective.length).map intD))] ∧ k = k ∧ p.objective.map intD = p.objective.map intD ∧ Con2 Try.prog 73 [.own 0, vI (k + (p.objective.length : Int))] [(0, .arr 22 1 true (p.rows.map rowD))] (vI ((k + (p.objective.length : Int)) + (sumL List.length p.rows : Nat))) [(0, .arr 22 1 true ((markL iotaL List.length (k + (p.objective.length : Int)) p.rows).map rowD))] ∧ (k + (p.objective.length : Int)) = (k + (p.objective.length : Int)) ∧ p.rows.map rowD = p.rows.map rowD ∧ Con2 Try.prog 72 [.own 0, vI ((k + (p.objective.length : Int)) + (sumL List.length p.rows : Nat))] [(0, .arr 3 1 true (p.limits.map intD))] (vI (((k + (p.objective.length : Int)) + (sumL List.length p.rows : Nat)) + (p.limits.length : Int))) [(0, .arr 3 1 true ((iota ((k + (p.objective.length : Int)) + (sumL List.length p.rows : Nat)) p.limits.length).map intD))] ∧ ((k + (p.objective.length : Int)) + (sumL List.length p.rows : Nat)) = ((k + (p.objective.length : Int)) + (sumL List.length p.rows : Nat)) ∧ p.limits.map intD = p.limits.map intD ∧ (((k + (p.objective.length : Int)) + (sumL List.length p.rows : Nat)) + (p.limits.length : Int)) = (k + sumProg p) ∧ (iota k p.objective.length).map intD = ((markProg k p).objective).map intD ∧ (markL iotaL List.length (k + (p.objective.length : Int)) p.rows).map rowD = ((markProg k p).rows).map rowD ∧ (iota ((k + (p.objective.length : Int)) + (sumL List.length p.rows : Nat)) p.limits.length).map intD = ((markProg k p).limits).map intD ∧ True)) ?_
  unfold sumProg at hk
  refine ⟨m_IntS hf.1 (by omega) (by omega), rfl, rfl, ?_⟩
  refine ⟨m_IntSS hf.2.1 (by omega) (by omega), rfl, rfl, ?_⟩
  refine ⟨m_IntS hf.2.2 (by omega) (by omega), rfl, rfl, ?_⟩
  refine ⟨?_, ?_, ?_, ?_, trivial⟩
  · first | rfl | (simp only [sumProg]; omega)
  · first | rfl | (simp only [sumProg]; omega)
  · first | rfl | (simp only [sumProg]; omega)
  · first | rfl | (simp only [sumProg]; omega)

theorem markR_fits {k : Int} {l : List RationalD} (h0 : 0 ≤ k) (hk : k + 2 * (l.length : Int) ≤ 4611686018427387904) : FitsQ (markRationalS k l) := fun x hx => by
  unfold markRationalS at hx
  obtain ⟨i, hi, rfl⟩ := List.mem_map.1 hx
  have := List.mem_range.1 hi
  dsimp only
  unfold Fits; omega

theorem h_IntS {l : List Int} {k : Int} (h0 : 0 ≤ k) (hk : k + (l.length : Int) ≤ 4611686018427387904) : Con Try.prog 76 [.one (ints (iota k l.length)), .one (.int .i64 k)] (.p none (.int .i64 (k + (l.length : Int)))) [] := by
  refine ⟨by kernel_rfl, fun A w us hA hus => ?_⟩
  obtain ⟨v, vs, e, hl, v', vs', rfl, hm, h2⟩ := hus
  simp only [ArRd] at hm hl
  unfold RdV at hm
  rw [show vs' = [] from h2, hm] at e
  have eu : us = #[v, .int .i64 k] := by apply Array.ext'; rw [e]
  rw [eu]
  refine (heldIntS_own v l k w (ints_rd (iota_fits h0 (by omega)) hl) h0 hk).mono fun e w' ⟨he, hb⟩ => ?_
  exact ⟨_, fun _ => False, fun _ => none, he, hb, by simp, by simp, by simp [findH], by simp, by simp, by simp, by simp, by unfold MatchV RdV; rfl⟩

theorem h_RatS {l : List RationalD} {k : Int} (h0 : 0 ≤ k) (hk : k + 2 * (l.length : Int) ≤ 4611686018427387904) : Con Try.prog 78 [.one (rats (markRationalS k l)), .one (.int .i64 k)] (.p none (.int .i64 (k + 2 * (l.length : Int)))) [] := by
  refine ⟨by kernel_rfl, fun A w us hA hus => ?_⟩
  obtain ⟨v, vs, e, hl, v', vs', rfl, hm, h2⟩ := hus
  simp only [ArRd] at hm hl
  unfold RdV at hm
  rw [show vs' = [] from h2, hm] at e
  have eu : us = #[v, .int .i64 k] := by apply Array.ext'; rw [e]
  rw [eu]
  refine (heldRationalS_own v l k w (rats_rd (markR_fits h0 hk) hl) h0 hk).mono fun e w' ⟨he, hb⟩ => ?_
  exact ⟨_, fun _ => False, fun _ => none, he, hb, by simp, by simp, by simp [findH], by simp, by simp, by simp, by simp, by unfold MatchV RdV; rfl⟩

theorem markL_fits : ∀ {l : List (List RationalD)} {k : Int}, 0 ≤ k → k + (sumL len2 l : Nat) ≤ 4611686018427387904 → ∀ r ∈ markL markRationalS len2 k l, FitsQ r
  | [], _, _, _, r, hr => by simp [markL] at hr
  | a :: l, k, h0, hk, r, hr => by
    simp only [markL, List.mem_cons] at hr
    have e : sumL len2 (a :: l) = 2 * a.length + sumL len2 l := by simp [sumL, len2]
    rw [e] at hk
    rcases hr with rfl | hr
    · exact markR_fits h0 (by omega)
    · exact markL_fits (by omega) (by simp only [len2]; omega) r hr

theorem h_RatSS {l : List (List RationalD)} {k : Int} (h0 : 0 ≤ k) (hk : k + (sumL len2 l : Nat) ≤ 4611686018427387904) : Con Try.prog 77 [.one (ratss (markL markRationalS len2 k l)), .one (.int .i64 k)] (.p none (.int .i64 (k + (sumL len2 l : Nat)))) [] := by
  refine ⟨by kernel_rfl, fun A w us hA hus => ?_⟩
  obtain ⟨v, vs, e, hl, v', vs', rfl, hm, h2⟩ := hus
  simp only [ArRd] at hm hl
  unfold RdV at hm
  rw [show vs' = [] from h2, hm] at e
  have eu : us = #[v, .int .i64 k] := by apply Array.ext'; rw [e]
  rw [eu]
  refine (heldRationalSS_own v l k w (ratss_rd (markL_fits h0 hk) hl) h0 hk).mono fun e w' ⟨he, hb⟩ => ?_
  exact ⟨_, fun _ => False, fun _ => none, he, hb, by simp, by simp, by simp [findH], by simp, by simp, by simp, by simp, by unfold MatchV RdV; rfl⟩

set_option maxRecDepth 100000 in
set_option maxHeartbeats 4000000 in
theorem h_Dic (d : DictionaryD) (k : Int) (h0 : 0 ≤ k) (hk : k + sumDic d ≤ 4611686018427387904) : Con Try.prog 33 [.agg [.sl 3 1 (((markDic k d).basic).map intD), .sl 3 1 (((markDic k d).others).map intD), .sl 38 1 (((markDic k d).table).map ratsD), .sl 35 2 (((markDic k d).consts).map ratD), .sl 35 2 (((markDic k d).costs).map ratD), .int .i64 ((markDic k d).value.num), .int .i64 ((markDic k d).value.den)], .one (.int .i64 k)] (vI (k + sumDic d)) [] := by
  unfold sumDic at hk
  refine con_x tbOk mixedW Try.func33 (by kernel_rfl) (.call (vI (k + (d.basic.length : Int))) [] <| .no <| .call (vI ((k + (d.basic.length : Int)) + (d.others.length : Int))) [] <| .no <| .call (vI (((k + (d.basic.length : Int)) + (d.others.length : Int)) + (sumL len2 d.table : Nat))) [] <| .no <| .call (vI ((((k + (d.basic.length : Int)) + (d.others.length : Int)) + (sumL len2 d.table : Nat)) + 2 * (d.consts.length : Int))) [] <| .no <| .call (vI (((((k + (d.basic.length : Int)) + (d.others.length : Int)) + (sumL len2 d.table : Nat)) + 2 * (d.consts.length : Int)) + 2 * (d.costs.length : Int))) [] <| .no <| .fin []) ?_
  refine Eq.mpr (by kernel_rfl : _ = ((((markDic k d).basic).map intD).length ≤ 9223372036854775807 → (((markDic k d).others).map intD).length ≤ 9223372036854775807 → (((markDic k d).table).map ratsD).length ≤ 9223372036854775807 → (((markDic k d).consts).map ratD).length ≤ 9223372036854775807 → (((markDic k d).costs).map ratD).length ≤ 9223372036854775807 → Con Try.prog 76 [.one (.sl 3 1 (((markDic k d).basic).map intD)), .one (.int .i64 k)] (vI (k + (d.basic.length : Int))) [] ∧ (decide ((k + (d.basic.length : Int)) < (0 : Int))) = false ∧ Con Try.prog 76 [.one (.sl 3 1 (((markDic k d).others).map intD)), .one (.int .i64 (k + (d.basic.length : Int)))] (vI ((k + (d.basic.length : Int)) + (d.others.length : Int))) [] ∧ (decide (((k + (d.basic.length : Int)) + (d.others.length : Int)) < (0 : Int))) = false ∧ Con Try.prog 77 [.one (.sl 38 1 (((markDic k d).table).map ratsD)), .one (.int .i64 ((k + (d.basic.length : Int)) + (d.others.length : Int)))] (vI (((k + (d.basic.length : Int)) + (d.others.length : Int)) + (sumL len2 d.table : Nat))) [] ∧ (decide ((((k + (d.basic.length : Int)) + (d.others.length : Int)) + (sumL len2 d.table : Nat)) < (0 : Int))) = false ∧ Con Try.prog 78 [.one (.sl 35 2 (((markDic k d).consts).map ratD)), .one (.int .i64 (((k + (d.basic.length : Int)) + (d.others.length : Int)) + (sumL len2 d.table : Nat)))] (vI ((((k + (d.basic.length : Int)) + (d.others.length : Int)) + (sumL len2 d.table : Nat)) + 2 * (d.consts.length : Int))) [] ∧ (decide (((((k + (d.basic.length : Int)) + (d.others.length : Int)) + (sumL len2 d.table : Nat)) + 2 * (d.consts.length : Int)) < (0 : Int))) = false ∧ Con Try.prog 78 [.one (.sl 35 2 (((markDic k d).costs).map ratD)), .one (.int .i64 ((((k + (d.basic.length : Int)) + (d.others.length : Int)) + (sumL len2 d.table : Nat)) + 2 * (d.consts.length : Int)))] (vI (((((k + (d.basic.length : Int)) + (d.others.length : Int)) + (sumL len2 d.table : Nat)) + 2 * (d.consts.length : Int)) + 2 * (d.costs.length : Int))) [] ∧ (decide ((((((k + (d.basic.length : Int)) + (d.others.length : Int)) + (sumL len2 d.table : Nat)) + 2 * (d.consts.length : Int)) + 2 * (d.costs.length : Int)) < (0 : Int))) = false ∧ (((((k + (d.basic.length : Int)) + (d.others.length : Int)) + (sumL len2 d.table : Nat)) + 2 * (d.consts.length : Int)) + 2 * (d.costs.length : Int)) = (k + sumDic d) ∧ True)) ?_
  intro n0 n1 n2 n3 n4
  simp only [List.length_map] at n0 n1 n2 n3 n4
  refine ⟨h_IntS (l := d.basic) (by omega) (by omega), ?_⟩
  refine ⟨by simp; omega, ?_⟩
  refine ⟨h_IntS (l := d.others) (by omega) (by omega), ?_⟩
  refine ⟨by simp; omega, ?_⟩
  refine ⟨h_RatSS (l := d.table) (by omega) (by omega), ?_⟩
  refine ⟨by simp; omega, ?_⟩
  refine ⟨h_RatS (l := d.consts) (by omega) (by omega), ?_⟩
  refine ⟨by simp; omega, ?_⟩
  refine ⟨h_RatS (l := d.costs) (by omega) (by omega), ?_⟩
  refine ⟨by simp; omega, ?_⟩
  refine ⟨?_, trivial⟩
  · first | rfl | (simp only [sumDic]; omega)
end Go.Proofs.Ytcgjlddpbkponaa
