/-
  Boxes as text, both sides.
-/
import Derived.Test.YtcfilkhjababjaaBa
namespace Go.Proofs.Ytcfilkhjababjaa
open Go.ChangeShapes Go.WideShapes Go.ChangeAt Go.RowKit
set_option linter.unusedVariables false
set_option linter.unusedSimpArgs false
set_option maxRecDepth 100000 in
set_option maxHeartbeats 4000000 in
theorem digs_impl (l : List Int) (hl : l.length ≤ 1048576) (hd : ∀ x ∈ l, 0 ≤ x ∧ x ≤ 9) : Con Try.prog 160 [.one (.sl 3 1 (l.map intD))] (.p none (.str (digs l))) [] := by
  refine con_x tbOk mixedW Try.func160 (by kernel_rfl) (.len l.length <| .loop (Nat × (List Int)) (Q2 Nat (List Int)) [3, 5, 6, 9, 10, 11, 12, 13, 14, 15, 16, 17, 18, 19] [600, 1700, 1800] (fun yy0 => [(3, .own 600), (9, vI (yy0.1 : Int))]) (fun yy0 => [(600, some (.arr 5 1 true (yy0.2.map byD)))]) (fun yy0 => yy0.1 ≤ l.length ∧ yy0.2 = (l.take yy0.1).map dig) (fun yy0 => l.length - yy0.1) (fun yy0 => .br (.elem Int intD l (fun e11 => .app Int byD yy0.2 ([IntKind.u8.wrap ((48 : Int) + e11)] : List Int) <| .back [(600, 1800)])) (.bytes yy0.2 <| .fin []))) ?_
  refine Eq.mpr (by kernel_rfl : _ = ((l.map intD).length ≤ 9223372036854775807 → (l.map intD).length = l.length ∧ ((∃ (k : Nat) (out : List Int), (0 : Int) = (k : Int) ∧ [] = out.map byD ∧ k ≤ l.length ∧ out = (l.take k).map dig) ∧ ∀ (k : Nat) (out : List Int), (k ≤ l.length ∧ out = (l.take k).map dig) → ((decide ((k : Int) < ((l.length : Nat) : Int))) = true → 0 ≤ (k : Int) ∧ (l.map intD = l.map intD ∧ k < l.length ∧ ∀ e11, l[k]? = some e11 → inR ((48 : Int) + e11) ∧ out.map byD = out.map byD ∧ [[.int .u8 (IntKind.u8.wrap ((48 : Int) + e11))]] = ([IntKind.u8.wrap ((48 : Int) + e11)] : List Int).map byD ∧ (∀ x, flatB (byD x) = true) ∧ (out.length + ([IntKind.u8.wrap ((48 : Int) + e11)] : List Int).length) * 1 ≤ 140737488355328 ∧ inR ((k : Int) + (1 : Int)) ∧ ∃ (k' : Nat) (out' : List Int), ((k : Int) + (1 : Int)) = (k' : Int) ∧ (out ++ [IntKind.u8.wrap ((48 : Int) + e11)]).map byD = out'.map byD ∧ (k' ≤ l.length ∧ out' = (l.take k').map dig) ∧ l.length - k' < l.length - k)) ∧ ((decide ((k : Int) < ((l.length : Nat) : Int))) = false → out.map byD = out.map byD ∧ (strOf out) = (digs l) ∧ True)))) ?_
  intro n0
  simp only [List.length_map] at n0
  refine ⟨List.length_map _, ?_⟩
  refine ⟨⟨0, ([] : List Int), rfl, rfl, Nat.zero_le _, rfl⟩, fun k out ⟨hk, ho⟩ => ?_⟩
  refine ⟨fun c0 => ?_, fun c0 => ?_⟩
  · replace c0 := of_decide_eq_true c0
    refine ⟨by omega, ?_⟩
    refine ⟨rfl, by omega, fun e11 h11 => ?_⟩
    have hx := hd _ (List.mem_of_getElem? h11)
    refine ⟨⟨by omega, by omega⟩, ?_⟩
    refine ⟨rfl, rfl, fun _ => rfl, by simp [ho]; omega, ?_⟩
    refine ⟨⟨by omega, by omega⟩, ?_⟩
    exact ⟨k + 1, out ++ [IntKind.u8.wrap ((48 : Int) + e11)], rfl, rfl, ⟨by omega, by rw [ho, take_snoc h11, List.map_append]; rfl⟩, by omega⟩
  · replace c0 := of_decide_eq_false c0
    refine ⟨rfl, ?_⟩
    refine ⟨?_, trivial⟩
    · rw [ho, List.take_of_length_le (by omega)]; rfl

set_option maxRecDepth 100000 in
set_option maxHeartbeats 4000000 in
theorem floc_impl (l : List Int) : Con Try.prog 104 [.one (.sl 3 1 (l.map intD))] (.p none (.str (fmtLoc l))) [] := by
  refine con_x tbOk mixedW Try.func104 (by kernel_rfl) (.call (vB (okLoc l)) [] <| .br (.fin []) (.call (.p none (.str (digs l))) [] <| .fin [])) ?_
  refine Eq.mpr (by kernel_rfl : _ = ((l.map intD).length ≤ 9223372036854775807 → Con Try.prog 158 [.one (.sl 3 1 (l.map intD))] (vB (okLoc l)) [] ∧ (((!(okLoc l)) = true → (⟨#[]⟩ : ByteArray) = (fmtLoc l) ∧ True) ∧ ((!(okLoc l)) = false → Con Try.prog 160 [.one (.sl 3 1 (l.map intD))] (.p none (.str (digs l))) [] ∧ (digs l) = (fmtLoc l) ∧ True)))) ?_
  intro n0
  simp only [List.length_map] at n0
  refine ⟨loc_impl _, ?_⟩
  refine ⟨fun c0 => ?_, fun c0 => ?_⟩
  · replace c0 := nt c0
    refine ⟨?_, trivial⟩
    · first | (rw [fmtLoc, if_pos c0]; done) | (rw [fmtLoc, if_neg (by rw [c0]; decide)]; done)
  · replace c0 := nf c0
    refine ⟨digs_impl _ (by first | omega | (have := okLoc_bnd c0; omega)) (by first | exact fun x hx => (by have := (okLoc_bnd c0).1 x hx; omega) | assumption), ?_⟩
    refine ⟨?_, trivial⟩
    · first | (rw [fmtLoc, if_pos c0]; done) | (rw [fmtLoc, if_neg (by rw [c0]; decide)]; done)

set_option maxRecDepth 100000 in
set_option maxHeartbeats 4000000 in
theorem fint_spec (n : Int) (hn : 0 ≤ n ∧ n ≤ 9) : Con Try.prog 157 [.one (.int .i64 n)] (.p none (.str (digs [n]))) [] := by
  refine con_x tbOk mixedW Try.func157 (by kernel_rfl) (.br (.fin []) (.loop (Int × ByteArray) (Q2 Int ByteArray) [0, 3, 5, 10, 11, 12, 13, 14, 15, 18, 19, 20, 21, 22, 23, 24, 25, 26] [2100] (fun yy0 => [(0, vI yy0.1), (3, .p none (.str yy0.2))]) (fun yy0 => []) (fun yy0 => ((yy0.1 = n ∧ yy0.2 = ⟨#[]⟩) ∨ (yy0.1 = 0 ∧ yy0.2 = digs [n])) ∧ (0 ≤ yy0.1 ∧ yy0.1 ≤ 9)) (fun yy0 => yy0.1.toNat) (fun yy0 => .br (.no <| .bytes [IntKind.u8.wrap ((48 : Int) + (Int.tmod yy0.1 (10 : Int)))] <| .back []) (.no <| .fin [])))) ?_
  refine Eq.mpr (by kernel_rfl : _ = (((decide (n = (0 : Int))) = true → (⟨#[48]⟩ : ByteArray) = (digs [n]) ∧ True) ∧ ((decide (n = (0 : Int))) = false → (∃ (m : Int) (s : ByteArray), n = m ∧ (⟨#[]⟩ : ByteArray) = s ∧ ((m = n ∧ s = ⟨#[]⟩) ∨ (m = 0 ∧ s = digs [n])) ∧ (0 ≤ m ∧ m ≤ 9)) ∧ ∀ (m : Int) (s : ByteArray), (((m = n ∧ s = ⟨#[]⟩) ∨ (m = 0 ∧ s = digs [n])) ∧ (0 ≤ m ∧ m ≤ 9)) → ((!(decide (m = (0 : Int)))) = true → (10 : Int) ≠ 0 ∧ (decide ((Int.tmod m (10 : Int)) < (0 : Int))) = false ∧ inR ((48 : Int) + (Int.tmod m (10 : Int))) ∧ [[.int .u8 (IntKind.u8.wrap ((48 : Int) + (Int.tmod m (10 : Int))))]] = [IntKind.u8.wrap ((48 : Int) + (Int.tmod m (10 : Int)))].map byD ∧ (strOf [IntKind.u8.wrap ((48 : Int) + (Int.tmod m (10 : Int)))]).size + s.size ≤ 9223372036854775807 ∧ (10 : Int) ≠ 0 ∧ inR (Int.tdiv m (10 : Int)) ∧ ∃ (m' : Int) (s' : ByteArray), (Int.tdiv m (10 : Int)) = m' ∧ ((strOf [IntKind.u8.wrap ((48 : Int) + (Int.tmod m (10 : Int)))]) ++ s) = s' ∧ (((m' = n ∧ s' = ⟨#[]⟩) ∨ (m' = 0 ∧ s' = digs [n])) ∧ (0 ≤ m' ∧ m' ≤ 9)) ∧ m'.toNat < m.toNat) ∧ ((!(decide (m = (0 : Int)))) = false → (decide (n < (0 : Int))) = false ∧ s = (digs [n]) ∧ True)))) ?_
  refine ⟨fun c0 => ?_, fun c0 => ?_⟩
  · replace c0 := of_decide_eq_true c0
    refine ⟨?_, trivial⟩
    · first | (subst c0; rfl) | (rcases hv with ⟨rfl, _⟩ | ⟨_, rfl⟩; (exact absurd c1 c0); rfl)
  · replace c0 := of_decide_eq_false c0
    refine ⟨⟨n, (⟨#[]⟩ : ByteArray), rfl, rfl, .inl ⟨rfl, rfl⟩, hn⟩, fun m s ⟨hv, hb⟩ => ?_⟩
    refine ⟨fun c1 => ?_, fun c1 => ?_⟩
    · replace c1 := of_decide_eq_false (nt c1)
      have htm := tmod10 hb.1 hb.2
      have htd := tdiv10 hb.1 hb.2
      have hdone : strOf [IntKind.u8.wrap (48 + Int.tmod m 10)] ++ s = digs [n] := by rcases hv with ⟨rfl, rfl⟩ | ⟨rfl, _⟩; (rw [app_nil, htm]; rfl); (exact absurd rfl c1)
      refine ⟨by omega, ?_⟩
      refine ⟨by simp; omega, ?_⟩
      refine ⟨by first | exact ⟨by omega, by omega⟩ | (rw [htd]; exact ⟨by omega, by omega⟩), ?_⟩
      refine ⟨rfl, ?_⟩
      refine ⟨by rcases hv with ⟨_, rfl⟩ | ⟨_, rfl⟩; (show 1 + 0 ≤ 9223372036854775807; omega); (show 1 + 1 ≤ 9223372036854775807; omega), ?_⟩
      refine ⟨by omega, ?_⟩
      refine ⟨by first | exact ⟨by omega, by omega⟩ | (rw [htd]; exact ⟨by omega, by omega⟩), ?_⟩
      exact ⟨Int.tdiv m (10 : Int), _, rfl, rfl, ⟨.inr ⟨htd, hdone⟩, by rw [htd]; omega⟩, by rw [htd]; omega⟩
    · replace c1 := of_decide_eq_true (nf c1)
      refine ⟨by simp; omega, ?_⟩
      refine ⟨?_, trivial⟩
      · first | (subst c0; rfl) | (rcases hv with ⟨rfl, _⟩ | ⟨_, rfl⟩; (exact absurd c1 c0); rfl)

set_option maxRecDepth 100000 in
set_option maxHeartbeats 4000000 in
theorem floc_spec (l : List Int) : Con Try.prog 102 [.one (.sl 3 1 (l.map intD))] (.p none (.str (fmtLoc l))) [] := by
  refine con_x tbOk mixedW Try.func102 (by kernel_rfl) (.loop (Nat × ByteArray) (Q2 Nat ByteArray) [3, 4, 5, 6, 7, 8, 9, 10, 11, 12, 13, 14, 15, 16, 17, 18, 19, 20, 21] [] (fun yy0 => [(4, vI (yy0.1 : Int)), (3, .p none (.str yy0.2))]) (fun yy0 => []) (fun yy0 => yy0.1 ≤ l.length ∧ yy0.2 = digs (l.take yy0.1) ∧ (yy0.1 = 0 ∨ okLoc l = true)) (fun yy0 => l.length - yy0.1) (fun yy0 => .len l.length <| .br (.call (vB (okLoc l)) [] <| .lit <| .br (.elem Int intD l (fun e18 => .call (.p none (.str (digs [e18]))) [] <| .back [])) (.fin [])) (.fin []))) ?_
  refine Eq.mpr (by kernel_rfl : _ = ((l.map intD).length ≤ 9223372036854775807 → (∃ (k : Nat) (s : ByteArray), (0 : Int) = (k : Int) ∧ (⟨#[]⟩ : ByteArray) = s ∧ k ≤ l.length ∧ s = digs (l.take k) ∧ (k = 0 ∨ okLoc l = true)) ∧ ∀ (k : Nat) (s : ByteArray), (k ≤ l.length ∧ s = digs (l.take k) ∧ (k = 0 ∨ okLoc l = true)) → (l.map intD).length = l.length ∧ (((decide ((k : Int) < ((l.length : Nat) : Int))) = true → Con Try.prog 155 [.one (.sl 3 1 (l.map intD))] (vB (okLoc l)) [] ∧ (((okLoc l) = true → 0 ≤ (k : Int) ∧ (l.map intD = l.map intD ∧ k < l.length ∧ ∀ e18, l[k]? = some e18 → Con Try.prog 157 [.one (.int .i64 e18)] (.p none (.str (digs [e18]))) [] ∧ s.size + (digs [e18]).size ≤ 9223372036854775807 ∧ inR ((k : Int) + (1 : Int)) ∧ ∃ (k' : Nat) (s' : ByteArray), ((k : Int) + (1 : Int)) = (k' : Int) ∧ (s ++ (digs [e18])) = s' ∧ (k' ≤ l.length ∧ s' = digs (l.take k') ∧ (k' = 0 ∨ okLoc l = true)) ∧ l.length - k' < l.length - k)) ∧ ((okLoc l) = false → s = (fmtLoc l) ∧ True))) ∧ ((decide ((k : Int) < ((l.length : Nat) : Int))) = false → s = (fmtLoc l) ∧ True)))) ?_
  intro n0
  simp only [List.length_map] at n0
  refine ⟨⟨0, (⟨#[]⟩ : ByteArray), rfl, rfl, Nat.zero_le _, rfl, .inl rfl⟩, fun k s ⟨hk, hs, hz⟩ => ?_⟩
  refine ⟨List.length_map _, ?_⟩
  refine ⟨fun g9 => ?_, fun g9 => ?_⟩
  · replace g9 := of_decide_eq_true g9
    refine ⟨loc_spec _, ?_⟩
    refine ⟨fun c0 => ?_, fun c0 => ?_⟩
    · have q := okLoc_bnd c0
      have hsz : s.size ≤ 16 := by rw [hs, digs_size]; simp; omega
      refine ⟨by omega, ?_⟩
      refine ⟨rfl, by omega, fun e18 h18 => ?_⟩
      have hx := q.1 _ (List.mem_of_getElem? h18)
      refine ⟨fint_spec _ (by omega), ?_⟩
      refine ⟨by rw [digs_size]; simp; omega, ?_⟩
      refine ⟨⟨by omega, by omega⟩, ?_⟩
      exact ⟨k + 1, s ++ (digs [e18]), rfl, rfl, ⟨by omega, by rw [hs, take_snoc h18, digs_app], .inr c0⟩, by omega⟩
    · refine ⟨?_, trivial⟩
      · first | exact fmt_end hs (by omega) hz | exact fmt_bad hs hz c0
  · replace g9 := of_decide_eq_false g9
    refine ⟨?_, trivial⟩
    · first | exact fmt_end hs (by omega) hz | exact fmt_bad hs hz c0

set_option maxRecDepth 100000 in
set_option maxHeartbeats 4000000 in
theorem fbox_impl (b : BoxD) : Con Try.prog 35 [.agg [.sl 3 1 (b.low.map intD), .sl 3 1 (b.high.map intD)]] (.p none (.str (fmtBox b))) [] := by
  refine con_x tbOk mixedW Try.func35 (by kernel_rfl) (.call (vB (okBox b)) [] <| .br (.fin []) (.call (.p none (.str (fmtLoc b.low))) [] <| .call (.p none (.str (fmtLoc b.high))) [] <| .fin [])) ?_
  refine Eq.mpr (by kernel_rfl : _ = ((b.low.map intD).length ≤ 9223372036854775807 → (b.high.map intD).length ≤ 9223372036854775807 → Con Try.prog 103 [.agg [.sl 3 1 (b.low.map intD), .sl 3 1 (b.high.map intD)]] (vB (okBox b)) [] ∧ (((!(okBox b)) = true → (⟨#[]⟩ : ByteArray) = (fmtBox b) ∧ True) ∧ ((!(okBox b)) = false → Con Try.prog 104 [.one (.sl 3 1 (b.low.map intD))] (.p none (.str (fmtLoc b.low))) [] ∧ (fmtLoc b.low).size + (⟨#[46, 46]⟩ : ByteArray).size ≤ 9223372036854775807 ∧ Con Try.prog 104 [.one (.sl 3 1 (b.high.map intD))] (.p none (.str (fmtLoc b.high))) [] ∧ ((fmtLoc b.low) ++ (⟨#[46, 46]⟩ : ByteArray)).size + (fmtLoc b.high).size ≤ 9223372036854775807 ∧ (((fmtLoc b.low) ++ (⟨#[46, 46]⟩ : ByteArray)) ++ (fmtLoc b.high)) = (fmtBox b) ∧ True)))) ?_
  intro n0 n1
  simp only [List.length_map] at n0 n1
  have z1 := fmtLoc_size b.low
  have z2 := fmtLoc_size b.high
  refine ⟨box_impl b, ?_⟩
  refine ⟨fun c0 => ?_, fun c0 => ?_⟩
  · replace c0 := nt c0
    refine ⟨?_, trivial⟩
    · first | (rw [fmtBox, if_pos c0]; done) | (rw [fmtBox, if_neg (by rw [c0]; decide)]; done)
  · replace c0 := nf c0
    refine ⟨floc_impl _, ?_⟩
    refine ⟨by first | (simp only [ByteArray.size_append]; show _ + 2 + _ ≤ _; omega) | (show _ + 2 ≤ _; omega), ?_⟩
    refine ⟨floc_impl _, ?_⟩
    refine ⟨by first | (simp only [ByteArray.size_append]; show _ + 2 + _ ≤ _; omega) | (show _ + 2 ≤ _; omega), ?_⟩
    refine ⟨?_, trivial⟩
    · first | (rw [fmtBox, if_pos c0]; done) | (rw [fmtBox, if_neg (by rw [c0]; decide)]; done)

set_option maxRecDepth 100000 in
set_option maxHeartbeats 4000000 in
theorem fbox_spec (b : BoxD) : Con Try.prog 33 [.agg [.sl 3 1 (b.low.map intD), .sl 3 1 (b.high.map intD)]] (.p none (.str (fmtBox b))) [] := by
  refine con_x tbOk mixedW Try.func33 (by kernel_rfl) (.call (vB (okBox b)) [] <| .br (.fin []) (.call (.p none (.str (fmtLoc b.low))) [] <| .call (.p none (.str (fmtLoc b.high))) [] <| .fin [])) ?_
  refine Eq.mpr (by kernel_rfl : _ = ((b.low.map intD).length ≤ 9223372036854775807 → (b.high.map intD).length ≤ 9223372036854775807 → Con Try.prog 101 [.agg [.sl 3 1 (b.low.map intD), .sl 3 1 (b.high.map intD)]] (vB (okBox b)) [] ∧ (((!(okBox b)) = true → (⟨#[]⟩ : ByteArray) = (fmtBox b) ∧ True) ∧ ((!(okBox b)) = false → Con Try.prog 102 [.one (.sl 3 1 (b.low.map intD))] (.p none (.str (fmtLoc b.low))) [] ∧ (fmtLoc b.low).size + (⟨#[46, 46]⟩ : ByteArray).size ≤ 9223372036854775807 ∧ Con Try.prog 102 [.one (.sl 3 1 (b.high.map intD))] (.p none (.str (fmtLoc b.high))) [] ∧ ((fmtLoc b.low) ++ (⟨#[46, 46]⟩ : ByteArray)).size + (fmtLoc b.high).size ≤ 9223372036854775807 ∧ (((fmtLoc b.low) ++ (⟨#[46, 46]⟩ : ByteArray)) ++ (fmtLoc b.high)) = (fmtBox b) ∧ True)))) ?_
  intro n0 n1
  simp only [List.length_map] at n0 n1
  have z1 := fmtLoc_size b.low
  have z2 := fmtLoc_size b.high
  refine ⟨box_spec b, ?_⟩
  refine ⟨fun c0 => ?_, fun c0 => ?_⟩
  · replace c0 := nt c0
    refine ⟨?_, trivial⟩
    · first | (rw [fmtBox, if_pos c0]; done) | (rw [fmtBox, if_neg (by rw [c0]; decide)]; done)
  · replace c0 := nf c0
    refine ⟨floc_spec _, ?_⟩
    refine ⟨by first | (simp only [ByteArray.size_append]; show _ + 2 + _ ≤ _; omega) | (show _ + 2 ≤ _; omega), ?_⟩
    refine ⟨floc_spec _, ?_⟩
    refine ⟨by first | (simp only [ByteArray.size_append]; show _ + 2 + _ ≤ _; omega) | (show _ + 2 ≤ _; omega), ?_⟩
    refine ⟨?_, trivial⟩
    · first | (rw [fmtBox, if_pos c0]; done) | (rw [fmtBox, if_neg (by rw [c0]; decide)]; done)
end Go.Proofs.Ytcfilkhjababjaa
