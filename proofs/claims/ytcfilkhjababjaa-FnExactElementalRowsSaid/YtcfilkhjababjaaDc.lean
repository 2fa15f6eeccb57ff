/-
  The laws' helpers: copies.
-/
import Derived.Test.YtcfilkhjababjaaDa
namespace Go.Proofs.Ytcfilkhjababjaa
open Go.ChangeShapes Go.WideShapes Go.ChangeAt Go.RowKit
set_option linter.unusedVariables false
set_option linter.unusedSimpArgs false
set_option maxRecDepth 100000 in
set_option maxHeartbeats 4000000 in
theorem to_IntS (x : List Int) (hc : cIntS x ≤ 1048576) : Con Try.prog 25 [.one (.sl 3 1 (x.map intD))] (.own 0) [(0, .arr 3 1 true (x.map intD))] := by
  refine con_x tbOk mixedW Try.func25 (by kernel_rfl) (.len x.length <| .mk x.length [.int .i64 (0 : Int)] ((List.replicate x.length (0 : Int)).map intD) <| .loop (Nat × (List Int)) (Q2 Nat (List Int)) [3, 4, 8, 9, 10, 11, 12, 13, 14, 15, 16, 17, 18, 19, 20] [700] (fun yy0 => [(3, .own 700), (4, vI (yy0.1 : Int))]) (fun yy0 => [(700, some (.arr 3 1 true (yy0.2.map intD)))]) (fun yy0 => yy0.1 ≤ x.length ∧ yy0.2 = x.take yy0.1 ++ List.replicate (x.length - yy0.1) (0 : Int)) (fun yy0 => x.length - yy0.1) (fun yy0 => .len x.length <| .br (.elem Int intD x (fun e18 => .len yy0.2.length <| .set Int intD yy0.2 (fun s5_7 => e18) (fun s5_7 => .back [(700, 700)]))) (.fin [(0, 700)]))) ?_
  refine Eq.mpr (by kernel_rfl : _ = ((x.map intD).length ≤ 9223372036854775807 → (x.map intD).length = x.length ∧ (((x.length : Nat) : Int) = ((x.length : Nat) : Int) ∧ ((x.length : Nat) : Int) = ((x.length : Nat) : Int) ∧ 8 * x.length ≤ 281474976710656 ∧ x.length ≤ 9223372036854775807 ∧ List.replicate x.length [.int .i64 (0 : Int)] = (List.replicate x.length (0 : Int)).map intD ∧ ((∃ (k : Nat) (out : List Int), (0 : Int) = (k : Int) ∧ (List.replicate x.length (0 : Int)).map intD = out.map intD ∧ k ≤ x.length ∧ out = x.take k ++ List.replicate (x.length - k) (0 : Int)) ∧ ∀ (k : Nat) (out : List Int), (k ≤ x.length ∧ out = x.take k ++ List.replicate (x.length - k) (0 : Int)) → (x.map intD).length = x.length ∧ (((decide ((k : Int) < ((x.length : Nat) : Int))) = true → 0 ≤ (k : Int) ∧ (x.map intD = x.map intD ∧ k < x.length ∧ ∀ e18, x[k]? = some e18 → 0 ≤ (k : Int) ∧ (out.map intD).length = out.length ∧ (k : Int) < ((out.length : Nat) : Int) ∧ (out.map intD = out.map intD ∧ k < out.length ∧ ∀ s5_7, out[k]? = some s5_7 → flatB (intD s5_7) = true ∧ 0 + 1 ≤ (intD s5_7).length ∧ (intD s5_7).take 0 ++ [.int .i64 e18] ++ (intD s5_7).drop (0 + 1) = intD e18 ∧ inR ((k : Int) + (1 : Int)) ∧ ∃ (k' : Nat) (out' : List Int), ((k : Int) + (1 : Int)) = (k' : Int) ∧ (out.set k e18).map intD = out'.map intD ∧ (k' ≤ x.length ∧ out' = x.take k' ++ List.replicate (x.length - k') (0 : Int)) ∧ x.length - k' < x.length - k))) ∧ ((decide ((k : Int) < ((x.length : Nat) : Int))) = false → out.map intD = x.map intD ∧ True)))))) ?_
  intro n0
  simp only [List.length_map] at n0
  refine ⟨List.length_map _, ?_⟩
  refine ⟨rfl, rfl, by have := cIntS_len x; omega, by have := cIntS_len x; omega, by first | (rw [List.map_replicate]; done) | (rw [List.map_replicate]; rfl), ?_⟩
  refine ⟨⟨0, List.replicate x.length (0 : Int), rfl, rfl, Nat.zero_le _, by simp⟩, fun k out ⟨hk, ho⟩ => ?_⟩
  have hl : out.length = x.length := by rw [ho]; exact fill_len hk
  refine ⟨List.length_map _, ?_⟩
  refine ⟨fun c0 => ?_, fun c0 => ?_⟩
  · replace c0 := of_decide_eq_true c0
    refine ⟨by omega, ?_⟩
    refine ⟨rfl, by omega, fun e18 h18 => ?_⟩
    refine ⟨by omega, List.length_map _, by omega, ?_⟩
    refine ⟨rfl, by omega, fun s5_7 hs5_7 => ⟨rfl, Nat.le_of_ble_eq_true rfl, rfl, ?_⟩⟩
    refine ⟨⟨by omega, by omega⟩, ?_⟩
    exact ⟨k + 1, out.set k e18, rfl, rfl, ⟨by omega, by rw [ho]; exact fill_step ‹x[k]? = some _›⟩, by omega⟩
  · replace c0 := of_decide_eq_false c0
    refine ⟨?_, trivial⟩
    · rw [ho, fill_done hk (by omega)]

set_option maxRecDepth 100000 in
set_option maxHeartbeats 4000000 in
theorem to_IntSS (x : List (List Int)) (hc : cIntSS x ≤ 1048576) : Con Try.prog 115 [.one (.sl 34 1 (x.map eIntS))] (.own 0) [(0, .arr 34 1 true (x.map eIntS))] := by
  refine con_x tbOk mixedW Try.func115 (by kernel_rfl) (.len x.length <| .mk x.length [.sl 3 1 (([] : List Int).map intD)] ((List.replicate x.length ([] : List Int)).map eIntS) <| .loop (Nat × (List (List Int))) (Q2 Nat (List (List Int))) [3, 4, 8, 9, 10, 11, 12, 13, 14, 15, 16, 17, 18, 19, 20, 21] [700, 2000] (fun yy0 => [(3, .own 700), (4, vI (yy0.1 : Int))]) (fun yy0 => [(700, some (.arr 34 1 true (yy0.2.map eIntS)))]) (fun yy0 => yy0.1 ≤ x.length ∧ yy0.2 = x.take yy0.1 ++ List.replicate (x.length - yy0.1) ([] : List Int)) (fun yy0 => x.length - yy0.1) (fun yy0 => .len x.length <| .br (.elem (List Int) eIntS x (fun e18 => .call (.own 0) [(0, .arr 3 1 true (e18.map intD))] <| .len yy0.2.length <| .setm (List Int) eIntS yy0.2 (fun s5_8 => e18) (fun s5_8 => .back [(700, 700)]))) (.fin [(0, 700)]))) ?_
  refine Eq.mpr (by kernel_rfl : _ = ((x.map eIntS).length ≤ 9223372036854775807 → (x.map eIntS).length = x.length ∧ (((x.length : Nat) : Int) = ((x.length : Nat) : Int) ∧ ((x.length : Nat) : Int) = ((x.length : Nat) : Int) ∧ 24 * x.length ≤ 281474976710656 ∧ x.length ≤ 9223372036854775807 ∧ List.replicate x.length [.sl 3 1 (([] : List Int).map intD)] = (List.replicate x.length ([] : List Int)).map eIntS ∧ ((∃ (k : Nat) (out : List (List Int)), (0 : Int) = (k : Int) ∧ (List.replicate x.length ([] : List Int)).map eIntS = out.map eIntS ∧ k ≤ x.length ∧ out = x.take k ++ List.replicate (x.length - k) ([] : List Int)) ∧ ∀ (k : Nat) (out : List (List Int)), (k ≤ x.length ∧ out = x.take k ++ List.replicate (x.length - k) ([] : List Int)) → (x.map eIntS).length = x.length ∧ (((decide ((k : Int) < ((x.length : Nat) : Int))) = true → 0 ≤ (k : Int) ∧ (x.map eIntS = x.map eIntS ∧ k < x.length ∧ ∀ e18, x[k]? = some e18 → Con Try.prog 25 [.one (.sl 3 1 (e18.map intD))] (.own 0) [(0, .arr 3 1 true (e18.map intD))] ∧ (0 ≤ (k : Int) ∧ (out.map eIntS).length = out.length ∧ (k : Int) < ((out.length : Nat) : Int) ∧ (out.map eIntS = out.map eIntS ∧ k < out.length ∧ ∀ s5_8, out[k]? = some s5_8 → 0 + 1 ≤ (eIntS s5_8).length ∧ (eIntS s5_8).take 0 ++ ((eIntS e18).drop 0).take 1 ++ (eIntS s5_8).drop (0 + 1) = eIntS e18 ∧ e18.map intD = e18.map intD ∧ inR ((k : Int) + (1 : Int)) ∧ ∃ (k' : Nat) (out' : List (List Int)), ((k : Int) + (1 : Int)) = (k' : Int) ∧ (out.set k e18).map eIntS = out'.map eIntS ∧ (k' ≤ x.length ∧ out' = x.take k' ++ List.replicate (x.length - k') ([] : List Int)) ∧ x.length - k' < x.length - k)))) ∧ ((decide ((k : Int) < ((x.length : Nat) : Int))) = false → out.map eIntS = x.map eIntS ∧ True)))))) ?_
  intro n0
  simp only [List.length_map] at n0
  refine ⟨List.length_map _, ?_⟩
  refine ⟨rfl, rfl, by have := cIntSS_len x; omega, by have := cIntSS_len x; omega, by first | (rw [List.map_replicate]; done) | (rw [List.map_replicate]; rfl), ?_⟩
  refine ⟨⟨0, List.replicate x.length ([] : List Int), rfl, rfl, Nat.zero_le _, by simp⟩, fun k out ⟨hk, ho⟩ => ?_⟩
  have hl : out.length = x.length := by rw [ho]; exact fill_len hk
  refine ⟨List.length_map _, ?_⟩
  refine ⟨fun c0 => ?_, fun c0 => ?_⟩
  · replace c0 := of_decide_eq_true c0
    refine ⟨by omega, ?_⟩
    refine ⟨rfl, by omega, fun e18 h18 => ?_⟩
    refine ⟨to_IntS e18 (by first | omega | (have := cIntSS_el ‹x[k]? = some _›; omega)), ?_⟩
    refine ⟨by omega, List.length_map _, by omega, ?_⟩
    refine ⟨rfl, by omega, fun s5_8 hs5_8 => ?_⟩
    refine ⟨Nat.le_of_ble_eq_true rfl, rfl, rfl, ?_⟩
    refine ⟨⟨by omega, by omega⟩, ?_⟩
    exact ⟨k + 1, out.set k e18, rfl, rfl, ⟨by omega, by rw [ho]; exact fill_step ‹x[k]? = some _›⟩, by omega⟩
  · replace c0 := of_decide_eq_false c0
    refine ⟨?_, trivial⟩
    · rw [ho, fill_done hk (by omega)]

set_option maxRecDepth 100000 in
set_option maxHeartbeats 4000000 in
theorem to_Rational (x : RationalD) : Con Try.prog 15 [.agg [.int .i64 x.num, .int .i64 x.den]] (.agg [vI x.num, vI x.den]) [] := by
  refine con_x tbOk mixedW Try.func15 (by kernel_rfl) (.fin []) ?_
  refine Eq.mpr (by kernel_rfl : _ = (x.num = x.num ∧ x.den = x.den ∧ True)) ?_
  exact ⟨rfl, rfl, trivial⟩

set_option maxRecDepth 100000 in
set_option maxHeartbeats 4000000 in
theorem to_RationalS (x : List RationalD) (hc : cRationalS x ≤ 1048576) : Con Try.prog 133 [.one (.sl 25 2 (x.map eRational))] (.own 0) [(0, .arr 25 2 true (x.map eRational))] := by
  refine con_x tbOk mixedW Try.func133 (by kernel_rfl) (.len x.length <| .mk x.length [.int .i64 zRational.num, .int .i64 zRational.den] ((List.replicate x.length zRational).map eRational) <| .loop (Nat × (List RationalD)) (Q2 Nat (List RationalD)) [3, 4, 8, 9, 10, 11, 12, 13, 14, 15, 16, 17, 18, 19, 20, 21] [700] (fun yy0 => [(3, .own 700), (4, vI (yy0.1 : Int))]) (fun yy0 => [(700, some (.arr 25 2 true (yy0.2.map eRational)))]) (fun yy0 => yy0.1 ≤ x.length ∧ yy0.2 = x.take yy0.1 ++ List.replicate (x.length - yy0.1) zRational) (fun yy0 => x.length - yy0.1) (fun yy0 => .len x.length <| .br (.elem RationalD eRational x (fun e18 => .call (.agg [vI e18.num, vI e18.den]) [] <| .len yy0.2.length <| .set RationalD eRational yy0.2 (fun s5_8 => e18) (fun s5_8 => .back [(700, 700)]))) (.fin [(0, 700)]))) ?_
  refine Eq.mpr (by kernel_rfl : _ = ((x.map eRational).length ≤ 9223372036854775807 → (x.map eRational).length = x.length ∧ (((x.length : Nat) : Int) = ((x.length : Nat) : Int) ∧ ((x.length : Nat) : Int) = ((x.length : Nat) : Int) ∧ 16 * x.length ≤ 281474976710656 ∧ x.length ≤ 9223372036854775807 ∧ List.replicate x.length [.int .i64 zRational.num, .int .i64 zRational.den] = (List.replicate x.length zRational).map eRational ∧ ((∃ (k : Nat) (out : List RationalD), (0 : Int) = (k : Int) ∧ (List.replicate x.length zRational).map eRational = out.map eRational ∧ k ≤ x.length ∧ out = x.take k ++ List.replicate (x.length - k) zRational) ∧ ∀ (k : Nat) (out : List RationalD), (k ≤ x.length ∧ out = x.take k ++ List.replicate (x.length - k) zRational) → (x.map eRational).length = x.length ∧ (((decide ((k : Int) < ((x.length : Nat) : Int))) = true → 0 ≤ (k : Int) ∧ (x.map eRational = x.map eRational ∧ k < x.length ∧ ∀ e18, x[k]? = some e18 → Con Try.prog 15 [.agg [.int .i64 e18.num, .int .i64 e18.den]] (.agg [vI e18.num, vI e18.den]) [] ∧ (0 ≤ (k : Int) ∧ (out.map eRational).length = out.length ∧ (k : Int) < ((out.length : Nat) : Int) ∧ (out.map eRational = out.map eRational ∧ k < out.length ∧ ∀ s5_8, out[k]? = some s5_8 → flatB (eRational s5_8) = true ∧ 0 + 2 ≤ (eRational s5_8).length ∧ (eRational s5_8).take 0 ++ [.int .i64 e18.num, .int .i64 e18.den] ++ (eRational s5_8).drop (0 + 2) = eRational e18 ∧ inR ((k : Int) + (1 : Int)) ∧ ∃ (k' : Nat) (out' : List RationalD), ((k : Int) + (1 : Int)) = (k' : Int) ∧ (out.set k e18).map eRational = out'.map eRational ∧ (k' ≤ x.length ∧ out' = x.take k' ++ List.replicate (x.length - k') zRational) ∧ x.length - k' < x.length - k)))) ∧ ((decide ((k : Int) < ((x.length : Nat) : Int))) = false → out.map eRational = x.map eRational ∧ True)))))) ?_
  intro n0
  simp only [List.length_map] at n0
  refine ⟨List.length_map _, ?_⟩
  refine ⟨rfl, rfl, by have := cRationalS_len x; omega, by have := cRationalS_len x; omega, by first | (rw [List.map_replicate]; done) | (rw [List.map_replicate]; rfl), ?_⟩
  refine ⟨⟨0, List.replicate x.length zRational, rfl, rfl, Nat.zero_le _, by simp⟩, fun k out ⟨hk, ho⟩ => ?_⟩
  have hl : out.length = x.length := by rw [ho]; exact fill_len hk
  refine ⟨List.length_map _, ?_⟩
  refine ⟨fun c0 => ?_, fun c0 => ?_⟩
  · replace c0 := of_decide_eq_true c0
    refine ⟨by omega, ?_⟩
    refine ⟨rfl, by omega, fun e18 h18 => ?_⟩
    refine ⟨to_Rational e18, ?_⟩
    refine ⟨by omega, List.length_map _, by omega, ?_⟩
    refine ⟨rfl, by omega, fun s5_8 hs5_8 => ⟨rfl, Nat.le_of_ble_eq_true rfl, rfl, ?_⟩⟩
    refine ⟨⟨by omega, by omega⟩, ?_⟩
    exact ⟨k + 1, out.set k e18, rfl, rfl, ⟨by omega, by rw [ho]; exact fill_step ‹x[k]? = some _›⟩, by omega⟩
  · replace c0 := of_decide_eq_false c0
    refine ⟨?_, trivial⟩
    · rw [ho, fill_done hk (by omega)]

set_option maxRecDepth 100000 in
set_option maxHeartbeats 4000000 in
theorem to_RationalSS (x : List (List RationalD)) (hc : cRationalSS x ≤ 1048576) : Con Try.prog 132 [.one (.sl 66 1 (x.map eRationalS))] (.own 0) [(0, .arr 66 1 true (x.map eRationalS))] := by
  refine con_x tbOk mixedW Try.func132 (by kernel_rfl) (.len x.length <| .mk x.length [.sl 25 2 (([] : List RationalD).map eRational)] ((List.replicate x.length ([] : List RationalD)).map eRationalS) <| .loop (Nat × (List (List RationalD))) (Q2 Nat (List (List RationalD))) [3, 4, 8, 9, 10, 11, 12, 13, 14, 15, 16, 17, 18, 19, 20, 21] [700, 2000] (fun yy0 => [(3, .own 700), (4, vI (yy0.1 : Int))]) (fun yy0 => [(700, some (.arr 66 1 true (yy0.2.map eRationalS)))]) (fun yy0 => yy0.1 ≤ x.length ∧ yy0.2 = x.take yy0.1 ++ List.replicate (x.length - yy0.1) ([] : List RationalD)) (fun yy0 => x.length - yy0.1) (fun yy0 => .len x.length <| .br (.elem (List RationalD) eRationalS x (fun e18 => .call (.own 0) [(0, .arr 25 2 true (e18.map eRational))] <| .len yy0.2.length <| .setm (List RationalD) eRationalS yy0.2 (fun s5_8 => e18) (fun s5_8 => .back [(700, 700)]))) (.fin [(0, 700)]))) ?_
  refine Eq.mpr (by kernel_rfl : _ = ((x.map eRationalS).length ≤ 9223372036854775807 → (x.map eRationalS).length = x.length ∧ (((x.length : Nat) : Int) = ((x.length : Nat) : Int) ∧ ((x.length : Nat) : Int) = ((x.length : Nat) : Int) ∧ 24 * x.length ≤ 281474976710656 ∧ x.length ≤ 9223372036854775807 ∧ List.replicate x.length [.sl 25 2 (([] : List RationalD).map eRational)] = (List.replicate x.length ([] : List RationalD)).map eRationalS ∧ ((∃ (k : Nat) (out : List (List RationalD)), (0 : Int) = (k : Int) ∧ (List.replicate x.length ([] : List RationalD)).map eRationalS = out.map eRationalS ∧ k ≤ x.length ∧ out = x.take k ++ List.replicate (x.length - k) ([] : List RationalD)) ∧ ∀ (k : Nat) (out : List (List RationalD)), (k ≤ x.length ∧ out = x.take k ++ List.replicate (x.length - k) ([] : List RationalD)) → (x.map eRationalS).length = x.length ∧ (((decide ((k : Int) < ((x.length : Nat) : Int))) = true → 0 ≤ (k : Int) ∧ (x.map eRationalS = x.map eRationalS ∧ k < x.length ∧ ∀ e18, x[k]? = some e18 → Con Try.prog 133 [.one (.sl 25 2 (e18.map eRational))] (.own 0) [(0, .arr 25 2 true (e18.map eRational))] ∧ (0 ≤ (k : Int) ∧ (out.map eRationalS).length = out.length ∧ (k : Int) < ((out.length : Nat) : Int) ∧ (out.map eRationalS = out.map eRationalS ∧ k < out.length ∧ ∀ s5_8, out[k]? = some s5_8 → 0 + 1 ≤ (eRationalS s5_8).length ∧ (eRationalS s5_8).take 0 ++ ((eRationalS e18).drop 0).take 1 ++ (eRationalS s5_8).drop (0 + 1) = eRationalS e18 ∧ e18.map eRational = e18.map eRational ∧ inR ((k : Int) + (1 : Int)) ∧ ∃ (k' : Nat) (out' : List (List RationalD)), ((k : Int) + (1 : Int)) = (k' : Int) ∧ (out.set k e18).map eRationalS = out'.map eRationalS ∧ (k' ≤ x.length ∧ out' = x.take k' ++ List.replicate (x.length - k') ([] : List RationalD)) ∧ x.length - k' < x.length - k)))) ∧ ((decide ((k : Int) < ((x.length : Nat) : Int))) = false → out.map eRationalS = x.map eRationalS ∧ True)))))) ?_
  intro n0
  simp only [List.length_map] at n0
  refine ⟨List.length_map _, ?_⟩
  refine ⟨rfl, rfl, by have := cRationalSS_len x; omega, by have := cRationalSS_len x; omega, by first | (rw [List.map_replicate]; done) | (rw [List.map_replicate]; rfl), ?_⟩
  refine ⟨⟨0, List.replicate x.length ([] : List RationalD), rfl, rfl, Nat.zero_le _, by simp⟩, fun k out ⟨hk, ho⟩ => ?_⟩
  have hl : out.length = x.length := by rw [ho]; exact fill_len hk
  refine ⟨List.length_map _, ?_⟩
  refine ⟨fun c0 => ?_, fun c0 => ?_⟩
  · replace c0 := of_decide_eq_true c0
    refine ⟨by omega, ?_⟩
    refine ⟨rfl, by omega, fun e18 h18 => ?_⟩
    refine ⟨to_RationalS e18 (by first | omega | (have := cRationalSS_el ‹x[k]? = some _›; omega)), ?_⟩
    refine ⟨by omega, List.length_map _, by omega, ?_⟩
    refine ⟨rfl, by omega, fun s5_8 hs5_8 => ?_⟩
    refine ⟨Nat.le_of_ble_eq_true rfl, rfl, rfl, ?_⟩
    refine ⟨⟨by omega, by omega⟩, ?_⟩
    exact ⟨k + 1, out.set k e18, rfl, rfl, ⟨by omega, by rw [ho]; exact fill_step ‹x[k]? = some _›⟩, by omega⟩
  · replace c0 := of_decide_eq_false c0
    refine ⟨?_, trivial⟩
    · rw [ho, fill_done hk (by omega)]

set_option maxRecDepth 100000 in
set_option maxHeartbeats 4000000 in
theorem to_SizeConstraint (x : SizeConstraintD) : Con Try.prog 97 [.agg [.int .i64 x.src, .int .i64 x.dst, .int .i64 x.bits]] (.agg [vI x.src, vI x.dst, vI x.bits]) [] := by
  refine con_x tbOk mixedW Try.func97 (by kernel_rfl) (.fin []) ?_
  refine Eq.mpr (by kernel_rfl : _ = (x.src = x.src ∧ x.dst = x.dst ∧ x.bits = x.bits ∧ True)) ?_
  exact ⟨rfl, rfl, rfl, trivial⟩

set_option maxRecDepth 100000 in
set_option maxHeartbeats 4000000 in
theorem to_SizeConstraintS (x : List SizeConstraintD) (hc : cSizeConstraintS x ≤ 1048576) : Con Try.prog 24 [.one (.sl 111 3 (x.map eSizeConstraint))] (.own 0) [(0, .arr 111 3 true (x.map eSizeConstraint))] := by
  refine con_x tbOk mixedW Try.func24 (by kernel_rfl) (.len x.length <| .mk x.length [.int .i64 zSizeConstraint.src, .int .i64 zSizeConstraint.dst, .int .i64 zSizeConstraint.bits] ((List.replicate x.length zSizeConstraint).map eSizeConstraint) <| .loop (Nat × (List SizeConstraintD)) (Q2 Nat (List SizeConstraintD)) [3, 4, 8, 9, 10, 11, 12, 13, 14, 15, 16, 17, 18, 19, 20, 21] [700] (fun yy0 => [(3, .own 700), (4, vI (yy0.1 : Int))]) (fun yy0 => [(700, some (.arr 111 3 true (yy0.2.map eSizeConstraint)))]) (fun yy0 => yy0.1 ≤ x.length ∧ yy0.2 = x.take yy0.1 ++ List.replicate (x.length - yy0.1) zSizeConstraint) (fun yy0 => x.length - yy0.1) (fun yy0 => .len x.length <| .br (.elem SizeConstraintD eSizeConstraint x (fun e18 => .call (.agg [vI e18.src, vI e18.dst, vI e18.bits]) [] <| .len yy0.2.length <| .set SizeConstraintD eSizeConstraint yy0.2 (fun s5_8 => e18) (fun s5_8 => .back [(700, 700)]))) (.fin [(0, 700)]))) ?_
  refine Eq.mpr (by kernel_rfl : _ = ((x.map eSizeConstraint).length ≤ 9223372036854775807 → (x.map eSizeConstraint).length = x.length ∧ (((x.length : Nat) : Int) = ((x.length : Nat) : Int) ∧ ((x.length : Nat) : Int) = ((x.length : Nat) : Int) ∧ 24 * x.length ≤ 281474976710656 ∧ x.length ≤ 9223372036854775807 ∧ List.replicate x.length [.int .i64 zSizeConstraint.src, .int .i64 zSizeConstraint.dst, .int .i64 zSizeConstraint.bits] = (List.replicate x.length zSizeConstraint).map eSizeConstraint ∧ ((∃ (k : Nat) (out : List SizeConstraintD), (0 : Int) = (k : Int) ∧ (List.replicate x.length zSizeConstraint).map eSizeConstraint = out.map eSizeConstraint ∧ k ≤ x.length ∧ out = x.take k ++ List.replicate (x.length - k) zSizeConstraint) ∧ ∀ (k : Nat) (out : List SizeConstraintD), (k ≤ x.length ∧ out = x.take k ++ List.replicate (x.length - k) zSizeConstraint) → (x.map eSizeConstraint).length = x.length ∧ (((decide ((k : Int) < ((x.length : Nat) : Int))) = true → 0 ≤ (k : Int) ∧ (x.map eSizeConstraint = x.map eSizeConstraint ∧ k < x.length ∧ ∀ e18, x[k]? = some e18 → Con Try.prog 97 [.agg [.int .i64 e18.src, .int .i64 e18.dst, .int .i64 e18.bits]] (.agg [vI e18.src, vI e18.dst, vI e18.bits]) [] ∧ (0 ≤ (k : Int) ∧ (out.map eSizeConstraint).length = out.length ∧ (k : Int) < ((out.length : Nat) : Int) ∧ (out.map eSizeConstraint = out.map eSizeConstraint ∧ k < out.length ∧ ∀ s5_8, out[k]? = some s5_8 → flatB (eSizeConstraint s5_8) = true ∧ 0 + 3 ≤ (eSizeConstraint s5_8).length ∧ (eSizeConstraint s5_8).take 0 ++ [.int .i64 e18.src, .int .i64 e18.dst, .int .i64 e18.bits] ++ (eSizeConstraint s5_8).drop (0 + 3) = eSizeConstraint e18 ∧ inR ((k : Int) + (1 : Int)) ∧ ∃ (k' : Nat) (out' : List SizeConstraintD), ((k : Int) + (1 : Int)) = (k' : Int) ∧ (out.set k e18).map eSizeConstraint = out'.map eSizeConstraint ∧ (k' ≤ x.length ∧ out' = x.take k' ++ List.replicate (x.length - k') zSizeConstraint) ∧ x.length - k' < x.length - k)))) ∧ ((decide ((k : Int) < ((x.length : Nat) : Int))) = false → out.map eSizeConstraint = x.map eSizeConstraint ∧ True)))))) ?_
  intro n0
  simp only [List.length_map] at n0
  refine ⟨List.length_map _, ?_⟩
  refine ⟨rfl, rfl, by have := cSizeConstraintS_len x; omega, by have := cSizeConstraintS_len x; omega, by first | (rw [List.map_replicate]; done) | (rw [List.map_replicate]; rfl), ?_⟩
  refine ⟨⟨0, List.replicate x.length zSizeConstraint, rfl, rfl, Nat.zero_le _, by simp⟩, fun k out ⟨hk, ho⟩ => ?_⟩
  have hl : out.length = x.length := by rw [ho]; exact fill_len hk
  refine ⟨List.length_map _, ?_⟩
  refine ⟨fun c0 => ?_, fun c0 => ?_⟩
  · replace c0 := of_decide_eq_true c0
    refine ⟨by omega, ?_⟩
    refine ⟨rfl, by omega, fun e18 h18 => ?_⟩
    refine ⟨to_SizeConstraint e18, ?_⟩
    refine ⟨by omega, List.length_map _, by omega, ?_⟩
    refine ⟨rfl, by omega, fun s5_8 hs5_8 => ⟨rfl, Nat.le_of_ble_eq_true rfl, rfl, ?_⟩⟩
    refine ⟨⟨by omega, by omega⟩, ?_⟩
    exact ⟨k + 1, out.set k e18, rfl, rfl, ⟨by omega, by rw [ho]; exact fill_step ‹x[k]? = some _›⟩, by omega⟩
  · replace c0 := of_decide_eq_false c0
    refine ⟨?_, trivial⟩
    · rw [ho, fill_done hk (by omega)]

set_option maxRecDepth 100000 in
set_option maxHeartbeats 4000000 in
theorem to_Box (x : BoxD) (hc : cBox x ≤ 1048576) : Con Try.prog 34 [.agg [.sl 3 1 (x.low.map intD), .sl 3 1 (x.high.map intD)]] (.agg [.own 0, .own 1]) [(0, .arr 3 1 true (x.low.map intD)), (1, .arr 3 1 true (x.high.map intD))] := by
  refine con_x tbOk mixedW Try.func34 (by kernel_rfl) (.call (.own 0) [(0, .arr 3 1 true (x.low.map intD))] <| .call (.own 0) [(0, .arr 3 1 true (x.high.map intD))] <| .fin [(0, 600), (1, 1000)]) ?_
  refine Eq.mpr (by kernel_rfl : _ = ((x.low.map intD).length ≤ 9223372036854775807 → (x.high.map intD).length ≤ 9223372036854775807 → Con Try.prog 25 [.one (.sl 3 1 (x.low.map intD))] (.own 0) [(0, .arr 3 1 true (x.low.map intD))] ∧ Con Try.prog 25 [.one (.sl 3 1 (x.high.map intD))] (.own 0) [(0, .arr 3 1 true (x.high.map intD))] ∧ x.low.map intD = x.low.map intD ∧ x.high.map intD = x.high.map intD ∧ True)) ?_
  intro n0 n1
  simp only [List.length_map] at n0 n1
  unfold cBox at hc
  refine ⟨to_IntS x.low (by first | omega | (have := cIntSS_el ‹x[k]? = some _›; omega)), ?_⟩
  refine ⟨to_IntS x.high (by first | omega | (have := cIntSS_el ‹x[k]? = some _›; omega)), ?_⟩
  exact ⟨rfl, rfl, trivial⟩

set_option maxRecDepth 100000 in
set_option maxHeartbeats 4000000 in
theorem to_Program (x : ProgramD) (hc : cProgram x ≤ 1048576) : Con Try.prog 47 [.agg [.sl 3 1 (x.objective.map intD), .sl 34 1 (x.rows.map eIntS), .sl 3 1 (x.limits.map intD)]] (.agg [.own 0, .own 1, .own 2]) [(0, .arr 3 1 true (x.objective.map intD)), (1, .arr 34 1 true (x.rows.map eIntS)), (2, .arr 3 1 true (x.limits.map intD))] := by
  refine con_x tbOk mixedW Try.func47 (by kernel_rfl) (.call (.own 0) [(0, .arr 3 1 true (x.objective.map intD))] <| .call (.own 0) [(0, .arr 34 1 true (x.rows.map eIntS))] <| .call (.own 0) [(0, .arr 3 1 true (x.limits.map intD))] <| .fin [(0, 600), (1, 1000), (2, 1400)]) ?_
  refine Eq.mpr (by kernel_rfl : _ = ((x.objective.map intD).length ≤ 9223372036854775807 → (x.rows.map eIntS).length ≤ 9223372036854775807 → (x.limits.map intD).length ≤ 9223372036854775807 → Con Try.prog 25 [.one (.sl 3 1 (x.objective.map intD))] (.own 0) [(0, .arr 3 1 true (x.objective.map intD))] ∧ Con Try.prog 115 [.one (.sl 34 1 (x.rows.map eIntS))] (.own 0) [(0, .arr 34 1 true (x.rows.map eIntS))] ∧ Con Try.prog 25 [.one (.sl 3 1 (x.limits.map intD))] (.own 0) [(0, .arr 3 1 true (x.limits.map intD))] ∧ x.objective.map intD = x.objective.map intD ∧ x.rows.map eIntS = x.rows.map eIntS ∧ x.limits.map intD = x.limits.map intD ∧ True)) ?_
  intro n0 n1 n2
  simp only [List.length_map] at n0 n1 n2
  unfold cProgram at hc
  refine ⟨to_IntS x.objective (by first | omega | (have := cIntSS_el ‹x[k]? = some _›; omega)), ?_⟩
  refine ⟨to_IntSS x.rows (by first | omega | (have := cIntSSS_el ‹x[k]? = some _›; omega)), ?_⟩
  refine ⟨to_IntS x.limits (by first | omega | (have := cIntSS_el ‹x[k]? = some _›; omega)), ?_⟩
  exact ⟨rfl, rfl, rfl, trivial⟩

set_option maxRecDepth 100000 in
set_option maxHeartbeats 4000000 in
theorem to_Dictionary (x : DictionaryD) (hc : cDictionary x ≤ 1048576) : Con Try.prog 54 [.agg [.sl 3 1 (x.basic.map intD), .sl 3 1 (x.others.map intD), .sl 66 1 (x.table.map eRationalS), .sl 25 2 (x.limits.map eRational), .sl 25 2 (x.costs.map eRational), .int .i64 x.value.num, .int .i64 x.value.den]] (.agg [.own 0, .own 1, .own 2, .own 3, .own 4, vI x.value.num, vI x.value.den]) [(0, .arr 3 1 true (x.basic.map intD)), (1, .arr 3 1 true (x.others.map intD)), (2, .arr 66 1 true (x.table.map eRationalS)), (3, .arr 25 2 true (x.limits.map eRational)), (4, .arr 25 2 true (x.costs.map eRational))] := by
  refine con_x tbOk mixedW Try.func54 (by kernel_rfl) (.call (.own 0) [(0, .arr 3 1 true (x.basic.map intD))] <| .call (.own 0) [(0, .arr 3 1 true (x.others.map intD))] <| .call (.own 0) [(0, .arr 66 1 true (x.table.map eRationalS))] <| .call (.own 0) [(0, .arr 25 2 true (x.limits.map eRational))] <| .call (.own 0) [(0, .arr 25 2 true (x.costs.map eRational))] <| .call (.agg [vI x.value.num, vI x.value.den]) [] <| .fin [(0, 600), (1, 1000), (2, 1400), (3, 1800), (4, 2200)]) ?_
  refine Eq.mpr (by kernel_rfl : _ = ((x.basic.map intD).length ≤ 9223372036854775807 → (x.others.map intD).length ≤ 9223372036854775807 → (x.table.map eRationalS).length ≤ 9223372036854775807 → (x.limits.map eRational).length ≤ 9223372036854775807 → (x.costs.map eRational).length ≤ 9223372036854775807 → Con Try.prog 25 [.one (.sl 3 1 (x.basic.map intD))] (.own 0) [(0, .arr 3 1 true (x.basic.map intD))] ∧ Con Try.prog 25 [.one (.sl 3 1 (x.others.map intD))] (.own 0) [(0, .arr 3 1 true (x.others.map intD))] ∧ Con Try.prog 132 [.one (.sl 66 1 (x.table.map eRationalS))] (.own 0) [(0, .arr 66 1 true (x.table.map eRationalS))] ∧ Con Try.prog 133 [.one (.sl 25 2 (x.limits.map eRational))] (.own 0) [(0, .arr 25 2 true (x.limits.map eRational))] ∧ Con Try.prog 133 [.one (.sl 25 2 (x.costs.map eRational))] (.own 0) [(0, .arr 25 2 true (x.costs.map eRational))] ∧ Con Try.prog 15 [.agg [.int .i64 x.value.num, .int .i64 x.value.den]] (.agg [vI x.value.num, vI x.value.den]) [] ∧ x.value.num = x.value.num ∧ x.value.den = x.value.den ∧ x.basic.map intD = x.basic.map intD ∧ x.others.map intD = x.others.map intD ∧ x.table.map eRationalS = x.table.map eRationalS ∧ x.limits.map eRational = x.limits.map eRational ∧ x.costs.map eRational = x.costs.map eRational ∧ True)) ?_
  intro n0 n1 n2 n3 n4
  simp only [List.length_map] at n0 n1 n2 n3 n4
  unfold cDictionary at hc
  refine ⟨to_IntS x.basic (by first | omega | (have := cIntSS_el ‹x[k]? = some _›; omega)), ?_⟩
  refine ⟨to_IntS x.others (by first | omega | (have := cIntSS_el ‹x[k]? = some _›; omega)), ?_⟩
  refine ⟨to_RationalSS x.table (by first | omega | (have := cRationalSSS_el ‹x[k]? = some _›; omega)), ?_⟩
  refine ⟨to_RationalS x.limits (by first | omega | (have := cRationalSS_el ‹x[k]? = some _›; omega)), ?_⟩
  refine ⟨to_RationalS x.costs (by first | omega | (have := cRationalSS_el ‹x[k]? = some _›; omega)), ?_⟩
  refine ⟨to_Rational x.value, ?_⟩
  exact ⟨rfl, rfl, rfl, rfl, rfl, rfl, rfl, trivial⟩
end Go.Proofs.Ytcfilkhjababjaa
