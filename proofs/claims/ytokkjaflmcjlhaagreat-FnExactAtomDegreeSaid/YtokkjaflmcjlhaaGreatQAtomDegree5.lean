/-
  Contracts and plain laws, joined: part 6.
-/
import Derived.Test.YtokkjaflmcjlhaaGreatQAtomDegree4
import Derived.IntWalk
import Derived.Test.YtokkjaflmcjlhaaGreatQAtomDegree3
import Derived.Deep.RegionHeld3
import Derived.BigRegion
import Derived.Deep.LoopGhost
import Derived.Shelf.SlSortCmp.Insertion
import Derived.Shelf.SlSortCmp.Whole1
import Derived.Shelf.SlSortCmp.NoneTotal
import Derived.Ground.SlsfProg
import Derived.Shelf.RegionOpenPlain
import Derived.Deep.Draws
namespace Go.Proofs.YtokkjaflmcjlhaaGreat
open Go.ChangeShapes Go.WideShapes Go.ChangeAt Go.RowKit
set_option linter.unusedVariables false
set_option linter.unusedSimpArgs false
set_option maxRecDepth 100000
set_option maxHeartbeats 4000000
def selOk (n : Int) (cols : List Int) : Bool := cols.all fun c => inB c 0 (n - 1)
def pickC (r : List Int) (c : Int) : Int := r.getD c.toNat 0
def selR (r cols : List Int) : List Int × Bool := if selOk r.length cols = true then (cols.map (pickC r), true) else ([], false)
theorem selR_yes {r cols : List Int} (h : cols.all (fun c => inB c 0 ((r.length : Int) - 1)) = true) : selR r cols = (cols.map (pickC r), true) := by rw [selR, if_pos (show selOk _ _ = true from h)]
theorem selR_no {r cols : List Int} (h : cols.all (fun c => inB c 0 ((r.length : Int) - 1)) = false) : selR r cols = ([], false) := by rw [selR, if_neg (by rw [show selOk _ _ = false from h]; decide)]
theorem pickC_at {r : List Int} {c x : Int} (h : r[c.toNat]? = some x) : pickC r c = x := getD_at h
theorem selR_len (r cols : List Int) : (selR r cols).1.length ≤ cols.length := by
  unfold selR
  split <;> simp
def colAt (b : Int) (cols : List Int) (i : Nat) : Bool := inB (cols.getD i 0) 0 b && (decide (i = 0) || decide (cols.getD (i - 1) 0 < cols.getD i 0))
def colsOk (b : Int) (cols : List Int) : Bool := (List.range cols.length).all (colAt b cols)
abbrev k_sel_impl (r : List Int) (cols : List Int) : AV × List (Nat × Rs) := (.tup [.own 0, vB ((selR r cols).2)], [(0, .arr 3 1 true (((selR r cols).1).map intD))])
abbrev K_sel_impl (r : List Int) (cols : List Int) : Prop := Con Tryz.prog 199 [.one (.sl 3 1 (r.map intD)), .one (.sl 3 1 (cols.map intD))] (k_sel_impl r cols).1 (k_sel_impl r cols).2
theorem sel_impl (r cols : List Int) (hl : cols.length ≤ 1048576) : K_sel_impl r cols := by
 refine con_x tbOk mixedW Tryz.func199 (by kernel_rfl) (.len cols.length <| .loop (Nat × (List Int)) (Q2 Nat (List Int)) [6, 8, 9, 12, 13, 14, 15, 16, 17, 18, 19, 20, 21, 22, 23, 24, 25, 26, 27, 28, 29] [900, 2700, 2800] (fun yy0 => [(12, vI (yy0.1 : Int)), (6, .own 900)]) (fun yy0 => [(900, some (.arr 3 1 true (yy0.2.map intD)))]) (fun yy0 => yy0.1 ≤ cols.length ∧ yy0.2 = (cols.take yy0.1).map (pickC r) ∧ (cols.take yy0.1).all (fun c => inB c 0 ((r.length : Int) - 1)) = true) (fun yy0 => cols.length - yy0.1) (fun yy0 => .br (.elem _ intD cols (fun e14 => .len r.length <| .call (vB (inB e14 (0 : Int) (((r.length : Nat) : Int) - (1 : Int)))) [] <| .br (.fin []) (.elem _ intD r (fun e25 => .app Int intD yy0.2 ([e25] : List Int) <| .back [(900, 2800)])))) (.fin [(0, 900)]))) ?_
 refine Eq.mpr (by kernel_rfl : _ = ((r.map intD).length ≤ 9223372036854775807 → (cols.map intD).length ≤ 9223372036854775807 → Lm intD cols ∧ ((∃ (k : Nat) (out : List Int), (0 : Int) = (k : Int) ∧ [] = out.map intD ∧ k ≤ cols.length ∧ out = (cols.take k).map (pickC r) ∧ (cols.take k).all (fun c => inB c 0 ((r.length : Int) - 1)) = true) ∧ ∀ (k : Nat) (out : List Int), (k ≤ cols.length ∧ out = (cols.take k).map (pickC r) ∧ (cols.take k).all (fun c => inB c 0 ((r.length : Int) - 1)) = true) → ((decide ((k : Int) < ((cols.length : Nat) : Int))) = true → 0 ≤ (k : Int) ∧ Em intD cols k fun e14 => Lm intD r ∧ (inR (((r.length : Nat) : Int) - (1 : Int)) ∧ (K_in_impl e14 (0 : Int) (((r.length : Nat) : Int) - (1 : Int)) ∧ (((!(inB e14 (0 : Int) (((r.length : Nat) : Int) - (1 : Int)))) = true → (false) = ((selR r cols).2) ∧ [] = ((selR r cols).1).map intD ∧ True) ∧ ((!(inB e14 (0 : Int) (((r.length : Nat) : Int) - (1 : Int)))) = false → 0 ≤ e14 ∧ Em intD r ((e14).toNat) fun e25 => out.map intD = out.map intD ∧ [[.int .i64 e25]] = ([e25] : List Int).map intD ∧ (∀ x, flatB (intD x) = true) ∧ (out.length + ([e25] : List Int).length) * 8 ≤ 140737488355328 ∧ inR ((k : Int) + (1 : Int)) ∧ ∃ (k' : Nat) (out' : List Int), ((k : Int) + (1 : Int)) = (k' : Int) ∧ (out ++ [e25]).map intD = out'.map intD ∧ (k' ≤ cols.length ∧ out' = (cols.take k').map (pickC r) ∧ (cols.take k').all (fun c => inB c 0 ((r.length : Int) - 1)) = true) ∧ cols.length - k' < cols.length - k))))) ∧ ((decide ((k : Int) < ((cols.length : Nat) : Int))) = false → (true) = ((selR r cols).2) ∧ out.map intD = ((selR r cols).1).map intD ∧ True)))) ?_
 intro n0 n1
 simp only [List.length_map] at n0 n1
 refine ⟨List.length_map _, ⟨0, ([] : List Int), rfl, rfl, Nat.zero_le _, rfl, rfl⟩, fun k out ⟨hk, ho, ha⟩ => ?_⟩
 refine ⟨fun c0 => ?_, fun c0 => ?_⟩
 ·replace c0 := yq c0
  refine ⟨by omega, rfl, by omega, fun e14 h14 => ?_⟩
  refine ⟨List.length_map _, ⟨by omega, by omega⟩, in_impl _ _ _, fun c1 => ?_, fun c1 => ?_⟩
  ·replace c1 := nt c1
   refine ⟨?_, ?_, trivial⟩
   ·first | (rw [selR_no (all_stop h14 c1)] <;> rfl) | (rw [selR_yes (all_done (by omega) ha), ho, List.take_of_length_le (by omega)] <;> rfl) | (rw [selR_yes (all_done (by omega) ha)] <;> rfl)
   ·first | (rw [selR_no (all_stop h14 c1)] <;> rfl) | (rw [selR_yes (all_done (by omega) ha), ho, List.take_of_length_le (by omega)] <;> rfl) | (rw [selR_yes (all_done (by omega) ha)] <;> rfl)
  ·replace c1 := nf c1
   have hb := inB_true c1
   refine ⟨by omega, rfl, by omega, fun e25 h25 => ?_⟩
   refine ⟨rfl, rfl, fun _ => rfl, by simp [ho]; omega, ?_⟩
   refine ⟨⟨by omega, by omega⟩, ?_⟩
   exact ⟨k + 1, _, rfl, rfl, ⟨by omega, by rw [ho, take_snoc h14, List.map_append, List.map_cons, List.map_nil, pickC_at h25], all_snoc h14 ha c1⟩, by omega⟩
 ·replace c0 := nq c0
  refine ⟨?_, ?_, trivial⟩
  ·first | (rw [selR_no (all_stop h14 c1)] <;> rfl) | (rw [selR_yes (all_done (by omega) ha), ho, List.take_of_length_le (by omega)] <;> rfl) | (rw [selR_yes (all_done (by omega) ha)] <;> rfl)
  ·first | (rw [selR_no (all_stop h14 c1)] <;> rfl) | (rw [selR_yes (all_done (by omega) ha), ho, List.take_of_length_le (by omega)] <;> rfl) | (rw [selR_yes (all_done (by omega) ha)] <;> rfl)
abbrev k_sel_spec (r : List Int) (cols : List Int) : AV × List (Nat × Rs) := (.tup [.own 0, vB ((selR r cols).2)], [(0, .arr 3 1 true (((selR r cols).1).map intD))])
abbrev K_sel_spec (r : List Int) (cols : List Int) : Prop := Con Tryz.prog 259 [.one (.sl 3 1 (r.map intD)), .one (.sl 3 1 (cols.map intD))] (k_sel_spec r cols).1 (k_sel_spec r cols).2
theorem sel_spec (r cols : List Int) (hl : cols.length ≤ 1048576) : K_sel_spec r cols := by
 refine con_x tbOk mixedW Tryz.func259 (by kernel_rfl) (.loop (Nat × (List Int)) (Q2 Nat (List Int)) [6, 7, 8, 9, 10, 11, 12, 13, 14, 15, 16, 17, 18, 19, 20, 21, 22, 23, 25, 26, 27, 28, 29, 30, 31, 32, 33, 34] [800, 3300, 3400] (fun yy0 => [(7, vI (yy0.1 : Int)), (6, .own 800)]) (fun yy0 => [(800, some (.arr 3 1 true (yy0.2.map intD)))]) (fun yy0 => yy0.1 ≤ cols.length ∧ yy0.2 = (cols.take yy0.1).map (pickC r) ∧ (cols.take yy0.1).all (fun c => inB c 0 ((r.length : Int) - 1)) = true) (fun yy0 => cols.length - yy0.1) (fun yy0 => .len cols.length <| .br (.elem _ intD cols (fun e17 => .len r.length <| .call (vB (inB e17 (0 : Int) (((r.length : Nat) : Int) - (1 : Int)))) [] <| .br (.fin [(0, 2400)]) (.elem _ intD cols (fun e29 => .elem _ intD r (fun e31 => .app Int intD yy0.2 ([e31] : List Int) <| .back [(800, 3400)]))))) (.fin [(0, 800)]))) ?_
 refine Eq.mpr (by kernel_rfl : _ = ((r.map intD).length ≤ 9223372036854775807 → (cols.map intD).length ≤ 9223372036854775807 → (∃ (k : Nat) (out : List Int), (0 : Int) = (k : Int) ∧ [] = out.map intD ∧ k ≤ cols.length ∧ out = (cols.take k).map (pickC r) ∧ (cols.take k).all (fun c => inB c 0 ((r.length : Int) - 1)) = true) ∧ ∀ (k : Nat) (out : List Int), (k ≤ cols.length ∧ out = (cols.take k).map (pickC r) ∧ (cols.take k).all (fun c => inB c 0 ((r.length : Int) - 1)) = true) → Lm intD cols ∧ (((decide ((k : Int) < ((cols.length : Nat) : Int))) = true → 0 ≤ (k : Int) ∧ Em intD cols k fun e17 => Lm intD r ∧ (inR (((r.length : Nat) : Int) - (1 : Int)) ∧ (K_in_spec e17 (0 : Int) (((r.length : Nat) : Int) - (1 : Int)) ∧ (((!(inB e17 (0 : Int) (((r.length : Nat) : Int) - (1 : Int)))) = true → (false) = ((selR r cols).2) ∧ [] = ((selR r cols).1).map intD ∧ True) ∧ ((!(inB e17 (0 : Int) (((r.length : Nat) : Int) - (1 : Int)))) = false → 0 ≤ (k : Int) ∧ Em intD cols k fun e29 => 0 ≤ e29 ∧ Em intD r ((e29).toNat) fun e31 => out.map intD = out.map intD ∧ [[.int .i64 e31]] = ([e31] : List Int).map intD ∧ (∀ x, flatB (intD x) = true) ∧ (out.length + ([e31] : List Int).length) * 8 ≤ 140737488355328 ∧ inR ((k : Int) + (1 : Int)) ∧ ∃ (k' : Nat) (out' : List Int), ((k : Int) + (1 : Int)) = (k' : Int) ∧ (out ++ [e31]).map intD = out'.map intD ∧ (k' ≤ cols.length ∧ out' = (cols.take k').map (pickC r) ∧ (cols.take k').all (fun c => inB c 0 ((r.length : Int) - 1)) = true) ∧ cols.length - k' < cols.length - k))))) ∧ ((decide ((k : Int) < ((cols.length : Nat) : Int))) = false → (true) = ((selR r cols).2) ∧ out.map intD = ((selR r cols).1).map intD ∧ True)))) ?_
 intro n0 n1
 simp only [List.length_map] at n0 n1
 refine ⟨⟨0, ([] : List Int), rfl, rfl, Nat.zero_le _, rfl, rfl⟩, fun k out ⟨hk, ho, ha⟩ => ?_⟩
 refine ⟨List.length_map _, fun c0 => ?_, fun c0 => ?_⟩
 ·replace c0 := yq c0
  refine ⟨by omega, rfl, by omega, fun e17 h17 => ?_⟩
  refine ⟨List.length_map _, ⟨by omega, by omega⟩, in_spec _ _ _, fun c1 => ?_, fun c1 => ?_⟩
  ·replace c1 := nt c1
   refine ⟨?_, ?_, trivial⟩
   ·first | (rw [selR_no (all_stop h17 c1)] <;> rfl) | (rw [selR_yes (all_done (by omega) ha), ho, List.take_of_length_le (by omega)] <;> rfl) | (rw [selR_yes (all_done (by omega) ha)] <;> rfl)
   ·first | (rw [selR_no (all_stop h17 c1)] <;> rfl) | (rw [selR_yes (all_done (by omega) ha), ho, List.take_of_length_le (by omega)] <;> rfl) | (rw [selR_yes (all_done (by omega) ha)] <;> rfl)
  ·replace c1 := nf c1
   have hb := inB_true c1
   refine ⟨by omega, rfl, by omega, fun e29 h29 => ?_⟩
   obtain rfl := (same_at h17 h29).symm
   refine ⟨by omega, rfl, by omega, fun e31 h31 => ?_⟩
   refine ⟨rfl, rfl, fun _ => rfl, by simp [ho]; omega, ?_⟩
   refine ⟨⟨by omega, by omega⟩, ?_⟩
   exact ⟨k + 1, _, rfl, rfl, ⟨by omega, by rw [ho, take_snoc h17, List.map_append, List.map_cons, List.map_nil, pickC_at h31], all_snoc h17 ha c1⟩, by omega⟩
 ·replace c0 := nq c0
  refine ⟨?_, ?_, trivial⟩
  ·first | (rw [selR_no (all_stop h17 c1)] <;> rfl) | (rw [selR_yes (all_done (by omega) ha), ho, List.take_of_length_le (by omega)] <;> rfl) | (rw [selR_yes (all_done (by omega) ha)] <;> rfl)
  ·first | (rw [selR_no (all_stop h17 c1)] <;> rfl) | (rw [selR_yes (all_done (by omega) ha), ho, List.take_of_length_le (by omega)] <;> rfl) | (rw [selR_yes (all_done (by omega) ha)] <;> rfl)
abbrev K_cols_impl (cols : List Int) (a : Int) : Prop := Con Tryz.prog 272 [.one (.sl 3 1 (cols.map intD)), .one (.int .i64 a)] (vB (colsOk (a - 1) cols)) []
theorem cols_impl (cols : List Int) (a : Int) (ha : 1 ≤ a ∧ a ≤ 3) : K_cols_impl cols a := by
 refine con_x tbOk mixedW Tryz.func272 (by kernel_rfl) (.len cols.length <| .loop Nat (Q1 Nat) [5, 6, 9, 10, 11, 12, 13, 14, 15, 16, 17, 18, 19, 20, 21, 22, 23, 24, 25, 26, 27, 28, 29, 30, 31, 32] [] (fun k => [(9, vI (k : Int))]) (fun k => []) (fun k => k ≤ cols.length ∧ (List.range k).all (colAt (a - 1) cols) = true) (fun k => cols.length - k) (fun k => .br (.elem _ intD cols (fun e12 => .call (vB (inB e12 (0 : Int) (a - (1 : Int)))) [] <| .br (.fin []) (.lit <| .lit <| .br (.elem _ intD cols (fun e26 => .lit <| .lit <| .lit <| .lit <| .lit <| .lit <| .br (.fin []) (.back []))) (.back [])))) (.fin []))) ?_
 refine Eq.mpr (by kernel_rfl : _ = ((cols.map intD).length ≤ 9223372036854775807 → Lm intD cols ∧ ((∃ (k : Nat), (0 : Int) = (k : Int) ∧ k ≤ cols.length ∧ (List.range k).all (colAt (a - 1) cols) = true) ∧ ∀ (k : Nat), (k ≤ cols.length ∧ (List.range k).all (colAt (a - 1) cols) = true) → ((decide ((k : Int) < ((cols.length : Nat) : Int))) = true → 0 ≤ (k : Int) ∧ Em intD cols k fun e12 => inR (a - (1 : Int)) ∧ (K_in_impl e12 (0 : Int) (a - (1 : Int)) ∧ (((!(inB e12 (0 : Int) (a - (1 : Int)))) = true → (false) = (colsOk (a - 1) cols) ∧ True) ∧ ((!(inB e12 (0 : Int) (a - (1 : Int)))) = false → ((decide ((0 : Int) < (k : Int))) = true → inR ((k : Int) - (1 : Int)) ∧ (0 ≤ ((k : Int) - (1 : Int)) ∧ Em intD cols (((k : Int) - (1 : Int)).toNat) fun e26 => ((decide (e12 ≤ e26)) = true → (false) = (colsOk (a - 1) cols) ∧ True) ∧ ((decide (e12 ≤ e26)) = false → inR ((k : Int) + (1 : Int)) ∧ ∃ (k' : Nat), ((k : Int) + (1 : Int)) = (k' : Int) ∧ (k' ≤ cols.length ∧ (List.range k').all (colAt (a - 1) cols) = true) ∧ cols.length - k' < cols.length - k))) ∧ ((decide ((0 : Int) < (k : Int))) = false → inR ((k : Int) + (1 : Int)) ∧ ∃ (k' : Nat), ((k : Int) + (1 : Int)) = (k' : Int) ∧ (k' ≤ cols.length ∧ (List.range k').all (colAt (a - 1) cols) = true) ∧ cols.length - k' < cols.length - k))))) ∧ ((decide ((k : Int) < ((cols.length : Nat) : Int))) = false → (true) = (colsOk (a - 1) cols) ∧ True)))) ?_
 intro n0
 simp only [List.length_map] at n0
 refine ⟨List.length_map _, ⟨0, rfl, Nat.zero_le _, rfl⟩, fun k ⟨hk, hv⟩ => ?_⟩
 refine ⟨fun c0 => ?_, fun c0 => ?_⟩
 ·replace c0 := yq c0
  refine ⟨by omega, rfl, by omega, fun e12 h12 => ?_⟩
  refine ⟨⟨by omega, by omega⟩, in_impl _ _ _, fun g19 => ?_, fun g19 => ?_⟩
  ·replace g19 := nt g19
   have hp : colAt (a - 1) cols k = false := by rw [colAt, getD_at h12, g19]; rfl
   refine ⟨?_, trivial⟩
   ·first | (rw [colsOk, range_stop (by omega) hp]; done) | (rw [colsOk, show cols.length = k by omega, hv]; done)
  ·replace g19 := nf g19
   refine ⟨fun g22 => ?_, fun g22 => ?_⟩
   ·replace g22 := yq g22
    refine ⟨⟨by omega, by omega⟩, by omega, rfl, by omega, fun e26 h26 => ?_⟩
    have i26 : cols[k - 1]? = some e26 := by rw [← h26]; congr 1; omega
    refine ⟨fun c1 => ?_, fun c1 => ?_⟩
    ·replace c1 := yq c1
     have hp : colAt (a - 1) cols k = false := by rw [colAt, getD_at h12, getD_at i26, show decide (e26 < e12) = false by simp; omega, show decide (k = 0) = false by simp; omega]; simp
     refine ⟨?_, trivial⟩
     ·first | (rw [colsOk, range_stop (by omega) hp]; done) | (rw [colsOk, show cols.length = k by omega, hv]; done)
    ·replace c1 := nq c1
     have hp : colAt (a - 1) cols k = true := by rw [colAt, getD_at h12, g19, getD_at i26, show decide (e26 < e12) = true by simp; omega]; simp
     refine ⟨⟨by omega, by omega⟩, ?_⟩
     exact ⟨k + 1, rfl, ⟨by omega, range_snoc hv hp⟩, by omega⟩
   ·replace g22 := nq g22
    have hp : colAt (a - 1) cols k = true := by rw [colAt, getD_at h12, g19, show decide (k = 0) = true by simp; omega]; rfl
    refine ⟨⟨by omega, by omega⟩, ?_⟩
    exact ⟨k + 1, rfl, ⟨by omega, range_snoc hv hp⟩, by omega⟩
 ·replace c0 := nq c0
  refine ⟨?_, trivial⟩
  ·first | (rw [colsOk, range_stop (by omega) hp]; done) | (rw [colsOk, show cols.length = k by omega, hv]; done)
theorem okTable_arity {t : TableD} (h : okTable t = true) : 1 ≤ t.arity ∧ t.arity ≤ 3 ∧ t.rows.length ≤ 8 := by
  simp only [okTable, Bool.and_eq_true, decide_eq_true_eq] at h
  have := inB_true h.2.2.1
  omega
theorem wrap_arity {t : TableD} (h : okTable t = true) : IntKind.i64.wrap (t.arity - 1) = t.arity - 1 := by
  have := okTable_arity h
  exact IntWalk.i64_in _ ⟨by omega, by omega⟩
theorem l10_no {t : TableD} {cols : List Int} (h : colsOk (IntKind.i64.wrap (t.arity - 1)) cols = false) : (okTable t && colsOk (t.arity - 1) cols) = false := by
  cases e : okTable t with
  | false => rfl
  | true => rw [wrap_arity e] at h; rw [h]; rfl
theorem l10_yes {t : TableD} {cols : List Int} (h : colsOk (IntKind.i64.wrap (t.arity - 1)) cols = true) : (okTable t && colsOk (t.arity - 1) cols) = okTable t := by
  cases e : okTable t with
  | false => rfl
  | true => rw [wrap_arity e] at h; rw [h]; rfl
abbrev K_cols_spec (t : TableD) (cols : List Int) : Prop := Con Tryz.prog 258 [.agg [.str t.name, .int .i64 t.arity, .sl 32 1 (t.rows.map eIntS)], .one (.sl 3 1 (cols.map intD))] (vB (okTable t && colsOk (t.arity - 1) cols)) []
theorem cols_spec (t : TableD) (cols : List Int) : K_cols_spec t cols := by
 refine con_x tbOk mixedW Tryz.func258 (by kernel_rfl) (.loop Nat (Q1 Nat) [5, 6, 7, 8, 9, 10, 11, 12, 13, 14, 15, 16, 17, 18, 19, 20, 21, 22, 23, 24, 25, 26, 27, 28, 29, 30, 31, 32, 33, 34, 35, 36] [] (fun k => [(5, vI (k : Int))]) (fun k => []) (fun k => k ≤ cols.length ∧ (List.range k).all (colAt (IntKind.i64.wrap (t.arity - (1 : Int))) cols) = true) (fun k => cols.length - k) (fun k => .len cols.length <| .br (.elem _ intD cols (fun e14 => .raw <| .call (vB (inB e14 (0 : Int) (IntKind.i64.wrap (t.arity - (1 : Int))))) [] <| .br (.fin []) (.lit <| .lit <| .br (.elem _ intD cols (fun e28 => .elem _ intD cols (fun e32 => .lit <| .lit <| .lit <| .lit <| .lit <| .br (.fin []) (.back [])))) (.back [])))) (.call (vB (okTable t)) [] <| .fin []))) ?_
 refine Eq.mpr (by kernel_rfl : _ = ((t.rows.map eIntS).length ≤ 9223372036854775807 → (cols.map intD).length ≤ 9223372036854775807 → (∃ (k : Nat), (0 : Int) = (k : Int) ∧ k ≤ cols.length ∧ (List.range k).all (colAt (IntKind.i64.wrap (t.arity - (1 : Int))) cols) = true) ∧ ∀ (k : Nat), (k ≤ cols.length ∧ (List.range k).all (colAt (IntKind.i64.wrap (t.arity - (1 : Int))) cols) = true) → Lm intD cols ∧ (((decide ((k : Int) < ((cols.length : Nat) : Int))) = true → 0 ≤ (k : Int) ∧ Em intD cols k fun e14 => K_in_spec e14 (0 : Int) (IntKind.i64.wrap (t.arity - (1 : Int))) ∧ (((!(inB e14 (0 : Int) (IntKind.i64.wrap (t.arity - (1 : Int))))) = true → (false) = (okTable t && colsOk (t.arity - 1) cols) ∧ True) ∧ ((!(inB e14 (0 : Int) (IntKind.i64.wrap (t.arity - (1 : Int))))) = false → ((decide ((0 : Int) < (k : Int))) = true → inR ((k : Int) - (1 : Int)) ∧ (0 ≤ ((k : Int) - (1 : Int)) ∧ Em intD cols (((k : Int) - (1 : Int)).toNat) fun e28 => 0 ≤ (k : Int) ∧ Em intD cols k fun e32 => ((decide (e32 ≤ e28)) = true → (false) = (okTable t && colsOk (t.arity - 1) cols) ∧ True) ∧ ((decide (e32 ≤ e28)) = false → inR ((k : Int) + (1 : Int)) ∧ ∃ (k' : Nat), ((k : Int) + (1 : Int)) = (k' : Int) ∧ (k' ≤ cols.length ∧ (List.range k').all (colAt (IntKind.i64.wrap (t.arity - (1 : Int))) cols) = true) ∧ cols.length - k' < cols.length - k))) ∧ ((decide ((0 : Int) < (k : Int))) = false → inR ((k : Int) + (1 : Int)) ∧ ∃ (k' : Nat), ((k : Int) + (1 : Int)) = (k' : Int) ∧ (k' ≤ cols.length ∧ (List.range k').all (colAt (IntKind.i64.wrap (t.arity - (1 : Int))) cols) = true) ∧ cols.length - k' < cols.length - k)))) ∧ ((decide ((k : Int) < ((cols.length : Nat) : Int))) = false → K_tab_spec t ∧ (okTable t) = (okTable t && colsOk (t.arity - 1) cols) ∧ True)))) ?_
 intro n0 n1
 simp only [List.length_map] at n0 n1
 refine ⟨⟨0, rfl, Nat.zero_le _, rfl⟩, fun k ⟨hk, hv⟩ => ?_⟩
 refine ⟨List.length_map _, fun c0 => ?_, fun c0 => ?_⟩
 ·replace c0 := yq c0
  refine ⟨by omega, rfl, by omega, fun e14 h14 => ?_⟩
  refine ⟨in_spec _ _ _, fun g21 => ?_, fun g21 => ?_⟩
  ·replace g21 := nt g21
   have hp : colAt (IntKind.i64.wrap (t.arity - (1 : Int))) cols k = false := by rw [colAt, getD_at h14, g21]; rfl
   refine ⟨?_, trivial⟩
   ·first | (rw [l10_no (by rw [colsOk, range_stop (by omega) hp])]; done) | (rw [l10_yes (by rw [colsOk, show cols.length = k by omega, hv])]; done)
  ·replace g21 := nf g21
   refine ⟨fun g24 => ?_, fun g24 => ?_⟩
   ·replace g24 := yq g24
    refine ⟨⟨by omega, by omega⟩, by omega, rfl, by omega, fun e28 h28 => ?_⟩
    have i28 : cols[k - 1]? = some e28 := by rw [← h28]; congr 1; omega
    refine ⟨by omega, rfl, by omega, fun e32 h32 => ?_⟩
    obtain rfl := (same_at h14 h32).symm
    refine ⟨fun c1 => ?_, fun c1 => ?_⟩
    ·replace c1 := yq c1
     have hp : colAt (IntKind.i64.wrap (t.arity - (1 : Int))) cols k = false := by rw [colAt, getD_at h14, getD_at i28, show decide (e28 < e14) = false by simp; omega, show decide (k = 0) = false by simp; omega]; simp
     refine ⟨?_, trivial⟩
     ·first | (rw [l10_no (by rw [colsOk, range_stop (by omega) hp])]; done) | (rw [l10_yes (by rw [colsOk, show cols.length = k by omega, hv])]; done)
    ·replace c1 := nq c1
     have hp : colAt (IntKind.i64.wrap (t.arity - (1 : Int))) cols k = true := by rw [colAt, getD_at h14, g21, getD_at i28, show decide (e28 < e14) = true by simp; omega]; simp
     refine ⟨⟨by omega, by omega⟩, ?_⟩
     exact ⟨k + 1, rfl, ⟨by omega, range_snoc hv hp⟩, by omega⟩
   ·replace g24 := nq g24
    have hp : colAt (IntKind.i64.wrap (t.arity - (1 : Int))) cols k = true := by rw [colAt, getD_at h14, g21, show decide (k = 0) = true by simp; omega]; rfl
    refine ⟨⟨by omega, by omega⟩, ?_⟩
    exact ⟨k + 1, rfl, ⟨by omega, range_snoc hv hp⟩, by omega⟩
 ·replace c0 := nq c0
  refine ⟨tab_spec t, ?_, trivial⟩
  ·first | (rw [l10_no (by rw [colsOk, range_stop (by omega) hp])]; done) | (rw [l10_yes (by rw [colsOk, show cols.length = k by omega, hv])]; done)
abbrev k_cpI (l : List Int) : AV × List (Nat × Rs) := (.own 0, [(0, .arr 3 1 true (l.map intD))])
abbrev K_cpI (l : List Int) : Prop := Con Tryz.prog 185 [.one (.sl 3 1 (l.map intD))] (k_cpI l).1 (k_cpI l).2
theorem cpI (l : List Int) (hl : l.length ≤ 1048576) : K_cpI l := by
 refine con_x tbOk mixedW Tryz.func185 (by kernel_rfl) (.app Int intD ([] : List Int) l <| .fin [(0, 500)]) ?_
 refine Eq.mpr (by kernel_rfl : _ = ((l.map intD).length ≤ 9223372036854775807 → [] = ([] : List Int).map intD ∧ l.map intD = l.map intD ∧ (∀ x, flatB (intD x) = true) ∧ (([] : List Int).length + l.length) * 8 ≤ 140737488355328 ∧ (([] : List Int) ++ l).map intD = l.map intD ∧ True)) ?_
 intro n0
 simp only [List.length_map] at n0
 refine ⟨rfl, rfl, fun _ => rfl, by simp; omega, ?_⟩
 refine ⟨?_, trivial⟩
 ·simp
abbrev k_cpR (l : List (List Int)) : AV × List (Nat × Rs) := (.own 0, [(0, .arr 32 1 true (l.map eIntS))])
abbrev K_cpR (l : List (List Int)) : Prop := Con Tryz.prog 247 [.one (.sl 32 1 (l.map eIntS))] (k_cpR l).1 (k_cpR l).2
theorem cpR (l : List (List Int)) (hc : cIntSS l ≤ 1048576) : K_cpR l := by
 refine con_x tbOk mixedW Tryz.func247 (by kernel_rfl) (.len l.length <| .loop (Nat × (List (List Int))) (Q2 Nat (List (List Int))) [3, 5, 6, 9, 10, 11, 12, 13, 14, 15, 16, 17, 18] [600, 1500, 1600, 1700] (fun yy0 => [(3, .own 600), (9, vI (yy0.1 : Int))]) (fun yy0 => [(600, some (.arr 32 1 true (yy0.2.map eIntS)))]) (fun yy0 => yy0.1 ≤ l.length ∧ yy0.2 = l.take yy0.1) (fun yy0 => l.length - yy0.1) (fun yy0 => .br (.elem _ eIntS l (fun e11 => callP (k_cpI e11) <| .appx (List Int) eIntS yy0.2 e11 <| .back [(600, 1700)])) (.fin [(0, 600)]))) ?_
 refine Eq.mpr (by kernel_rfl : _ = ((l.map eIntS).length ≤ 9223372036854775807 → Lm eIntS l ∧ ((∃ (k : Nat) (out : List (List Int)), (0 : Int) = (k : Int) ∧ [] = out.map eIntS ∧ k ≤ l.length ∧ out = l.take k) ∧ ∀ (k : Nat) (out : List (List Int)), (k ≤ l.length ∧ out = l.take k) → ((decide ((k : Int) < ((l.length : Nat) : Int))) = true → 0 ≤ (k : Int) ∧ Em eIntS l k fun e11 => K_cpI e11 ∧ out.map eIntS = out.map eIntS ∧ e11.map intD = e11.map intD ∧ (out.length + 1) * 24 ≤ 140737488355328 ∧ inR ((k : Int) + (1 : Int)) ∧ ∃ (k' : Nat) (out' : List (List Int)), ((k : Int) + (1 : Int)) = (k' : Int) ∧ (out ++ [e11]).map eIntS = out'.map eIntS ∧ (k' ≤ l.length ∧ out' = l.take k') ∧ l.length - k' < l.length - k) ∧ ((decide ((k : Int) < ((l.length : Nat) : Int))) = false → out.map eIntS = l.map eIntS ∧ True)))) ?_
 intro n0
 simp only [List.length_map] at n0
 have hlen := cIntSS_len l
 refine ⟨List.length_map _, ⟨0, ([] : List (List Int)), rfl, rfl, Nat.zero_le _, rfl⟩, fun k out ⟨hk, ho⟩ => ?_⟩
 refine ⟨fun c0 => ?_, fun c0 => ?_⟩
 ·replace c0 := yq c0
  refine ⟨by omega, rfl, by omega, fun e11 h11 => ?_⟩
  have h5 : e11.length ≤ 1048576 := by have := cIntSS_el h11; have : cIntS e11 = e11.length := rfl; omega
  refine ⟨cpI _ (by omega), rfl, rfl, by simp [ho]; have := cIntSS_len l; omega, ⟨by omega, by omega⟩, ?_⟩
  exact ⟨k + 1, out ++ [e11], rfl, rfl, ⟨by omega, by rw [ho, take_snoc h11]⟩, by omega⟩
 ·replace c0 := nq c0
  refine ⟨?_, trivial⟩
  ·rw [ho, List.take_of_length_le (by omega)]
end Go.Proofs.YtokkjaflmcjlhaaGreat
namespace Go.Proofs.YtokkjaflmcjlhaaGreat
open Go.ChangeShapes Go.WideShapes Go.ChangeAt Go.RowKit
set_option linter.unusedVariables false
set_option linter.unusedSimpArgs false
theorem nan_raw (x : Int) (w : World) : Calls Tryz.prog 314 #[.int .i64 x] w fun e w' => e = .returned (.bool false) ∧ w' = w := by
  go_enter Tryz.func314, Tryz.ntmps314
  go_wp2
  go_ret
  exact ⟨by simp, rfl⟩
theorem cmpI_raw (x y : Int) (w : World) : Calls Tryz.prog 308 #[.int .i64 x, .int .i64 y] w fun e w' => e = .returned (.int .i64 (cmpI x y)) ∧ w' = w := by
  go_enter Tryz.func308, Tryz.ntmps308
  go_wp2_with (go_at_call 314; refine (nan_raw _ _).mono ?_; rintro e w' ⟨rfl, hw⟩; rw [hw])
  all_goals (go_ret; refine ⟨?_, rfl⟩; unfold cmpI; (repeat' split) <;> first | rfl | (exfalso; omega))
/-- What a slice of numbers reads as. -/
def RowV (w : World) (a : Option Addr) (l : List Int) : Prop := ∀ j x, l[j]? = some x → ∃ b o, a = some ⟨b, o, none⟩ ∧ w.cell? ⟨b, o + j, none⟩ = some (.int .i64 x)
set_option maxHeartbeats 1000000 in
theorem compare_raw (a1 a2 : Option Addr) (c1 c2 : Nat) (l m : List Int) (w : World) (hl : l.length ≤ 9223372036854775807) (hm : m.length ≤ 9223372036854775807) (h1 : RowV w a1 l) (h2 : RowV w a2 m) :
    Calls Tryz.prog 285 #[.slice a1 l.length c1, .slice a2 m.length c2] w fun e w' => e = .returned (.int .i64 (cmpR l m)) ∧ w' = w := by
  have H1 := Lib.hid h1
  have H2 := Lib.hid h2
  clear h1 h2
  go_enter Tryz.func285, Tryz.ntmps285
  go_wp2
  go_loop [5, 6, 7, 8, 11] (fun _ _ _ _ s => ∃ k : Nat, s = .int .i64 k ∧ k ≤ l.length ∧ k ≤ m.length ∧ cmpR (l.drop k) (m.drop k) = cmpR l m) (fun _ _ _ _ s => l.length - (intOf s).toNat)
  case atStart => exact ⟨0, rfl, Nat.zero_le _, Nat.zero_le _, rfl⟩
  case round =>
    obtain ⟨k, rfl, hk, hk2, hv⟩ := hrel
    have HV := Lib.hid hv
    clear hv
    by_cases hlt : k < l.length
    · obtain ⟨x, hx⟩ := at_some hlt
      obtain ⟨b1, o1, rfl, g1⟩ := H1.out k x hx
      by_cases hlt2 : k < m.length
      · obtain ⟨y, hy⟩ := at_some hlt2
        obtain ⟨b2, o2, rfl, g2⟩ := H2.out k y hy
        have HD := Lib.hid (show cmpR l m = if cmpI x y = 0 then cmpR (l.drop (k + 1)) (m.drop (k + 1)) else cmpI x y by rw [← HV.out, drop_at hx, drop_at hy, cmpR_cons])
        by_cases hc : cmpI x y = 0
        · have HC := Lib.hid hc
          clear hc
          go_wp2_with (go_at_call 308; refine (cmpI_raw _ _ _).mono ?_; rintro e w' ⟨rfl, hw⟩; rw [hw, HC.out])
          exact ⟨⟨k + 1, by simp, by omega, by omega, by rw [HD.out, if_pos HC.out]⟩, by simp [intOf]; omega⟩
        · have HC := Lib.hid hc
          have hcb : (cmpI x y != 0) = true := by simpa using hc
          clear hc
          go_wp2_with (go_at_call 308; refine (cmpI_raw _ _ _).mono ?_; rintro e w' ⟨rfl, hw⟩; rw [hw])
          go_ret
          refine ⟨?_, rfl⟩
          rw [HD.out, if_neg HC.out]; rfl
      · have hge : m.length ≤ k := by omega
        have HE := Lib.hid (cmpR_stop (l := l) (m := m) (k := k) ⟨hk, hk2⟩ (.inr hlt2))
        go_wp2
        go_ret
        refine ⟨?_, rfl⟩
        rw [← HV.out, HE.out, if_neg (by omega), if_pos (by omega)]; rfl
    · have HE := Lib.hid (cmpR_stop (l := l) (m := m) (k := k) ⟨hk, hk2⟩ (.inl hlt))
      by_cases hlm : l.length < m.length
      · go_wp2
        go_ret
        refine ⟨?_, rfl⟩
        rw [← HV.out, HE.out, if_pos hlm]; rfl
      · go_wp2
        go_ret
        refine ⟨?_, rfl⟩
        rw [← HV.out, HE.out, if_neg hlm, if_neg (by omega)]; rfl
theorem rows_raw (a1 a2 : Option Addr) (c1 c2 : Nat) (l m : List Int) (w : World) (hl : l.length ≤ 9223372036854775807) (hm : m.length ≤ 9223372036854775807) (h1 : RowV w a1 l) (h2 : RowV w a2 m) :
    Calls Tryz.prog 269 #[.slice a1 l.length c1, .slice a2 m.length c2] w fun e w' => e = .returned (.int .i64 (cmpR l m)) ∧ w' = w := by
  have HC := Lib.hid (compare_raw a1 a2 c1 c2 l m w hl hm h1 h2)
  clear h1 h2
  go_enter Tryz.func269, Tryz.ntmps269
  go_wp2_with (go_at_call 285; refine HC.out.mono ?_; rintro e w' ⟨rfl, hw⟩; rw [hw])
  go_ret
  exact ⟨rfl, rfl⟩
end Go.Proofs.YtokkjaflmcjlhaaGreat
namespace Go.Proofs.YtokkjaflmcjlhaaGreat
open Go.ChangeShapes Go.WideShapes Go.ChangeAt Go.RowKit
set_option linter.unusedVariables false
set_option linter.unusedSimpArgs false
set_option maxRecDepth 100000
set_option maxHeartbeats 4000000
theorem cmpR_self (l : List Int) : cmpR l l = 0 := cmpR_zero.2 rfl
theorem cmpR_anti : ∀ {l m : List Int}, cmpR l m < 0 ↔ 0 < cmpR m l
  | [], [] => by simp [cmpR]
  | [], _ :: _ => by simp [cmpR]
  | _ :: _, [] => by simp [cmpR]
  | a :: l, b :: m => by
    simp only [cmpR]
    by_cases h1 : a < b
    · simp [h1, show ¬ b < a by omega]
    · by_cases h2 : b < a
      · simp [h1, h2]
      · simp only [h1, h2, if_false]; exact cmpR_anti
theorem cmpR_trans : ∀ {l m n : List Int}, cmpR l m < 0 → cmpR m n < 0 → cmpR l n < 0
  | [], [], n, h1, _ => by simp [cmpR] at h1
  | [], _ :: _, [], _, h2 => by simp [cmpR] at h2
  | [], _ :: _, _ :: _, _, _ => by simp [cmpR]
  | _ :: _, [], n, h1, _ => by simp [cmpR] at h1
  | a :: l, b :: m, [], _, h2 => by simp [cmpR] at h2
  | a :: l, b :: m, c :: n, h1, h2 => by
    simp only [cmpR] at *
    rcases Int.lt_trichotomy a b with ab | ab | ab
    · rcases Int.lt_trichotomy b c with bc | bc | bc
      · rw [if_pos (by omega)]; decide
      · subst bc; rw [if_pos ab]; decide
      · rw [if_neg (by omega), if_pos bc] at h2; exact absurd h2 (by decide)
    · subst ab
      rcases Int.lt_trichotomy a c with bc | bc | bc
      · rw [if_pos bc]; decide
      · subst bc
        rw [if_neg (by omega), if_neg (by omega)] at *
        exact cmpR_trans h1 h2
      · rw [if_neg (by omega), if_pos bc] at h2; exact absurd h2 (by decide)
    · rw [if_neg (by omega), if_pos ab] at h1; exact absurd h1 (by decide)
theorem cmpR_ntrans {l m n : List Int} (h1 : ¬ cmpR l m < 0) (h2 : ¬ cmpR m n < 0) : ¬ cmpR l n < 0 := by
  intro h
  by_cases e : cmpR l m = 0
  · rw [cmpR_zero.1 e] at h; exact h2 h
  · exact h2 (cmpR_trans (cmpR_anti.2 (by omega)) h)
def leR (a b : List Int) : Bool := decide (cmpR a b ≤ 0)
theorem leR_iff {a b : List Int} : leR a b = true ↔ ¬ cmpR b a < 0 := by
  rw [leR, decide_eq_true_eq]
  constructor
  · intro h q
    have := cmpR_anti.1 q
    omega
  · intro h
    have : ¬ 0 < cmpR a b := fun q => h (cmpR_anti.2 q)
    omega
theorem leR_antisymm {a b : List Int} (h1 : leR a b = true) (h2 : leR b a = true) : a = b := by
  rw [leR_iff] at h1 h2
  have : ¬ 0 < cmpR a b := fun q => h1 (cmpR_anti.2 q)
  exact cmpR_zero.1 (by omega)
def sortR (l : List (List Int)) : List (List Int) := l.mergeSort leR
theorem sortR_perm (l : List (List Int)) : (sortR l).Perm l := List.mergeSort_perm l leR
theorem sortR_pair (l : List (List Int)) : (sortR l).Pairwise (fun a b => leR a b = true) :=
  List.pairwise_mergeSort (fun a b c h1 h2 => by rw [leR_iff] at *; exact cmpR_ntrans h2 h1) (fun a b => by
    by_cases h : cmpR b a < 0
    · have : leR b a = true := by rw [leR, decide_eq_true_eq]; omega
      simp [this]
    · have : leR a b = true := leR_iff.2 h
      simp [this]) l
theorem sortR_eq {l m : List (List Int)} (hp : m.Perm l) (hs : m.Pairwise (fun a b => leR a b = true)) : m = sortR l :=
  List.Perm.eq_of_pairwise (le := fun a b => leR a b = true) (fun a b _ _ h1 h2 => leR_antisymm h1 h2) hs (sortR_pair l) (hp.trans (sortR_perm l).symm)
theorem sortR_len (l : List (List Int)) : (sortR l).length = l.length := (sortR_perm l).length_eq
end Go.Proofs.YtokkjaflmcjlhaaGreat
namespace Go.Proofs.YtokkjaflmcjlhaaGreat
open Go.ChangeShapes Go.WideShapes Go.ChangeAt Go.RowKit Go.Shelf Go.Lib
set_option linter.unusedVariables false
set_option linter.unusedSimpArgs false
theorem owRs_map {w : World} {k : Nat} {ι : Type} (f : ι → List Dat) (g : ι → List Value) (h : ι → List Nat) : ∀ {L : List ι}, (∀ i ∈ L, (f i).length = k ∧ OwCs w (f i) (g i) (h i)) → OwRs w k (L.map f) (L.map g) (L.map h)
  | [], _ => by simp only [List.map_nil]; unfold OwRs; exact ⟨rfl, rfl⟩
  | i :: L, hL => by
    simp only [List.map_cons]
    unfold OwRs
    exact ⟨_, _, _, _, rfl, rfl, (hL i (by simp)).1, (hL i (by simp)).2, owRs_map f g h fun j hj => hL j (by simp [hj])⟩
theorem owRs_lens {w : World} {k : Nat} : ∀ {xs : List (List Dat)} {css : List (List Value)} {Fs : List (List Nat)}, OwRs w k xs css Fs → css.length = xs.length ∧ Fs.length = xs.length
  | [], _, _, h => by unfold OwRs at h; rw [h.1, h.2]; exact ⟨rfl, rfl⟩
  | x :: xs, _, _, h => by
    unfold OwRs at h
    obtain ⟨c, css', F, Fs', rfl, rfl, _, _, h3⟩ := h
    have := owRs_lens h3
    simp [this.1, this.2]
theorem owRs_get {w : World} {k : Nat} : ∀ {xs : List (List Dat)} {css : List (List Value)} {Fs : List (List Nat)} {i : Nat} {x : List Dat}, OwRs w k xs css Fs → xs[i]? = some x → ∃ c F, css[i]? = some c ∧ Fs[i]? = some F ∧ x.length = k ∧ OwCs w x c F
  | [], _, _, _, _, _, hx => by simp at hx
  | y :: xs, _, _, 0, x, h, hx => by
    unfold OwRs at h
    obtain ⟨c, css', F, Fs', rfl, rfl, h1, h2, _⟩ := h
    simp at hx; subst hx
    exact ⟨c, F, rfl, rfl, h1, h2⟩
  | y :: xs, _, _, i + 1, x, h, hx => by
    unfold OwRs at h
    obtain ⟨c, css', F, Fs', rfl, rfl, _, _, h3⟩ := h
    simp at hx
    simpa using owRs_get h3 hx
theorem flat_one : ∀ (l : List (List Value)) (i : Nat) (v : Value), (∀ d ∈ l, d.length = 1) → l[i]? = some [v] → l.flatten[i]? = some v
  | [], i, v, _, h => by simp at h
  | d :: l, 0, v, hd, h => by simp at h; subst h; simp
  | d :: l, i + 1, v, hd, h => by
    have h1 := hd d (by simp)
    rw [List.flatten_cons, List.getElem?_append_right (by omega), h1]
    exact flat_one l i v (fun d' hd' => hd d' (by simp [hd'])) (by simpa using h)
theorem flat_enc {ι : Type} (f : ι → Value) : ∀ L : List ι, (L.map fun i => [f i]).flatten = L.map f
  | [] => rfl
  | i :: L => by rw [List.map_cons, List.flatten_cons, flat_enc f L]; rfl
theorem flat_len : ∀ (l : List (List Value)), (∀ d ∈ l, d.length = 1) → l.flatten.length = l.length
  | [], _ => rfl
  | d :: l, hd => by
    rw [List.flatten_cons, List.length_append, hd d (by simp), flat_len l fun d' hd' => hd d' (by simp [hd'])]
    simp; omega
/-- An owned row of numbers: its value. -/
theorem owRow {w : World} {e : Nat} {r : List Int} {c : List Value} {F : List Nat} (h : OwCs w [.sl e 1 (r.map intD)] c F) : ∃ a cap, c = [.slice a r.length cap] ∧ RowV w a r ∧ (∀ x ∈ a, x.block ∈ F) ∧ r.length ≤ 9223372036854775807 := by
  unfold OwCs at h
  obtain ⟨v, cs', F1, F2, rfl, rfl, h1, h2⟩ := h
  unfold OwCs at h2
  obtain ⟨rfl, rfl⟩ := h2
  unfold OwV at h1
  obtain ⟨css, Fs, q1, q2, q3⟩ := h1
  rcases q1.2 with ⟨rfl, hz⟩ | ⟨g, cap, cur, rfl, _, hb, hn, hcap2, hsz, htk⟩
  · simp at hz
    subst hz
    exact ⟨none, 0, rfl, fun j x hx => by simp at hx, by simp, by simp⟩
  · refine ⟨some ⟨g, 0, none⟩, cap, by simp, fun j x hx => ⟨g, 0, rfl, ?_⟩, fun x hx => ?_, by have : cap ≤ maxLen := hcap2; unfold maxLen at this; simp at hn; omega⟩
    · obtain ⟨c0, F0, g1, _, _, g4⟩ := owRs_get q3 (show (r.map intD)[j]? = some (intD x) by rw [List.getElem?_map, hx]; rfl)
      unfold intD OwCs at g4
      obtain ⟨v0, cs0, _, _, rfl, _, g5, g6⟩ := g4
      unfold OwCs at g6
      obtain ⟨rfl, _⟩ := g6
      unfold OwV at g5
      obtain ⟨rfl, _⟩ := g5
      have hlen : ∀ d ∈ css, d.length = 1 := fun d hd => by
        obtain ⟨i, hi⟩ := List.getElem?_of_mem hd
        have hil : i < (r.map intD).length := by
          have := (owRs_lens q3).1
          have := (List.getElem?_eq_some_iff.1 hi).1
          omega
        obtain ⟨c1, F1, k1, _, k3, k4⟩ := owRs_get q3 (List.getElem?_eq_getElem hil)
        rw [hi] at k1
        injection k1 with k1; subst k1
        rw [List.getElem_map] at k4
        unfold intD OwCs at k4
        obtain ⟨_, _, _, _, rfl, _, _, k6⟩ := k4
        unfold OwCs at k6
        rw [k6.1]; rfl
      have hflat : css.flatten[j]? = some (.int .i64 x) := by
        exact flat_one css j _ hlen g1
      have hj : j < r.length := (List.getElem?_eq_some_iff.1 hx).1
      simp only [World.cell?, hb, Nat.zero_add, Option.isSome_none, Bool.false_eq_true, if_false]
      rw [← Array.getElem?_toList, ← hflat, ← htk, List.getElem?_take_of_lt (by simpa using hj)]
    · simp at hx
      subst hx
      rw [q2]
      simp [Value.ownBlock]
theorem cells_put {w : World} {enc : Nat → Value} {g n : Nat} {os : Array Obj} {cur : Array Value} {e : TypeId} {fr : Nat × Nat} (d : Array Nat) (hb : w.heap[g]? = some (.cells cur e fr)) :
    (sortWorld enc w g 0 n d os).heap[g]? = some (.cells (Go.Sort.putCells enc 0 d cur) e fr) := by
  have hg : g < w.heap.size := (Array.getElem?_eq_some_iff.1 hb).1
  unfold sortWorld
  rw [Go.Sort.heap_grow_old _ _ (by simpa using hg)]
  simp [Go.Sort.putRow, Go.Sort.mapBlock, Go.Sort.ahead, Array.getElem?_modify, hb, Go.Sort.onCells]
theorem cells_kept {w : World} {enc : Nat → Value} {g n k : Nat} {os : Array Obj} (d : Array Nat) (hk : k < w.heap.size) (hne : k ≠ g) : (sortWorld enc w g 0 n d os).heap[k]? = w.heap[k]? := by
  unfold sortWorld
  rw [Go.Sort.heap_grow_old _ _ (by simpa using hk)]
  simp [Go.Sort.putRow, Go.Sort.mapBlock, Go.Sort.ahead, Array.getElem?_modify, Ne.symm hne]
theorem put_take (enc : Nat → Value) (cur : Array Value) (ts : List Nat) (h : ts.length ≤ cur.size) : (Go.Sort.putCells enc 0 ts.toArray cur).toList.take ts.length = ts.map enc := by
  apply List.ext_getElem?
  intro j
  by_cases hj : j < ts.length
  · rw [List.getElem?_take_of_lt hj, Array.getElem?_toList]
    simp [Go.Sort.putCells, hj, show j < cur.size by omega]
  · rw [List.getElem?_take_eq_none (by omega), List.getElem?_eq_none (by simp; omega)]
theorem rowV_kept {w w' : World} {a : Option Addr} {r : List Int} (h : RowV w a r) (hk : ∀ x ∈ a, w'.heap[x.block]? = w.heap[x.block]?) : RowV w' a r := fun j x hx => by
  obtain ⟨b, o, rfl, hc⟩ := h j x hx
  refine ⟨b, o, rfl, ?_⟩
  have := hk ⟨b, o, none⟩ rfl
  unfold World.cell? at *
  simp only at *
  rw [this]; exact hc
end Go.Proofs.YtokkjaflmcjlhaaGreat
namespace Go.Proofs
open Go.Shelf
namespace YtokkjaflmcjlhaaGreat
def Tryz.sortRows_ren : Go.Shelf.Ren := ⟨fun | 6 => 268 | 15 => 278 | 14 => 284 | 28 => 296 | 29 => 297 | 20 => 300 | 21 => 301 | 22 => 302 | 23 => 303 | 24 => 304 | 25 => 305 | 26 => 306 | 27 => 307 | 46 => 315 | 47 => 310 | 48 => 311 | 49 => 316 | 50 => 317 | 57 => 319 | n => n, fun | 22 => 160 | 24 => 32 | 25 => 134 | 3 => 3 | 39 => 247 | 0 => 0 | 53 => 264 | 55 => 266 | 4 => 4 | 46 => 256 | 45 => 255 | 50 => 261 | 5 => 5 | 9 => 9 | 66 => 274 | 70 => 278 | 76 => 283 | 77 => 284 | n => n, fun | n => n⟩
theorem Tryz.sortRows : Go.Proofs.SlLaysF.n6 Tryz.prog Tryz.sortRows_ren := {
  mixed := by kernel_rfl
  f6 := ⟨Tryz.f268.name, by decide, Tryz.func268.trans (congrArg some (by kernel_rfl))⟩
  f14 := ⟨Tryz.f284.name, by decide, Tryz.func284.trans (congrArg some (by kernel_rfl))⟩
  f15 := Tryz.func278.trans (congrArg some (by kernel_rfl))
  f20 := ⟨Tryz.f300.name, by decide, Tryz.func300.trans (congrArg some (by kernel_rfl))⟩
  f21 := ⟨Tryz.f301.name, by decide, Tryz.func301.trans (congrArg some (by kernel_rfl))⟩
  f22 := ⟨Tryz.f302.name, by decide, Tryz.func302.trans (congrArg some (by kernel_rfl))⟩
  f23 := ⟨Tryz.f303.name, by decide, Tryz.func303.trans (congrArg some (by kernel_rfl))⟩
  f24 := ⟨Tryz.f304.name, by decide, Tryz.func304.trans (congrArg some (by kernel_rfl))⟩
  f25 := ⟨Tryz.f305.name, by decide, Tryz.func305.trans (congrArg some (by kernel_rfl))⟩
  f26 := ⟨Tryz.f306.name, by decide, Tryz.func306.trans (congrArg some (by kernel_rfl))⟩
  f27 := ⟨Tryz.f307.name, by decide, Tryz.func307.trans (congrArg some (by kernel_rfl))⟩
  f28 := Tryz.func296.trans (congrArg some (by kernel_rfl))
  f29 := Tryz.func297.trans (congrArg some (by kernel_rfl))
  f46 := ⟨Tryz.f315.name, by decide, Tryz.func315.trans (congrArg some (by kernel_rfl))⟩
  f47 := Tryz.func310.trans (congrArg some (by kernel_rfl))
  f48 := Tryz.func311.trans (congrArg some (by kernel_rfl))
  f49 := ⟨Tryz.f316.name, by decide, Tryz.func316.trans (congrArg some (by kernel_rfl))⟩
  f50 := ⟨Tryz.f317.name, by decide, Tryz.func317.trans (congrArg some (by kernel_rfl))⟩
  f57 := ⟨Tryz.f319.name, by decide, Tryz.func319.trans (congrArg some (by kernel_rfl))⟩
  t0 := Tryz.underlying0
  a0 := Tryz.isAgg0
  z0 := Tryz.sizeOf0
  v0 := Tryz.zeroValue0
  t3 := Tryz.underlying3
  a3 := Tryz.isAgg3
  z3 := Tryz.sizeOf3
  v3 := Tryz.zeroValue3
  t4 := Tryz.underlying4
  a4 := Tryz.isAgg4
  z4 := Tryz.sizeOf4
  v4 := Tryz.zeroValue4
  t5 := Tryz.underlying5
  a5 := Tryz.isAgg5
  z5 := Tryz.sizeOf5
  v5 := Tryz.zeroValue5
  t9 := Tryz.underlying9
  a9 := Tryz.isAgg9
  z9 := Tryz.sizeOf9
  v9 := Tryz.zeroValue9
  t22 := Tryz.underlying160
  a22 := Tryz.isAgg160
  z22 := Tryz.sizeOf160
  v22 := Tryz.zeroValue160
  a24 := Tryz.isAgg32
  z24 := Tryz.sizeOf32
  t25 := Tryz.underlying134
  a25 := Tryz.isAgg134
  z25 := Tryz.sizeOf134
  v25 := Tryz.zeroValue134
  t39 := Tryz.underlying247
  a39 := Tryz.isAgg247
  z39 := Tryz.sizeOf247
  v39 := Tryz.zeroValue247
  t45 := Tryz.underlying255
  a45 := Tryz.isAgg255
  z45 := Tryz.sizeOf255
  v45 := Tryz.zeroValue255
  t46 := Tryz.underlying256
  a46 := Tryz.isAgg256
  z46 := Tryz.sizeOf256
  v46 := Tryz.zeroValue256
  t50 := Tryz.underlying261
  a50 := Tryz.isAgg261
  z50 := Tryz.sizeOf261
  v50 := Tryz.zeroValue261
  t53 := Tryz.underlying264
  a53 := Tryz.isAgg264
  z53 := Tryz.sizeOf264
  v53 := Tryz.zeroValue264
  t55 := Tryz.underlying266
  a55 := Tryz.isAgg266
  z55 := Tryz.sizeOf266
  v55 := Tryz.zeroValue266
  t66 := Tryz.underlying274
  a66 := Tryz.isAgg274
  z66 := Tryz.sizeOf274
  v66 := Tryz.zeroValue274
  t70 := Tryz.underlying278
  a70 := Tryz.isAgg278
  z70 := Tryz.sizeOf278
  v70 := Tryz.zeroValue278
  t76 := Tryz.underlying283
  a76 := Tryz.isAgg283
  z76 := Tryz.sizeOf283
  v76 := Tryz.zeroValue283
  t77 := Tryz.underlying284
  a77 := Tryz.isAgg284
  z77 := Tryz.sizeOf284
  v77 := Tryz.zeroValue284 }
end YtokkjaflmcjlhaaGreat
end Go.Proofs
namespace Go.Proofs.YtokkjaflmcjlhaaGreat
open Go.ChangeShapes Go.WideShapes Go.ChangeAt Go.RowKit Go.Shelf Go.Lib
set_option linter.unusedVariables false
set_option linter.unusedSimpArgs false
set_option maxHeartbeats 2000000 in
theorem con_sort (l : List (List Int)) (hl : l.length < 4611686018427387904) : Con2 Tryz.prog 268 [.own 0, .fn 269 []] [(0, .arr 32 1 true (l.map eIntS))] (.tup []) [(0, .arr 32 1 true ((sortR l).map eIntS))] := by
  refine ⟨by kernel_rfl, by simp, fun A φ w vs hI hm => ?_⟩
  obtain ⟨pl, hp, css, Fs, q1, q2, q3, q4⟩ := hI.dom 0 _ rfl
  unfold MatchL at hm
  obtain ⟨v, us, e1, m1, hm⟩ := hm
  unfold MatchL at hm
  obtain ⟨v2, us2, e2, m2, hm⟩ := hm
  unfold MatchL at hm
  unfold MatchV at m1 m2
  obtain ⟨vs2, ev2, m3⟩ := m2
  unfold MatchL at m3
  have hv := m1 pl hp
  have e3 : vs2 = #[] := by apply Array.ext'; simpa using m3
  have ev : vs = #[pl.val, .func (.func 269) #[] #[]] := by apply Array.ext'; rw [e1, e2, hm, hv, ev2, e3]
  rw [ev]
  have hnd := hI.nodup 0 pl hp
  have hge := hI.ge 0 pl hp
  have hFe : pl.F = pl.val.ownBlock.toList ++ Fs.flatten := by unfold Pl.F; rw [q2, q3]
  have hfoot : ∀ b ∈ pl.F, AllF φ b := fun b hb => ⟨0, pl, trivial, hp, hb⟩
  have h0 : ∀ h pl', φ h = some pl' → h = 0 := fun h pl' e' => by
    cases hr : findH [(0, Rs.arr 32 1 true (l.map eIntS))] h with
    | none => rw [hI.non h hr] at e'; cases e'
    | some r =>
      simp only [findH] at hr
      split at hr
      · assumption
      · cases hr
  obtain ⟨lc, lF⟩ := owRs_lens q4
  rw [List.length_map] at lc lF
  -- the rows, one by one
  have hrow : ∀ i, i < l.length → ∃ a cap F, css[i]? = some [.slice a (l.getD i []).length cap] ∧ Fs[i]? = some F ∧ RowV w a (l.getD i []) ∧ (∀ x ∈ a, x.block ∈ F) ∧ (l.getD i []).length ≤ 9223372036854775807 ∧ OwCs w (eIntS (l.getD i [])) [.slice a (l.getD i []).length cap] F := fun i hi => by
    obtain ⟨r, hr⟩ := at_some hi
    have hg : l.getD i [] = r := by simp [List.getD_eq_getElem?_getD, hr]
    obtain ⟨c, F, g1, g2, _, g4⟩ := owRs_get q4 (show (l.map eIntS)[i]? = some (eIntS r) by rw [List.getElem?_map, hr]; rfl)
    obtain ⟨a, cap, rfl, k1, k2, k3⟩ := owRow g4
    rw [hg]
    exact ⟨a, cap, F, g1, g2, k1, k2, k3, g4⟩
  have hone : ∀ d ∈ css, d.length = 1 := fun d hd => by
    obtain ⟨i, hi⟩ := List.getElem?_of_mem hd
    obtain ⟨a, cap, F, g1, _⟩ := hrow i (by have := (List.getElem?_eq_some_iff.1 hi).1; omega)
    rw [hi] at g1
    injection g1 with g1
    rw [g1]; rfl
  let enc : Nat → Value := fun i => css.flatten.getD i (.slice none 0 0)
  have henc : ∀ i, ∃ a cap, enc i = .slice a (l.getD i []).length cap ∧ RowV w a (l.getD i []) ∧ (∀ x ∈ a, x.block ∈ Fs.flatten) ∧ (l.getD i []).length ≤ 9223372036854775807 := fun i => by
    by_cases hi : i < l.length
    · obtain ⟨a, cap, F, g1, g2, g3, g4, g5, _⟩ := hrow i hi
      refine ⟨a, cap, ?_, g3, fun x hx => List.mem_flatten.2 ⟨F, List.mem_of_getElem? g2, g4 x hx⟩, g5⟩
      show css.flatten.getD i _ = _
      rw [List.getD_eq_getElem?_getD, flat_one css i _ hone g1]; rfl
    · have hg : l.getD i [] = [] := by rw [List.getD_eq_getElem?_getD, List.getElem?_eq_none (by omega)]; rfl
      rw [hg]
      refine ⟨none, 0, ?_, fun j x hx => by simp at hx, by simp, by simp⟩
      show css.flatten.getD i _ = _
      rw [List.getD_eq_getElem?_getD, List.getElem?_eq_none (by rw [flat_len css hone]; omega)]; rfl
  have hend : ∀ (d' : List Nat) (w' : World), d'.Perm (List.range l.length) → (d'.map fun i => l.getD i []).Pairwise (fun a b => leR a b = true) → Only pl.F w w' → (∀ F ∈ Fs, KeptOn F w w') → w'.ownsRow 0 32 1 pl.val l.length (d'.map enc) →
      ∃ v K φ', Ending.returned (.tuple #[]) = .returned v ∧ Out2 A φ w [(0, .arr 32 1 true ((sortR l).map eIntS))] K φ' w' ∧ MatchV K φ' w' (.tup []) v := by
    intro d' w' hperm hsort hon hkeep howns
    have hrange : (List.range l.length).map (fun i => l.getD i []) = l := by
      apply List.ext_getElem?
      intro i
      by_cases hi : i < l.length
      · simp [hi]
      · simp [hi]
    have hl' : d'.map (fun i => l.getD i []) = sortR l := sortR_eq (by have := hperm.map (fun i => l.getD i []); rwa [hrange] at this) hsort
    have hFr : (List.range l.length).map (fun i => Fs.getD i []) = Fs := by
      apply List.ext_getElem?
      intro i
      by_cases hi : i < l.length
      · simp [hi, show i < Fs.length by omega]
      · simp [hi, show ¬ i < Fs.length by omega]
    have hFp : (d'.map fun i => Fs.getD i []).flatten.Perm Fs.flatten := by
      have := (hperm.map (fun i => Fs.getD i [])).flatten
      rwa [hFr] at this
    let pl' : Pl := ⟨pl.val, pl.top, (d'.map fun i => Fs.getD i []).flatten⟩
    have hmem : ∀ g, g ∈ pl'.F ↔ g ∈ pl.F := fun g => by
      simp only [pl', Pl.F, List.mem_append, q3, hFp.mem_iff]
    have hnd' : pl'.F.Nodup := by
      have : pl'.F.Perm pl.F := by simp only [pl', Pl.F, q3]; exact (List.Perm.refl _).append hFp
      exact this.nodup_iff.2 hnd
    refine ⟨_, A, fun h => if h = 0 then some pl' else none, rfl, ⟨⟨hon.os, hon.tape, hon.output, hon.size, fun b hb hn => hon.block b hb (fun hm => hn (hfoot b hm))⟩, fun _ h => h, fun b hb => ⟨Nat.lt_of_lt_of_le (hI.lt b hb) hon.size, .inl hb⟩, fun b hb h pl1 e' hm' => ?_, fun h r hr => ?_, fun h hr => ?_, fun h h' pl1 pl2 hne ea eb => ?_, fun h pl1 e' => ?_, fun h pl1 e' g hg => ?_, fun h pl1 pl0 e' e0 => ?_⟩, ?_⟩
    · split at e'
      · injection e' with e'; subst e'
        exact hI.out b hb 0 pl hp ((hmem b).1 hm')
      · cases e'
    · simp only [findH] at hr
      split at hr
      · rename_i eh
        subst eh
        injection hr with hr
        subst hr
        refine ⟨pl', by simp, d'.map (fun i => [enc i]), d'.map (fun i => Fs.getD i []), ?_, q2, rfl, ?_⟩
        · have e4 : (d'.map fun i => [enc i]).flatten = d'.map enc := flat_enc enc d'
          rw [e4, List.length_map, sortR_len]; exact howns
        · rw [← hl', List.map_map]
          refine owRs_map (fun i => eIntS (l.getD i [])) (fun i => [enc i]) (fun i => Fs.getD i []) fun i hi => ⟨rfl, ?_⟩
          have hil : i < l.length := by simpa using hperm.mem_iff.1 hi
          obtain ⟨a, cap, F, g1, g2, g3, g4, g5, g6⟩ := hrow i hil
          have ee : enc i = .slice a (l.getD i []).length cap := by
            show css.flatten.getD i _ = _
            rw [List.getD_eq_getElem?_getD, flat_one css i _ hone g1]; rfl
          have eF : Fs.getD i [] = F := by simp [List.getD_eq_getElem?_getD, g2]
          rw [ee, eF]
          exact OwCs.kept _ _ _ (hkeep F (List.mem_of_getElem? g2)) g6
      · cases hr
    · simp only [findH] at hr
      split at hr
      · cases hr
      · rename_i eh; exact if_neg eh
    · split at ea
      · split at eb
        · rename_i x y; exact absurd (x.trans y.symm) hne
        · cases eb
      · cases ea
    · split at e'
      · injection e' with e'; subst e'; exact hnd'
      · cases e'
    · split at e'
      · injection e' with e'; subst e'
        have := (hmem g).1 hg
        exact ⟨.inr (hfoot g this), Nat.lt_of_lt_of_le (hge g this) hon.size⟩
      · cases e'
    · split at e'
      · rename_i eh
        subst eh
        rw [hp] at e0
        injection e0 with e0; injection e' with e'
        subst e0; subst e'
        exact ⟨rfl, rfl⟩
      · cases e'
    · unfold MatchV
      exact ⟨#[], rfl, by unfold MatchL; rfl⟩
  rw [List.length_map] at q1
  rcases q1.2 with ⟨hvn, hz⟩ | ⟨g, cap, cur, hvv, hg0, hb, hn, hcap, hsz, htk⟩
  · have hcon := AnyF.slices_SortFunc_none { Tryz.sortRows with } none 0 (.func (.func 269) #[] #[]) w
    change Calls Tryz.prog 268 _ _ _ at hcon
    rw [hvn]
    refine hcon.mono ?_
    rintro en w' ⟨rfl, rfl⟩
    have hz' : l = [] := List.eq_nil_of_length_eq_zero hz
    subst hz'
    exact hend [] w' (by simp) (by simp) (Only.refl _ _) (fun F hF g hg => rfl) (by rw [hvn]; exact ⟨by simp, .inl ⟨rfl, rfl⟩⟩)
  · have hgF : g ∉ Fs.flatten := fun hm => by
      rw [hFe, hvv] at hnd
      simp only [Value.ownBlock, Option.toList_some, List.cons_append, List.nil_append, List.nodup_cons] at hnd
      exact hnd.1 hm
    have hgs : g < w.heap.size := (Array.getElem?_eq_some_iff.1 hb).1
    have hin : ∀ b ∈ Fs.flatten, b < w.heap.size ∧ b ≠ g := fun b hb' => ⟨hge b (by rw [hFe]; exact List.mem_append_right _ hb'), fun e => hgF (e ▸ hb')⟩
    have hO : Go.Sort.SWO (ltOf fun x y : Nat => cmpR (l.getD x []) (l.getD y [])) :=
      { irrefl := fun x => by show decide (cmpR (l.getD x []) (l.getD x []) < 0) = false; rw [cmpR_self]; rfl
        trans := fun x y z h1 h2 => by unfold ltOf at *; rw [decide_eq_true_eq] at *; exact cmpR_trans h1 h2
        ntrans := fun x y z h1 h2 => by unfold ltOf at *; rw [decide_eq_false_iff_not] at *; exact cmpR_ntrans h1 h2 }
    have hcmp : CmpLays1 Tryz.prog 269 #[] enc (fun x y : Nat => cmpR (l.getD x []) (l.getD y [])) g 0 (List.range l.length).toArray.size w := fun m os dk hs x y => by
      obtain ⟨a1, c1, ex, r1, k1, b1⟩ := henc x
      obtain ⟨a2, c2, ey, r2, k2, b2⟩ := henc y
      rw [ex, ey]
      refine (rows_raw a1 a2 c1 c2 _ _ _ b1 b2 (rowV_kept r1 fun q hq => cells_kept dk (hin _ (k1 q hq)).1 (hin _ (k1 q hq)).2) (rowV_kept r2 fun q hq => cells_kept dk (hin _ (k2 q hq)).1 (hin _ (k2 q hq)).2)).mono ?_
      rintro en w' ⟨rfl, rfl⟩
      exact ⟨rfl, 0, #[], by simp [Go.Sort.grow_empty, World.drewN]⟩
    have htk' : cur.toList.take l.length = css.flatten := by rw [Nat.mul_one] at htk; exact htk
    have hH : Go.Sort.Holds enc w g 0 (List.range l.length).toArray := fun j hj => by
      have hj' : j < l.length := by simpa using hj
      refine ⟨?_, by simp [World.frozen?, hb]⟩
      have h1 : (cur.toList.take l.length)[j]? = css.flatten[j]? := by rw [htk']
      rw [List.getElem?_take_of_lt hj'] at h1
      simp only [World.cell?, hb, Nat.zero_add, Option.isSome_none, Bool.false_eq_true, if_false]
      rw [← Array.getElem?_toList, h1]
      obtain ⟨a, cap', F, g1, _⟩ := hrow j hj'
      have h2 := flat_one css j _ hone g1
      have ee : enc j = .slice a (l.getD j []).length cap' := by
        show css.flatten.getD j _ = _
        rw [List.getD_eq_getElem?_getD, h2]; rfl
      have ej : (List.range l.length).toArray[j]! = j := by simp [hj']
      rw [h2, ej, ee]
    have hone1 : OneCell enc := fun x => by
      obtain ⟨a, c, ex, _⟩ := henc x
      rw [ex]; rfl
    have eg : ∀ args w, (callFunc 269 args).run Tryz.prog w = .ok (.enter 269 args) w := enters_of Tryz.func269 (by kernel_rfl) rfl
    have hcon := Any.slices_SortFunc Tryz.sortRows enc hone1 (fun x y : Nat => cmpR (l.getD x []) (l.getD y [])) hO 269 #[] g 0 cap (List.range l.length).toArray w eg hcmp hH hgs (by simpa using hl)
    change Calls Tryz.prog 268 _ _ _ at hcon
    have hsz1 : ((List.range l.length).toArray.size : Nat) = l.length := by simp
    rw [hsz1] at hcon
    rw [hvv]
    refine hcon.mono ?_
    rintro en w' ⟨rfl, d', n, os, hpm, hsd, rfl⟩
    obtain ⟨p1, _, p3⟩ := hpm
    have hds : d'.size = l.length := by simpa using p1
    have hperm : d'.toList.Perm (List.range l.length) := by
      have e1 : (d'.extract 0 l.length).toList = d'.toList := by rw [← hds]; simp
      have e2 : ((List.range l.length).toArray.extract 0 l.length).toList = List.range l.length := by simp
      rw [e1, e2] at p3; exact p3
    have hkb : ∀ k, k < w.heap.size → k ≠ g → (sortWorld enc w g 0 n d' os).heap[k]? = w.heap[k]? := fun k hk hne => cells_kept d' hk hne
    have := hend d'.toList (sortWorld enc w g 0 n d' os) hperm (by
        rw [List.pairwise_map, List.pairwise_iff_getElem]
        intro i j hi hj hij
        have := hsd i j (Nat.zero_le _) hij (by simpa [hds] using hj)
        unfold ltOf at this
        rw [decide_eq_false_iff_not] at this
        rw [leR_iff]
        have ei : d'[i]! = d'.toList[i] := by simp at hi; simp [hi]
        have ej : d'[j]! = d'.toList[j] := by simp at hj; simp [hj]
        rw [← ei, ← ej]; exact this)
      ⟨rfl, rfl, rfl, by simp [sortWorld], fun k hk hne => hkb k hk (fun e => hne (by rw [hFe, hvv, e]; simp [Value.ownBlock]))⟩
      (fun F hF b hb' => hkb b (hin b (List.mem_flatten.2 ⟨F, hF, hb'⟩)).1 (hin b (List.mem_flatten.2 ⟨F, hF, hb'⟩)).2)
      (by
        rw [hvv]
        refine ⟨by simp [hds], .inr ⟨g, cap, _, rfl, hg0, cells_put d' hb, hn, hcap, by simp [Go.Sort.putCells, hsz], ?_⟩⟩
        rw [Nat.mul_one]
        have := put_take enc cur d'.toList (by rw [Array.length_toList, hds]; omega)
        rw [Array.length_toList, hds] at this
        simpa using this)
    exact this
end Go.Proofs.YtokkjaflmcjlhaaGreat
namespace Go.Proofs.YtokkjaflmcjlhaaGreat
open Go.ChangeShapes Go.WideShapes Go.ChangeAt Go.RowKit
set_option linter.unusedVariables false
set_option linter.unusedSimpArgs false
theorem eq_stop {l m : List Int} {k : Nat} {x y : Int} (hx : l[k]? = some x) (hy : m[k]? = some y) (h : (x == y) = false) : decide (l = m) = false := by
  rw [decide_eq_false_iff_not]
  rintro rfl
  rw [hx] at hy
  injection hy with hy
  subst hy
  simp at h
set_option maxHeartbeats 1000000 in
theorem equal_raw (a1 a2 : Option Addr) (c1 c2 : Nat) (l m : List Int) (w : World) (hl : l.length ≤ 9223372036854775807) (hm : m.length ≤ 9223372036854775807) (h1 : RowV w a1 l) (h2 : RowV w a2 m) :
    Calls Tryz.prog 267 #[.slice a1 l.length c1, .slice a2 m.length c2] w fun e w' => e = .returned (.bool (decide (l = m))) ∧ ∃ q, w' = w.drewN q := by
  have mixed := mixedW
  have H1 := Lib.hid h1
  have H2 := Lib.hid h2
  clear h1 h2
  by_cases hlm : l.length = m.length
  · have HL := Lib.hid hlm
    go_enter Tryz.func267, Tryz.ntmps267
    go_wp2
    go_loopg [13] l.length (fun g s wr => ∃ k q : Nat, k ≤ l.length ∧ l.length - k ≤ g ∧ s = .int .i64 k ∧ wr = w.drewN q ∧ Aside (l.take k = m.take k))
    case atStart => exact ⟨0, 0, Nat.zero_le _, by omega, rfl, rfl, rfl⟩
    case round =>
      obtain ⟨k, q, hk, hg, rfl, rfl, A⟩ := hrel
      by_cases hlt : k < l.length
      · obtain ⟨x, hx⟩ := at_some hlt
        obtain ⟨b1, o1, rfl, g1⟩ := H1.out k x hx
        obtain ⟨y, hy⟩ := at_some (l := m) (k := k) (by omega)
        obtain ⟨b2, o2, rfl, g2⟩ := H2.out k y hy
        have HX := Lib.hid hx
        have HY := Lib.hid hy
        clear hx hy
        cases hxy : (x == y) with
        | true =>
          have hne : (x != y) = false := by rw [bne, hxy]; rfl
          go_wp2_with fail
          go_region_o
          go_wp2
          go_roundg (l.length - (k + 1))
          case measure => omega
          case rel => exact ⟨k + 1, q + 1, by omega, by omega, by go_num, rfl, (show Aside _ from take_same HX.out (by rw [HY.out, show x = y by simpa using hxy]) A.out)⟩
        | false =>
          have hne : (x != y) = true := by rw [bne, hxy]; rfl
          go_wp2_with fail
          go_region_o
          go_wp2
          go_ret
          refine ⟨?_, q + 1, rfl⟩
          rw [eq_stop HX.out HY.out hxy]
          rfl
      · go_wp2
        go_ret
        refine ⟨?_, q, rfl⟩
        rw [decide_eq_true (same_take (by omega) HL.out A.out)]
        rfl
  · have hnm : ¬ (l.length : Int) = (m.length : Int) := by omega
    go_enter Tryz.func267, Tryz.ntmps267
    go_wp2
    go_ret
    refine ⟨?_, 0, rfl⟩
    rw [decide_eq_false (ne_len hnm)]
    rfl
theorem eqc_raw (a1 a2 : Option Addr) (c1 c2 : Nat) (l m : List Int) (w : World) (hl : l.length ≤ 9223372036854775807) (hm : m.length ≤ 9223372036854775807) (h1 : RowV w a1 l) (h2 : RowV w a2 m) :
    Calls Tryz.prog 271 #[.slice a1 l.length c1, .slice a2 m.length c2] w fun e w' => e = .returned (.bool (decide (l = m))) ∧ ∃ q, w' = w.drewN q := by
  have HC := Lib.hid (equal_raw a1 a2 c1 c2 l m w hl hm h1 h2)
  clear h1 h2
  go_enter Tryz.func271, Tryz.ntmps271
  go_wp2_with (go_at_call 267; refine HC.out.mono ?_; rintro e w' ⟨rfl, q, hw⟩; rw [hw])
  go_ret
  exact ⟨rfl, _, rfl⟩
end Go.Proofs.YtokkjaflmcjlhaaGreat

