/-
  Contracts and plain laws, joined: part 13.
-/
import Derived.Test.YtokkjaflmcjlhaaGreatQUpdateStore5
import Derived.Test.YtokkjaflmcjlhaaGreatQUpdateStore11
import Derived.Test.YtokkjaflmcjlhaaGreatQUpdateStore9
import Derived.Test.YtokkjaflmcjlhaaGreatQUpdateStore6
import Derived.Shelf.SlicesE.Delete
import Derived.Ground.SlgnProg
import Derived.Test.YtokkjaflmcjlhaaGreatQUpdateStore8
namespace Go.Proofs.YtokkjaflmcjlhaaGreat
open Go.ChangeShapes Go.WideShapes Go.ChangeAt Go.RowKit
set_option linter.unusedVariables false
set_option linter.unusedSimpArgs false
set_option maxRecDepth 100000
set_option maxHeartbeats 4000000
abbrev k_setT_impl (d : DatabaseD) (t : TableD) : AV × List (Nat × Rs) := (.tup [.agg [.own 0], vB ((setT d t).2)], [(0, .arr 162 3 true ((((setT d t).1).tables).map eTable))])
abbrev K_setT_impl (d : DatabaseD) (t : TableD) : Prop := Con Tryz.prog 151 [.agg [.sl 162 3 (d.tables.map eTable)], .agg [.str t.name, .int .i64 t.arity, .sl 32 1 (t.rows.map eIntS)]] (k_setT_impl d t).1 (k_setT_impl d t).2
theorem setT_impl (d : DatabaseD) (t : TableD) (hc : cDatabase d ≤ 1048576) : K_setT_impl d t := by
 refine con_x tbOk mixedW Tryz.func151 (by kernel_rfl) (.call (vB (okDb d)) [] <| .br (callP (k_cpD_impl d) <| .fin [(0, 1900)]) (.call (vB (okTable t)) [] <| .lit <| .lit <| .br (callP (k_cpD_impl d) <| .fin [(0, 1900)]) (.len d.tables.length <| .loop (Nat × (List TableD) × Bool) (Q3 Nat (List TableD) Bool) [7, 9, 24, 25, 26, 27, 28, 29, 30, 31, 32, 33, 34, 35, 36, 37, 38, 39, 40, 41, 42, 43, 44, 45, 46, 47, 48, 49, 50, 51, 52, 53, 54, 55, 56] [600, 900, 4000, 4100, 4200, 5200, 5300, 5400, 9000] (fun yy0 => [(24, vI (yy0.1 : Int)), (7, vB yy0.2.2)]) (fun yy0 => [(600, some (.box 39 [.own 9000])), (9000, some (.arr 162 3 true (yy0.2.1.map eTable)))]) (fun yy0 => yy0.1 ≤ d.tables.length ∧ yy0.2.1.length ≤ 2 * yy0.1 ∧ yy0.2.1 ++ sgo t yy0.2.2 (d.tables.drop yy0.1) = setTL t d.tables) (fun yy0 => d.tables.length - yy0.1) (fun yy0 => .br (.elem _ eTable d.tables (fun e26 => .br (.lit <| .lit <| .lit <| .lit <| .lit <| .br (callP (k_cpT_impl t) <| .appx TableD eTable yy0.2.1 t <| .br (callP (k_cpT_impl e26) <| .appx TableD eTable (yy0.2.1 ++ [t]) e26 <| .back [(600, 600), (9000, 5400)]) (.back [(600, 600), (9000, 4200)])) (.br (callP (k_cpT_impl e26) <| .appx TableD eTable yy0.2.1 e26 <| .back [(600, 600), (9000, 5400)]) (.back [(600, 600), (9000, 9000)]))) (.lit <| .lit <| .lit <| .lit <| .lit <| .lit <| .br (callP (k_cpT_impl e26) <| .appx TableD eTable yy0.2.1 e26 <| .back [(600, 600), (9000, 5400)]) (.back [(600, 600), (9000, 9000)])))) (.br (callP (k_cpT_impl t) <| .appx TableD eTable yy0.2.1 t <| .len ((yy0.2.1 ++ [t]).length) <| .br (callP (k_cpD_impl d) <| .fin [(0, 7100)]) (.fin [(0, 6400)])) (.len yy0.2.1.length <| .br (callP (k_cpD_impl d) <| .fin [(0, 7100)]) (.fin [(0, 9000)]))))))) ?_
 refine Eq.mpr (by kernel_rfl : _ = ((d.tables.map eTable).length ≤ 9223372036854775807 → (t.rows.map eIntS).length ≤ 9223372036854775807 → K_db_impl d ∧ (((!(okDb d)) = true → K_cpD_impl d ∧ (false) = ((setT d t).2) ∧ d.tables.map eTable = (((setT d t).1).tables).map eTable ∧ True) ∧ ((!(okDb d)) = false → K_tab_impl t ∧ (((!(okTable t)) = true → K_cpD_impl d ∧ (false) = ((setT d t).2) ∧ d.tables.map eTable = (((setT d t).1).tables).map eTable ∧ True) ∧ ((!(okTable t)) = false → Lm eTable d.tables ∧ ((∃ (k : Nat) (out : List TableD) (p : Bool), (0 : Int) = (k : Int) ∧ (false) = p ∧ [] = out.map eTable ∧ k ≤ d.tables.length ∧ out.length ≤ 2 * k ∧ out ++ sgo t p (d.tables.drop k) = setTL t d.tables) ∧ ∀ (k : Nat) (out : List TableD) (p : Bool), (k ≤ d.tables.length ∧ out.length ≤ 2 * k ∧ out ++ sgo t p (d.tables.drop k) = setTL t d.tables) → ((decide ((k : Int) < ((d.tables.length : Nat) : Int))) = true → 0 ≤ (k : Int) ∧ Em eTable d.tables k fun e26 => ((!p) = true → ((!(Op.bytesLess e26.name.toList t.name.toList)) = true → K_cpT_impl t ∧ (out.map eTable = out.map eTable ∧ t.name = t.name ∧ t.arity = t.arity ∧ t.rows.map eIntS = t.rows.map eIntS ∧ (out.length + 1) * 48 ≤ 140737488355328 ∧ (((!(e26.name.toList == t.name.toList)) = true → K_cpT_impl e26 ∧ (out ++ [t]).map eTable = (out ++ [t]).map eTable ∧ e26.name = e26.name ∧ e26.arity = e26.arity ∧ e26.rows.map eIntS = e26.rows.map eIntS ∧ ((out ++ [t]).length + 1) * 48 ≤ 140737488355328 ∧ inR ((k : Int) + (1 : Int)) ∧ ∃ (k' : Nat) (out' : List TableD) (p' : Bool), ((k : Int) + (1 : Int)) = (k' : Int) ∧ (true) = p' ∧ ((out ++ [t]) ++ [e26]).map eTable = out'.map eTable ∧ (k' ≤ d.tables.length ∧ out'.length ≤ 2 * k' ∧ out' ++ sgo t p' (d.tables.drop k') = setTL t d.tables) ∧ d.tables.length - k' < d.tables.length - k) ∧ ((!(e26.name.toList == t.name.toList)) = false → inR ((k : Int) + (1 : Int)) ∧ ∃ (k' : Nat) (out' : List TableD) (p' : Bool), ((k : Int) + (1 : Int)) = (k' : Int) ∧ (true) = p' ∧ (out ++ [t]).map eTable = out'.map eTable ∧ (k' ≤ d.tables.length ∧ out'.length ≤ 2 * k' ∧ out' ++ sgo t p' (d.tables.drop k') = setTL t d.tables) ∧ d.tables.length - k' < d.tables.length - k)))) ∧ ((!(Op.bytesLess e26.name.toList t.name.toList)) = false → ((!(e26.name.toList == t.name.toList)) = true → K_cpT_impl e26 ∧ out.map eTable = out.map eTable ∧ e26.name = e26.name ∧ e26.arity = e26.arity ∧ e26.rows.map eIntS = e26.rows.map eIntS ∧ (out.length + 1) * 48 ≤ 140737488355328 ∧ inR ((k : Int) + (1 : Int)) ∧ ∃ (k' : Nat) (out' : List TableD) (p' : Bool), ((k : Int) + (1 : Int)) = (k' : Int) ∧ (p) = p' ∧ (out ++ [e26]).map eTable = out'.map eTable ∧ (k' ≤ d.tables.length ∧ out'.length ≤ 2 * k' ∧ out' ++ sgo t p' (d.tables.drop k') = setTL t d.tables) ∧ d.tables.length - k' < d.tables.length - k) ∧ ((!(e26.name.toList == t.name.toList)) = false → inR ((k : Int) + (1 : Int)) ∧ ∃ (k' : Nat) (out' : List TableD) (p' : Bool), ((k : Int) + (1 : Int)) = (k' : Int) ∧ (p) = p' ∧ out.map eTable = out'.map eTable ∧ (k' ≤ d.tables.length ∧ out'.length ≤ 2 * k' ∧ out' ++ sgo t p' (d.tables.drop k') = setTL t d.tables) ∧ d.tables.length - k' < d.tables.length - k))) ∧ ((!p) = false → ((!(e26.name.toList == t.name.toList)) = true → K_cpT_impl e26 ∧ out.map eTable = out.map eTable ∧ e26.name = e26.name ∧ e26.arity = e26.arity ∧ e26.rows.map eIntS = e26.rows.map eIntS ∧ (out.length + 1) * 48 ≤ 140737488355328 ∧ inR ((k : Int) + (1 : Int)) ∧ ∃ (k' : Nat) (out' : List TableD) (p' : Bool), ((k : Int) + (1 : Int)) = (k' : Int) ∧ (p) = p' ∧ (out ++ [e26]).map eTable = out'.map eTable ∧ (k' ≤ d.tables.length ∧ out'.length ≤ 2 * k' ∧ out' ++ sgo t p' (d.tables.drop k') = setTL t d.tables) ∧ d.tables.length - k' < d.tables.length - k) ∧ ((!(e26.name.toList == t.name.toList)) = false → inR ((k : Int) + (1 : Int)) ∧ ∃ (k' : Nat) (out' : List TableD) (p' : Bool), ((k : Int) + (1 : Int)) = (k' : Int) ∧ (p) = p' ∧ out.map eTable = out'.map eTable ∧ (k' ≤ d.tables.length ∧ out'.length ≤ 2 * k' ∧ out' ++ sgo t p' (d.tables.drop k') = setTL t d.tables) ∧ d.tables.length - k' < d.tables.length - k))) ∧ ((decide ((k : Int) < ((d.tables.length : Nat) : Int))) = false → ((!p) = true → K_cpT_impl t ∧ (out.map eTable = out.map eTable ∧ t.name = t.name ∧ t.arity = t.arity ∧ t.rows.map eIntS = t.rows.map eIntS ∧ (out.length + 1) * 48 ≤ 140737488355328 ∧ (Lm eTable (out ++ [t]) ∧ (((decide ((6 : Int) < (((out ++ [t]).length : Nat) : Int))) = true → K_cpD_impl d ∧ (false) = ((setT d t).2) ∧ d.tables.map eTable = (((setT d t).1).tables).map eTable ∧ True) ∧ ((decide ((6 : Int) < (((out ++ [t]).length : Nat) : Int))) = false → (true) = ((setT d t).2) ∧ (out ++ [t]).map eTable = (((setT d t).1).tables).map eTable ∧ True))))) ∧ ((!p) = false → Lm eTable out ∧ (((decide ((6 : Int) < ((out.length : Nat) : Int))) = true → K_cpD_impl d ∧ (false) = ((setT d t).2) ∧ d.tables.map eTable = (((setT d t).1).tables).map eTable ∧ True) ∧ ((decide ((6 : Int) < ((out.length : Nat) : Int))) = false → (true) = ((setT d t).2) ∧ out.map eTable = (((setT d t).1).tables).map eTable ∧ True))))))))))) ?_
 intro n0 n1
 simp only [List.length_map] at n0 n1
 have q1 : cDatabase d = cTableS d.tables := rfl
 refine ⟨db_impl d, fun g13 => ?_, fun g13 => ?_⟩
 ·replace g13 := nt g13
  have hbad : setT d t = (d, false) := by rw [setT, if_neg (by first | (rw [c0]; simp; done) | (simp [*]; done))]
  refine ⟨cpD_impl _ (by omega), ?_, ?_, trivial⟩
  ·first | (rw [hbad] <;> rfl) | (rw [hok, hL] <;> rfl)
  ·first | (rw [hbad] <;> rfl) | (rw [hok, hL] <;> rfl)
 ·replace g13 := nf g13
  refine ⟨tab_impl t, fun c0 => ?_, fun c0 => ?_⟩
  ·replace c0 := nt c0
   have hbad : setT d t = (d, false) := by rw [setT, if_neg (by first | (rw [c0]; simp; done) | (simp [*]; done))]
   refine ⟨cpD_impl _ (by omega), ?_, ?_, trivial⟩
   ·first | (rw [hbad] <;> rfl) | (rw [hok, hL] <;> rfl)
   ·first | (rw [hbad] <;> rfl) | (rw [hok, hL] <;> rfl)
  ·replace c0 := nf c0
   have hd0 : okDb d = true := by simpa using g13
   have ht0 : okTable t = true := by simpa using c0
   have hts := okTable_small ht0
   have h6 := okDb_len hd0
   refine ⟨List.length_map _, ⟨0, ([] : List TableD), false, rfl, rfl, rfl, Nat.zero_le _, by simp, rfl⟩, fun k out p ⟨hk, hol, hv⟩ => ?_⟩
   refine ⟨fun c1 => ?_, fun c1 => ?_⟩
   ·replace c1 := yq c1
    refine ⟨by omega, rfl, by omega, fun e26 h26 => ?_⟩
    have q3 := cTableS_el h26
    refine ⟨fun g30 => ?_, fun g30 => ?_⟩
    ·replace g30 := nt g30
     refine ⟨fun c2 => ?_, fun c2 => ?_⟩
     ·replace c2 := nt c2
      refine ⟨cpT_impl _ (by omega), rfl, rfl, rfl, rfl, by first | omega | (simp; omega), fun c3 => ?_, fun c3 => ?_⟩
      ·replace c3 := nt c3
       refine ⟨cpT_impl _ (by omega), rfl, rfl, rfl, rfl, by first | omega | (simp; omega), ⟨by omega, by omega⟩, ?_⟩
       exact ⟨k + 1, _, _, rfl, rfl, rfl, ⟨by omega, by first | omega | (simp; omega), by rw [← hv, drop_at h26, sgo]; (try simp at c3); (try rw [c3] at c2); first | (simp [g30, c2, c3]; done) | (simp [g30, c3]; done)⟩, by omega⟩
      ·replace c3 := nf c3
       refine ⟨⟨by omega, by omega⟩, ?_⟩
       exact ⟨k + 1, _, _, rfl, rfl, rfl, ⟨by omega, by first | omega | (simp; omega), by rw [← hv, drop_at h26, sgo]; (try simp at c3); (try rw [c3] at c2); first | (simp [g30, c2, c3]; done) | (simp [g30, c3]; done)⟩, by omega⟩
     ·replace c2 := nf c2
      refine ⟨fun c3 => ?_, fun c3 => ?_⟩
      ·replace c3 := nt c3
       refine ⟨cpT_impl _ (by omega), rfl, rfl, rfl, rfl, by first | omega | (simp; omega), ⟨by omega, by omega⟩, ?_⟩
       exact ⟨k + 1, _, _, rfl, rfl, rfl, ⟨by omega, by first | omega | (simp; omega), by rw [← hv, drop_at h26, sgo]; (try simp at c3); (try rw [c3] at c2); first | (simp [g30, c2, c3]; done) | (simp [g30, c3]; done)⟩, by omega⟩
      ·replace c3 := nf c3
       refine ⟨⟨by omega, by omega⟩, ?_⟩
       exact ⟨k + 1, _, _, rfl, rfl, rfl, ⟨by omega, by first | omega | (simp; omega), by rw [← hv, drop_at h26, sgo]; (try simp at c3); (try rw [c3] at c2); first | (simp [g30, c2, c3]; done) | (simp [g30, c3]; done)⟩, by omega⟩
    ·replace g30 := nf g30
     refine ⟨fun c3 => ?_, fun c3 => ?_⟩
     ·replace c3 := nt c3
      refine ⟨cpT_impl _ (by omega), rfl, rfl, rfl, rfl, by first | omega | (simp; omega), ⟨by omega, by omega⟩, ?_⟩
      exact ⟨k + 1, _, _, rfl, rfl, rfl, ⟨by omega, by first | omega | (simp; omega), by rw [← hv, drop_at h26, sgo]; (try simp at c3); (try rw [c3] at c2); first | (simp [g30, c2, c3]; done) | (simp [g30, c3]; done)⟩, by omega⟩
     ·replace c3 := nf c3
      refine ⟨⟨by omega, by omega⟩, ?_⟩
      exact ⟨k + 1, _, _, rfl, rfl, rfl, ⟨by omega, by first | omega | (simp; omega), by rw [← hv, drop_at h26, sgo]; (try simp at c3); (try rw [c3] at c2); first | (simp [g30, c2, c3]; done) | (simp [g30, c3]; done)⟩, by omega⟩
   ·replace c1 := nq c1
    have hdn : out ++ (if p = true then [] else [t]) = setTL t d.tables := by rw [← hv, drop_end (by omega), sgo]
    refine ⟨fun c4 => ?_, fun c4 => ?_⟩
    ·replace c4 := nt c4
     have hL : setTL t d.tables = out ++ [t] := by rw [← hdn, c4]; rfl
     refine ⟨cpT_impl _ (by omega), rfl, rfl, rfl, rfl, by first | omega | (simp; omega), List.length_map _, fun c5 => ?_, fun c5 => ?_⟩
     ·replace c5 := yq c5
      have hbad : setT d t = (d, false) := by rw [setT, if_neg (by rw [hd0, ht0, hL]; first | (simp; omega) | (simp at c5 ⊢; omega))]
      refine ⟨cpD_impl _ (by omega), ?_, ?_, trivial⟩
      ·first | (rw [hbad] <;> rfl) | (rw [hok, hL] <;> rfl)
      ·first | (rw [hbad] <;> rfl) | (rw [hok, hL] <;> rfl)
     ·replace c5 := nq c5
      have hok : setT d t = (⟨setTL t d.tables⟩, true) := by rw [setT, if_pos (by rw [hd0, ht0, hL]; first | (simp; omega) | (simp at c5 ⊢; omega))]
      refine ⟨?_, ?_, trivial⟩
      ·first | (rw [hbad] <;> rfl) | (rw [hok, hL] <;> rfl)
      ·first | (rw [hbad] <;> rfl) | (rw [hok, hL] <;> rfl)
    ·replace c4 := nf c4
     have hL : setTL t d.tables = out := by rw [← hdn, c4]; simp
     refine ⟨List.length_map _, fun c5 => ?_, fun c5 => ?_⟩
     ·replace c5 := yq c5
      have hbad : setT d t = (d, false) := by rw [setT, if_neg (by rw [hd0, ht0, hL]; first | (simp; omega) | (simp at c5 ⊢; omega))]
      refine ⟨cpD_impl _ (by omega), ?_, ?_, trivial⟩
      ·first | (rw [hbad] <;> rfl) | (rw [hok, hL] <;> rfl)
      ·first | (rw [hbad] <;> rfl) | (rw [hok, hL] <;> rfl)
     ·replace c5 := nq c5
      have hok : setT d t = (⟨setTL t d.tables⟩, true) := by rw [setT, if_pos (by rw [hd0, ht0, hL]; first | (simp; omega) | (simp at c5 ⊢; omega))]
      refine ⟨?_, ?_, trivial⟩
      ·first | (rw [hbad] <;> rfl) | (rw [hok, hL] <;> rfl)
      ·first | (rw [hbad] <;> rfl) | (rw [hok, hL] <;> rfl)
abbrev k_setT_spec (d : DatabaseD) (t : TableD) : AV × List (Nat × Rs) := (.tup [.agg [.own 0], vB ((setT d t).2)], [(0, .arr 162 3 true ((((setT d t).1).tables).map eTable))])
abbrev K_setT_spec (d : DatabaseD) (t : TableD) : Prop := Con Tryz.prog 135 [.agg [.sl 162 3 (d.tables.map eTable)], .agg [.str t.name, .int .i64 t.arity, .sl 32 1 (t.rows.map eIntS)]] (k_setT_spec d t).1 (k_setT_spec d t).2
theorem setT_spec (d : DatabaseD) (t : TableD) (hc : cDatabase d ≤ 1048576) : K_setT_spec d t := by
 refine con_x tbOk mixedW Tryz.func135 (by kernel_rfl) (.call (vB (okDb d)) [] <| .br (callP (k_cpD_spec d) <| .fin [(0, 2100)]) (.call (vB (okTable t)) [] <| .lit <| .lit <| .br (callP (k_cpD_spec d) <| .fin [(0, 2100)]) (.loop (Nat × (List TableD) × Bool) (Q3 Nat (List TableD) Bool) [7, 8, 9, 10, 23, 24, 25, 26, 27, 28, 29, 30, 31, 32, 33, 34, 35, 36, 37, 38, 39, 40, 41, 42, 43, 44, 45, 46, 47, 48, 49, 50, 51, 52, 53, 54, 55, 56, 57, 58, 59, 60, 61, 62, 63, 64, 65, 66, 67, 68, 69, 70, 71] [600, 900, 1000, 4400, 4800, 4900, 6500, 6900, 7000, 9000] (fun yy0 => [(8, vI (yy0.1 : Int)), (7, vB yy0.2.2)]) (fun yy0 => [(600, some (.box 39 [.own 9000])), (9000, some (.arr 162 3 true (yy0.2.1.map eTable)))]) (fun yy0 => yy0.1 ≤ d.tables.length ∧ yy0.2.1.length ≤ 2 * yy0.1 ∧ yy0.2.1 ++ sgo t yy0.2.2 (d.tables.drop yy0.1) = setTL t d.tables) (fun yy0 => d.tables.length - yy0.1) (fun yy0 => .len d.tables.length <| .br (.br (.elem _ eTable d.tables (fun e36 => .lit <| .lit <| .lit <| .lit <| .lit <| .lit <| .br (callP (k_cpT_spec t) <| .appx TableD eTable yy0.2.1 t <| .elem _ eTable d.tables (fun e54 => .br (.elem _ eTable d.tables (fun e63 => callP (k_cpT_spec e63) <| .appx TableD eTable (yy0.2.1 ++ [t]) e63 <| .back [(600, 600), (9000, 7000)])) (.back [(600, 600), (9000, 4900)]))) (.elem _ eTable d.tables (fun e54 => .br (.elem _ eTable d.tables (fun e63 => callP (k_cpT_spec e63) <| .appx TableD eTable yy0.2.1 e63 <| .back [(600, 600), (9000, 7000)])) (.back [(600, 600), (9000, 9000)]))))) (.elem _ eTable d.tables (fun e54 => .br (.elem _ eTable d.tables (fun e63 => callP (k_cpT_spec e63) <| .appx TableD eTable yy0.2.1 e63 <| .back [(600, 600), (9000, 7000)])) (.back [(600, 600), (9000, 9000)])))) (.br (callP (k_cpT_spec t) <| .appx TableD eTable yy0.2.1 t <| .call (vB (okDb (⟨yy0.2.1 ++ [t]⟩ : DatabaseD))) [] <| .br (callP (k_cpD_spec d) <| .fin [(0, 8600)]) (.fin [(0, 8000)])) (.call (vB (okDb (⟨yy0.2.1⟩ : DatabaseD))) [] <| .br (callP (k_cpD_spec d) <| .fin [(0, 8600)]) (.fin [(0, 9000)]))))))) ?_
 refine Eq.mpr (by kernel_rfl : _ = ((d.tables.map eTable).length ≤ 9223372036854775807 → (t.rows.map eIntS).length ≤ 9223372036854775807 → K_db_spec d ∧ (((!(okDb d)) = true → K_cpD_spec d ∧ (false) = ((setT d t).2) ∧ d.tables.map eTable = (((setT d t).1).tables).map eTable ∧ True) ∧ ((!(okDb d)) = false → K_tab_spec t ∧ (((!(okTable t)) = true → K_cpD_spec d ∧ (false) = ((setT d t).2) ∧ d.tables.map eTable = (((setT d t).1).tables).map eTable ∧ True) ∧ ((!(okTable t)) = false → (∃ (k : Nat) (out : List TableD) (p : Bool), (0 : Int) = (k : Int) ∧ (false) = p ∧ [] = out.map eTable ∧ k ≤ d.tables.length ∧ out.length ≤ 2 * k ∧ out ++ sgo t p (d.tables.drop k) = setTL t d.tables) ∧ ∀ (k : Nat) (out : List TableD) (p : Bool), (k ≤ d.tables.length ∧ out.length ≤ 2 * k ∧ out ++ sgo t p (d.tables.drop k) = setTL t d.tables) → Lm eTable d.tables ∧ (((decide ((k : Int) < ((d.tables.length : Nat) : Int))) = true → ((!p) = true → 0 ≤ (k : Int) ∧ Em eTable d.tables k fun e36 => ((!(Op.bytesLess e36.name.toList t.name.toList)) = true → K_cpT_spec t ∧ (out.map eTable = out.map eTable ∧ t.name = t.name ∧ t.arity = t.arity ∧ t.rows.map eIntS = t.rows.map eIntS ∧ (out.length + 1) * 48 ≤ 140737488355328 ∧ (0 ≤ (k : Int) ∧ Em eTable d.tables k fun e54 => ((!(e54.name.toList == t.name.toList)) = true → 0 ≤ (k : Int) ∧ Em eTable d.tables k fun e63 => K_cpT_spec e63 ∧ (out ++ [t]).map eTable = (out ++ [t]).map eTable ∧ e63.name = e63.name ∧ e63.arity = e63.arity ∧ e63.rows.map eIntS = e63.rows.map eIntS ∧ ((out ++ [t]).length + 1) * 48 ≤ 140737488355328 ∧ inR ((k : Int) + (1 : Int)) ∧ ∃ (k' : Nat) (out' : List TableD) (p' : Bool), ((k : Int) + (1 : Int)) = (k' : Int) ∧ (true) = p' ∧ ((out ++ [t]) ++ [e63]).map eTable = out'.map eTable ∧ (k' ≤ d.tables.length ∧ out'.length ≤ 2 * k' ∧ out' ++ sgo t p' (d.tables.drop k') = setTL t d.tables) ∧ d.tables.length - k' < d.tables.length - k) ∧ ((!(e54.name.toList == t.name.toList)) = false → inR ((k : Int) + (1 : Int)) ∧ ∃ (k' : Nat) (out' : List TableD) (p' : Bool), ((k : Int) + (1 : Int)) = (k' : Int) ∧ (true) = p' ∧ (out ++ [t]).map eTable = out'.map eTable ∧ (k' ≤ d.tables.length ∧ out'.length ≤ 2 * k' ∧ out' ++ sgo t p' (d.tables.drop k') = setTL t d.tables) ∧ d.tables.length - k' < d.tables.length - k)))) ∧ ((!(Op.bytesLess e36.name.toList t.name.toList)) = false → 0 ≤ (k : Int) ∧ Em eTable d.tables k fun e54 => ((!(e54.name.toList == t.name.toList)) = true → 0 ≤ (k : Int) ∧ Em eTable d.tables k fun e63 => K_cpT_spec e63 ∧ out.map eTable = out.map eTable ∧ e63.name = e63.name ∧ e63.arity = e63.arity ∧ e63.rows.map eIntS = e63.rows.map eIntS ∧ (out.length + 1) * 48 ≤ 140737488355328 ∧ inR ((k : Int) + (1 : Int)) ∧ ∃ (k' : Nat) (out' : List TableD) (p' : Bool), ((k : Int) + (1 : Int)) = (k' : Int) ∧ (p) = p' ∧ (out ++ [e63]).map eTable = out'.map eTable ∧ (k' ≤ d.tables.length ∧ out'.length ≤ 2 * k' ∧ out' ++ sgo t p' (d.tables.drop k') = setTL t d.tables) ∧ d.tables.length - k' < d.tables.length - k) ∧ ((!(e54.name.toList == t.name.toList)) = false → inR ((k : Int) + (1 : Int)) ∧ ∃ (k' : Nat) (out' : List TableD) (p' : Bool), ((k : Int) + (1 : Int)) = (k' : Int) ∧ (p) = p' ∧ out.map eTable = out'.map eTable ∧ (k' ≤ d.tables.length ∧ out'.length ≤ 2 * k' ∧ out' ++ sgo t p' (d.tables.drop k') = setTL t d.tables) ∧ d.tables.length - k' < d.tables.length - k))) ∧ ((!p) = false → 0 ≤ (k : Int) ∧ Em eTable d.tables k fun e54 => ((!(e54.name.toList == t.name.toList)) = true → 0 ≤ (k : Int) ∧ Em eTable d.tables k fun e63 => K_cpT_spec e63 ∧ out.map eTable = out.map eTable ∧ e63.name = e63.name ∧ e63.arity = e63.arity ∧ e63.rows.map eIntS = e63.rows.map eIntS ∧ (out.length + 1) * 48 ≤ 140737488355328 ∧ inR ((k : Int) + (1 : Int)) ∧ ∃ (k' : Nat) (out' : List TableD) (p' : Bool), ((k : Int) + (1 : Int)) = (k' : Int) ∧ (p) = p' ∧ (out ++ [e63]).map eTable = out'.map eTable ∧ (k' ≤ d.tables.length ∧ out'.length ≤ 2 * k' ∧ out' ++ sgo t p' (d.tables.drop k') = setTL t d.tables) ∧ d.tables.length - k' < d.tables.length - k) ∧ ((!(e54.name.toList == t.name.toList)) = false → inR ((k : Int) + (1 : Int)) ∧ ∃ (k' : Nat) (out' : List TableD) (p' : Bool), ((k : Int) + (1 : Int)) = (k' : Int) ∧ (p) = p' ∧ out.map eTable = out'.map eTable ∧ (k' ≤ d.tables.length ∧ out'.length ≤ 2 * k' ∧ out' ++ sgo t p' (d.tables.drop k') = setTL t d.tables) ∧ d.tables.length - k' < d.tables.length - k))) ∧ ((decide ((k : Int) < ((d.tables.length : Nat) : Int))) = false → ((!p) = true → K_cpT_spec t ∧ (out.map eTable = out.map eTable ∧ t.name = t.name ∧ t.arity = t.arity ∧ t.rows.map eIntS = t.rows.map eIntS ∧ (out.length + 1) * 48 ≤ 140737488355328 ∧ (K_db_spec (⟨out ++ [t]⟩ : DatabaseD) ∧ (((!(okDb (⟨out ++ [t]⟩ : DatabaseD))) = true → K_cpD_spec d ∧ (false) = ((setT d t).2) ∧ d.tables.map eTable = (((setT d t).1).tables).map eTable ∧ True) ∧ ((!(okDb (⟨out ++ [t]⟩ : DatabaseD))) = false → (true) = ((setT d t).2) ∧ (out ++ [t]).map eTable = (((setT d t).1).tables).map eTable ∧ True))))) ∧ ((!p) = false → K_db_spec (⟨out⟩ : DatabaseD) ∧ (((!(okDb (⟨out⟩ : DatabaseD))) = true → K_cpD_spec d ∧ (false) = ((setT d t).2) ∧ d.tables.map eTable = (((setT d t).1).tables).map eTable ∧ True) ∧ ((!(okDb (⟨out⟩ : DatabaseD))) = false → (true) = ((setT d t).2) ∧ out.map eTable = (((setT d t).1).tables).map eTable ∧ True))))))))))) ?_
 intro n0 n1
 simp only [List.length_map] at n0 n1
 have q1 : cDatabase d = cTableS d.tables := rfl
 refine ⟨db_spec d, fun g15 => ?_, fun g15 => ?_⟩
 ·replace g15 := nt g15
  have hbad : setT d t = (d, false) := by rw [setT, if_neg (by first | (rw [c0]; simp; done) | (simp [*]; done))]
  refine ⟨cpD_spec _ (by omega), ?_, ?_, trivial⟩
  ·first | (rw [hbad] <;> rfl) | (rw [hok, hL] <;> rfl)
  ·first | (rw [hbad] <;> rfl) | (rw [hok, hL] <;> rfl)
 ·replace g15 := nf g15
  refine ⟨tab_spec t, fun c0 => ?_, fun c0 => ?_⟩
  ·replace c0 := nt c0
   have hbad : setT d t = (d, false) := by rw [setT, if_neg (by first | (rw [c0]; simp; done) | (simp [*]; done))]
   refine ⟨cpD_spec _ (by omega), ?_, ?_, trivial⟩
   ·first | (rw [hbad] <;> rfl) | (rw [hok, hL] <;> rfl)
   ·first | (rw [hbad] <;> rfl) | (rw [hok, hL] <;> rfl)
  ·replace c0 := nf c0
   have hd0 : okDb d = true := by simpa using g15
   have ht0 : okTable t = true := by simpa using c0
   have hts := okTable_small ht0
   have h6 := okDb_len hd0
   refine ⟨⟨0, ([] : List TableD), false, rfl, rfl, rfl, Nat.zero_le _, by simp, rfl⟩, fun k out p ⟨hk, hol, hv⟩ => ?_⟩
   refine ⟨List.length_map _, fun c1 => ?_, fun c1 => ?_⟩
   ·replace c1 := yq c1
    refine ⟨fun g32 => ?_, fun g32 => ?_⟩
    ·replace g32 := nt g32
     refine ⟨by omega, rfl, by omega, fun e36 h36 => ?_⟩
     refine ⟨fun c2 => ?_, fun c2 => ?_⟩
     ·replace c2 := nt c2
      refine ⟨cpT_spec _ (by omega), rfl, rfl, rfl, rfl, by first | omega | (simp; omega), by omega, rfl, by omega, fun e54 h54 => ?_⟩
      try (obtain rfl := (same_at h36 h54).symm)
      have q3 := cTableS_el h54
      refine ⟨fun c3 => ?_, fun c3 => ?_⟩
      ·replace c3 := nt c3
       refine ⟨by omega, rfl, by omega, fun e63 h63 => ?_⟩
       obtain rfl := (same_at h54 h63).symm
       refine ⟨cpT_spec _ (by omega), rfl, rfl, rfl, rfl, by first | omega | (simp; omega), ⟨by omega, by omega⟩, ?_⟩
       exact ⟨k + 1, _, _, rfl, rfl, rfl, ⟨by omega, by first | omega | (simp; omega), by rw [← hv, drop_at h54, sgo]; (try simp at c3); (try rw [c3] at c2); first | (simp [g32, c2, c3]; done) | (simp [g32, c3]; done)⟩, by omega⟩
      ·replace c3 := nf c3
       refine ⟨⟨by omega, by omega⟩, ?_⟩
       exact ⟨k + 1, _, _, rfl, rfl, rfl, ⟨by omega, by first | omega | (simp; omega), by rw [← hv, drop_at h54, sgo]; (try simp at c3); (try rw [c3] at c2); first | (simp [g32, c2, c3]; done) | (simp [g32, c3]; done)⟩, by omega⟩
     ·replace c2 := nf c2
      refine ⟨by omega, rfl, by omega, fun e54 h54 => ?_⟩
      try (obtain rfl := (same_at h36 h54).symm)
      have q3 := cTableS_el h54
      refine ⟨fun c3 => ?_, fun c3 => ?_⟩
      ·replace c3 := nt c3
       refine ⟨by omega, rfl, by omega, fun e63 h63 => ?_⟩
       obtain rfl := (same_at h54 h63).symm
       refine ⟨cpT_spec _ (by omega), rfl, rfl, rfl, rfl, by first | omega | (simp; omega), ⟨by omega, by omega⟩, ?_⟩
       exact ⟨k + 1, _, _, rfl, rfl, rfl, ⟨by omega, by first | omega | (simp; omega), by rw [← hv, drop_at h54, sgo]; (try simp at c3); (try rw [c3] at c2); first | (simp [g32, c2, c3]; done) | (simp [g32, c3]; done)⟩, by omega⟩
      ·replace c3 := nf c3
       refine ⟨⟨by omega, by omega⟩, ?_⟩
       exact ⟨k + 1, _, _, rfl, rfl, rfl, ⟨by omega, by first | omega | (simp; omega), by rw [← hv, drop_at h54, sgo]; (try simp at c3); (try rw [c3] at c2); first | (simp [g32, c2, c3]; done) | (simp [g32, c3]; done)⟩, by omega⟩
    ·replace g32 := nf g32
     refine ⟨by omega, rfl, by omega, fun e54 h54 => ?_⟩
     try (obtain rfl := (same_at h36 h54).symm)
     have q3 := cTableS_el h54
     refine ⟨fun c3 => ?_, fun c3 => ?_⟩
     ·replace c3 := nt c3
      refine ⟨by omega, rfl, by omega, fun e63 h63 => ?_⟩
      obtain rfl := (same_at h54 h63).symm
      refine ⟨cpT_spec _ (by omega), rfl, rfl, rfl, rfl, by first | omega | (simp; omega), ⟨by omega, by omega⟩, ?_⟩
      exact ⟨k + 1, _, _, rfl, rfl, rfl, ⟨by omega, by first | omega | (simp; omega), by rw [← hv, drop_at h54, sgo]; (try simp at c3); (try rw [c3] at c2); first | (simp [g32, c2, c3]; done) | (simp [g32, c3]; done)⟩, by omega⟩
     ·replace c3 := nf c3
      refine ⟨⟨by omega, by omega⟩, ?_⟩
      exact ⟨k + 1, _, _, rfl, rfl, rfl, ⟨by omega, by first | omega | (simp; omega), by rw [← hv, drop_at h54, sgo]; (try simp at c3); (try rw [c3] at c2); first | (simp [g32, c2, c3]; done) | (simp [g32, c3]; done)⟩, by omega⟩
   ·replace c1 := nq c1
    have hdn : out ++ (if p = true then [] else [t]) = setTL t d.tables := by rw [← hv, drop_end (by omega), sgo]
    refine ⟨fun c4 => ?_, fun c4 => ?_⟩
    ·replace c4 := nt c4
     have hL : setTL t d.tables = out ++ [t] := by rw [← hdn, c4]; rfl
     refine ⟨cpT_spec _ (by omega), rfl, rfl, rfl, rfl, by first | omega | (simp; omega), db_spec (⟨out ++ [t]⟩ : DatabaseD), fun c5 => ?_, fun c5 => ?_⟩
     ·replace c5 := nt c5
      have hbad : setT d t = (d, false) := by rw [setT, if_neg (by rw [hd0, ht0, ← setTL_ok hd0 ht0, hL, c5]; decide)]
      refine ⟨cpD_spec _ (by omega), ?_, ?_, trivial⟩
      ·first | (rw [hbad] <;> rfl) | (rw [hok, hL] <;> rfl)
      ·first | (rw [hbad] <;> rfl) | (rw [hok, hL] <;> rfl)
     ·replace c5 := nf c5
      have hok : setT d t = (⟨setTL t d.tables⟩, true) := by rw [setT, if_pos (by rw [hd0, ht0, ← setTL_ok hd0 ht0, hL, c5]; rfl)]
      refine ⟨?_, ?_, trivial⟩
      ·first | (rw [hbad] <;> rfl) | (rw [hok, hL] <;> rfl)
      ·first | (rw [hbad] <;> rfl) | (rw [hok, hL] <;> rfl)
    ·replace c4 := nf c4
     have hL : setTL t d.tables = out := by rw [← hdn, c4]; simp
     refine ⟨db_spec (⟨out⟩ : DatabaseD), fun c5 => ?_, fun c5 => ?_⟩
     ·replace c5 := nt c5
      have hbad : setT d t = (d, false) := by rw [setT, if_neg (by rw [hd0, ht0, ← setTL_ok hd0 ht0, hL, c5]; decide)]
      refine ⟨cpD_spec _ (by omega), ?_, ?_, trivial⟩
      ·first | (rw [hbad] <;> rfl) | (rw [hok, hL] <;> rfl)
      ·first | (rw [hbad] <;> rfl) | (rw [hok, hL] <;> rfl)
     ·replace c5 := nf c5
      have hok : setT d t = (⟨setTL t d.tables⟩, true) := by rw [setT, if_pos (by rw [hd0, ht0, ← setTL_ok hd0 ht0, hL, c5]; rfl)]
      refine ⟨?_, ?_, trivial⟩
      ·first | (rw [hbad] <;> rfl) | (rw [hok, hL] <;> rfl)
      ·first | (rw [hbad] <;> rfl) | (rw [hok, hL] <;> rfl)
end Go.Proofs.YtokkjaflmcjlhaaGreat
namespace Go.Proofs
open Go.Shelf
namespace YtokkjaflmcjlhaaGreat
def Tryz.dlRows_ren : Go.Shelf.Ren := ⟨fun | 45 => 230 | n => n, fun | 22 => 160 | 23 => 32 | 3 => 3 | 4 => 4 | 0 => 0 | n => n, fun | n => n⟩
theorem Tryz.dlRows : Go.Proofs.SlLaysE.n45 Tryz.prog Tryz.dlRows_ren := {
  mixed := by kernel_rfl
  f45 := ⟨Tryz.f230.name, by decide, Tryz.func230.trans (congrArg some (by kernel_rfl))⟩
  t0 := Tryz.underlying0
  a0 := Tryz.isAgg0
  z0 := Tryz.sizeOf0
  v0 := Tryz.zeroValue0
  t3 := Tryz.underlying3
  a3 := Tryz.isAgg3
  z3 := Tryz.sizeOf3
  v3 := Tryz.zeroValue3
  t4 := Tryz.underlying4
  a4 := Tryz.isAgg4
  z4 := Tryz.sizeOf4
  v4 := Tryz.zeroValue4
  t22 := Tryz.underlying160
  a22 := Tryz.isAgg160
  z22 := Tryz.sizeOf160
  v22 := Tryz.zeroValue160
  a23 := Tryz.isAgg32
  z23 := Tryz.sizeOf32 }
end YtokkjaflmcjlhaaGreat
end Go.Proofs
namespace Go.Proofs.YtokkjaflmcjlhaaGreat
open Go.ChangeShapes Go.WideShapes Go.ChangeAt Go.RowKit Go.Shelf Go.Lib
set_option linter.unusedVariables false
set_option linter.unusedSimpArgs false
noncomputable def elI : TypeInfo := (Tryz.prog.info? 32).get (by kernel_rfl)
theorem tyRow : tyOf Tryz.prog 32 = some (false, 1, 24, .slice none 0 0) := by kernel_rfl
theorem zeroRow (w : World) : (zeroValue 32).run Tryz.prog w = .ok (.slice none 0 0) w := (tyOf_spec tyRow w).2.2.1
def delL (l : List (List Int)) (k : Nat) : List Nat := (List.range l.length).eraseIdx k
theorem delL_lt {l : List (List Int)} {k i : Nat} (h : i ∈ delL l k) : i < l.length := List.mem_range.1 ((List.eraseIdx_sublist _ _).mem h)
theorem delL_map (l : List (List Int)) (k : Nat) : l.eraseIdx k = (delL l k).map fun i => l.getD i [] := by
  have e : l = (List.range l.length).map fun i => l.getD i [] := by
    apply List.ext_getElem?
    intro i
    by_cases hi : i < l.length
    · simp [hi]
    · simp [hi, List.getElem?_eq_none (show l.length ≤ i by omega)]
  conv => lhs; rw [e]
  rw [delL, List.eraseIdx_eq_take_drop_succ, List.eraseIdx_eq_take_drop_succ, List.map_append, List.map_take, List.map_drop]
set_option maxHeartbeats 2000000 in
theorem con_delete (l : List (List Int)) (i j : Int) (k : Nat) (hi : i = (k : Int)) (hj : j = (k : Int) + 1) (hk : k < l.length) (hl : l.length < 4611686018427387904) : Con2 Tryz.prog 230 [.own 0, vI i, vI j] [(0, .arr 32 1 true (l.map eIntS))] (.own 1) [(1, .arr 32 1 true ((l.eraseIdx k).map eIntS))] := by
  refine ⟨by kernel_rfl, by simp, fun A φ w vs hI hm => ?_⟩
  obtain ⟨pl, hp, css, Fs, q1, q2, q3, q4⟩ := hI.dom 0 _ rfl
  unfold MatchL at hm
  obtain ⟨v, us, e1, m1, hm⟩ := hm
  unfold MatchL at hm
  obtain ⟨v2, us2, e2, m2, hm⟩ := hm
  unfold MatchL at hm
  obtain ⟨v3, us3, e3, m3, hm⟩ := hm
  unfold MatchL at hm
  unfold MatchV at m1 m2 m3
  unfold RdV at m2 m3
  have hv := m1 pl hp
  subst hi hj
  have ev : vs = #[pl.val, .int .i64 (k : Int), .int .i64 ((k : Int) + 1)] := by apply Array.ext'; rw [e1, e2, e3, hm, hv, m2, m3]
  rw [ev]
  have hnd := hI.nodup 0 pl hp
  have hge := hI.ge 0 pl hp
  have hFe : pl.F = pl.val.ownBlock.toList ++ Fs.flatten := by unfold Pl.F; rw [q2, q3]
  have hfoot : ∀ b ∈ pl.F, AllF φ b := fun b hb => ⟨0, pl, trivial, hp, hb⟩
  have h0 : ∀ h pl', φ h = some pl' → h = 0 := fun h pl' e' => by
    cases hr : findH [(0, Rs.arr 32 1 true (l.map eIntS))] h with
    | none => rw [hI.non h hr] at e'; cases e'
    | some r =>
      simp only [findH] at hr
      split at hr
      · assumption
      · cases hr
  obtain ⟨lc, lF⟩ := owRs_lens q4
  rw [List.length_map] at lc lF
  -- the rows, one by one
  have hrow : ∀ i, i < l.length → ∃ a cap F, css[i]? = some [.slice a (l.getD i []).length cap] ∧ Fs[i]? = some F ∧ RowV w a (l.getD i []) ∧ (∀ x ∈ a, x.block ∈ F) ∧ (l.getD i []).length ≤ 9223372036854775807 ∧ OwCs w (eIntS (l.getD i [])) [.slice a (l.getD i []).length cap] F := fun i hi => by
    obtain ⟨r, hr⟩ := at_some hi
    have hg : l.getD i [] = r := by simp [List.getD_eq_getElem?_getD, hr]
    obtain ⟨c, F, g1, g2, _, g4⟩ := owRs_get q4 (show (l.map eIntS)[i]? = some (eIntS r) by rw [List.getElem?_map, hr]; rfl)
    obtain ⟨a, cap, rfl, k1, k2, k3⟩ := owRow g4
    rw [hg]
    exact ⟨a, cap, F, g1, g2, k1, k2, k3, g4⟩
  have hone : ∀ d ∈ css, d.length = 1 := fun d hd => by
    obtain ⟨i, hi⟩ := List.getElem?_of_mem hd
    obtain ⟨a, cap, F, g1, _⟩ := hrow i (by have := (List.getElem?_eq_some_iff.1 hi).1; omega)
    rw [hi] at g1
    injection g1 with g1
    rw [g1]; rfl
  let enc : Nat → Value := fun i => css.flatten.getD i (.slice none 0 0)
  have henc : ∀ i, ∃ a cap, enc i = .slice a (l.getD i []).length cap ∧ RowV w a (l.getD i []) ∧ (∀ x ∈ a, x.block ∈ Fs.flatten) ∧ (l.getD i []).length ≤ 9223372036854775807 := fun i => by
    by_cases hi : i < l.length
    · obtain ⟨a, cap, F, g1, g2, g3, g4, g5, _⟩ := hrow i hi
      refine ⟨a, cap, ?_, g3, fun x hx => List.mem_flatten.2 ⟨F, List.mem_of_getElem? g2, g4 x hx⟩, g5⟩
      show css.flatten.getD i _ = _
      rw [List.getD_eq_getElem?_getD, flat_one css i _ hone g1]; rfl
    · have hg : l.getD i [] = [] := by rw [List.getD_eq_getElem?_getD, List.getElem?_eq_none (by omega)]; rfl
      rw [hg]
      refine ⟨none, 0, ?_, fun j x hx => by simp at hx, by simp, by simp⟩
      show css.flatten.getD i _ = _
      rw [List.getD_eq_getElem?_getD, List.getElem?_eq_none (by rw [flat_len css hone]; omega)]; rfl
  have h1 : φ 1 = none := hI.non 1 rfl
  have hend : ∀ (v' : Value) (w' : World), Only pl.F w w' → (∀ F ∈ Fs, KeptOn F w w') → (∀ b ∈ v'.ownBlock, b ∈ pl.val.ownBlock) → w'.ownsRow 0 32 1 v' (delL l k).length ((delL l k).map enc) →
      ∃ v K φ', Ending.returned v' = .returned v ∧ Out2 A φ w [(1, .arr 32 1 true ((l.eraseIdx k).map eIntS))] K φ' w' ∧ MatchV K φ' w' (.own 1) v := by
    intro v' w' hon hkeep hvb howns
    have hFr : (List.range l.length).map (fun i => Fs.getD i []) = Fs := by
      apply List.ext_getElem?
      intro i
      by_cases hi : i < l.length
      · simp [hi, show i < Fs.length by omega]
      · simp [hi, show ¬ i < Fs.length by omega]
    have hsub : List.Sublist ((delL l k).map fun i => Fs.getD i []).flatten Fs.flatten := by
      have : List.Sublist ((delL l k).map fun i => Fs.getD i []) ((List.range l.length).map fun i => Fs.getD i []) := (List.eraseIdx_sublist _ _).map _
      rw [hFr] at this
      exact sub_flat this
    let pl' : Pl := ⟨v', v'.ownBlock.toList, ((delL l k).map fun i => Fs.getD i []).flatten⟩
    have hmem : ∀ g, g ∈ pl'.F → g ∈ pl.F := fun g hg => by
      rw [hFe]
      simp only [pl', Pl.F, List.mem_append, Option.mem_toList] at hg ⊢
      rcases hg with h | h
      · exact .inl (hvb g h)
      · exact .inr (List.Sublist.mem h hsub)
    have hnd' : pl'.F.Nodup := by
      rw [hFe] at hnd
      have hn := List.nodup_append.1 hnd
      simp only [pl', Pl.F]
      refine List.nodup_append.2 ⟨by cases v'.ownBlock <;> simp, hsub.nodup hn.2.1, fun x hx y hy => ?_⟩
      exact hn.2.2 x (by rw [Option.mem_toList] at hx ⊢; exact hvb x hx) y (List.Sublist.mem hy hsub)
    refine ⟨_, A, fun h => if h = 1 then some pl' else none, rfl, ⟨⟨hon.os, hon.tape, hon.output, hon.size, fun b hb hn => hon.block b hb (fun hm => hn (hfoot b hm))⟩, fun _ h => h, fun b hb => ⟨Nat.lt_of_lt_of_le (hI.lt b hb) hon.size, .inl hb⟩, fun b hb h pl1 e' hm' => ?_, fun h r hr => ?_, fun h hr => ?_, fun h h' pl1 pl2 hne ea eb => ?_, fun h pl1 e' => ?_, fun h pl1 e' g hg => ?_, fun h pl1 pl0 e' e0 => ?_⟩, ?_⟩
    · split at e'
      · injection e' with e'; subst e'
        exact hI.out b hb 0 pl hp (hmem b hm')
      · cases e'
    · simp only [findH] at hr
      split at hr
      · rename_i eh
        subst eh
        injection hr with hr
        subst hr
        refine ⟨pl', by simp, (delL l k).map (fun i => [enc i]), (delL l k).map (fun i => Fs.getD i []), ?_, rfl, rfl, ?_⟩
        · rw [flat_enc enc (delL l k), List.length_map, delL_map, List.length_map]; exact howns
        · rw [delL_map, List.map_map]
          refine owRs_map (fun i => eIntS (l.getD i [])) (fun i => [enc i]) (fun i => Fs.getD i []) fun i hi => ⟨rfl, ?_⟩
          obtain ⟨a, cap, F, g1, g2, g3, g4, g5, g6⟩ := hrow i (delL_lt hi)
          have ee : enc i = .slice a (l.getD i []).length cap := by
            show css.flatten.getD i _ = _
            rw [List.getD_eq_getElem?_getD, flat_one css i _ hone g1]; rfl
          have eF : Fs.getD i [] = F := by simp [List.getD_eq_getElem?_getD, g2]
          rw [ee, eF]
          exact OwCs.kept _ _ _ (hkeep F (List.mem_of_getElem? g2)) g6
      · cases hr
    · simp only [findH] at hr
      split at hr
      · cases hr
      · rename_i eh; exact if_neg eh
    · split at ea
      · split at eb
        · rename_i x y; exact absurd (x.trans y.symm) hne
        · cases eb
      · cases ea
    · split at e'
      · injection e' with e'; subst e'; exact hnd'
      · cases e'
    · split at e'
      · injection e' with e'; subst e'
        have := hmem g hg
        exact ⟨.inr (hfoot g this), Nat.lt_of_lt_of_le (hge g this) hon.size⟩
      · cases e'
    · split at e'
      · rename_i eh
        subst eh
        rw [h1] at e0; cases e0
      · cases e'
    · unfold MatchV
      intro pl1 e'
      simp at e'
      subst e'
      rfl
  rw [List.length_map] at q1
  rcases q1.2 with ⟨hvn, hz⟩ | ⟨g, cap, cur, hvv, hg0, hb, hn, hcap, hsz, htk⟩
  · omega
  · have hgF : g ∉ Fs.flatten := fun hm => by
      rw [hFe, hvv] at hnd
      simp only [Value.ownBlock, Option.toList_some, List.cons_append, List.nil_append, List.nodup_cons] at hnd
      exact hnd.1 hm
    have hgs : g < w.heap.size := (Array.getElem?_eq_some_iff.1 hb).1
    have hin : ∀ b ∈ Fs.flatten, b < w.heap.size ∧ b ≠ g := fun b hb' => ⟨hge b (by rw [hFe]; exact List.mem_append_right _ hb'), fun e => hgF (e ▸ hb')⟩
    have hw0 : ∀ (dk : Array Nat) (q : Nat), Go.Sort.putRow enc (Go.Sort.ahead w q) g 0 dk = sortWorld enc w g 0 q dk #[] := fun dk q => by unfold sortWorld; rw [Go.Sort.grow_empty]
    have htk' : cur.toList.take l.length = css.flatten := by rw [Nat.mul_one] at htk; exact htk
    have hH : Go.Sort.Holds enc w g 0 (List.range l.length).toArray := fun j hj => by
      have hj' : j < l.length := by simpa using hj
      refine ⟨?_, by simp [World.frozen?, hb]⟩
      have h1 : (cur.toList.take l.length)[j]? = css.flatten[j]? := by rw [htk']
      rw [List.getElem?_take_of_lt hj'] at h1
      simp only [World.cell?, hb, Nat.zero_add, Option.isSome_none, Bool.false_eq_true, if_false]
      rw [← Array.getElem?_toList, h1]
      obtain ⟨a, cap', F, g1, _⟩ := hrow j hj'
      have h2 := flat_one css j _ hone g1
      have ee : enc j = .slice a (l.getD j []).length cap' := by
        show css.flatten.getD j _ = _
        rw [List.getD_eq_getElem?_getD, h2]; rfl
      have ej : (List.range l.length).toArray[j]! = j := by simp [hj']
      rw [h2, ej, ee]
    have hone1 : OneCell enc := fun x => by
      obtain ⟨a, c, ex, _⟩ := henc x
      rw [ex]; rfl
    have hzr : enc l.length = .slice none 0 0 := by
      show css.flatten.getD l.length _ = _
      rw [List.getD_eq_getElem?_getD, List.getElem?_eq_none (by rw [flat_len css hone]; omega)]; rfl
    have hszd : (List.range l.length).toArray.size = l.length := by simp
    have hcon := AnyE.slices_Delete Tryz.dlRows enc hone1 l.length (fun w => by rw [hzr]; exact zeroRow w) elI (by kernel_rfl) (by kernel_rfl) g 0 cap k (k + 1) (List.range l.length).toArray w hH (by rw [hszd]; exact hn) hcap (by omega) (by rw [hszd]; omega)
    rw [hszd, show (k : Int) + 1 = ((k + 1 : Nat) : Int) by omega] at *
    rw [hvv]
    refine hcon.mono ?_
    rintro en w' ⟨rfl, q, rfl⟩
    have hdl : (delL l k).length = l.length - 1 := by simp [delL, List.length_eraseIdx, hk]
    have hls : (List.range l.length).toArray.toList.take k ++ (List.range l.length).toArray.toList.drop (k + 1) ++ List.replicate (k + 1 - k) l.length = delL l k ++ List.replicate (l.length - (delL l k).length) l.length := by
      rw [hdl, show k + 1 - k = l.length - (l.length - 1) by omega, delL, List.eraseIdx_eq_take_drop_succ]
    rw [hls]
    have hle : (delL l k).length ≤ l.length := by omega
    have hkb : ∀ b, b < w.heap.size → b ≠ g → (Go.Sort.putRow enc (Go.Sort.ahead w q) g 0 (delL l k ++ List.replicate (l.length - (delL l k).length) l.length).toArray).heap[b]? = w.heap[b]? := fun b hk hne => by rw [hw0]; exact cells_kept _ hk hne
    rw [show l.length - (k + 1 - k) = (delL l k).length by omega]
    refine hend _ _ ⟨rfl, rfl, rfl, by simp, fun b hk hne => hkb b hk (fun e => hne (by rw [hFe, hvv, e]; simp [Value.ownBlock]))⟩
      (fun F hF b hb' => hkb b (hin b (List.mem_flatten.2 ⟨F, hF, hb'⟩)).1 (hin b (List.mem_flatten.2 ⟨F, hF, hb'⟩)).2)
      (fun b hb' => by rw [hvv]; exact hb') ?_
    rw [hw0]
    refine ⟨by simp, .inr ⟨g, cap, _, rfl, hg0, cells_put _ hb, by omega, hcap, by simp [Go.Sort.putCells, hsz], ?_⟩⟩
    rw [Nat.mul_one]
    have := put_take enc cur (delL l k ++ List.replicate (l.length - (delL l k).length) l.length) (by simp; omega)
    have h3 := congrArg (List.take (delL l k).length) this
    rw [List.take_take, List.map_append, List.take_append_of_le_length (by simp)] at h3
    rw [show min (delL l k).length (delL l k ++ List.replicate (l.length - (delL l k).length) l.length).length = (delL l k).length by simp] at h3
    rw [h3, List.take_of_length_le (by simp)]
end Go.Proofs.YtokkjaflmcjlhaaGreat
namespace Go.Proofs.YtokkjaflmcjlhaaGreat
open Go.ChangeShapes Go.WideShapes Go.ChangeAt Go.RowKit
set_option linter.unusedVariables false
set_option linter.unusedSimpArgs false
set_option maxRecDepth 100000
set_option maxHeartbeats 4000000
end Go.Proofs.YtokkjaflmcjlhaaGreat
