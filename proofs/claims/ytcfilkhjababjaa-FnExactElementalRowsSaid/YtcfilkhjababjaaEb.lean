/-
  One elemental row, both sides.
-/
import Derived.Test.YtcfilkhjababjaaQa
namespace Go.Proofs.Ytcfilkhjababjaa
open Go.ChangeShapes Go.WideShapes Go.ChangeAt Go.RowKit
set_option linter.unusedVariables false
set_option linter.unusedSimpArgs false
def incS (r : List Int) (s : Int) : List Int := if 0 < s then r.set (s - 1).toNat (IntKind.i64.wrap (r.getD (s - 1).toNat 0 + 1)) else r
def decS (r : List Int) (s : Int) : List Int := if 0 < s then r.set (s - 1).toNat (IntKind.i64.wrap (r.getD (s - 1).toNat 0 - 1)) else r
def rowI (al : Int) (p m : List Int) : List Int := m.foldl decS (p.foldl incS (List.replicate al.toNat 0))
def setS (v : Int) (r : List Int) (s : Int) : List Int := if 0 < s then r.set (s - 1).toNat v else r
def rowS (al : Int) (p m : List Int) : List Int := m.foldl (setS (-1)) (p.foldl (setS 1) (List.replicate al.toNat 0))
abbrev alN (n : Int) : Int := (1 : Int) * 2 ^ n.toNat - (1 : Int)
abbrev orB (s : Nat) (i : Nat) : Int := bitI .or .i64 (s : Int) ((1 : Int) * 2 ^ i)
abbrev or2 (s i j : Nat) : Int := bitI .or .i64 (orB s i) ((1 : Int) * 2 ^ j)
def elH (row : List Int → List Int → List Int) (hd : Nat → Int) (al : Int) : Nat → List (List Int)
  | 0 => []
  | k + 1 => elH row hd al k ++ [row [hd k] [al]]
def freeB (s i : Nat) : Bool := decide (bitI .and .i64 ((s : Int) / 2 ^ i) (1 : Int) = (0 : Int))
def elS (row : List Int → List Int → List Int) (i j : Nat) : Nat → List (List Int)
  | 0 => []
  | s + 1 => elS row i j s ++ (if freeB s i = true ∧ freeB s j = true then [row [(s : Int), or2 s i j] [orB s i, orB s j]] else [])
def elJ (row : List Int → List Int → List Int) (T i : Nat) : Nat → List (List Int)
  | 0 => []
  | m + 1 => elJ row T i m ++ elS row i (i + 1 + m) T
def elI (row : List Int → List Int → List Int) (T n : Nat) : Nat → List (List Int)
  | 0 => []
  | i + 1 => elI row T n i ++ elJ row T i (n - (i + 1))
def elemBy (row : List Int → List Int → List Int) (hd : Nat → Int) (al : Int) (n : Nat) : List (List Int) := elH row hd al n ++ elI row (2 ^ n) n n
def hdI (n : Int) (i : Nat) : Int := bitI .andNot .i64 (alN n) ((1 : Int) * 2 ^ i)
def hdS (n : Int) (i : Nat) : Int := alN n - (1 : Int) * 2 ^ i
def elemI (n : Int) : List (List Int) := if 1 ≤ n ∧ n ≤ 4 then elemBy (rowI (alN n)) (hdI n) (alN n) n.toNat else []
def elemS (n : Int) : List (List Int) := if 1 ≤ n ∧ n ≤ 4 then elemBy (rowS (alN n)) (hdS n) (alN n) n.toNat else []
theorem elem_eq (n : Int) : elemI n = elemS n := by
  by_cases h : 1 ≤ n ∧ n ≤ 4
  · have : n = 1 ∨ n = 2 ∨ n = 3 ∨ n = 4 := by omega
    rcases this with rfl | rfl | rfl | rfl <;> decide +kernel
  · rw [elemI, elemS, if_neg h, if_neg h]
theorem getD_at {α : Type} {l : List α} {k : Nat} {x y : α} (h : l[k]? = some x) : l.getD k y = x := by simp [List.getD_eq_getElem?_getD, h]
theorem foldl_snoc {α β : Type} {f : β → α → β} {l : List α} {k : Nat} {x : α} {z : β} (h : l[k]? = some x) : (l.take (k + 1)).foldl f z = f ((l.take k).foldl f z) x := by rw [take_snoc h, List.foldl_append]; rfl
theorem incS_yes {r : List Int} {s y : Int} (h : 0 < s) (hy : r[(s - 1).toNat]? = some y) : incS r s = r.set (s - 1).toNat (IntKind.i64.wrap (y + 1)) := by rw [incS, if_pos h, getD_at hy]
theorem decS_yes {r : List Int} {s y : Int} (h : 0 < s) (hy : r[(s - 1).toNat]? = some y) : decS r s = r.set (s - 1).toNat (IntKind.i64.wrap (y - 1)) := by rw [decS, if_pos h, getD_at hy]
theorem incS_no {r : List Int} {s : Int} (h : ¬ 0 < s) : incS r s = r := by rw [incS, if_neg h]
theorem decS_no {r : List Int} {s : Int} (h : ¬ 0 < s) : decS r s = r := by rw [decS, if_neg h]
theorem setS_yes {r : List Int} {s v : Int} (h : 0 < s) : setS v r s = r.set (s - 1).toNat v := by rw [setS, if_pos h]
theorem setS_no {r : List Int} {s v : Int} (h : ¬ 0 < s) : setS v r s = r := by rw [setS, if_neg h]
theorem all0 {b : Int} : ∀ s ∈ ([] : List Int), s ≤ b := by simp
theorem all1 {a b : Int} (h : a ≤ b) : ∀ s ∈ [a], s ≤ b := by simpa using h
theorem all2 {a c b : Int} (h : a ≤ b) (h' : c ≤ b) : ∀ s ∈ [a, c], s ≤ b := by simpa using ⟨h, h'⟩
theorem or_le : ∀ (n : _root_.Fin 5) (i j : _root_.Fin 4) (s : _root_.Fin 16), i.1 < n.1 → j.1 < n.1 → s.1 < 2 ^ n.1 → orB s.1 i.1 ≤ (1 : Int) * 2 ^ n.1 - 1 ∧ or2 s.1 i.1 j.1 ≤ (1 : Int) * 2 ^ n.1 - 1 := by decide +kernel
theorem or_leN {n i j s : Nat} (hn : n ≤ 4) (hi : i < n) (hj : j < n) (hs : s < 2 ^ n) : orB s i ≤ (1 : Int) * 2 ^ n - 1 ∧ or2 s i j ≤ (1 : Int) * 2 ^ n - 1 := by
  have h16 : 2 ^ n ≤ 2 ^ 4 := Nat.pow_le_pow_right (by omega) hn
  exact or_le ⟨n, by omega⟩ ⟨i, by omega⟩ ⟨j, by omega⟩ ⟨s, by omega⟩ hi hj hs
theorem hdI_le1 : ∀ (n : _root_.Fin 5) (i : _root_.Fin 4), i.1 < n.1 → hdI (n.1 : Int) i.1 ≤ (1 : Int) * 2 ^ n.1 - 1 := by decide +kernel
theorem hdI_le {n : Int} {i : Nat} (h : 1 ≤ n ∧ n ≤ 4) (hi : (i : Int) < n) : hdI n i ≤ alN n := by
  have := hdI_le1 ⟨n.toNat, by omega⟩ ⟨i, by omega⟩ (by show i < n.toNat; omega)
  rw [show (((⟨n.toNat, by omega⟩ : _root_.Fin 5).1 : Nat) : Int) = n from by show ((n.toNat : Nat) : Int) = n; omega] at this
  exact this
theorem alN_bnd {n : Int} (h : 1 ≤ n ∧ n ≤ 4) : ((2 ^ n.toNat : Nat) : Int) = (1 : Int) * 2 ^ n.toNat ∧ 2 ≤ 2 ^ n.toNat ∧ 2 ^ n.toNat ≤ 16 := by
  refine ⟨by simp, ?_, ?_⟩
  · have : 2 ^ 1 ≤ 2 ^ n.toNat := Nat.pow_le_pow_right (by decide) (by omega)
    exact this
  · have : 2 ^ n.toNat ≤ 2 ^ 4 := Nat.pow_le_pow_right (by decide) (by omega)
    exact this
theorem pow_lt4 {n : Int} {i : Nat} (h : n ≤ 4) (hi : (i : Int) < n) : (1 : Int) ≤ 2 ^ i ∧ (2 : Int) ^ i ≤ 2 ^ n.toNat := ⟨pow_pos1 (by omega) i, pow_mono1 (by omega) (by omega)⟩

set_option maxRecDepth 100000 in
set_option maxHeartbeats 4000000 in
theorem row_impl (al : Int) (p m : List Int) (out : List (List Int)) (hal : 0 ≤ al ∧ al ≤ 15) (hp : ∀ s ∈ p, s ≤ al) (hm : ∀ s ∈ m, s ≤ al) (ho : out.length ≤ 1000) (hpl : p.length ≤ 100) (hml : m.length ≤ 100) : Con2 Try.prog 94 [.p none (.sl 3 1 (p.map intD)), .p none (.sl 3 1 (m.map intD)), .rp none [.int .i64 al], .ptr 0 0] [(0, .box 28 [.own 1]), (1, .arr 34 1 true (out.map eIntS))] (.tup []) [(0, .box 28 [.own 2]), (2, .arr 34 1 true ((out ++ [rowI al p m]).map eIntS))] := by
  refine con2_x tbOk mixedW Try.func94 (by kernel_rfl) (by kernel_rfl) (.mk ((al).toNat) [.int .i64 (0 : Int)] ((List.replicate ((al).toNat) (0 : Int)).map intD) <| .len p.length <| .loop (Nat × (List Int)) (Q2 Nat (List Int)) [6, 8, 15, 16, 17, 18, 19, 20, 21, 22, 23, 24, 25, 26, 27, 28] [1200] (fun yy0 => [(15, vI (yy0.1 : Int)), (6, .own 1200)]) (fun yy0 => [(1200, some (.arr 3 1 true (yy0.2.map intD)))]) (fun yy0 => yy0.1 ≤ p.length ∧ yy0.2 = (p.take yy0.1).foldl incS (List.replicate al.toNat 0) ∧ yy0.2.length = al.toNat) (fun yy0 => p.length - yy0.1) (fun yy0 => .br (.elem Int intD p (fun e17 => .br (.len yy0.2.length <| .elem Int intD yy0.2 (fun e25 => .raw <| .len yy0.2.length <| .set Int intD yy0.2 (fun s5_7 => IntKind.i64.wrap (e25 + (1 : Int))) (fun s5_7 => .back [(1200, 1200)]))) (.back [(1200, 1200)]))) (.len m.length <| .loop (Nat × (List Int)) (Q2 Nat (List Int)) [6, 10, 31, 32, 33, 34, 35, 36, 37, 38, 39, 40, 41, 42, 43, 44] [1200] (fun yy1 => [(31, vI (yy1.1 : Int)), (6, .own 1200)]) (fun yy1 => [(1200, some (.arr 3 1 true (yy1.2.map intD)))]) (fun yy1 => yy1.1 ≤ m.length ∧ yy1.2 = (m.take yy1.1).foldl decS (p.foldl incS (List.replicate al.toNat 0)) ∧ yy1.2.length = al.toNat) (fun yy1 => m.length - yy1.1) (fun yy1 => .br (.elem Int intD m (fun e33 => .br (.len yy1.2.length <| .elem Int intD yy1.2 (fun e41 => .raw <| .len yy1.2.length <| .set Int intD yy1.2 (fun s11_7 => IntKind.i64.wrap (e41 - (1 : Int))) (fun s11_7 => .back [(1200, 1200)]))) (.back [(1200, 1200)]))) (.appx (List Int) eIntS out yy1.2 <| .fin [(0, 0), (2, 4800)]))))) ?_
  refine Eq.mpr (by kernel_rfl : _ = (al = (((al).toNat : Nat) : Int) ∧ al = (((al).toNat : Nat) : Int) ∧ 8 * ((al).toNat) ≤ 281474976710656 ∧ ((al).toNat) ≤ 9223372036854775807 ∧ List.replicate ((al).toNat) [.int .i64 (0 : Int)] = (List.replicate ((al).toNat) (0 : Int)).map intD ∧ ((p.map intD).length = p.length ∧ ((∃ (k : Nat) (r : List Int), (0 : Int) = (k : Int) ∧ (List.replicate ((al).toNat) (0 : Int)).map intD = r.map intD ∧ k ≤ p.length ∧ r = (p.take k).foldl incS (List.replicate al.toNat 0) ∧ r.length = al.toNat) ∧ ∀ (k : Nat) (r : List Int), (k ≤ p.length ∧ r = (p.take k).foldl incS (List.replicate al.toNat 0) ∧ r.length = al.toNat) → ((decide ((k : Int) < ((p.length : Nat) : Int))) = true → 0 ≤ (k : Int) ∧ (p.map intD = p.map intD ∧ k < p.length ∧ ∀ e17, p[k]? = some e17 → ((decide ((0 : Int) < e17)) = true → inR (e17 - (1 : Int)) ∧ (0 ≤ (e17 - (1 : Int)) ∧ (r.map intD).length = r.length ∧ (e17 - (1 : Int)) < ((r.length : Nat) : Int) ∧ (r.map intD = r.map intD ∧ (e17 - (1 : Int)).toNat < r.length ∧ ∀ e25, r[(e17 - (1 : Int)).toNat]? = some e25 → 0 ≤ (e17 - (1 : Int)) ∧ (r.map intD).length = r.length ∧ (e17 - (1 : Int)) < ((r.length : Nat) : Int) ∧ (r.map intD = r.map intD ∧ (e17 - (1 : Int)).toNat < r.length ∧ ∀ s5_7, r[(e17 - (1 : Int)).toNat]? = some s5_7 → flatB (intD s5_7) = true ∧ 0 + 1 ≤ (intD s5_7).length ∧ (intD s5_7).take 0 ++ [.int .i64 (IntKind.i64.wrap (e25 + (1 : Int)))] ++ (intD s5_7).drop (0 + 1) = intD (IntKind.i64.wrap (e25 + (1 : Int))) ∧ inR ((k : Int) + (1 : Int)) ∧ ∃ (k' : Nat) (r' : List Int), ((k : Int) + (1 : Int)) = (k' : Int) ∧ (r.set ((e17 - (1 : Int)).toNat) (IntKind.i64.wrap (e25 + (1 : Int)))).map intD = r'.map intD ∧ (k' ≤ p.length ∧ r' = (p.take k').foldl incS (List.replicate al.toNat 0) ∧ r'.length = al.toNat) ∧ p.length - k' < p.length - k)))) ∧ ((decide ((0 : Int) < e17)) = false → inR ((k : Int) + (1 : Int)) ∧ ∃ (k' : Nat) (r' : List Int), ((k : Int) + (1 : Int)) = (k' : Int) ∧ r.map intD = r'.map intD ∧ (k' ≤ p.length ∧ r' = (p.take k').foldl incS (List.replicate al.toNat 0) ∧ r'.length = al.toNat) ∧ p.length - k' < p.length - k))) ∧ ((decide ((k : Int) < ((p.length : Nat) : Int))) = false → (m.map intD).length = m.length ∧ ((∃ (k2 : Nat) (r2 : List Int), (0 : Int) = (k2 : Int) ∧ r.map intD = r2.map intD ∧ k2 ≤ m.length ∧ r2 = (m.take k2).foldl decS (p.foldl incS (List.replicate al.toNat 0)) ∧ r2.length = al.toNat) ∧ ∀ (k2 : Nat) (r2 : List Int), (k2 ≤ m.length ∧ r2 = (m.take k2).foldl decS (p.foldl incS (List.replicate al.toNat 0)) ∧ r2.length = al.toNat) → ((decide ((k2 : Int) < ((m.length : Nat) : Int))) = true → 0 ≤ (k2 : Int) ∧ (m.map intD = m.map intD ∧ k2 < m.length ∧ ∀ e33, m[k2]? = some e33 → ((decide ((0 : Int) < e33)) = true → inR (e33 - (1 : Int)) ∧ (0 ≤ (e33 - (1 : Int)) ∧ (r2.map intD).length = r2.length ∧ (e33 - (1 : Int)) < ((r2.length : Nat) : Int) ∧ (r2.map intD = r2.map intD ∧ (e33 - (1 : Int)).toNat < r2.length ∧ ∀ e41, r2[(e33 - (1 : Int)).toNat]? = some e41 → 0 ≤ (e33 - (1 : Int)) ∧ (r2.map intD).length = r2.length ∧ (e33 - (1 : Int)) < ((r2.length : Nat) : Int) ∧ (r2.map intD = r2.map intD ∧ (e33 - (1 : Int)).toNat < r2.length ∧ ∀ s11_7, r2[(e33 - (1 : Int)).toNat]? = some s11_7 → flatB (intD s11_7) = true ∧ 0 + 1 ≤ (intD s11_7).length ∧ (intD s11_7).take 0 ++ [.int .i64 (IntKind.i64.wrap (e41 - (1 : Int)))] ++ (intD s11_7).drop (0 + 1) = intD (IntKind.i64.wrap (e41 - (1 : Int))) ∧ inR ((k2 : Int) + (1 : Int)) ∧ ∃ (k2' : Nat) (r2' : List Int), ((k2 : Int) + (1 : Int)) = (k2' : Int) ∧ (r2.set ((e33 - (1 : Int)).toNat) (IntKind.i64.wrap (e41 - (1 : Int)))).map intD = r2'.map intD ∧ (k2' ≤ m.length ∧ r2' = (m.take k2').foldl decS (p.foldl incS (List.replicate al.toNat 0)) ∧ r2'.length = al.toNat) ∧ m.length - k2' < m.length - k2)))) ∧ ((decide ((0 : Int) < e33)) = false → inR ((k2 : Int) + (1 : Int)) ∧ ∃ (k2' : Nat) (r2' : List Int), ((k2 : Int) + (1 : Int)) = (k2' : Int) ∧ r2.map intD = r2'.map intD ∧ (k2' ≤ m.length ∧ r2' = (m.take k2').foldl decS (p.foldl incS (List.replicate al.toNat 0)) ∧ r2'.length = al.toNat) ∧ m.length - k2' < m.length - k2))) ∧ ((decide ((k2 : Int) < ((m.length : Nat) : Int))) = false → out.map eIntS = out.map eIntS ∧ r2.map intD = r2.map intD ∧ (out.length + 1) * 24 ≤ 140737488355328 ∧ (out ++ [r2]).map eIntS = (out ++ [rowI al p m]).map eIntS ∧ True))))))) ?_
  refine ⟨by omega, by omega, by omega, by omega, by first | (rw [List.map_replicate]; done) | (rw [List.map_replicate]; rfl), ?_⟩
  refine ⟨List.length_map _, ?_⟩
  refine ⟨⟨0, List.replicate ((al).toNat) (0 : Int), rfl, rfl, Nat.zero_le _, rfl, List.length_replicate⟩, fun k r ⟨hk, hr, hl⟩ => ?_⟩
  refine ⟨fun c0 => ?_, fun c0 => ?_⟩
  · replace c0 := of_decide_eq_true c0
    refine ⟨by omega, ?_⟩
    refine ⟨rfl, by first | omega | (rw [hl2]; omega) | (rw [hl]; omega), fun e17 h17 => ?_⟩
    have hx := hp _ (List.mem_of_getElem? h17)
    refine ⟨fun c1 => ?_, fun c1 => ?_⟩
    · replace c1 := of_decide_eq_true c1
      refine ⟨⟨by omega, by omega⟩, ?_⟩
      refine ⟨by omega, List.length_map _, by first | omega | (rw [hl2]; omega) | (rw [hl]; omega), ?_⟩
      refine ⟨rfl, by first | omega | (rw [hl2]; omega) | (rw [hl]; omega), fun e25 h25 => ?_⟩
      refine ⟨by omega, List.length_map _, by first | omega | (rw [hl2]; omega) | (rw [hl]; omega), ?_⟩
      refine ⟨rfl, by first | omega | (rw [hl2]; omega) | (rw [hl]; omega), fun s5_7 hs5_7 => ⟨rfl, Nat.le_of_ble_eq_true rfl, rfl, ?_⟩⟩
      refine ⟨⟨by omega, by omega⟩, ?_⟩
      exact ⟨k + 1, _, rfl, rfl, ⟨by omega, by first | (rw [foldl_snoc h17, ← hr, incS_no c1]; done) | (rw [foldl_snoc h17, ← hr, incS_yes c1 h25]), by first | exact hl | (rw [List.length_set]; exact hl)⟩, by omega⟩
    · replace c1 := of_decide_eq_false c1
      refine ⟨⟨by omega, by omega⟩, ?_⟩
      exact ⟨k + 1, _, rfl, rfl, ⟨by omega, by first | (rw [foldl_snoc h17, ← hr, incS_no c1]; done) | (rw [foldl_snoc h17, ← hr, incS_yes c1 h25]), by first | exact hl | (rw [List.length_set]; exact hl)⟩, by omega⟩
  · replace c0 := of_decide_eq_false c0
    refine ⟨List.length_map _, ?_⟩
    refine ⟨⟨0, r, rfl, rfl, Nat.zero_le _, by rw [hr, List.take_of_length_le (by omega)]; rfl, hl⟩, fun k2 r2 ⟨hk2, hr2, hl2⟩ => ?_⟩
    refine ⟨fun c2 => ?_, fun c2 => ?_⟩
    · replace c2 := of_decide_eq_true c2
      refine ⟨by omega, ?_⟩
      refine ⟨rfl, by first | omega | (rw [hl2]; omega) | (rw [hl]; omega), fun e33 h33 => ?_⟩
      have hx := hm _ (List.mem_of_getElem? h33)
      refine ⟨fun c3 => ?_, fun c3 => ?_⟩
      · replace c3 := of_decide_eq_true c3
        refine ⟨⟨by omega, by omega⟩, ?_⟩
        refine ⟨by omega, List.length_map _, by first | omega | (rw [hl2]; omega) | (rw [hl]; omega), ?_⟩
        refine ⟨rfl, by first | omega | (rw [hl2]; omega) | (rw [hl]; omega), fun e41 h41 => ?_⟩
        refine ⟨by omega, List.length_map _, by first | omega | (rw [hl2]; omega) | (rw [hl]; omega), ?_⟩
        refine ⟨rfl, by first | omega | (rw [hl2]; omega) | (rw [hl]; omega), fun s11_7 hs11_7 => ⟨rfl, Nat.le_of_ble_eq_true rfl, rfl, ?_⟩⟩
        refine ⟨⟨by omega, by omega⟩, ?_⟩
        exact ⟨k2 + 1, _, rfl, rfl, ⟨by omega, by first | (rw [foldl_snoc h33, ← hr2, decS_no c3]; done) | (rw [foldl_snoc h33, ← hr2, decS_yes c3 h41]), by first | exact hl2 | (rw [List.length_set]; exact hl2)⟩, by omega⟩
      · replace c3 := of_decide_eq_false c3
        refine ⟨⟨by omega, by omega⟩, ?_⟩
        exact ⟨k2 + 1, _, rfl, rfl, ⟨by omega, by first | (rw [foldl_snoc h33, ← hr2, decS_no c3]; done) | (rw [foldl_snoc h33, ← hr2, decS_yes c3 h41]), by first | exact hl2 | (rw [List.length_set]; exact hl2)⟩, by omega⟩
    · replace c2 := of_decide_eq_false c2
      refine ⟨rfl, rfl, by omega, ?_⟩
      refine ⟨?_, trivial⟩
      · rw [hr2, List.take_of_length_le (by omega)]; rfl

set_option maxRecDepth 100000 in
set_option maxHeartbeats 4000000 in
theorem row_spec (n : Int) (p m : List Int) (hn : 1 ≤ n ∧ n ≤ 4) (hp : ∀ s ∈ p, s ≤ alN n) (hm : ∀ s ∈ m, s ≤ alN n) (hpl : p.length ≤ 100) (hml : m.length ≤ 100) : Con Try.prog 92 [.one (.int .i64 n), .one (.sl 3 1 (p.map intD)), .one (.sl 3 1 (m.map intD))] (.own 0) [(0, .arr 3 1 true ((rowS (alN n) p m).map intD))] := by
  refine con_x tbOk mixedW Try.func92 (by kernel_rfl) (.mk ((((1 : Int) * 2 ^ (Int.toNat n)) - (1 : Int)).toNat) [.int .i64 (0 : Int)] ((List.replicate ((((1 : Int) * 2 ^ (Int.toNat n)) - (1 : Int)).toNat) (0 : Int)).map intD) <| .loop (Nat × (List Int)) (Q2 Nat (List Int)) [7, 8, 14, 15, 16, 17, 18, 19, 20, 21, 22, 23, 24, 25, 26, 27, 28, 29, 30, 31] [1300] (fun yy0 => [(8, vI (yy0.1 : Int)), (7, .own 1300)]) (fun yy0 => [(1300, some (.arr 3 1 true (yy0.2.map intD)))]) (fun yy0 => yy0.1 ≤ p.length ∧ yy0.2 = (p.take yy0.1).foldl (setS 1) (List.replicate (alN n).toNat 0) ∧ yy0.2.length = (alN n).toNat) (fun yy0 => p.length - yy0.1) (fun yy0 => .len p.length <| .br (.elem Int intD p (fun e22 => .br (.elem Int intD p (fun e28 => .len yy0.2.length <| .set Int intD yy0.2 (fun s6_7 => (1 : Int)) (fun s6_7 => .back [(1300, 1300)]))) (.back [(1300, 1300)]))) (.loop (Nat × (List Int)) (Q2 Nat (List Int)) [7, 9, 32, 33, 34, 35, 36, 37, 38, 39, 40, 41, 42, 43, 44, 45, 46, 47, 48, 49] [1300] (fun yy1 => [(9, vI (yy1.1 : Int)), (7, .own 1300)]) (fun yy1 => [(1300, some (.arr 3 1 true (yy1.2.map intD)))]) (fun yy1 => yy1.1 ≤ m.length ∧ yy1.2 = (m.take yy1.1).foldl (setS (-1)) (p.foldl (setS 1) (List.replicate (alN n).toNat 0)) ∧ yy1.2.length = (alN n).toNat) (fun yy1 => m.length - yy1.1) (fun yy1 => .len m.length <| .br (.elem Int intD m (fun e40 => .br (.elem Int intD m (fun e46 => .len yy1.2.length <| .set Int intD yy1.2 (fun s11_7 => (-1 : Int)) (fun s11_7 => .back [(1300, 1300)]))) (.back [(1300, 1300)]))) (.fin [(0, 1300)]))))) ?_
  refine Eq.mpr (by kernel_rfl : _ = ((p.map intD).length ≤ 9223372036854775807 → (m.map intD).length ≤ 9223372036854775807 → (0 ≤ n ∧ n ≤ 64) ∧ (inR ((1 : Int) * 2 ^ (Int.toNat n)) ∧ (inR (((1 : Int) * 2 ^ (Int.toNat n)) - (1 : Int)) ∧ ((((1 : Int) * 2 ^ (Int.toNat n)) - (1 : Int)) = (((((1 : Int) * 2 ^ (Int.toNat n)) - (1 : Int)).toNat : Nat) : Int) ∧ (((1 : Int) * 2 ^ (Int.toNat n)) - (1 : Int)) = (((((1 : Int) * 2 ^ (Int.toNat n)) - (1 : Int)).toNat : Nat) : Int) ∧ 8 * ((((1 : Int) * 2 ^ (Int.toNat n)) - (1 : Int)).toNat) ≤ 281474976710656 ∧ ((((1 : Int) * 2 ^ (Int.toNat n)) - (1 : Int)).toNat) ≤ 9223372036854775807 ∧ List.replicate ((((1 : Int) * 2 ^ (Int.toNat n)) - (1 : Int)).toNat) [.int .i64 (0 : Int)] = (List.replicate ((((1 : Int) * 2 ^ (Int.toNat n)) - (1 : Int)).toNat) (0 : Int)).map intD ∧ ((∃ (k : Nat) (r : List Int), (0 : Int) = (k : Int) ∧ (List.replicate ((((1 : Int) * 2 ^ (Int.toNat n)) - (1 : Int)).toNat) (0 : Int)).map intD = r.map intD ∧ k ≤ p.length ∧ r = (p.take k).foldl (setS 1) (List.replicate (alN n).toNat 0) ∧ r.length = (alN n).toNat) ∧ ∀ (k : Nat) (r : List Int), (k ≤ p.length ∧ r = (p.take k).foldl (setS 1) (List.replicate (alN n).toNat 0) ∧ r.length = (alN n).toNat) → (p.map intD).length = p.length ∧ (((decide ((k : Int) < ((p.length : Nat) : Int))) = true → 0 ≤ (k : Int) ∧ (p.map intD = p.map intD ∧ k < p.length ∧ ∀ e22, p[k]? = some e22 → ((decide ((0 : Int) < e22)) = true → 0 ≤ (k : Int) ∧ (p.map intD = p.map intD ∧ k < p.length ∧ ∀ e28, p[k]? = some e28 → inR (e28 - (1 : Int)) ∧ (0 ≤ (e28 - (1 : Int)) ∧ (r.map intD).length = r.length ∧ (e28 - (1 : Int)) < ((r.length : Nat) : Int) ∧ (r.map intD = r.map intD ∧ (e28 - (1 : Int)).toNat < r.length ∧ ∀ s6_7, r[(e28 - (1 : Int)).toNat]? = some s6_7 → flatB (intD s6_7) = true ∧ 0 + 1 ≤ (intD s6_7).length ∧ (intD s6_7).take 0 ++ [.int .i64 (1 : Int)] ++ (intD s6_7).drop (0 + 1) = intD (1 : Int) ∧ inR ((k : Int) + (1 : Int)) ∧ ∃ (k' : Nat) (r' : List Int), ((k : Int) + (1 : Int)) = (k' : Int) ∧ (r.set ((e28 - (1 : Int)).toNat) (1 : Int)).map intD = r'.map intD ∧ (k' ≤ p.length ∧ r' = (p.take k').foldl (setS 1) (List.replicate (alN n).toNat 0) ∧ r'.length = (alN n).toNat) ∧ p.length - k' < p.length - k)))) ∧ ((decide ((0 : Int) < e22)) = false → inR ((k : Int) + (1 : Int)) ∧ ∃ (k' : Nat) (r' : List Int), ((k : Int) + (1 : Int)) = (k' : Int) ∧ r.map intD = r'.map intD ∧ (k' ≤ p.length ∧ r' = (p.take k').foldl (setS 1) (List.replicate (alN n).toNat 0) ∧ r'.length = (alN n).toNat) ∧ p.length - k' < p.length - k))) ∧ ((decide ((k : Int) < ((p.length : Nat) : Int))) = false → (∃ (k2 : Nat) (r2 : List Int), (0 : Int) = (k2 : Int) ∧ r.map intD = r2.map intD ∧ k2 ≤ m.length ∧ r2 = (m.take k2).foldl (setS (-1)) (p.foldl (setS 1) (List.replicate (alN n).toNat 0)) ∧ r2.length = (alN n).toNat) ∧ ∀ (k2 : Nat) (r2 : List Int), (k2 ≤ m.length ∧ r2 = (m.take k2).foldl (setS (-1)) (p.foldl (setS 1) (List.replicate (alN n).toNat 0)) ∧ r2.length = (alN n).toNat) → (m.map intD).length = m.length ∧ (((decide ((k2 : Int) < ((m.length : Nat) : Int))) = true → 0 ≤ (k2 : Int) ∧ (m.map intD = m.map intD ∧ k2 < m.length ∧ ∀ e40, m[k2]? = some e40 → ((decide ((0 : Int) < e40)) = true → 0 ≤ (k2 : Int) ∧ (m.map intD = m.map intD ∧ k2 < m.length ∧ ∀ e46, m[k2]? = some e46 → inR (e46 - (1 : Int)) ∧ (0 ≤ (e46 - (1 : Int)) ∧ (r2.map intD).length = r2.length ∧ (e46 - (1 : Int)) < ((r2.length : Nat) : Int) ∧ (r2.map intD = r2.map intD ∧ (e46 - (1 : Int)).toNat < r2.length ∧ ∀ s11_7, r2[(e46 - (1 : Int)).toNat]? = some s11_7 → flatB (intD s11_7) = true ∧ 0 + 1 ≤ (intD s11_7).length ∧ (intD s11_7).take 0 ++ [.int .i64 (-1 : Int)] ++ (intD s11_7).drop (0 + 1) = intD (-1 : Int) ∧ inR ((k2 : Int) + (1 : Int)) ∧ ∃ (k2' : Nat) (r2' : List Int), ((k2 : Int) + (1 : Int)) = (k2' : Int) ∧ (r2.set ((e46 - (1 : Int)).toNat) (-1 : Int)).map intD = r2'.map intD ∧ (k2' ≤ m.length ∧ r2' = (m.take k2').foldl (setS (-1)) (p.foldl (setS 1) (List.replicate (alN n).toNat 0)) ∧ r2'.length = (alN n).toNat) ∧ m.length - k2' < m.length - k2)))) ∧ ((decide ((0 : Int) < e40)) = false → inR ((k2 : Int) + (1 : Int)) ∧ ∃ (k2' : Nat) (r2' : List Int), ((k2 : Int) + (1 : Int)) = (k2' : Int) ∧ r2.map intD = r2'.map intD ∧ (k2' ≤ m.length ∧ r2' = (m.take k2').foldl (setS (-1)) (p.foldl (setS 1) (List.replicate (alN n).toNat 0)) ∧ r2'.length = (alN n).toNat) ∧ m.length - k2' < m.length - k2))) ∧ ((decide ((k2 : Int) < ((m.length : Nat) : Int))) = false → r2.map intD = (rowS (alN n) p m).map intD ∧ True)))))))))) ?_
  intro n0 n1
  simp only [List.length_map] at n0 n1
  obtain ⟨b1, b2, b3⟩ := alN_bnd hn
  have hal : alN n = (1 : Int) * 2 ^ n.toNat - 1 := rfl
  refine ⟨⟨by omega, by omega⟩, ?_⟩
  refine ⟨by first | exact two_small (by omega) | exact ⟨by omega, by omega⟩, ?_⟩
  refine ⟨by first | exact two_small (by omega) | exact ⟨by omega, by omega⟩, ?_⟩
  refine ⟨by omega, by omega, by omega, by omega, by first | (rw [List.map_replicate]; done) | (rw [List.map_replicate]; rfl), ?_⟩
  refine ⟨⟨0, List.replicate ((((1 : Int) * 2 ^ (Int.toNat n)) - (1 : Int)).toNat) (0 : Int), rfl, rfl, Nat.zero_le _, rfl, List.length_replicate⟩, fun k r ⟨hk, hr, hl⟩ => ?_⟩
  refine ⟨List.length_map _, ?_⟩
  refine ⟨fun c0 => ?_, fun c0 => ?_⟩
  · replace c0 := of_decide_eq_true c0
    refine ⟨by omega, ?_⟩
    refine ⟨rfl, by first | omega | (rw [hl2]; omega) | (rw [hl]; omega), fun e22 h22 => ?_⟩
    have hx := hp _ (List.mem_of_getElem? h22)
    refine ⟨fun c1 => ?_, fun c1 => ?_⟩
    · replace c1 := of_decide_eq_true c1
      refine ⟨by omega, ?_⟩
      refine ⟨rfl, by first | omega | (rw [hl2]; omega) | (rw [hl]; omega), fun e28 h28 => ?_⟩
      obtain rfl := (same_at h22 h28).symm
      refine ⟨by first | exact two_small (by omega) | exact ⟨by omega, by omega⟩, ?_⟩
      refine ⟨by omega, List.length_map _, by first | omega | (rw [hl2]; omega) | (rw [hl]; omega), ?_⟩
      refine ⟨rfl, by first | omega | (rw [hl2]; omega) | (rw [hl]; omega), fun s6_7 hs6_7 => ⟨rfl, Nat.le_of_ble_eq_true rfl, rfl, ?_⟩⟩
      refine ⟨by first | exact two_small (by omega) | exact ⟨by omega, by omega⟩, ?_⟩
      exact ⟨k + 1, _, rfl, rfl, ⟨by omega, by first | (rw [foldl_snoc h22, ← hr, setS_no c1]; done) | (rw [foldl_snoc h22, ← hr, setS_yes c1]), by first | exact hl | (rw [List.length_set]; exact hl)⟩, by omega⟩
    · replace c1 := of_decide_eq_false c1
      refine ⟨by first | exact two_small (by omega) | exact ⟨by omega, by omega⟩, ?_⟩
      exact ⟨k + 1, _, rfl, rfl, ⟨by omega, by first | (rw [foldl_snoc h22, ← hr, setS_no c1]; done) | (rw [foldl_snoc h22, ← hr, setS_yes c1]), by first | exact hl | (rw [List.length_set]; exact hl)⟩, by omega⟩
  · replace c0 := of_decide_eq_false c0
    refine ⟨⟨0, r, rfl, rfl, Nat.zero_le _, by rw [hr, List.take_of_length_le (by omega)]; rfl, hl⟩, fun k2 r2 ⟨hk2, hr2, hl2⟩ => ?_⟩
    refine ⟨List.length_map _, ?_⟩
    refine ⟨fun c2 => ?_, fun c2 => ?_⟩
    · replace c2 := of_decide_eq_true c2
      refine ⟨by omega, ?_⟩
      refine ⟨rfl, by first | omega | (rw [hl2]; omega) | (rw [hl]; omega), fun e40 h40 => ?_⟩
      have hx := hm _ (List.mem_of_getElem? h40)
      refine ⟨fun c3 => ?_, fun c3 => ?_⟩
      · replace c3 := of_decide_eq_true c3
        refine ⟨by omega, ?_⟩
        refine ⟨rfl, by first | omega | (rw [hl2]; omega) | (rw [hl]; omega), fun e46 h46 => ?_⟩
        obtain rfl := (same_at h40 h46).symm
        refine ⟨by first | exact two_small (by omega) | exact ⟨by omega, by omega⟩, ?_⟩
        refine ⟨by omega, List.length_map _, by first | omega | (rw [hl2]; omega) | (rw [hl]; omega), ?_⟩
        refine ⟨rfl, by first | omega | (rw [hl2]; omega) | (rw [hl]; omega), fun s11_7 hs11_7 => ⟨rfl, Nat.le_of_ble_eq_true rfl, rfl, ?_⟩⟩
        refine ⟨by first | exact two_small (by omega) | exact ⟨by omega, by omega⟩, ?_⟩
        exact ⟨k2 + 1, _, rfl, rfl, ⟨by omega, by first | (rw [foldl_snoc h40, ← hr2, setS_no c3]; done) | (rw [foldl_snoc h40, ← hr2, setS_yes c3]), by first | exact hl2 | (rw [List.length_set]; exact hl2)⟩, by omega⟩
      · replace c3 := of_decide_eq_false c3
        refine ⟨by first | exact two_small (by omega) | exact ⟨by omega, by omega⟩, ?_⟩
        exact ⟨k2 + 1, _, rfl, rfl, ⟨by omega, by first | (rw [foldl_snoc h40, ← hr2, setS_no c3]; done) | (rw [foldl_snoc h40, ← hr2, setS_yes c3]), by first | exact hl2 | (rw [List.length_set]; exact hl2)⟩, by omega⟩
    · replace c2 := of_decide_eq_false c2
      refine ⟨?_, trivial⟩
      · rw [hr2, List.take_of_length_le (by omega)]; rfl
end Go.Proofs.Ytcfilkhjababjaa
