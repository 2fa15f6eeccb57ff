/-
  Pivots: a row changed, the program's.
-/
import Derived.Test.YtepphdhnkaiamaaLXl
namespace Go.Proofs.Ytepphdhnkaiamaa
open Go.ChangeShapes Go.WideShapes Go.ChangeAt Go.RowKit
set_option linter.unusedVariables false
set_option linter.unusedSimpArgs false
set_option maxRecDepth 100000
set_option maxHeartbeats 4000000
theorem divR_s (a c : RationalD) : -9223372036854775807 ≤ (divR a c).1.num ∧ (divR a c).1.num ≤ 9223372036854775807 := by
  cases e : (divR a c).2 with
  | true => have := validR_bnd (divR_ok e); omega
  | false => rw [divR_bad e]; exact ⟨by decide, by decide⟩
theorem mid_at {α : Type} {A l : List α} {k : Nat} (h : A.length = k) : (A ++ l.drop k)[k]? = l[k]? := by
  subst h
  rw [List.getElem?_append_right (Nat.le_refl _)]
  simp [List.getElem?_drop]
theorem mid_set {α : Type} {A l : List α} {k : Nat} {y : α} (h : A.length = k) (hk : k < l.length) : (A ++ l.drop k).set k y = (A ++ [y]) ++ l.drop (k + 1) := by
  subst h
  rw [List.drop_eq_getElem_cons hk, List.set_append_right _ _ (Nat.le_refl _), Nat.sub_self, List.set_cons_zero, List.append_assoc]; rfl
theorem mid_end {α : Type} {A l : List α} {k : Nat} (h : l.length ≤ k) : A ++ l.drop k = A := by rw [List.drop_eq_nil_of_le h, List.append_nil]
theorem nt2 (A B : Bool) : (!A || !B) = !(A && B) := by cases A <;> cases B <;> rfl
theorem nt3 (f A B : Bool) : ((f || !A) || !B) = (f || !(A && B)) := by cases f <;> cases A <;> cases B <;> rfl
theorem chRow_len (l p : List RationalD) (j n : Nat) : (chRow l p j n).length = n := by simp [chRow]
theorem chX_ki {l p : List RationalD} {j k : Nat} {x c y : RationalD} (h : ¬ k = j) (hx : l[k]? = some x) (hc : l.getD j zR = c) (hy : p[k]? = some y) : chX l (l.getD j zR) p j k = plusR x (negR c) y := by rw [chX, if_neg h, getD_atP hx, hc, getD_atP hy, plusR_neg]
theorem chX_ji {l p : List RationalD} {j k : Nat} {c a : RationalD} (h : k = j) (hc : l.getD j zR = c) (hy : p.getD j zR = (divR oneR a).1) (vc : validR c = true) (va : validR a = true) (h0 : ¬ a.num = 0) : chX l (l.getD j zR) p j k = (negR (divR c a).1, (divR c a).2) := by
  rw [chX, if_pos h, hc, h, hy]; exact col_less vc va h0
theorem pivRow_j {d : DictionaryD} {i j n : Nat} {a : RationalD} (hj : j < n) (ha : cellD d i j = a) : (pivRow d i j n).getD j zR = (divR oneR a).1 := by
  have e : (pivRow d i j n)[j]? = some (pivX d i j j).1 := by rw [pivRow, List.getElem?_map, List.getElem?_range hj]; rfl
  rw [getD_atP e, pivX, if_pos rfl, ha]

abbrev k_chg_impl (l : List RationalD) (p : List RationalD) (a : RationalD) (j : Int) (f : Bool) : List AV × List (Nat × Rs) × AV × List (Nat × Rs) := ([.p none (.sl 30 2 (l.map eRational)), .rp none [.int .i64 j], .ptr 0 0, .rp none [.int .i64 a.num, .int .i64 a.den], .rp none [.sl 30 2 (p.map eRational)]], [(0, .box 85 [.ptr 1 0]), (1, .box 87 [vB f])], .own 2, [(0, .box 85 [.ptr 1 0]), (1, .box 87 [vB (f || !chOk l p j.toNat l.length)]), (2, .arr 30 2 true ((chRow l p j.toNat l.length).map eRational))])
abbrev K_chg_impl (l : List RationalD) (p : List RationalD) (a : RationalD) (j : Int) (f : Bool) : Prop := Con2 Try.prog 84 (k_chg_impl l p a j f).1 (k_chg_impl l p a j f).2.1 (k_chg_impl l p a j f).2.2.1 (k_chg_impl l p a j f).2.2.2
theorem chg_impl (l p : List RationalD) (a : RationalD) (j : Int) (f : Bool) (hj : 0 ≤ j ∧ j < l.length) (hl : l.length ≤ 15) (hp : p.length = l.length) (hv : ∀ x ∈ l, validR x = true) (hva : validR a = true) (hnz : ¬ a.num = 0) (hpj : p.getD j.toNat zR = (divR oneR a).1) : K_chg_impl l p a j f := by
 refine con2_y tbOk mixedW Try.func84 (by kernel_rfl) (by kernel_rfl) (.elem _ eRational l (fun e11 => .call (.own 0) [(0, .arr 30 2 true (l.map eRational))] <| .len l.length <| .loop (Nat × (List RationalD) × Bool) (Q3 Nat (List RationalD) Bool) [0, 8, 17, 18, 19, 20, 21, 22, 23, 24, 25, 26, 27, 28, 29, 30, 31, 32, 33, 34, 35, 36, 37, 38, 39, 40, 41, 42, 43, 44, 45, 46] [1, 1400] (fun yy0 => [(17, vI (yy0.1 : Int)), (0, .own 1400)]) (fun yy0 => [(1400, some (.arr 30 2 true (yy0.2.1.map eRational))), (1, some (.box 87 [vB yy0.2.2]))]) (fun yy0 => yy0.1 ≤ l.length ∧ yy0.2.1 = chRow l p j.toNat yy0.1 ++ l.drop yy0.1 ∧ yy0.2.2 = (f || !chOk l p j.toNat yy0.1) ∧ yy0.2.1.length = l.length) (fun yy0 => l.length - yy0.1) (fun yy0 => .br (.br (callxP (k_rdiv yy0.2.2 e11 a) [(0, 1)] <| .call (.agg [vI ((negR ((divR e11 a).1)).num), vI ((negR ((divR e11 a).1)).den)]) [] <| .len yy0.2.1.length <| .set RationalD eRational yy0.2.1 (fun s7_8 => (negR ((divR e11 a).1))) (fun s7_8 => .back [(1, 1), (1400, 1400)])) (.len yy0.2.1.length <| .elem _ eRational yy0.2.1 (fun e37 => .call (.agg [vI ((negR e11).num), vI ((negR e11).den)]) [] <| .elem _ eRational p (fun e42 => callxP (k_rplus yy0.2.2 e37 (negR e11) e42) [(0, 1)] <| .len yy0.2.1.length <| .set RationalD eRational yy0.2.1 (fun s8_15 => ((plusR e37 (negR e11) e42).1)) (fun s8_15 => .back [(1, 1), (1400, 1400)]))))) (.fin [(0, 0), (1, 1), (2, 1400)])))) (p := 0 ≤ j ∧ Em eRational l ((j).toNat) fun e11 => Con Try.prog 82 [.one (.sl 30 2 (l.map eRational))] (.own 0) [(0, .arr 30 2 true (l.map eRational))] ∧ (Lm eRational l ∧ ((∃ (k : Nat) (o : List RationalD) (g : Bool), (0 : Int) = (k : Int) ∧ l.map eRational = o.map eRational ∧ (f) = g ∧ k ≤ l.length ∧ o = chRow l p j.toNat k ++ l.drop k ∧ g = (f || !chOk l p j.toNat k) ∧ o.length = l.length) ∧ ∀ (k : Nat) (o : List RationalD) (g : Bool), (k ≤ l.length ∧ o = chRow l p j.toNat k ++ l.drop k ∧ g = (f || !chOk l p j.toNat k) ∧ o.length = l.length) → ((decide ((k : Int) < ((l.length : Nat) : Int))) = true → ((decide ((k : Int) = j)) = true → K_rdiv g e11 a ∧ e11.num = e11.num ∧ e11.den = e11.den ∧ a.num = a.num ∧ a.den = a.den ∧ (g) = g ∧ (K_neg_impl ((divR e11 a).1) ∧ (0 ≤ (k : Int) ∧ Lm eRational o ∧ (k : Int) < ((o.length : Nat) : Int) ∧ (o.map eRational = o.map eRational ∧ k < o.length ∧ ∀ s7_8, o[k]? = some s7_8 → flatB (eRational s7_8) = true ∧ 0 + 2 ≤ (eRational s7_8).length ∧ (eRational s7_8).take 0 ++ [.int .i64 ((negR ((divR e11 a).1)).num), .int .i64 ((negR ((divR e11 a).1)).den)] ++ (eRational s7_8).drop (0 + 2) = eRational (negR ((divR e11 a).1)) ∧ inR ((k : Int) + (1 : Int)) ∧ ∃ (k' : Nat) (o' : List RationalD) (g' : Bool), ((k : Int) + (1 : Int)) = (k' : Int) ∧ (o.set k (negR ((divR e11 a).1))).map eRational = o'.map eRational ∧ (g || !(divR e11 a).2) = g' ∧ (k' ≤ l.length ∧ o' = chRow l p j.toNat k' ++ l.drop k' ∧ g' = (f || !chOk l p j.toNat k') ∧ o'.length = l.length) ∧ l.length - k' < l.length - k)))) ∧ ((decide ((k : Int) = j)) = false → 0 ≤ (k : Int) ∧ Lm eRational o ∧ (k : Int) < ((o.length : Nat) : Int) ∧ Em eRational o k fun e37 => K_neg_impl e11 ∧ (0 ≤ (k : Int) ∧ Em eRational p k fun e42 => K_rplus g e37 (negR e11) e42 ∧ e37.num = e37.num ∧ e37.den = e37.den ∧ ((negR e11).num) = ((negR e11).num) ∧ ((negR e11).den) = ((negR e11).den) ∧ e42.num = e42.num ∧ e42.den = e42.den ∧ (g) = g ∧ (0 ≤ (k : Int) ∧ Lm eRational o ∧ (k : Int) < ((o.length : Nat) : Int) ∧ (o.map eRational = o.map eRational ∧ k < o.length ∧ ∀ s8_15, o[k]? = some s8_15 → flatB (eRational s8_15) = true ∧ 0 + 2 ≤ (eRational s8_15).length ∧ (eRational s8_15).take 0 ++ [.int .i64 (((plusR e37 (negR e11) e42).1).num), .int .i64 (((plusR e37 (negR e11) e42).1).den)] ++ (eRational s8_15).drop (0 + 2) = eRational ((plusR e37 (negR e11) e42).1) ∧ inR ((k : Int) + (1 : Int)) ∧ ∃ (k' : Nat) (o' : List RationalD) (g' : Bool), ((k : Int) + (1 : Int)) = (k' : Int) ∧ (o.set k ((plusR e37 (negR e11) e42).1)).map eRational = o'.map eRational ∧ (g || !(plusR e37 (negR e11) e42).2) = g' ∧ (k' ≤ l.length ∧ o' = chRow l p j.toNat k' ++ l.drop k' ∧ g' = (f || !chOk l p j.toNat k') ∧ o'.length = l.length) ∧ l.length - k' < l.length - k))))) ∧ ((decide ((k : Int) < ((l.length : Nat) : Int))) = false → (g) = (f || !chOk l p j.toNat l.length) ∧ o.map eRational = (chRow l p j.toNat l.length).map eRational ∧ True)))) (by kernel_rfl) ?_
 refine ⟨by omega, rfl, by first | omega | (rw [hL]; omega), fun e11 h11 => ?_⟩
 have hc : l.getD j.toNat zR = e11 := getD_atP h11
 have hcv := hv _ (List.mem_of_getElem? h11)
 have hcb := validR_bnd hcv
 refine ⟨con_cloneR l (by omega) (by omega), List.length_map _, ⟨0, l, f, rfl, rfl, rfl, Nat.zero_le _, rfl, by simp [chOk], rfl⟩, fun k o g ⟨hk, ho, hg, hL⟩ => ?_⟩
 refine ⟨fun c0 => ?_, fun c0 => ?_⟩
 ·replace c0 := yq c0
  refine ⟨fun c1 => ?_, fun c1 => ?_⟩
  ·replace c1 := yq c1
   refine ⟨rdiv g e11 a, rfl, rfl, rfl, rfl, rfl, neg_impl ((divR e11 a).1) (by first | omega | exact divR_s _ _), by omega, List.length_map _, by first | omega | (rw [hL]; omega), rfl, by first | omega | (rw [hL]; omega), fun s7_8 hs7_8 => ⟨rfl, Nat.le_of_ble_eq_true rfl, rfl, ?_⟩⟩
   refine ⟨⟨by omega, by omega⟩, ?_⟩
   exact ⟨k + 1, _, g || !(divR e11 a).2, rfl, rfl, rfl, ⟨by omega, by first | (rw [ho, mid_set (chRow_len _ _ _ _) (by omega), chRow_snoc, chX_ji (by omega) hc hpj hcv hva hnz] <;> rfl) | (rw [ho, mid_set (chRow_len _ _ _ _) (by omega), chRow_snoc, chX_ki (by omega) w37 hc h42] <;> rfl), by first | (rw [hg, nt3, chOk_snoc, chX_ji (by omega) hc hpj hcv hva hnz] <;> rfl) | (rw [hg, nt3, chOk_snoc, chX_ki (by omega) w37 hc h42] <;> rfl), by rw [List.length_set]; exact hL⟩, by omega⟩
  ·replace c1 := nq c1
   refine ⟨by omega, List.length_map _, by first | omega | (rw [hL]; omega), rfl, by first | omega | (rw [hL]; omega), fun e37 h37 => ?_⟩
   have w37 : l[k]? = some e37 := by rw [← mid_at (A := chRow l p j.toNat k) (l := l) (chRow_len l p j.toNat k), ← ho]; exact h37
   refine ⟨neg_impl e11 (by first | omega | exact divR_s _ _), by omega, rfl, by first | omega | (rw [hL]; omega), fun e42 h42 => ?_⟩
   refine ⟨rplus g e37 (negR e11) e42, rfl, rfl, rfl, rfl, rfl, rfl, rfl, by omega, List.length_map _, by first | omega | (rw [hL]; omega), rfl, by first | omega | (rw [hL]; omega), fun s8_15 hs8_15 => ⟨rfl, Nat.le_of_ble_eq_true rfl, rfl, ?_⟩⟩
   refine ⟨⟨by omega, by omega⟩, ?_⟩
   exact ⟨k + 1, _, g || !(plusR e37 (negR e11) e42).2, rfl, rfl, rfl, ⟨by omega, by first | (rw [ho, mid_set (chRow_len _ _ _ _) (by omega), chRow_snoc, chX_ji (by omega) hc hpj hcv hva hnz] <;> rfl) | (rw [ho, mid_set (chRow_len _ _ _ _) (by omega), chRow_snoc, chX_ki (by omega) w37 hc h42] <;> rfl), by first | (rw [hg, nt3, chOk_snoc, chX_ji (by omega) hc hpj hcv hva hnz] <;> rfl) | (rw [hg, nt3, chOk_snoc, chX_ki (by omega) w37 hc h42] <;> rfl), by rw [List.length_set]; exact hL⟩, by omega⟩
 ·replace c0 := nq c0
  refine ⟨?_, ?_, trivial⟩ <;> (first | (rw [hg, show k = l.length by omega]; done) | (rw [ho, show k = l.length by omega, mid_end (Nat.le_refl _)]; done))
end Go.Proofs.Ytepphdhnkaiamaa
