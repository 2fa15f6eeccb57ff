/-
  Leaving rows, both sides.
-/
import Derived.Test.YtepphdhnkaiamaaLXe
namespace Go.Proofs.Ytepphdhnkaiamaa
open Go.ChangeShapes Go.WideShapes Go.ChangeAt Go.RowKit
set_option linter.unusedVariables false
set_option linter.unusedSimpArgs false
set_option maxRecDepth 100000
set_option maxHeartbeats 4000000
theorem cell_at {d : DictionaryD} {i j : Nat} {r : List RationalD} {x : RationalD} (hr : d.table[i]? = some r) (hx : r[j]? = some x) : cellD d i j = x := by rw [cellD, getD_atP hr, getD_atP hx]
theorem lev_skip {d : DictionaryD} {j n k : Nat} {b : Int} {l x : RationalD} {r : List RationalD} (hk : k < n) (hr : d.table[k]? = some r) (hx : r[j]? = some x) (h : x.num ≤ 0) : levGo d j (n - k) k b l = levGo d j (n - (k + 1)) (k + 1) b l := levGo_skip hk (by rw [cell_at hr hx]; exact h)
theorem lev_bad {d : DictionaryD} {j n k : Nat} {b : Int} {l x m : RationalD} {r : List RationalD} (hk : k < n) (hr : d.table[k]? = some r) (hx : r[j]? = some x) (h : ¬ x.num ≤ 0) (hm : d.limits[k]? = some m) (h2 : (divR m x).2 = false) : levGo d j (n - k) k b l = -1 := levGo_bad hk (by rw [cell_at hr hx]; exact h) (by rw [cell_at hr hx, getD_atP hm]; exact h2)
theorem lev_yes {d : DictionaryD} {j n k : Nat} {b : Int} {l x m : RationalD} {r : List RationalD} (hk : k < n) (hr : d.table[k]? = some r) (hx : r[j]? = some x) (h : ¬ x.num ≤ 0) (hm : d.limits[k]? = some m) (h2 : (divR m x).2 = true) (h3 : levBet d b (cmpRat (divR m x).1 l) k = true) : levGo d j (n - k) k b l = levGo d j (n - (k + 1)) (k + 1) (k : Int) (divR m x).1 := by
  have e := levGo_yes (d := d) (j := j) (b := b) (l := l) hk (by rw [cell_at hr hx]; exact h) (by rw [cell_at hr hx, getD_atP hm]; exact h2) (by rw [cell_at hr hx, getD_atP hm]; exact h3)
  rw [e, cell_at hr hx, getD_atP hm]
theorem lev_no {d : DictionaryD} {j n k : Nat} {b : Int} {l x m : RationalD} {r : List RationalD} (hk : k < n) (hr : d.table[k]? = some r) (hx : r[j]? = some x) (h : ¬ x.num ≤ 0) (hm : d.limits[k]? = some m) (h2 : (divR m x).2 = true) (h3 : levBet d b (cmpRat (divR m x).1 l) k = false) : levGo d j (n - k) k b l = levGo d j (n - (k + 1)) (k + 1) b l := levGo_no hk (by rw [cell_at hr hx]; exact h) (by rw [cell_at hr hx, getD_atP hm]; exact h2) (by rw [cell_at hr hx, getD_atP hm]; exact h3)
theorem bet_1 {d : DictionaryD} {b c : Int} {k : Nat} (h : b < 0) : levBet d b c k = true := by rw [levBet, decide_eq_true h]; rfl
theorem bet_2 {d : DictionaryD} {b c : Int} {k : Nat} (h : c < 0) : levBet d b c k = true := by rw [levBet, decide_eq_true h]; simp
theorem bet_3 {d : DictionaryD} {b c y z : Int} {k : Nat} (h : c = 0) (hy : d.basic[k]? = some y) (hz : d.basic[b.toNat]? = some z) (h2 : y < z) : levBet d b c k = true := by rw [levBet, decide_eq_true h, getD_atP hy, getD_atP hz, decide_eq_true h2]; simp
theorem bet_4 {d : DictionaryD} {b c : Int} {k : Nat} (h : ¬ b < 0) (h1 : ¬ c < 0) (h2 : ¬ c = 0) : levBet d b c k = false := by rw [levBet, decide_eq_false h, decide_eq_false h1, decide_eq_false h2]; rfl
theorem bet_5 {d : DictionaryD} {b c y z : Int} {k : Nat} (h : ¬ b < 0) (h1 : ¬ c < 0) (hy : d.basic[k]? = some y) (hz : d.basic[b.toNat]? = some z) (h2 : ¬ y < z) : levBet d b c k = false := by rw [levBet, decide_eq_false h, decide_eq_false h1, getD_atP hy, getD_atP hz, decide_eq_false h2]; simp
theorem levGo_start (d : DictionaryD) (j : Nat) : levGo d j (d.basic.length - 0) 0 (-1) zR = levD d j := rfl
theorem levGo_end {d : DictionaryD} {j k : Nat} {b : Int} {l : RationalD} (h : d.basic.length ≤ k) (hv : levGo d j (d.basic.length - k) k b l = levD d j) : levD d j = b := by rw [← hv, Nat.sub_eq_zero_of_le h, levGo]
theorem levP_yes {d : DictionaryD} {j : Int} (h : okDic d = true) (hj : 0 ≤ j ∧ j < d.others.length) : levP d j = levD d j.toNat := by rw [levP, if_pos ⟨h, hj⟩]
theorem levP_no {d : DictionaryD} {j : Int} (h : okDic d = false) : levP d j = -1 := by rw [levP, if_neg (by rw [h]; simp)]
theorem levP_out {d : DictionaryD} {j : Int} (h : ¬ (0 ≤ j ∧ j < d.others.length)) : levP d j = -1 := by rw [levP, if_neg (fun q => h q.2)]

abbrev K_lev_impl (d : DictionaryD) (j : Int) : Prop := Con Try.prog 41 [.agg [.sl 3 1 (d.basic.map intD), .sl 3 1 (d.others.map intD), .sl 31 1 (d.table.map eRationalS), .sl 30 2 (d.limits.map eRational), .sl 30 2 (d.costs.map eRational), .int .i64 d.value.num, .int .i64 d.value.den], .one (.int .i64 j)] (vI (levD d j.toNat)) []
theorem lev_impl (d : DictionaryD) (j : Int) (hd : okDic d = true) (hj : 0 ≤ j ∧ j < d.others.length) : K_lev_impl d j := by
 refine con_y tbOk mixedW Try.func41 (by kernel_rfl) (.len d.basic.length <| .loop (Nat × Int × Int × Int) (Q4 Nat Int Int Int) [5, 7, 8, 9, 10, 15, 16, 17, 18, 19, 20, 21, 22, 23, 24, 25, 26, 27, 28, 29, 30, 31, 32, 33, 34, 35, 36, 37, 38, 39, 40, 41, 42, 43, 44, 45, 46, 47, 48, 49, 50, 51, 52, 53, 54, 55, 56, 57, 58, 59, 60, 61, 62, 63, 64, 65, 66, 67, 68, 69, 70, 71, 72, 73, 74, 75] [600, 800] (fun yy0 => [(15, vI (yy0.1 : Int)), (5, vI yy0.2.1)]) (fun yy0 => [(600, some (.box 30 [vI yy0.2.2.1, vI yy0.2.2.2]))]) (fun yy0 => yy0.1 ≤ d.basic.length ∧ (-1 ≤ yy0.2.1 ∧ yy0.2.1 < yy0.1) ∧ levGo d j.toNat (d.basic.length - yy0.1) yy0.1 yy0.2.1 ⟨yy0.2.2.1, yy0.2.2.2⟩ = levD d j.toNat) (fun yy0 => d.basic.length - yy0.1) (fun yy0 => .br (.elem _ eRationalS d.table (fun e21 => .elem _ eRational e21 (fun e24 => .br (.back [(600, 600)]) (.elem _ eRational d.limits (fun e32 => .elem _ eRationalS d.table (fun e37 => .elem _ eRational e37 (fun e40 => callP (k_div_impl e32 e40) <| .br (.fin []) (.call (vI (cmpRat ((divR e32 e40).1) (⟨yy0.2.2.1, yy0.2.2.2⟩ : RationalD))) [] <| .br (.back [(600, 600)]) (.lit <| .lit <| .br (.back [(600, 600)]) (.lit <| .lit <| .br (.elem _ intD d.basic (fun e63 => .elem _ intD d.basic (fun e68 => .lit <| .lit <| .lit <| .lit <| .lit <| .br (.back [(600, 600)]) (.back [(600, 600)])))) (.back [(600, 600)]))))))))))) (.fin []))) (p := (d.basic.map intD).length ≤ 9223372036854775807 → (d.others.map intD).length ≤ 9223372036854775807 → (d.table.map eRationalS).length ≤ 9223372036854775807 → (d.limits.map eRational).length ≤ 9223372036854775807 → (d.costs.map eRational).length ≤ 9223372036854775807 → Lm intD d.basic ∧ ((∃ (k : Nat) (b : Int) (ln : Int) (ld : Int), (0 : Int) = (k : Int) ∧ (-1 : Int) = b ∧ (0 : Int) = ln ∧ (0 : Int) = ld ∧ k ≤ d.basic.length ∧ (-1 ≤ b ∧ b < k) ∧ levGo d j.toNat (d.basic.length - k) k b ⟨ln, ld⟩ = levD d j.toNat) ∧ ∀ (k : Nat) (b : Int) (ln : Int) (ld : Int), (k ≤ d.basic.length ∧ (-1 ≤ b ∧ b < k) ∧ levGo d j.toNat (d.basic.length - k) k b ⟨ln, ld⟩ = levD d j.toNat) → ((decide ((k : Int) < ((d.basic.length : Nat) : Int))) = true → 0 ≤ (k : Int) ∧ Em eRationalS d.table k fun e21 => 0 ≤ j ∧ Em eRational e21 ((j).toNat) fun e24 => ((decide (e24.num ≤ (0 : Int))) = true → inR ((k : Int) + (1 : Int)) ∧ ∃ (k' : Nat) (b' : Int) (ln' : Int) (ld' : Int), ((k : Int) + (1 : Int)) = (k' : Int) ∧ b = b' ∧ ln = ln' ∧ ld = ld' ∧ (k' ≤ d.basic.length ∧ (-1 ≤ b' ∧ b' < k') ∧ levGo d j.toNat (d.basic.length - k') k' b' ⟨ln', ld'⟩ = levD d j.toNat) ∧ d.basic.length - k' < d.basic.length - k) ∧ ((decide (e24.num ≤ (0 : Int))) = false → 0 ≤ (k : Int) ∧ Em eRational d.limits k fun e32 => 0 ≤ (k : Int) ∧ Em eRationalS d.table k fun e37 => 0 ≤ j ∧ Em eRational e37 ((j).toNat) fun e40 => K_div_impl e32 e40 ∧ (((!((divR e32 e40).2)) = true → (-1 : Int) = (levD d j.toNat) ∧ True) ∧ ((!((divR e32 e40).2)) = false → K_cmp_impl ((divR e32 e40).1) (⟨ln, ld⟩ : RationalD) ∧ (((decide (b < (0 : Int))) = true → inR ((k : Int) + (1 : Int)) ∧ ∃ (k' : Nat) (b' : Int) (ln' : Int) (ld' : Int), ((k : Int) + (1 : Int)) = (k' : Int) ∧ (k : Int) = b' ∧ (((divR e32 e40).1).num) = ln' ∧ (((divR e32 e40).1).den) = ld' ∧ (k' ≤ d.basic.length ∧ (-1 ≤ b' ∧ b' < k') ∧ levGo d j.toNat (d.basic.length - k') k' b' ⟨ln', ld'⟩ = levD d j.toNat) ∧ d.basic.length - k' < d.basic.length - k) ∧ ((decide (b < (0 : Int))) = false → ((decide ((cmpRat ((divR e32 e40).1) (⟨ln, ld⟩ : RationalD)) < (0 : Int))) = true → inR ((k : Int) + (1 : Int)) ∧ ∃ (k' : Nat) (b' : Int) (ln' : Int) (ld' : Int), ((k : Int) + (1 : Int)) = (k' : Int) ∧ (k : Int) = b' ∧ (((divR e32 e40).1).num) = ln' ∧ (((divR e32 e40).1).den) = ld' ∧ (k' ≤ d.basic.length ∧ (-1 ≤ b' ∧ b' < k') ∧ levGo d j.toNat (d.basic.length - k') k' b' ⟨ln', ld'⟩ = levD d j.toNat) ∧ d.basic.length - k' < d.basic.length - k) ∧ ((decide ((cmpRat ((divR e32 e40).1) (⟨ln, ld⟩ : RationalD)) < (0 : Int))) = false → ((decide ((cmpRat ((divR e32 e40).1) (⟨ln, ld⟩ : RationalD)) = (0 : Int))) = true → 0 ≤ (k : Int) ∧ Em intD d.basic k fun e63 => 0 ≤ b ∧ Em intD d.basic ((b).toNat) fun e68 => ((decide (e63 < e68)) = true → inR ((k : Int) + (1 : Int)) ∧ ∃ (k' : Nat) (b' : Int) (ln' : Int) (ld' : Int), ((k : Int) + (1 : Int)) = (k' : Int) ∧ (k : Int) = b' ∧ (((divR e32 e40).1).num) = ln' ∧ (((divR e32 e40).1).den) = ld' ∧ (k' ≤ d.basic.length ∧ (-1 ≤ b' ∧ b' < k') ∧ levGo d j.toNat (d.basic.length - k') k' b' ⟨ln', ld'⟩ = levD d j.toNat) ∧ d.basic.length - k' < d.basic.length - k) ∧ ((decide (e63 < e68)) = false → inR ((k : Int) + (1 : Int)) ∧ ∃ (k' : Nat) (b' : Int) (ln' : Int) (ld' : Int), ((k : Int) + (1 : Int)) = (k' : Int) ∧ b = b' ∧ ln = ln' ∧ ld = ld' ∧ (k' ≤ d.basic.length ∧ (-1 ≤ b' ∧ b' < k') ∧ levGo d j.toNat (d.basic.length - k') k' b' ⟨ln', ld'⟩ = levD d j.toNat) ∧ d.basic.length - k' < d.basic.length - k)) ∧ ((decide ((cmpRat ((divR e32 e40).1) (⟨ln, ld⟩ : RationalD)) = (0 : Int))) = false → inR ((k : Int) + (1 : Int)) ∧ ∃ (k' : Nat) (b' : Int) (ln' : Int) (ld' : Int), ((k : Int) + (1 : Int)) = (k' : Int) ∧ b = b' ∧ ln = ln' ∧ ld = ld' ∧ (k' ≤ d.basic.length ∧ (-1 ≤ b' ∧ b' < k') ∧ levGo d j.toNat (d.basic.length - k') k' b' ⟨ln', ld'⟩ = levD d j.toNat) ∧ d.basic.length - k' < d.basic.length - k)))))))) ∧ ((decide ((k : Int) < ((d.basic.length : Nat) : Int))) = false → b = (levD d j.toNat) ∧ True))) (by kernel_rfl) ?_
 intro n0 n1 n2 n3 n4
 simp only [List.length_map] at n0 n1 n2 n3 n4
 obtain ⟨b1, b2, b3, b4, b5, b6, b7, b8⟩ := okDic_bnd hd
 refine ⟨List.length_map _, ⟨0, -1, 0, 0, rfl, rfl, rfl, rfl, Nat.zero_le _, by omega, rfl⟩, fun k b ln ld ⟨hk, hb, hv⟩ => ?_⟩
 refine ⟨fun c0 => ?_, fun c0 => ?_⟩
 ·replace c0 := yq c0
  refine ⟨by omega, rfl, by omega, fun e21 h21 => ?_⟩
  have hrl := (b5 _ (List.mem_of_getElem? h21)).1
  refine ⟨by omega, rfl, by omega, fun e24 h24 => ?_⟩
  refine ⟨fun c1 => ?_, fun c1 => ?_⟩
  ·replace c1 := yq c1
   refine ⟨⟨by omega, by omega⟩, ?_⟩
   exact ⟨k + 1, b, ln, ld, rfl, rfl, rfl, rfl, ⟨by omega, by omega, by first | exact (lev_skip (by omega) h21 h24 c1).symm.trans hv | exact (lev_yes (by omega) h21 h24 c1 h32 c2 (bet_1 g52)).symm.trans hv | exact (lev_yes (by omega) h21 h24 c1 h32 c2 (bet_2 g56)).symm.trans hv | exact (lev_yes (by omega) h21 h24 c1 h32 c2 (bet_3 g59 h63 h68 c3)).symm.trans hv | exact (lev_no (by omega) h21 h24 c1 h32 c2 (bet_4 g52 g56 g59)).symm.trans hv | exact (lev_no (by omega) h21 h24 c1 h32 c2 (bet_5 g52 g56 h63 h68 c3)).symm.trans hv⟩, by omega⟩
  ·replace c1 := nq c1
   refine ⟨by omega, rfl, by omega, fun e32 h32 => ?_⟩
   refine ⟨by omega, rfl, by omega, fun e37 h37 => ?_⟩
   obtain rfl := same_at h21 h37
   refine ⟨by omega, rfl, by omega, fun e40 h40 => ?_⟩
   obtain rfl := same_at h24 h40
   refine ⟨div_impl e32 e40, fun c2 => ?_, fun c2 => ?_⟩
   ·replace c2 := nt c2
    refine ⟨?_, trivial⟩
    ·first | (rw [levP_no g15]; done) | (rw [levP_out (by omega)]; done) | (rw [levGo_end (by omega) hv]; done) | (rw [levP_yes hd hj, levGo_end (by omega) hv]; done) | (rw [← hv, lev_bad (by omega) h21 h24 c1 h32 c2]; done) | (rw [levP_yes hd hj, ← hv, lev_bad (by omega) h21 h24 c1 h32 c2]; done)
   ·replace c2 := nf c2
    refine ⟨cmp_impl ((divR e32 e40).1) (⟨ln, ld⟩ : RationalD), fun g52 => ?_, fun g52 => ?_⟩
    ·replace g52 := yq g52
     refine ⟨⟨by omega, by omega⟩, ?_⟩
     exact ⟨k + 1, (k : Int), ((divR e32 e40).1).num, ((divR e32 e40).1).den, rfl, rfl, rfl, rfl, ⟨by omega, by omega, by first | exact (lev_skip (by omega) h21 h24 c1).symm.trans hv | exact (lev_yes (by omega) h21 h24 c1 h32 c2 (bet_1 g52)).symm.trans hv | exact (lev_yes (by omega) h21 h24 c1 h32 c2 (bet_2 g56)).symm.trans hv | exact (lev_yes (by omega) h21 h24 c1 h32 c2 (bet_3 g59 h63 h68 c3)).symm.trans hv | exact (lev_no (by omega) h21 h24 c1 h32 c2 (bet_4 g52 g56 g59)).symm.trans hv | exact (lev_no (by omega) h21 h24 c1 h32 c2 (bet_5 g52 g56 h63 h68 c3)).symm.trans hv⟩, by omega⟩
    ·replace g52 := nq g52
     refine ⟨fun g56 => ?_, fun g56 => ?_⟩
     ·replace g56 := yq g56
      refine ⟨⟨by omega, by omega⟩, ?_⟩
      exact ⟨k + 1, (k : Int), ((divR e32 e40).1).num, ((divR e32 e40).1).den, rfl, rfl, rfl, rfl, ⟨by omega, by omega, by first | exact (lev_skip (by omega) h21 h24 c1).symm.trans hv | exact (lev_yes (by omega) h21 h24 c1 h32 c2 (bet_1 g52)).symm.trans hv | exact (lev_yes (by omega) h21 h24 c1 h32 c2 (bet_2 g56)).symm.trans hv | exact (lev_yes (by omega) h21 h24 c1 h32 c2 (bet_3 g59 h63 h68 c3)).symm.trans hv | exact (lev_no (by omega) h21 h24 c1 h32 c2 (bet_4 g52 g56 g59)).symm.trans hv | exact (lev_no (by omega) h21 h24 c1 h32 c2 (bet_5 g52 g56 h63 h68 c3)).symm.trans hv⟩, by omega⟩
     ·replace g56 := nq g56
      refine ⟨fun g59 => ?_, fun g59 => ?_⟩
      ·replace g59 := yq g59
       refine ⟨by omega, rfl, by omega, fun e63 h63 => ?_⟩
       refine ⟨by omega, rfl, by omega, fun e68 h68 => ?_⟩
       refine ⟨fun c3 => ?_, fun c3 => ?_⟩
       ·replace c3 := yq c3
        refine ⟨⟨by omega, by omega⟩, ?_⟩
        exact ⟨k + 1, (k : Int), ((divR e32 e40).1).num, ((divR e32 e40).1).den, rfl, rfl, rfl, rfl, ⟨by omega, by omega, by first | exact (lev_skip (by omega) h21 h24 c1).symm.trans hv | exact (lev_yes (by omega) h21 h24 c1 h32 c2 (bet_1 g52)).symm.trans hv | exact (lev_yes (by omega) h21 h24 c1 h32 c2 (bet_2 g56)).symm.trans hv | exact (lev_yes (by omega) h21 h24 c1 h32 c2 (bet_3 g59 h63 h68 c3)).symm.trans hv | exact (lev_no (by omega) h21 h24 c1 h32 c2 (bet_4 g52 g56 g59)).symm.trans hv | exact (lev_no (by omega) h21 h24 c1 h32 c2 (bet_5 g52 g56 h63 h68 c3)).symm.trans hv⟩, by omega⟩
       ·replace c3 := nq c3
        refine ⟨⟨by omega, by omega⟩, ?_⟩
        exact ⟨k + 1, b, ln, ld, rfl, rfl, rfl, rfl, ⟨by omega, by omega, by first | exact (lev_skip (by omega) h21 h24 c1).symm.trans hv | exact (lev_yes (by omega) h21 h24 c1 h32 c2 (bet_1 g52)).symm.trans hv | exact (lev_yes (by omega) h21 h24 c1 h32 c2 (bet_2 g56)).symm.trans hv | exact (lev_yes (by omega) h21 h24 c1 h32 c2 (bet_3 g59 h63 h68 c3)).symm.trans hv | exact (lev_no (by omega) h21 h24 c1 h32 c2 (bet_4 g52 g56 g59)).symm.trans hv | exact (lev_no (by omega) h21 h24 c1 h32 c2 (bet_5 g52 g56 h63 h68 c3)).symm.trans hv⟩, by omega⟩
      ·replace g59 := nq g59
       refine ⟨⟨by omega, by omega⟩, ?_⟩
       exact ⟨k + 1, b, ln, ld, rfl, rfl, rfl, rfl, ⟨by omega, by omega, by first | exact (lev_skip (by omega) h21 h24 c1).symm.trans hv | exact (lev_yes (by omega) h21 h24 c1 h32 c2 (bet_1 g52)).symm.trans hv | exact (lev_yes (by omega) h21 h24 c1 h32 c2 (bet_2 g56)).symm.trans hv | exact (lev_yes (by omega) h21 h24 c1 h32 c2 (bet_3 g59 h63 h68 c3)).symm.trans hv | exact (lev_no (by omega) h21 h24 c1 h32 c2 (bet_4 g52 g56 g59)).symm.trans hv | exact (lev_no (by omega) h21 h24 c1 h32 c2 (bet_5 g52 g56 h63 h68 c3)).symm.trans hv⟩, by omega⟩
 ·replace c0 := nq c0
  refine ⟨?_, trivial⟩
  ·first | (rw [levP_no g15]; done) | (rw [levP_out (by omega)]; done) | (rw [levGo_end (by omega) hv]; done) | (rw [levP_yes hd hj, levGo_end (by omega) hv]; done) | (rw [← hv, lev_bad (by omega) h21 h24 c1 h32 c2]; done) | (rw [levP_yes hd hj, ← hv, lev_bad (by omega) h21 h24 c1 h32 c2]; done)

abbrev K_lev_spec (d : DictionaryD) (j : Int) : Prop := Con Try.prog 35 [.agg [.sl 3 1 (d.basic.map intD), .sl 3 1 (d.others.map intD), .sl 31 1 (d.table.map eRationalS), .sl 30 2 (d.limits.map eRational), .sl 30 2 (d.costs.map eRational), .int .i64 d.value.num, .int .i64 d.value.den], .one (.int .i64 j)] (vI (levP d j)) []
theorem lev_spec (d : DictionaryD) (j : Int) (h0 : d.basic.length ≤ 1048576) (h1 : d.others.length ≤ 1048576) : K_lev_spec d j := by
 refine con_y tbOk mixedW Try.func35 (by kernel_rfl) (.call (vB (okDic d)) [] <| .br (.fin []) (.len d.others.length <| .call (vB (decide ((0 : Int) ≤ j ∧ j ≤ (((d.others.length : Nat) : Int) - (1 : Int))))) [] <| .lit <| .lit <| .br (.fin []) (.loop (Nat × Int × Int × Int) (Q4 Nat Int Int Int) [5, 7, 8, 9, 10, 24, 25, 26, 27, 28, 29, 30, 31, 32, 33, 34, 35, 36, 37, 38, 39, 40, 41, 42, 43, 44, 45, 46, 47, 48, 49, 50, 51, 52, 53, 54, 55, 56, 57, 58, 59, 60, 61, 62, 63, 64, 65, 66, 67, 68, 69, 70, 71, 72, 73, 74, 75, 76, 77, 78, 79, 80, 81, 82, 83, 84, 85, 86, 87] [600, 800] (fun yy0 => [(7, vI (yy0.1 : Int)), (5, vI yy0.2.1)]) (fun yy0 => [(600, some (.box 30 [vI yy0.2.2.1, vI yy0.2.2.2]))]) (fun yy0 => yy0.1 ≤ d.basic.length ∧ (-1 ≤ yy0.2.1 ∧ yy0.2.1 < yy0.1) ∧ levGo d j.toNat (d.basic.length - yy0.1) yy0.1 yy0.2.1 ⟨yy0.2.2.1, yy0.2.2.2⟩ = levD d j.toNat) (fun yy0 => d.basic.length - yy0.1) (fun yy0 => .len d.basic.length <| .br (.elem _ eRationalS d.table (fun e34 => .elem _ eRational e34 (fun e37 => .br (.back [(600, 600)]) (.elem _ eRational d.limits (fun e45 => .elem _ eRationalS d.table (fun e50 => .elem _ eRational e50 (fun e53 => callP (k_div_spec e45 e53) <| .br (.fin []) (.call (vI (cmpRat ((divR e45 e53).1) (⟨yy0.2.2.1, yy0.2.2.2⟩ : RationalD))) [] <| .br (.back [(600, 600)]) (.lit <| .lit <| .br (.back [(600, 600)]) (.lit <| .lit <| .br (.elem _ intD d.basic (fun e76 => .elem _ intD d.basic (fun e81 => .lit <| .lit <| .lit <| .lit <| .lit <| .br (.back [(600, 600)]) (.back [(600, 600)])))) (.back [(600, 600)]))))))))))) (.fin []))))) (p := (d.basic.map intD).length ≤ 9223372036854775807 → (d.others.map intD).length ≤ 9223372036854775807 → (d.table.map eRationalS).length ≤ 9223372036854775807 → (d.limits.map eRational).length ≤ 9223372036854775807 → (d.costs.map eRational).length ≤ 9223372036854775807 → K_dic_spec d ∧ (((!(okDic d)) = true → (-1 : Int) = (levP d j) ∧ True) ∧ ((!(okDic d)) = false → Lm intD d.others ∧ (inR (((d.others.length : Nat) : Int) - (1 : Int)) ∧ (K_in_spec j (0 : Int) (((d.others.length : Nat) : Int) - (1 : Int)) ∧ (((!(decide ((0 : Int) ≤ j ∧ j ≤ (((d.others.length : Nat) : Int) - (1 : Int))))) = true → (-1 : Int) = (levP d j) ∧ True) ∧ ((!(decide ((0 : Int) ≤ j ∧ j ≤ (((d.others.length : Nat) : Int) - (1 : Int))))) = false → (∃ (k : Nat) (b : Int) (ln : Int) (ld : Int), (0 : Int) = (k : Int) ∧ (-1 : Int) = b ∧ (0 : Int) = ln ∧ (0 : Int) = ld ∧ k ≤ d.basic.length ∧ (-1 ≤ b ∧ b < k) ∧ levGo d j.toNat (d.basic.length - k) k b ⟨ln, ld⟩ = levD d j.toNat) ∧ ∀ (k : Nat) (b : Int) (ln : Int) (ld : Int), (k ≤ d.basic.length ∧ (-1 ≤ b ∧ b < k) ∧ levGo d j.toNat (d.basic.length - k) k b ⟨ln, ld⟩ = levD d j.toNat) → Lm intD d.basic ∧ (((decide ((k : Int) < ((d.basic.length : Nat) : Int))) = true → 0 ≤ (k : Int) ∧ Em eRationalS d.table k fun e34 => 0 ≤ j ∧ Em eRational e34 ((j).toNat) fun e37 => ((decide (e37.num ≤ (0 : Int))) = true → inR ((k : Int) + (1 : Int)) ∧ ∃ (k' : Nat) (b' : Int) (ln' : Int) (ld' : Int), ((k : Int) + (1 : Int)) = (k' : Int) ∧ b = b' ∧ ln = ln' ∧ ld = ld' ∧ (k' ≤ d.basic.length ∧ (-1 ≤ b' ∧ b' < k') ∧ levGo d j.toNat (d.basic.length - k') k' b' ⟨ln', ld'⟩ = levD d j.toNat) ∧ d.basic.length - k' < d.basic.length - k) ∧ ((decide (e37.num ≤ (0 : Int))) = false → 0 ≤ (k : Int) ∧ Em eRational d.limits k fun e45 => 0 ≤ (k : Int) ∧ Em eRationalS d.table k fun e50 => 0 ≤ j ∧ Em eRational e50 ((j).toNat) fun e53 => K_div_spec e45 e53 ∧ (((!((divR e45 e53).2)) = true → (-1 : Int) = (levP d j) ∧ True) ∧ ((!((divR e45 e53).2)) = false → K_cmp_spec ((divR e45 e53).1) (⟨ln, ld⟩ : RationalD) ∧ (((decide (b < (0 : Int))) = true → inR ((k : Int) + (1 : Int)) ∧ ∃ (k' : Nat) (b' : Int) (ln' : Int) (ld' : Int), ((k : Int) + (1 : Int)) = (k' : Int) ∧ (k : Int) = b' ∧ (((divR e45 e53).1).num) = ln' ∧ (((divR e45 e53).1).den) = ld' ∧ (k' ≤ d.basic.length ∧ (-1 ≤ b' ∧ b' < k') ∧ levGo d j.toNat (d.basic.length - k') k' b' ⟨ln', ld'⟩ = levD d j.toNat) ∧ d.basic.length - k' < d.basic.length - k) ∧ ((decide (b < (0 : Int))) = false → ((decide ((cmpRat ((divR e45 e53).1) (⟨ln, ld⟩ : RationalD)) < (0 : Int))) = true → inR ((k : Int) + (1 : Int)) ∧ ∃ (k' : Nat) (b' : Int) (ln' : Int) (ld' : Int), ((k : Int) + (1 : Int)) = (k' : Int) ∧ (k : Int) = b' ∧ (((divR e45 e53).1).num) = ln' ∧ (((divR e45 e53).1).den) = ld' ∧ (k' ≤ d.basic.length ∧ (-1 ≤ b' ∧ b' < k') ∧ levGo d j.toNat (d.basic.length - k') k' b' ⟨ln', ld'⟩ = levD d j.toNat) ∧ d.basic.length - k' < d.basic.length - k) ∧ ((decide ((cmpRat ((divR e45 e53).1) (⟨ln, ld⟩ : RationalD)) < (0 : Int))) = false → ((decide ((cmpRat ((divR e45 e53).1) (⟨ln, ld⟩ : RationalD)) = (0 : Int))) = true → 0 ≤ (k : Int) ∧ Em intD d.basic k fun e76 => 0 ≤ b ∧ Em intD d.basic ((b).toNat) fun e81 => ((decide (e76 < e81)) = true → inR ((k : Int) + (1 : Int)) ∧ ∃ (k' : Nat) (b' : Int) (ln' : Int) (ld' : Int), ((k : Int) + (1 : Int)) = (k' : Int) ∧ (k : Int) = b' ∧ (((divR e45 e53).1).num) = ln' ∧ (((divR e45 e53).1).den) = ld' ∧ (k' ≤ d.basic.length ∧ (-1 ≤ b' ∧ b' < k') ∧ levGo d j.toNat (d.basic.length - k') k' b' ⟨ln', ld'⟩ = levD d j.toNat) ∧ d.basic.length - k' < d.basic.length - k) ∧ ((decide (e76 < e81)) = false → inR ((k : Int) + (1 : Int)) ∧ ∃ (k' : Nat) (b' : Int) (ln' : Int) (ld' : Int), ((k : Int) + (1 : Int)) = (k' : Int) ∧ b = b' ∧ ln = ln' ∧ ld = ld' ∧ (k' ≤ d.basic.length ∧ (-1 ≤ b' ∧ b' < k') ∧ levGo d j.toNat (d.basic.length - k') k' b' ⟨ln', ld'⟩ = levD d j.toNat) ∧ d.basic.length - k' < d.basic.length - k)) ∧ ((decide ((cmpRat ((divR e45 e53).1) (⟨ln, ld⟩ : RationalD)) = (0 : Int))) = false → inR ((k : Int) + (1 : Int)) ∧ ∃ (k' : Nat) (b' : Int) (ln' : Int) (ld' : Int), ((k : Int) + (1 : Int)) = (k' : Int) ∧ b = b' ∧ ln = ln' ∧ ld = ld' ∧ (k' ≤ d.basic.length ∧ (-1 ≤ b' ∧ b' < k') ∧ levGo d j.toNat (d.basic.length - k') k' b' ⟨ln', ld'⟩ = levD d j.toNat) ∧ d.basic.length - k' < d.basic.length - k)))))))) ∧ ((decide ((k : Int) < ((d.basic.length : Nat) : Int))) = false → b = (levP d j) ∧ True))))))))) (by kernel_rfl) ?_
 intro n0 n1 n2 n3 n4
 simp only [List.length_map] at n0 n1 n2 n3 n4
 refine ⟨dic_spec d (by omega) (by omega), fun g15 => ?_, fun g15 => ?_⟩
 ·replace g15 := nt g15
  refine ⟨?_, trivial⟩
  ·first | (rw [levP_no g15]; done) | (rw [levP_out (by omega)]; done) | (rw [levGo_end (by omega) hv]; done) | (rw [levP_yes hd hj, levGo_end (by omega) hv]; done) | (rw [← hv, lev_bad (by omega) h34 h37 c2 h45 c3]; done) | (rw [levP_yes hd hj, ← hv, lev_bad (by omega) h34 h37 c2 h45 c3]; done)
 ·replace g15 := nf g15
  refine ⟨List.length_map _, ⟨by omega, by omega⟩, in_spec _ _ _, fun c0 => ?_, fun c0 => ?_⟩
  ·replace c0 := nq (nt c0)
   refine ⟨?_, trivial⟩
   ·first | (rw [levP_no g15]; done) | (rw [levP_out (by omega)]; done) | (rw [levGo_end (by omega) hv]; done) | (rw [levP_yes hd hj, levGo_end (by omega) hv]; done) | (rw [← hv, lev_bad (by omega) h34 h37 c2 h45 c3]; done) | (rw [levP_yes hd hj, ← hv, lev_bad (by omega) h34 h37 c2 h45 c3]; done)
  ·replace c0 := yq (nf c0)
   have hd : okDic d = true := g15
   have hj : 0 ≤ j ∧ j < d.others.length := by omega
   obtain ⟨b1, b2, b3, b4, b5, b6, b7, b8⟩ := okDic_bnd hd
   refine ⟨⟨0, -1, 0, 0, rfl, rfl, rfl, rfl, Nat.zero_le _, by omega, rfl⟩, fun k b ln ld ⟨hk, hb, hv⟩ => ?_⟩
   refine ⟨List.length_map _, fun c1 => ?_, fun c1 => ?_⟩
   ·replace c1 := yq c1
    refine ⟨by omega, rfl, by omega, fun e34 h34 => ?_⟩
    have hrl := (b5 _ (List.mem_of_getElem? h34)).1
    refine ⟨by omega, rfl, by omega, fun e37 h37 => ?_⟩
    refine ⟨fun c2 => ?_, fun c2 => ?_⟩
    ·replace c2 := yq c2
     refine ⟨⟨by omega, by omega⟩, ?_⟩
     exact ⟨k + 1, b, ln, ld, rfl, rfl, rfl, rfl, ⟨by omega, by omega, by first | exact (lev_skip (by omega) h34 h37 c2).symm.trans hv | exact (lev_yes (by omega) h34 h37 c2 h45 c3 (bet_1 g65)).symm.trans hv | exact (lev_yes (by omega) h34 h37 c2 h45 c3 (bet_2 g69)).symm.trans hv | exact (lev_yes (by omega) h34 h37 c2 h45 c3 (bet_3 g72 h76 h81 c4)).symm.trans hv | exact (lev_no (by omega) h34 h37 c2 h45 c3 (bet_4 g65 g69 g72)).symm.trans hv | exact (lev_no (by omega) h34 h37 c2 h45 c3 (bet_5 g65 g69 h76 h81 c4)).symm.trans hv⟩, by omega⟩
    ·replace c2 := nq c2
     refine ⟨by omega, rfl, by omega, fun e45 h45 => ?_⟩
     refine ⟨by omega, rfl, by omega, fun e50 h50 => ?_⟩
     obtain rfl := same_at h34 h50
     refine ⟨by omega, rfl, by omega, fun e53 h53 => ?_⟩
     obtain rfl := same_at h37 h53
     refine ⟨div_spec e45 e53, fun c3 => ?_, fun c3 => ?_⟩
     ·replace c3 := nt c3
      refine ⟨?_, trivial⟩
      ·first | (rw [levP_no g15]; done) | (rw [levP_out (by omega)]; done) | (rw [levGo_end (by omega) hv]; done) | (rw [levP_yes hd hj, levGo_end (by omega) hv]; done) | (rw [← hv, lev_bad (by omega) h34 h37 c2 h45 c3]; done) | (rw [levP_yes hd hj, ← hv, lev_bad (by omega) h34 h37 c2 h45 c3]; done)
     ·replace c3 := nf c3
      refine ⟨cmp_spec ((divR e45 e53).1) (⟨ln, ld⟩ : RationalD), fun g65 => ?_, fun g65 => ?_⟩
      ·replace g65 := yq g65
       refine ⟨⟨by omega, by omega⟩, ?_⟩
       exact ⟨k + 1, (k : Int), ((divR e45 e53).1).num, ((divR e45 e53).1).den, rfl, rfl, rfl, rfl, ⟨by omega, by omega, by first | exact (lev_skip (by omega) h34 h37 c2).symm.trans hv | exact (lev_yes (by omega) h34 h37 c2 h45 c3 (bet_1 g65)).symm.trans hv | exact (lev_yes (by omega) h34 h37 c2 h45 c3 (bet_2 g69)).symm.trans hv | exact (lev_yes (by omega) h34 h37 c2 h45 c3 (bet_3 g72 h76 h81 c4)).symm.trans hv | exact (lev_no (by omega) h34 h37 c2 h45 c3 (bet_4 g65 g69 g72)).symm.trans hv | exact (lev_no (by omega) h34 h37 c2 h45 c3 (bet_5 g65 g69 h76 h81 c4)).symm.trans hv⟩, by omega⟩
      ·replace g65 := nq g65
       refine ⟨fun g69 => ?_, fun g69 => ?_⟩
       ·replace g69 := yq g69
        refine ⟨⟨by omega, by omega⟩, ?_⟩
        exact ⟨k + 1, (k : Int), ((divR e45 e53).1).num, ((divR e45 e53).1).den, rfl, rfl, rfl, rfl, ⟨by omega, by omega, by first | exact (lev_skip (by omega) h34 h37 c2).symm.trans hv | exact (lev_yes (by omega) h34 h37 c2 h45 c3 (bet_1 g65)).symm.trans hv | exact (lev_yes (by omega) h34 h37 c2 h45 c3 (bet_2 g69)).symm.trans hv | exact (lev_yes (by omega) h34 h37 c2 h45 c3 (bet_3 g72 h76 h81 c4)).symm.trans hv | exact (lev_no (by omega) h34 h37 c2 h45 c3 (bet_4 g65 g69 g72)).symm.trans hv | exact (lev_no (by omega) h34 h37 c2 h45 c3 (bet_5 g65 g69 h76 h81 c4)).symm.trans hv⟩, by omega⟩
       ·replace g69 := nq g69
        refine ⟨fun g72 => ?_, fun g72 => ?_⟩
        ·replace g72 := yq g72
         refine ⟨by omega, rfl, by omega, fun e76 h76 => ?_⟩
         refine ⟨by omega, rfl, by omega, fun e81 h81 => ?_⟩
         refine ⟨fun c4 => ?_, fun c4 => ?_⟩
         ·replace c4 := yq c4
          refine ⟨⟨by omega, by omega⟩, ?_⟩
          exact ⟨k + 1, (k : Int), ((divR e45 e53).1).num, ((divR e45 e53).1).den, rfl, rfl, rfl, rfl, ⟨by omega, by omega, by first | exact (lev_skip (by omega) h34 h37 c2).symm.trans hv | exact (lev_yes (by omega) h34 h37 c2 h45 c3 (bet_1 g65)).symm.trans hv | exact (lev_yes (by omega) h34 h37 c2 h45 c3 (bet_2 g69)).symm.trans hv | exact (lev_yes (by omega) h34 h37 c2 h45 c3 (bet_3 g72 h76 h81 c4)).symm.trans hv | exact (lev_no (by omega) h34 h37 c2 h45 c3 (bet_4 g65 g69 g72)).symm.trans hv | exact (lev_no (by omega) h34 h37 c2 h45 c3 (bet_5 g65 g69 h76 h81 c4)).symm.trans hv⟩, by omega⟩
         ·replace c4 := nq c4
          refine ⟨⟨by omega, by omega⟩, ?_⟩
          exact ⟨k + 1, b, ln, ld, rfl, rfl, rfl, rfl, ⟨by omega, by omega, by first | exact (lev_skip (by omega) h34 h37 c2).symm.trans hv | exact (lev_yes (by omega) h34 h37 c2 h45 c3 (bet_1 g65)).symm.trans hv | exact (lev_yes (by omega) h34 h37 c2 h45 c3 (bet_2 g69)).symm.trans hv | exact (lev_yes (by omega) h34 h37 c2 h45 c3 (bet_3 g72 h76 h81 c4)).symm.trans hv | exact (lev_no (by omega) h34 h37 c2 h45 c3 (bet_4 g65 g69 g72)).symm.trans hv | exact (lev_no (by omega) h34 h37 c2 h45 c3 (bet_5 g65 g69 h76 h81 c4)).symm.trans hv⟩, by omega⟩
        ·replace g72 := nq g72
         refine ⟨⟨by omega, by omega⟩, ?_⟩
         exact ⟨k + 1, b, ln, ld, rfl, rfl, rfl, rfl, ⟨by omega, by omega, by first | exact (lev_skip (by omega) h34 h37 c2).symm.trans hv | exact (lev_yes (by omega) h34 h37 c2 h45 c3 (bet_1 g65)).symm.trans hv | exact (lev_yes (by omega) h34 h37 c2 h45 c3 (bet_2 g69)).symm.trans hv | exact (lev_yes (by omega) h34 h37 c2 h45 c3 (bet_3 g72 h76 h81 c4)).symm.trans hv | exact (lev_no (by omega) h34 h37 c2 h45 c3 (bet_4 g65 g69 g72)).symm.trans hv | exact (lev_no (by omega) h34 h37 c2 h45 c3 (bet_5 g65 g69 h76 h81 c4)).symm.trans hv⟩, by omega⟩
   ·replace c1 := nq c1
    refine ⟨?_, trivial⟩
    ·first | (rw [levP_no g15]; done) | (rw [levP_out (by omega)]; done) | (rw [levGo_end (by omega) hv]; done) | (rw [levP_yes hd hj, levGo_end (by omega) hv]; done) | (rw [← hv, lev_bad (by omega) h34 h37 c2 h45 c3]; done) | (rw [levP_yes hd hj, ← hv, lev_bad (by omega) h34 h37 c2 h45 c3]; done)
end Go.Proofs.Ytepphdhnkaiamaa
