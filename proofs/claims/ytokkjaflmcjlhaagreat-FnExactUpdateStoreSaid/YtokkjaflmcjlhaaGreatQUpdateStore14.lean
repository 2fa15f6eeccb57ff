/-
  Contracts and plain laws, joined: part 15.
-/
import Derived.Test.YtokkjaflmcjlhaaGreatQUpdateStore3
namespace Go.Proofs.YtokkjaflmcjlhaaGreat
open Go.ChangeShapes Go.WideShapes Go.ChangeAt Go.RowKit
set_option linter.unusedVariables false
set_option linter.unusedSimpArgs false
set_option maxRecDepth 100000
set_option maxHeartbeats 4000000
def mdig (n : Nat) (s : ByteArray) : ByteArray := if h : n = 0 then s else mdig (n / 10) (strOf [IntKind.u8.wrap (48 + Int.tmod (n : Int) 10)] ++ s)
  termination_by n
  decreasing_by omega
def mtext (k : Int) : ByteArray := if k ≤ 0 then ⟨#[109, 48]⟩ else (⟨#[109]⟩ : ByteArray) ++ mdig k.toNat ⟨#[]⟩
theorem mdig_zero (s : ByteArray) : mdig 0 s = s := by rw [mdig]; simp
theorem mdig_pos {n : Nat} (h : 0 < n) (s : ByteArray) : mdig n s = mdig (n / 10) (strOf [IntKind.u8.wrap (48 + Int.tmod (n : Int) 10)] ++ s) := by rw [mdig, dif_neg (by omega)]
theorem strOf_size (l : List Int) : (strOf l).size = l.length := by simp [strOf, ByteArray.size]
def mInt (k : Int) (_ : Int) : Int := k
def sInt (_ : Int) : Nat := 1
theorem sumL_le5 {α : Type} {s c : α → Nat} (h : ∀ x, s x ≤ 4 + 5 * c x) : ∀ l : List α, sumL s l ≤ 5 * cntL c l
  | [] => by simp [sumL, cntL]
  | a :: l => by
    have h1 := h a
    have h2 := sumL_le5 h l
    simp only [sumL, cntL, List.map_cons, List.sum_cons, List.length_cons] at *
    omega
theorem sumL_le4 {α : Type} {s : α → Nat} (h : ∀ x, s x ≤ 4) : ∀ l : List α, sumL s l ≤ 5 * l.length
  | [] => by simp [sumL]
  | a :: l => by
    have h1 := h a
    have h2 := sumL_le4 h l
    simp only [sumL, List.map_cons, List.sum_cons, List.length_cons] at *
    omega
theorem pre5 {α : Type} {s c : α → Nat} (h : ∀ x, s x ≤ 4 + 5 * c x) (l : List α) (k : Nat) (hk : k ≤ l.length) : sumL s (l.take k) ≤ 5 * (k + sumL c (l.take k)) := by
  have := sumL_le5 h (l.take k)
  unfold cntL at this
  rw [List.length_take, Nat.min_eq_left hk] at this
  exact this
theorem pre4 {α : Type} {s : α → Nat} (h : ∀ x, s x ≤ 4) (l : List α) (k : Nat) (hk : k ≤ l.length) : sumL s (l.take k) ≤ 5 * k := by
  have := sumL_le4 h (l.take k)
  rw [List.length_take, Nat.min_eq_left hk] at this
  exact this
abbrev K_mk_text (k : Int) : Prop := Con Tryz.prog 89 [.one (.int .i64 k)] (.p none (.str (mtext k))) []
theorem mk_text (k : Int) (hk : k ≤ 4611686018427387904) : K_mk_text k := by
 refine con_x tbOk mixedW Tryz.func89 (by kernel_rfl) (.br (.fin []) (.loop (Nat × ByteArray) (Q2 Nat ByteArray) [0, 3, 6, 7, 8, 9, 10, 11, 12, 13, 14, 15, 16, 17] [1200] (fun yy0 => [(0, vI (yy0.1 : Int)), (3, .p none (.str yy0.2))]) (fun yy0 => []) (fun yy0 => yy0.1 ≤ 4611686018427387904 ∧ yy0.2.size + yy0.1 ≤ 4611686018427387904 ∧ mdig yy0.1 yy0.2 = mdig k.toNat ⟨#[]⟩) (fun yy0 => yy0.1) (fun yy0 => .br (.bytes [IntKind.u8.wrap ((48 : Int) + (Int.tmod (yy0.1 : Int) (10 : Int)))] <| .back []) (.fin [])))) ?_
 refine Eq.mpr (by kernel_rfl : _ = (((decide (k ≤ (0 : Int))) = true → (⟨#[109, 48]⟩ : ByteArray) = (mtext k) ∧ True) ∧ ((decide (k ≤ (0 : Int))) = false → (∃ (n : Nat) (s : ByteArray), k = (n : Int) ∧ (⟨#[]⟩ : ByteArray) = s ∧ n ≤ 4611686018427387904 ∧ s.size + n ≤ 4611686018427387904 ∧ mdig n s = mdig k.toNat ⟨#[]⟩) ∧ ∀ (n : Nat) (s : ByteArray), (n ≤ 4611686018427387904 ∧ s.size + n ≤ 4611686018427387904 ∧ mdig n s = mdig k.toNat ⟨#[]⟩) → ((decide ((0 : Int) < (n : Int))) = true → (10 : Int) ≠ 0 ∧ inR ((48 : Int) + (Int.tmod (n : Int) (10 : Int))) ∧ [[.int .u8 (IntKind.u8.wrap ((48 : Int) + (Int.tmod (n : Int) (10 : Int))))]] = [IntKind.u8.wrap ((48 : Int) + (Int.tmod (n : Int) (10 : Int)))].map byD ∧ (strOf [IntKind.u8.wrap ((48 : Int) + (Int.tmod (n : Int) (10 : Int)))]).size + s.size ≤ 9223372036854775807 ∧ (10 : Int) ≠ 0 ∧ inR (Int.tdiv (n : Int) (10 : Int)) ∧ ∃ (n' : Nat) (s' : ByteArray), (Int.tdiv (n : Int) (10 : Int)) = (n' : Int) ∧ ((strOf [IntKind.u8.wrap ((48 : Int) + (Int.tmod (n : Int) (10 : Int)))]) ++ s) = s' ∧ (n' ≤ 4611686018427387904 ∧ s'.size + n' ≤ 4611686018427387904 ∧ mdig n' s' = mdig k.toNat ⟨#[]⟩) ∧ n' < n) ∧ ((decide ((0 : Int) < (n : Int))) = false → (⟨#[109]⟩ : ByteArray).size + s.size ≤ 9223372036854775807 ∧ ((⟨#[109]⟩ : ByteArray) ++ s) = (mtext k) ∧ True)))) ?_
 refine ⟨fun c0 => ?_, fun c0 => ?_⟩
 ·replace c0 := yq c0
  refine ⟨?_, trivial⟩
  ·first | (rw [mtext, if_pos c0]; done) | (rw [mtext, if_neg c0]; rw [show n = 0 from by omega, mdig_zero] at hm; rw [hm])
 ·replace c0 := nq c0
  obtain ⟨n0, rfl⟩ := Int.eq_ofNat_of_zero_le (show 0 ≤ k by omega)
  refine ⟨⟨n0, (⟨#[]⟩ : ByteArray), rfl, rfl, by omega, by simp [ByteArray.size]; omega, by simp⟩, fun n s ⟨hn, hs, hm⟩ => ?_⟩
  refine ⟨fun c1 => ?_, fun c1 => ?_⟩
  ·replace c1 := yq c1
   have hd := mdig_pos (n := n) (by omega) s
   have htm : Int.tmod (n : Int) 10 = ((n % 10 : Nat) : Int) := rfl
   have htd : Int.tdiv (n : Int) 10 = ((n / 10 : Nat) : Int) := rfl
   refine ⟨by omega, ⟨by omega, by omega⟩, rfl, by first | (simp only [strOf_size, List.length_cons, List.length_nil]; omega) | (show 1 + s.size ≤ _; omega), by omega, ⟨by omega, by omega⟩, ?_⟩
   exact ⟨n / 10, (strOf [IntKind.u8.wrap ((48 : Int) + (Int.tmod (n : Int) (10 : Int)))]) ++ s, rfl, rfl, ⟨by omega, by rw [ByteArray.size_append, strOf_size]; simp; omega, by rw [← hd]; exact hm⟩, by omega⟩
  ·replace c1 := nq c1
   refine ⟨by first | (simp only [strOf_size, List.length_cons, List.length_nil]; omega) | (show 1 + s.size ≤ _; omega), ?_, trivial⟩
   ·first | (rw [mtext, if_pos c0]; done) | (rw [mtext, if_neg c0]; rw [show n = 0 from by omega, mdig_zero] at hm; rw [hm])
def mIntS (k : Int) (l : List Int) : List Int := markL mInt sInt k l
def sIntS (l : List Int) : Nat := sumL sInt l
theorem sIntS_le (l : List Int) : sIntS l ≤ 5 * cIntS l := sumL_le4 (fun _ => by simp [sInt]) l
def mIntSS (k : Int) (l : List (List Int)) : List (List Int) := markL mIntS sIntS k l
def sIntSS (l : List (List Int)) : Nat := sumL sIntS l
theorem sIntSS_le (l : List (List Int)) : sIntSS l ≤ 5 * cIntSS l := sumL_le5 (fun y => by have := sIntS_le y; omega) l
def meTable (k : Int) (x : TableD) : TableD := ⟨mtext (k), k + 1, mIntSS (k + 1 + 1) x.rows⟩
def seTable (x : TableD) : Nat := 1 + 1 + sIntSS x.rows
theorem seTable_le (x : TableD) : seTable x ≤ 4 + 5 * cTable x := by
  have := sIntSS_le x.rows
  unfold seTable cTable; omega
def mTableS (k : Int) (l : List TableD) : List TableD := markL meTable seTable k l
def sTableS (l : List TableD) : Nat := sumL seTable l
theorem sTableS_le (l : List TableD) : sTableS l ≤ 5 * cTableS l := sumL_le5 seTable_le l
def mtDatabase (k : Int) (x : DatabaseD) : DatabaseD := ⟨mTableS (k) x.tables⟩
def stDatabase (x : DatabaseD) : Nat := sTableS x.tables
theorem stDatabase_le (x : DatabaseD) : stDatabase x ≤ 5 * cDatabase x := by
  have := sTableS_le x.tables
  unfold stDatabase cDatabase; omega
def mtUpdate (k : Int) (x : UpdateD) : UpdateD := ⟨x.name, x.ins, mIntS (k) x.row⟩
def stUpdate (x : UpdateD) : Nat := sIntS x.row
theorem stUpdate_le (x : UpdateD) : stUpdate x ≤ 5 * cUpdate x := by
  have := sIntS_le x.row
  unfold stUpdate cUpdate; omega
def meGroupStats (k : Int) (x : GroupStatsD) : GroupStatsD := ⟨mIntS (k) x.columns, mIntSS (k + ((sIntS x.columns : Nat) : Int)) x.values, mIntS (k + ((sIntS x.columns : Nat) : Int) + ((sIntSS x.values : Nat) : Int)) x.counts⟩
def seGroupStats (x : GroupStatsD) : Nat := sIntS x.columns + sIntSS x.values + sIntS x.counts
theorem seGroupStats_le (x : GroupStatsD) : seGroupStats x ≤ 4 + 5 * cGroupStats x := by
  have := sIntS_le x.columns
  have := sIntSS_le x.values
  have := sIntS_le x.counts
  unfold seGroupStats cGroupStats; omega
def mGroupStatsS (k : Int) (l : List GroupStatsD) : List GroupStatsD := markL meGroupStats seGroupStats k l
def sGroupStatsS (l : List GroupStatsD) : Nat := sumL seGroupStats l
theorem sGroupStatsS_le (l : List GroupStatsD) : sGroupStatsS l ≤ 5 * cGroupStatsS l := sumL_le5 seGroupStats_le l
def meTableStats (k : Int) (x : TableStatsD) : TableStatsD := ⟨mtext (k), k + 1, k + 1 + 1, mGroupStatsS (k + 1 + 1 + 1) x.groups⟩
def seTableStats (x : TableStatsD) : Nat := 1 + 1 + 1 + sGroupStatsS x.groups
theorem seTableStats_le (x : TableStatsD) : seTableStats x ≤ 4 + 5 * cTableStats x := by
  have := sGroupStatsS_le x.groups
  unfold seTableStats cTableStats; omega
def mTableStatsS (k : Int) (l : List TableStatsD) : List TableStatsD := markL meTableStats seTableStats k l
def sTableStatsS (l : List TableStatsD) : Nat := sumL seTableStats l
theorem sTableStatsS_le (l : List TableStatsD) : sTableStatsS l ≤ 5 * cTableStatsS l := sumL_le5 seTableStats_le l
def mtCatalogue (k : Int) (x : CatalogueD) : CatalogueD := ⟨x.version, mTableStatsS (k) x.tables⟩
def stCatalogue (x : CatalogueD) : Nat := sTableStatsS x.tables
theorem stCatalogue_le (x : CatalogueD) : stCatalogue x ≤ 5 * cCatalogue x := by
  have := sTableStatsS_le x.tables
  unfold stCatalogue cCatalogue; omega
def meDependency (k : Int) (x : DependencyD) : DependencyD := ⟨mtext (k), mIntS (k + 1) x.src, k + 1 + ((sIntS x.src : Nat) : Int)⟩
def seDependency (x : DependencyD) : Nat := 1 + sIntS x.src + 1
theorem seDependency_le (x : DependencyD) : seDependency x ≤ 4 + 5 * cDependency x := by
  have := sIntS_le x.src
  unfold seDependency cDependency; omega
def mDependencyS (k : Int) (l : List DependencyD) : List DependencyD := markL meDependency seDependency k l
def sDependencyS (l : List DependencyD) : Nat := sumL seDependency l
theorem sDependencyS_le (l : List DependencyD) : sDependencyS l ≤ 5 * cDependencyS l := sumL_le5 seDependency_le l
def meInclusion (k : Int) (x : InclusionD) : InclusionD := ⟨mtext (k), k + 1, mtext (k + 1 + 1), k + 1 + 1 + 1⟩
def seInclusion (x : InclusionD) : Nat := 1 + 1 + 1 + 1
theorem seInclusion_le (x : InclusionD) : seInclusion x ≤ 4 + 5 * cInclusion x := by
  unfold seInclusion cInclusion; omega
def mInclusionS (k : Int) (l : List InclusionD) : List InclusionD := markL meInclusion seInclusion k l
def sInclusionS (l : List InclusionD) : Nat := sumL seInclusion l
theorem sInclusionS_le (l : List InclusionD) : sInclusionS l ≤ 5 * cInclusionS l := sumL_le5 seInclusion_le l
def mtStore (k : Int) (x : StoreD) : StoreD := ⟨mtDatabase (k) x.database, mtCatalogue (k + ((stDatabase x.database : Nat) : Int)) x.catalogue, mDependencyS (k + ((stDatabase x.database : Nat) : Int) + ((stCatalogue x.catalogue : Nat) : Int)) x.dependencies, mInclusionS (k + ((stDatabase x.database : Nat) : Int) + ((stCatalogue x.catalogue : Nat) : Int) + ((sDependencyS x.dependencies : Nat) : Int)) x.inclusions⟩
def stStore (x : StoreD) : Nat := stDatabase x.database + stCatalogue x.catalogue + sDependencyS x.dependencies + sInclusionS x.inclusions
theorem stStore_le (x : StoreD) : stStore x ≤ 5 * cStore x := by
  have := stDatabase_le x.database
  have := stCatalogue_le x.catalogue
  have := sDependencyS_le x.dependencies
  have := sInclusionS_le x.inclusions
  unfold stStore cStore; omega
end Go.Proofs.YtokkjaflmcjlhaaGreat
