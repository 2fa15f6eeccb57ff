/-
  Data: trees of numbers and texts.
-/
import Derived.Test.YtjlagjhmlmfjeaaGreatTt
namespace Go.Proofs.YtjlagjhmlmfjeaaGreat
open Go.ChangeShapes Go.WideShapes Go.ChangeAt Go.RowKit
set_option linter.unusedVariables false
set_option linter.unusedSimpArgs false
def strD (s : ByteArray) : List Dat := [.str s]
def boolD (b : Bool) : List Dat := [.bool b]
def FStr (s : ByteArray) : Prop := s.size ≤ maxLen
def FBool (_ : Bool) : Prop := True
theorem rdV_str {A : Nat → Prop} {w : World} {s : ByteArray} : RdV A w (.str s) (.string s) := by unfold RdV; rfl
theorem rdV_bool {A : Nat → Prop} {w : World} {b : Bool} : RdV A w (.bool b) (.bool b) := by unfold RdV; rfl
theorem rdOne {A : Nat → Prop} {w : World} {d : Dat} {v : Value} (h : RdL A w [d] [v]) : RdV A w d v := by
  obtain ⟨u, us, e, h1, _⟩ := h
  injection e with e1
  subst e1; exact h1
theorem rdI {w : World} {c : Value} {n : Int} (h : IntR w [c] n) : RdV (Lv w) w (.int .i64 n) c := by
  have e := h.1
  simp at e
  subst e; exact rdV_int
theorem rdS {w : World} {c : Value} {s : ByteArray} (h : StrR w [c] s) : RdV (Lv w) w (.str s) c := by
  have e := h.1
  simp at e
  subst e; exact rdV_str
theorem rdB {w : World} {c : Value} {b : Bool} (h : BoolR w [c] b) : RdV (Lv w) w (.bool b) c := by
  have e : [c] = [.bool b] := h
  simp at e
  subst e; exact rdV_bool
theorem sz_ok {n : Nat} {m : Int} (h : ¬ szStep n m < 0) : (n : Int) ≤ m := by
  unfold szStep at h
  split at h
  · assumption
  · omega
theorem sz_bad {n : Nat} {m : Int} (h : szStep n m < 0) : ¬ (n : Int) ≤ m := by
  unfold szStep at h
  split at h
  · omega
  · assumption
theorem fill_step {α : Type} {l : List α} {k : Nat} {x z : α} (h : l[k]? = some x) : (l.take k ++ List.replicate (l.length - k) z).set k x = l.take (k + 1) ++ List.replicate (l.length - (k + 1)) z := by
  have hk : k < l.length := (List.getElem?_eq_some_iff.1 h).1
  rw [show l.length - k = (l.length - (k + 1)) + 1 by omega, List.replicate_succ, List.set_append_right _ _ (by simp; omega), take_snoc h]
  simp [show k - min k l.length = 0 by omega]
theorem fill_len {α : Type} {l : List α} {k : Nat} {z : α} (h : k ≤ l.length) : (l.take k ++ List.replicate (l.length - k) z).length = l.length := by simp; omega
theorem fill_done {α : Type} {l : List α} {k : Nat} {z : α} (h : k ≤ l.length) (h' : ¬ k < l.length) : l.take k ++ List.replicate (l.length - k) z = l := by
  rw [show k = l.length by omega]; simp
theorem at_set {α : Type} {l : List α} {i : Nat} {x y : α} (h : (l.set i y)[i]? = some x) : x = y := by
  rw [List.getElem?_set_self'] at h
  cases hl : l[i]? with
  | none => simp [hl] at h
  | some z => simp [hl] at h; exact h.symm
theorem at_some {α : Type} {l : List α} {k : Nat} (h : k < l.length) : ∃ x, l[k]? = some x := ⟨_, List.getElem?_eq_getElem h⟩

def eIntS (l : List Int) : List Dat := [.sl 3 1 (l.map intD)]
def FIntS (l : List Int) : Prop := ∀ x ∈ l, Fits x
def cIntS (l : List Int) : Nat := l.length

theorem cIntS_len (l : List Int) : l.length ≤ cIntS l := Nat.le_refl _

def eIntSS (l : List (List Int)) : List Dat := [.sl 25 1 (l.map eIntS)]
def FIntSS (l : List (List Int)) : Prop := ∀ x ∈ l, FIntS x
def cIntSS (l : List (List Int)) : Nat := cntL cIntS l

theorem cIntSS_len (l : List (List Int)) : l.length ≤ cIntSS l := cntL_len _ l
theorem cIntSS_el {l : List (List Int)} {k : Nat} {y : List Int} (h : l[k]? = some y) : cIntS y ≤ cIntSS l := cntL_mem _ h

structure TableD where
  name : ByteArray
  arity : Int
  rows : List (List Int)
  deriving DecidableEq
def eTable (x : TableD) : List Dat := [.str x.name, .int .i64 x.arity, .sl 25 1 (x.rows.map eIntS)]
def FTable (x : TableD) : Prop := FStr x.name ∧ Fits x.arity ∧ FIntSS x.rows
def cTable (x : TableD) : Nat := ByteArray.size x.name + cIntSS x.rows
def zTable : TableD := ⟨ByteArray.empty, (0 : Int), []⟩


def eTableS (l : List TableD) : List Dat := [.sl 107 3 (l.map eTable)]
def FTableS (l : List TableD) : Prop := ∀ x ∈ l, FTable x
def cTableS (l : List TableD) : Nat := cntL cTable l

theorem cTableS_len (l : List TableD) : l.length ≤ cTableS l := cntL_len _ l
theorem cTableS_el {l : List TableD} {k : Nat} {y : TableD} (h : l[k]? = some y) : cTable y ≤ cTableS l := cntL_mem _ h

structure DatabaseD where
  tables : List TableD
  deriving DecidableEq
def eDatabase (x : DatabaseD) : List Dat := [.sl 107 3 (x.tables.map eTable)]
def FDatabase (x : DatabaseD) : Prop := FTableS x.tables
def cDatabase (x : DatabaseD) : Nat := cTableS x.tables
def zDatabase : DatabaseD := ⟨[]⟩


structure UpdateD where
  name : ByteArray
  ins : Bool
  row : List Int
  deriving DecidableEq
def eUpdate (x : UpdateD) : List Dat := [.str x.name, .bool x.ins, .sl 3 1 (x.row.map intD)]
def FUpdate (x : UpdateD) : Prop := FStr x.name ∧ FBool x.ins ∧ FIntS x.row
def cUpdate (x : UpdateD) : Nat := ByteArray.size x.name + cIntS x.row
def zUpdate : UpdateD := ⟨ByteArray.empty, false, []⟩


structure AtomD where
  name : ByteArray
  vars : List Int
  deriving DecidableEq
def eAtom (x : AtomD) : List Dat := [.str x.name, .sl 3 1 (x.vars.map intD)]
def FAtom (x : AtomD) : Prop := FStr x.name ∧ FIntS x.vars
def cAtom (x : AtomD) : Nat := ByteArray.size x.name + cIntS x.vars
def zAtom : AtomD := ⟨ByteArray.empty, []⟩


structure GroupStatsD where
  columns : List Int
  values : List (List Int)
  counts : List Int
  deriving DecidableEq
def eGroupStats (x : GroupStatsD) : List Dat := [.sl 3 1 (x.columns.map intD), .sl 25 1 (x.values.map eIntS), .sl 3 1 (x.counts.map intD)]
def FGroupStats (x : GroupStatsD) : Prop := FIntS x.columns ∧ FIntSS x.values ∧ FIntS x.counts
def cGroupStats (x : GroupStatsD) : Nat := cIntS x.columns + cIntSS x.values + cIntS x.counts
def zGroupStats : GroupStatsD := ⟨[], [], []⟩


def eGroupStatsS (l : List GroupStatsD) : List Dat := [.sl 157 3 (l.map eGroupStats)]
def FGroupStatsS (l : List GroupStatsD) : Prop := ∀ x ∈ l, FGroupStats x
def cGroupStatsS (l : List GroupStatsD) : Nat := cntL cGroupStats l

theorem cGroupStatsS_len (l : List GroupStatsD) : l.length ≤ cGroupStatsS l := cntL_len _ l
theorem cGroupStatsS_el {l : List GroupStatsD} {k : Nat} {y : GroupStatsD} (h : l[k]? = some y) : cGroupStats y ≤ cGroupStatsS l := cntL_mem _ h

structure TableStatsD where
  name : ByteArray
  arity : Int
  rowCount : Int
  groups : List GroupStatsD
  deriving DecidableEq
def eTableStats (x : TableStatsD) : List Dat := [.str x.name, .int .i64 x.arity, .int .i64 x.rowCount, .sl 157 3 (x.groups.map eGroupStats)]
def FTableStats (x : TableStatsD) : Prop := FStr x.name ∧ Fits x.arity ∧ Fits x.rowCount ∧ FGroupStatsS x.groups
def cTableStats (x : TableStatsD) : Nat := ByteArray.size x.name + cGroupStatsS x.groups
def zTableStats : TableStatsD := ⟨ByteArray.empty, (0 : Int), (0 : Int), []⟩


def eTableStatsS (l : List TableStatsD) : List Dat := [.sl 32 4 (l.map eTableStats)]
def FTableStatsS (l : List TableStatsD) : Prop := ∀ x ∈ l, FTableStats x
def cTableStatsS (l : List TableStatsD) : Nat := cntL cTableStats l

theorem cTableStatsS_len (l : List TableStatsD) : l.length ≤ cTableStatsS l := cntL_len _ l
theorem cTableStatsS_el {l : List TableStatsD} {k : Nat} {y : TableStatsD} (h : l[k]? = some y) : cTableStats y ≤ cTableStatsS l := cntL_mem _ h

structure CatalogueD where
  version : Int
  tables : List TableStatsD
  deriving DecidableEq
def eCatalogue (x : CatalogueD) : List Dat := [.int .i64 x.version, .sl 32 4 (x.tables.map eTableStats)]
def FCatalogue (x : CatalogueD) : Prop := Fits x.version ∧ FTableStatsS x.tables
def cCatalogue (x : CatalogueD) : Nat := cTableStatsS x.tables
def zCatalogue : CatalogueD := ⟨(0 : Int), []⟩


structure DependencyD where
  name : ByteArray
  src : List Int
  dst : Int
  deriving DecidableEq
def eDependency (x : DependencyD) : List Dat := [.str x.name, .sl 3 1 (x.src.map intD), .int .i64 x.dst]
def FDependency (x : DependencyD) : Prop := FStr x.name ∧ FIntS x.src ∧ Fits x.dst
def cDependency (x : DependencyD) : Nat := ByteArray.size x.name + cIntS x.src
def zDependency : DependencyD := ⟨ByteArray.empty, [], (0 : Int)⟩


def eDependencyS (l : List DependencyD) : List Dat := [.sl 142 3 (l.map eDependency)]
def FDependencyS (l : List DependencyD) : Prop := ∀ x ∈ l, FDependency x
def cDependencyS (l : List DependencyD) : Nat := cntL cDependency l

theorem cDependencyS_len (l : List DependencyD) : l.length ≤ cDependencyS l := cntL_len _ l
theorem cDependencyS_el {l : List DependencyD} {k : Nat} {y : DependencyD} (h : l[k]? = some y) : cDependency y ≤ cDependencyS l := cntL_mem _ h

structure InclusionD where
  name : ByteArray
  column : Int
  into : ByteArray
  intoColumn : Int
  deriving DecidableEq
def eInclusion (x : InclusionD) : List Dat := [.str x.name, .int .i64 x.column, .str x.into, .int .i64 x.intoColumn]
def FInclusion (x : InclusionD) : Prop := FStr x.name ∧ Fits x.column ∧ FStr x.into ∧ Fits x.intoColumn
def cInclusion (x : InclusionD) : Nat := ByteArray.size x.name + ByteArray.size x.into
def zInclusion : InclusionD := ⟨ByteArray.empty, (0 : Int), ByteArray.empty, (0 : Int)⟩


def eInclusionS (l : List InclusionD) : List Dat := [.sl 144 4 (l.map eInclusion)]
def FInclusionS (l : List InclusionD) : Prop := ∀ x ∈ l, FInclusion x
def cInclusionS (l : List InclusionD) : Nat := cntL cInclusion l

theorem cInclusionS_len (l : List InclusionD) : l.length ≤ cInclusionS l := cntL_len _ l
theorem cInclusionS_el {l : List InclusionD} {k : Nat} {y : InclusionD} (h : l[k]? = some y) : cInclusion y ≤ cInclusionS l := cntL_mem _ h

structure StoreD where
  database : DatabaseD
  catalogue : CatalogueD
  dependencies : List DependencyD
  inclusions : List InclusionD
  deriving DecidableEq
def eStore (x : StoreD) : List Dat := [.sl 107 3 (x.database.tables.map eTable), .int .i64 x.catalogue.version, .sl 32 4 (x.catalogue.tables.map eTableStats), .sl 142 3 (x.dependencies.map eDependency), .sl 144 4 (x.inclusions.map eInclusion)]
def FStore (x : StoreD) : Prop := FDatabase x.database ∧ FCatalogue x.catalogue ∧ FDependencyS x.dependencies ∧ FInclusionS x.inclusions
def cStore (x : StoreD) : Nat := cDatabase x.database + cCatalogue x.catalogue + cDependencyS x.dependencies + cInclusionS x.inclusions
def zStore : StoreD := ⟨zDatabase, zCatalogue, [], []⟩


structure SizeConstraintD where
  src : Int
  dst : Int
  bits : Int
  deriving DecidableEq
def eSizeConstraint (x : SizeConstraintD) : List Dat := [.int .i64 x.src, .int .i64 x.dst, .int .i64 x.bits]
def FSizeConstraint (x : SizeConstraintD) : Prop := Fits x.src ∧ Fits x.dst ∧ Fits x.bits
def cSizeConstraint (x : SizeConstraintD) : Nat := 0
def zSizeConstraint : SizeConstraintD := ⟨(0 : Int), (0 : Int), (0 : Int)⟩


def eSizeConstraintS (l : List SizeConstraintD) : List Dat := [.sl 122 3 (l.map eSizeConstraint)]
def FSizeConstraintS (l : List SizeConstraintD) : Prop := ∀ x ∈ l, FSizeConstraint x
def cSizeConstraintS (l : List SizeConstraintD) : Nat := l.length

theorem cSizeConstraintS_len (l : List SizeConstraintD) : l.length ≤ cSizeConstraintS l := Nat.le_refl _
end Go.Proofs.YtjlagjhmlmfjeaaGreat
