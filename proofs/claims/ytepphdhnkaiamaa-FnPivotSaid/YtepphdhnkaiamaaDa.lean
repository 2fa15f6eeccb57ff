/-
  Data: trees of numbers and texts.
-/
import Derived.Test.YtepphdhnkaiamaaTt
namespace Go.Proofs.Ytepphdhnkaiamaa
open Go.ChangeShapes Go.WideShapes Go.ChangeAt Go.RowKit
set_option linter.unusedVariables false
set_option linter.unusedSimpArgs false
set_option maxRecDepth 100000
set_option maxHeartbeats 4000000
abbrev callP (p : AV × List (Nat × Rs)) (t : T) : T := .call p.1 p.2 t
abbrev callxP (p : List AV × List (Nat × Rs) × AV × List (Nat × Rs)) (r : List (Nat × Nat)) (t : T) : T := .callx p.1 p.2.1 r p.2.2.1 p.2.2.2 t
abbrev callxsP (p : List AV × List (Nat × Rs) × AV × List (Nat × Rs)) (r : List (Nat × Nat)) (t : T) : T := .callxs p.1 p.2.1 r p.2.2.1 p.2.2.2 t
theorem yq {p : Prop} [Decidable p] (h : decide p = true) : p := of_decide_eq_true h
theorem nq {p : Prop} [Decidable p] (h : decide p = false) : ¬ p := of_decide_eq_false h
abbrev Em {α : Type} (enc : α → List Dat) (l : List α) (i : Nat) (P : α → Prop) : Prop := l.map enc = l.map enc ∧ i < l.length ∧ ∀ x, l[i]? = some x → P x
abbrev Lm {α : Type} (enc : α → List Dat) (l : List α) : Prop := (l.map enc).length = l.length
def strD (s : ByteArray) : List Dat := [.str s]
def boolD (b : Bool) : List Dat := [.bool b]
def FStr (s : ByteArray) : Prop := s.size ≤ maxLen
def FBool (_ : Bool) : Prop := True
theorem rdV_str {A : Nat → Prop} {w : World} {s : ByteArray} : RdV A w (.str s) (.string s) := by unfold RdV; rfl
theorem rdV_bool {A : Nat → Prop} {w : World} {b : Bool} : RdV A w (.bool b) (.bool b) := by unfold RdV; rfl
theorem rdOne {A : Nat → Prop} {w : World} {d : Dat} {v : Value} (h : RdL A w [d] [v]) : RdV A w d v := by
  obtain ⟨u, us, e, h1, _⟩ := h
  injection e with e1
  subst e1; exact h1
theorem rdI {w : World} {c : Value} {n : Int} (h : IntR w [c] n) : RdV (Lv w) w (.int .i64 n) c := by
  have e := h.1
  simp at e
  subst e; exact rdV_int
theorem rdS {w : World} {c : Value} {s : ByteArray} (h : StrR w [c] s) : RdV (Lv w) w (.str s) c := by
  have e := h.1
  simp at e
  subst e; exact rdV_str
theorem rdB {w : World} {c : Value} {b : Bool} (h : BoolR w [c] b) : RdV (Lv w) w (.bool b) c := by
  have e : [c] = [.bool b] := h
  simp at e
  subst e; exact rdV_bool
theorem sz_ok {n : Nat} {m : Int} (h : ¬ szStep n m < 0) : (n : Int) ≤ m := by
  unfold szStep at h
  split at h
  · assumption
  · omega
theorem sz_bad {n : Nat} {m : Int} (h : szStep n m < 0) : ¬ (n : Int) ≤ m := by
  unfold szStep at h
  split at h
  · omega
  · assumption
theorem fill_step {α : Type} {l : List α} {k : Nat} {x z : α} (h : l[k]? = some x) : (l.take k ++ List.replicate (l.length - k) z).set k x = l.take (k + 1) ++ List.replicate (l.length - (k + 1)) z := by
  have hk : k < l.length := (List.getElem?_eq_some_iff.1 h).1
  rw [show l.length - k = (l.length - (k + 1)) + 1 by omega, List.replicate_succ, List.set_append_right _ _ (by simp; omega), take_snoc h]
  simp [show k - min k l.length = 0 by omega]
theorem fill_len {α : Type} {l : List α} {k : Nat} {z : α} (h : k ≤ l.length) : (l.take k ++ List.replicate (l.length - k) z).length = l.length := by simp; omega
theorem fill_done {α : Type} {l : List α} {k : Nat} {z : α} (h : k ≤ l.length) (h' : ¬ k < l.length) : l.take k ++ List.replicate (l.length - k) z = l := by
  rw [show k = l.length by omega]; simp
theorem at_set {α : Type} {l : List α} {i : Nat} {x y : α} (h : (l.set i y)[i]? = some x) : x = y := by
  rw [List.getElem?_set_self'] at h
  cases hl : l[i]? with
  | none => simp [hl] at h
  | some z => simp [hl] at h; exact h.symm
theorem at_some {α : Type} {l : List α} {k : Nat} (h : k < l.length) : ∃ x, l[k]? = some x := ⟨_, List.getElem?_eq_getElem h⟩

def eIntS (l : List Int) : List Dat := [.sl 3 1 (l.map intD)]
def FIntS (l : List Int) : Prop := ∀ x ∈ l, Fits x
def cIntS (l : List Int) : Nat := l.length

theorem cIntS_len (l : List Int) : l.length ≤ cIntS l := Nat.le_refl _

def eIntSS (l : List (List Int)) : List Dat := [.sl 24 1 (l.map eIntS)]
def FIntSS (l : List (List Int)) : Prop := ∀ x ∈ l, FIntS x
def cIntSS (l : List (List Int)) : Nat := cntL cIntS l

theorem cIntSS_len (l : List (List Int)) : l.length ≤ cIntSS l := cntL_len _ l
theorem cIntSS_el {l : List (List Int)} {k : Nat} {y : List Int} (h : l[k]? = some y) : cIntS y ≤ cIntSS l := cntL_mem _ h

structure RationalD where
  num : Int
  den : Int
  deriving DecidableEq
def eRational (x : RationalD) : List Dat := [.int .i64 x.num, .int .i64 x.den]
def FRational (x : RationalD) : Prop := Fits x.num ∧ Fits x.den
def cRational (x : RationalD) : Nat := 0
def zRational : RationalD := ⟨(0 : Int), (0 : Int)⟩


def eRationalS (l : List RationalD) : List Dat := [.sl 30 2 (l.map eRational)]
def FRationalS (l : List RationalD) : Prop := ∀ x ∈ l, FRational x
def cRationalS (l : List RationalD) : Nat := l.length

theorem cRationalS_len (l : List RationalD) : l.length ≤ cRationalS l := Nat.le_refl _

def eRationalSS (l : List (List RationalD)) : List Dat := [.sl 31 1 (l.map eRationalS)]
def FRationalSS (l : List (List RationalD)) : Prop := ∀ x ∈ l, FRationalS x
def cRationalSS (l : List (List RationalD)) : Nat := cntL cRationalS l

theorem cRationalSS_len (l : List (List RationalD)) : l.length ≤ cRationalSS l := cntL_len _ l
theorem cRationalSS_el {l : List (List RationalD)} {k : Nat} {y : List RationalD} (h : l[k]? = some y) : cRationalS y ≤ cRationalSS l := cntL_mem _ h

structure ProgramD where
  objective : List Int
  rows : List (List Int)
  limits : List Int
  deriving DecidableEq
def eProgram (x : ProgramD) : List Dat := [.sl 3 1 (x.objective.map intD), .sl 24 1 (x.rows.map eIntS), .sl 3 1 (x.limits.map intD)]
def FProgram (x : ProgramD) : Prop := FIntS x.objective ∧ FIntSS x.rows ∧ FIntS x.limits
def cProgram (x : ProgramD) : Nat := cIntS x.objective + cIntSS x.rows + cIntS x.limits
def zProgram : ProgramD := ⟨[], [], []⟩


structure DictionaryD where
  basic : List Int
  others : List Int
  table : List (List RationalD)
  limits : List RationalD
  costs : List RationalD
  value : RationalD
  deriving DecidableEq
def eDictionary (x : DictionaryD) : List Dat := [.sl 3 1 (x.basic.map intD), .sl 3 1 (x.others.map intD), .sl 31 1 (x.table.map eRationalS), .sl 30 2 (x.limits.map eRational), .sl 30 2 (x.costs.map eRational), .int .i64 x.value.num, .int .i64 x.value.den]
def FDictionary (x : DictionaryD) : Prop := FIntS x.basic ∧ FIntS x.others ∧ FRationalSS x.table ∧ FRationalS x.limits ∧ FRationalS x.costs ∧ FRational x.value
def cDictionary (x : DictionaryD) : Nat := cIntS x.basic + cIntS x.others + cRationalSS x.table + cRationalS x.limits + cRationalS x.costs
def zDictionary : DictionaryD := ⟨[], [], [], [], [], zRational⟩


structure SolutionD where
  value : RationalD
  primal : List RationalD
  dual : List RationalD
  deriving DecidableEq
def eSolution (x : SolutionD) : List Dat := [.int .i64 x.value.num, .int .i64 x.value.den, .sl 30 2 (x.primal.map eRational), .sl 30 2 (x.dual.map eRational)]
def FSolution (x : SolutionD) : Prop := FRational x.value ∧ FRationalS x.primal ∧ FRationalS x.dual
def cSolution (x : SolutionD) : Nat := cRationalS x.primal + cRationalS x.dual
def zSolution : SolutionD := ⟨zRational, [], []⟩

end Go.Proofs.Ytepphdhnkaiamaa
