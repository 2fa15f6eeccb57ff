/-
  How arguments read.
-/
import Derived.Test.YtcfilkhjababjaaDa
namespace Go.Proofs.Ytcfilkhjababjaa
open Go.ChangeShapes Go.WideShapes Go.ChangeAt Go.RowKit
set_option linter.unusedVariables false
set_option linter.unusedSimpArgs false
def RIntS : Rd (List Int) := fun w cs l => RdL (Lv w) w (eIntS l) cs ∧ FIntS l
theorem openIntS {H : Type} {enc : TypeId × Value → H} {w : World} {base : Nat} {spare : Nat → Bool} {held : Bool} {fuel : Nat} {cs : List Value} {x : DataW H × List MemPlace} (h : DataW.trod enc Try.prog w base spare held fuel 34 cs = some x) : ∃ l, RIntS w cs l := by
  obtain ⟨l, hl⟩ := trod_slice (k := 1) (R := IntR) Try.underlying34 (by kernel_rfl) (by omega) (fun _ _ _ h => trod_int Try.underlying3 h) h
  have hf : FIntS l := hl.all_ (fun _ _ _ h => h.2)
  obtain ⟨A, c, rfl, _⟩ := id hl
  exact ⟨l, rdL_cons (rd_slice (R := IntR) (enc := intD) (fun cs x h => by obtain ⟨rfl, _⟩ := h; exact rdL_cons rdV_int rdL_nil) hl) rdL_nil, hf⟩

def RIntSS : Rd (List (List Int)) := fun w cs l => RdL (Lv w) w (eIntSS l) cs ∧ FIntSS l
theorem openIntSS {H : Type} {enc : TypeId × Value → H} {w : World} {base : Nat} {spare : Nat → Bool} {held : Bool} {fuel : Nat} {cs : List Value} {x : DataW H × List MemPlace} (h : DataW.trod enc Try.prog w base spare held fuel 28 cs = some x) : ∃ l, RIntSS w cs l := by
  obtain ⟨l, hl⟩ := trod_slice (k := 1) (R := RIntS) Try.underlying28 (by kernel_rfl) (by omega) (fun _ _ _ h => openIntS h) h
  have hf : FIntSS l := hl.all_ (fun _ _ _ h => h.2)
  obtain ⟨A, c, rfl, _⟩ := id hl
  exact ⟨l, rdL_cons (rd_slice (R := RIntS) (enc := eIntS) (fun cs x h => h.1) hl) rdL_nil, hf⟩

def RRational : Rd RationalD := fun w cs x => RdL (Lv w) w (eRational x) cs ∧ FRational x
set_option maxRecDepth 100000 in
theorem openRational {H : Type} {enc : TypeId × Value → H} {w : World} {base : Nat} {spare : Nat → Bool} {held : Bool} {fuel : Nat} {cs : List Value} {x : DataW H × List MemPlace} (h : DataW.trod enc Try.prog w base spare held fuel 23 cs = some x) : ∃ b, RRational w cs b := by
  obtain ⟨xs, n, _, _, hl, hxl, hf⟩ := DataW.trod_struct Try.underlying23 h
  have hl2 : cs.length = 2 := hl.trans (by kernel_rfl)
  match cs, hl2 with
  | [c0, c1], _ =>
    match xs, hxl with
    | [y0, y1], _ =>
      obtain ⟨l0, r0⟩ := trod_int Try.underlying3 (hf 0 _ rfl)
      obtain ⟨l1, r1⟩ := trod_int Try.underlying3 (hf 1 _ rfl)
      exact ⟨⟨l0, l1⟩, (rdL_cons (rdI r0) (rdL_cons (rdI r1) rdL_nil)), r0.2, r1.2⟩

def RRationalS : Rd (List RationalD) := fun w cs l => RdL (Lv w) w (eRationalS l) cs ∧ FRationalS l
theorem openRationalS {H : Type} {enc : TypeId × Value → H} {w : World} {base : Nat} {spare : Nat → Bool} {held : Bool} {fuel : Nat} {cs : List Value} {x : DataW H × List MemPlace} (h : DataW.trod enc Try.prog w base spare held fuel 76 cs = some x) : ∃ l, RRationalS w cs l := by
  obtain ⟨l, hl⟩ := trod_slice (k := 2) (R := RRational) Try.underlying76 (by kernel_rfl) (by omega) (fun _ _ _ h => openRational h) h
  have hf : FRationalS l := hl.all_ (fun _ _ _ h => h.2)
  obtain ⟨A, c, rfl, _⟩ := id hl
  exact ⟨l, rdL_cons (rd_slice (R := RRational) (enc := eRational) (fun cs x h => h.1) hl) rdL_nil, hf⟩

def RRationalSS : Rd (List (List RationalD)) := fun w cs l => RdL (Lv w) w (eRationalSS l) cs ∧ FRationalSS l
theorem openRationalSS {H : Type} {enc : TypeId × Value → H} {w : World} {base : Nat} {spare : Nat → Bool} {held : Bool} {fuel : Nat} {cs : List Value} {x : DataW H × List MemPlace} (h : DataW.trod enc Try.prog w base spare held fuel 75 cs = some x) : ∃ l, RRationalSS w cs l := by
  obtain ⟨l, hl⟩ := trod_slice (k := 1) (R := RRationalS) Try.underlying75 (by kernel_rfl) (by omega) (fun _ _ _ h => openRationalS h) h
  have hf : FRationalSS l := hl.all_ (fun _ _ _ h => h.2)
  obtain ⟨A, c, rfl, _⟩ := id hl
  exact ⟨l, rdL_cons (rd_slice (R := RRationalS) (enc := eRationalS) (fun cs x h => h.1) hl) rdL_nil, hf⟩

def RSizeConstraint : Rd SizeConstraintD := fun w cs x => RdL (Lv w) w (eSizeConstraint x) cs ∧ FSizeConstraint x
set_option maxRecDepth 100000 in
theorem openSizeConstraint {H : Type} {enc : TypeId × Value → H} {w : World} {base : Nat} {spare : Nat → Bool} {held : Bool} {fuel : Nat} {cs : List Value} {x : DataW H × List MemPlace} (h : DataW.trod enc Try.prog w base spare held fuel 113 cs = some x) : ∃ b, RSizeConstraint w cs b := by
  obtain ⟨xs, n, _, _, hl, hxl, hf⟩ := DataW.trod_struct Try.underlying113 h
  have hl2 : cs.length = 3 := hl.trans (by kernel_rfl)
  match cs, hl2 with
  | [c0, c1, c2], _ =>
    match xs, hxl with
    | [y0, y1, y2], _ =>
      obtain ⟨l0, r0⟩ := trod_int Try.underlying3 (hf 0 _ rfl)
      obtain ⟨l1, r1⟩ := trod_int Try.underlying3 (hf 1 _ rfl)
      obtain ⟨l2, r2⟩ := trod_int Try.underlying3 (hf 2 _ rfl)
      exact ⟨⟨l0, l1, l2⟩, (rdL_cons (rdI r0) (rdL_cons (rdI r1) (rdL_cons (rdI r2) rdL_nil))), r0.2, r1.2, r2.2⟩

def RSizeConstraintS : Rd (List SizeConstraintD) := fun w cs l => RdL (Lv w) w (eSizeConstraintS l) cs ∧ FSizeConstraintS l
theorem openSizeConstraintS {H : Type} {enc : TypeId × Value → H} {w : World} {base : Nat} {spare : Nat → Bool} {held : Bool} {fuel : Nat} {cs : List Value} {x : DataW H × List MemPlace} (h : DataW.trod enc Try.prog w base spare held fuel 33 cs = some x) : ∃ l, RSizeConstraintS w cs l := by
  obtain ⟨l, hl⟩ := trod_slice (k := 3) (R := RSizeConstraint) Try.underlying33 (by kernel_rfl) (by omega) (fun _ _ _ h => openSizeConstraint h) h
  have hf : FSizeConstraintS l := hl.all_ (fun _ _ _ h => h.2)
  obtain ⟨A, c, rfl, _⟩ := id hl
  exact ⟨l, rdL_cons (rd_slice (R := RSizeConstraint) (enc := eSizeConstraint) (fun cs x h => h.1) hl) rdL_nil, hf⟩

def RBox : Rd BoxD := fun w cs x => RdL (Lv w) w (eBox x) cs ∧ FBox x
set_option maxRecDepth 100000 in
theorem openBox {H : Type} {enc : TypeId × Value → H} {w : World} {base : Nat} {spare : Nat → Bool} {held : Bool} {fuel : Nat} {cs : List Value} {x : DataW H × List MemPlace} (h : DataW.trod enc Try.prog w base spare held fuel 46 cs = some x) : ∃ b, RBox w cs b := by
  obtain ⟨xs, n, _, _, hl, hxl, hf⟩ := DataW.trod_struct Try.underlying46 h
  have hl2 : cs.length = 2 := hl.trans (by kernel_rfl)
  match cs, hl2 with
  | [c0, c1], _ =>
    match xs, hxl with
    | [y0, y1], _ =>
      obtain ⟨l0, r0, f0⟩ := openIntS (hf 0 _ rfl)
      obtain ⟨l1, r1, f1⟩ := openIntS (hf 1 _ rfl)
      exact ⟨⟨l0, l1⟩, (RdL.append r0 (RdL.append r1 rdL_nil)), f0, f1⟩

def RProgram : Rd ProgramD := fun w cs x => RdL (Lv w) w (eProgram x) cs ∧ FProgram x
set_option maxRecDepth 100000 in
theorem openProgram {H : Type} {enc : TypeId × Value → H} {w : World} {base : Nat} {spare : Nat → Bool} {held : Bool} {fuel : Nat} {cs : List Value} {x : DataW H × List MemPlace} (h : DataW.trod enc Try.prog w base spare held fuel 64 cs = some x) : ∃ b, RProgram w cs b := by
  obtain ⟨xs, n, _, _, hl, hxl, hf⟩ := DataW.trod_struct Try.underlying64 h
  have hl2 : cs.length = 3 := hl.trans (by kernel_rfl)
  match cs, hl2 with
  | [c0, c1, c2], _ =>
    match xs, hxl with
    | [y0, y1, y2], _ =>
      obtain ⟨l0, r0, f0⟩ := openIntS (hf 0 _ rfl)
      obtain ⟨l1, r1, f1⟩ := openIntSS (hf 1 _ rfl)
      obtain ⟨l2, r2, f2⟩ := openIntS (hf 2 _ rfl)
      exact ⟨⟨l0, l1, l2⟩, (RdL.append r0 (RdL.append r1 (RdL.append r2 rdL_nil))), f0, f1, f2⟩

def RDictionary : Rd DictionaryD := fun w cs x => RdL (Lv w) w (eDictionary x) cs ∧ FDictionary x
set_option maxRecDepth 100000 in
theorem openDictionary {H : Type} {enc : TypeId × Value → H} {w : World} {base : Nat} {spare : Nat → Bool} {held : Bool} {fuel : Nat} {cs : List Value} {x : DataW H × List MemPlace} (h : DataW.trod enc Try.prog w base spare held fuel 78 cs = some x) : ∃ b, RDictionary w cs b := by
  obtain ⟨xs, n, _, _, hl, hxl, hf⟩ := DataW.trod_struct Try.underlying78 h
  have hl2 : cs.length = 7 := hl.trans (by kernel_rfl)
  match cs, hl2 with
  | [c0, c1, c2, c3, c4, c5, c6], _ =>
    match xs, hxl with
    | [y0, y1, y2, y3, y4, y5], _ =>
      obtain ⟨l0, r0, f0⟩ := openIntS (hf 0 _ rfl)
      obtain ⟨l1, r1, f1⟩ := openIntS (hf 1 _ rfl)
      obtain ⟨l2, r2, f2⟩ := openRationalSS (hf 2 _ rfl)
      obtain ⟨l3, r3, f3⟩ := openRationalS (hf 3 _ rfl)
      obtain ⟨l4, r4, f4⟩ := openRationalS (hf 4 _ rfl)
      obtain ⟨l5, r5, f5⟩ := openRational (hf 5 _ rfl)
      exact ⟨⟨l0, l1, l2, l3, l4, l5⟩, (RdL.append r0 (RdL.append r1 (RdL.append r2 (RdL.append r3 (RdL.append r4 (RdL.append r5 rdL_nil)))))), f0, f1, f2, f3, f4, f5⟩
end Go.Proofs.Ytcfilkhjababjaa
