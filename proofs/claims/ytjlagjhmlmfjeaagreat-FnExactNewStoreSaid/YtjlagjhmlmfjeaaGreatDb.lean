/-
  How arguments read.
-/
import Derived.Test.YtjlagjhmlmfjeaaGreatDa
namespace Go.Proofs.YtjlagjhmlmfjeaaGreat
open Go.ChangeShapes Go.WideShapes Go.ChangeAt Go.RowKit
set_option linter.unusedVariables false
set_option linter.unusedSimpArgs false
def RIntS : Rd (List Int) := fun w cs l => RdL (Lv w) w (eIntS l) cs ∧ FIntS l
theorem openIntS {H : Type} {enc : TypeId × Value → H} {w : World} {base : Nat} {spare : Nat → Bool} {held : Bool} {fuel : Nat} {cs : List Value} {x : DataW H × List MemPlace} (h : DataW.trod enc Tryz.prog w base spare held fuel 25 cs = some x) : ∃ l, RIntS w cs l := by
  obtain ⟨l, hl⟩ := trod_slice (k := 1) (R := IntR) Tryz.underlying25 (by kernel_rfl) (by omega) (fun _ _ _ h => trod_int Tryz.underlying3 h) h
  have hf : FIntS l := hl.all_ (fun _ _ _ h => h.2)
  obtain ⟨A, c, rfl, _⟩ := id hl
  exact ⟨l, rdL_cons (rd_slice (R := IntR) (enc := intD) (fun cs x h => by obtain ⟨rfl, _⟩ := h; exact rdL_cons rdV_int rdL_nil) hl) rdL_nil, hf⟩

def RIntSS : Rd (List (List Int)) := fun w cs l => RdL (Lv w) w (eIntSS l) cs ∧ FIntSS l
theorem openIntSS {H : Type} {enc : TypeId × Value → H} {w : World} {base : Nat} {spare : Nat → Bool} {held : Bool} {fuel : Nat} {cs : List Value} {x : DataW H × List MemPlace} (h : DataW.trod enc Tryz.prog w base spare held fuel 105 cs = some x) : ∃ l, RIntSS w cs l := by
  obtain ⟨l, hl⟩ := trod_slice (k := 1) (R := RIntS) Tryz.underlying105 (by kernel_rfl) (by omega) (fun _ _ _ h => openIntS h) h
  have hf : FIntSS l := hl.all_ (fun _ _ _ h => h.2)
  obtain ⟨A, c, rfl, _⟩ := id hl
  exact ⟨l, rdL_cons (rd_slice (R := RIntS) (enc := eIntS) (fun cs x h => h.1) hl) rdL_nil, hf⟩

def RTable : Rd TableD := fun w cs x => RdL (Lv w) w (eTable x) cs ∧ FTable x
set_option maxRecDepth 100000 in
theorem openTable {H : Type} {enc : TypeId × Value → H} {w : World} {base : Nat} {spare : Nat → Bool} {held : Bool} {fuel : Nat} {cs : List Value} {x : DataW H × List MemPlace} (h : DataW.trod enc Tryz.prog w base spare held fuel 183 cs = some x) : ∃ b, RTable w cs b := by
  obtain ⟨xs, n, _, _, hl, hxl, hf⟩ := DataW.trod_struct Tryz.underlying183 h
  have hl2 : cs.length = 3 := hl.trans (by kernel_rfl)
  match cs, hl2 with
  | [c0, c1, c2], _ =>
    match xs, hxl with
    | [y0, y1, y2], _ =>
      obtain ⟨l0, r0⟩ := trod_str Tryz.underlying9 (hf 0 _ rfl)
      obtain ⟨l1, r1⟩ := trod_int Tryz.underlying3 (hf 1 _ rfl)
      obtain ⟨l2, r2, f2⟩ := openIntSS (hf 2 _ rfl)
      exact ⟨⟨l0, l1, l2⟩, (rdL_cons (rdS r0) (rdL_cons (rdI r1) (RdL.append r2 rdL_nil))), r0.2, r1.2, f2⟩

def RTableS : Rd (List TableD) := fun w cs l => RdL (Lv w) w (eTableS l) cs ∧ FTableS l
theorem openTableS {H : Type} {enc : TypeId × Value → H} {w : World} {base : Nat} {spare : Nat → Bool} {held : Bool} {fuel : Nat} {cs : List Value} {x : DataW H × List MemPlace} (h : DataW.trod enc Tryz.prog w base spare held fuel 61 cs = some x) : ∃ l, RTableS w cs l := by
  obtain ⟨l, hl⟩ := trod_slice (k := 3) (R := RTable) Tryz.underlying61 (by kernel_rfl) (by omega) (fun _ _ _ h => openTable h) h
  have hf : FTableS l := hl.all_ (fun _ _ _ h => h.2)
  obtain ⟨A, c, rfl, _⟩ := id hl
  exact ⟨l, rdL_cons (rd_slice (R := RTable) (enc := eTable) (fun cs x h => h.1) hl) rdL_nil, hf⟩

def RDatabase : Rd DatabaseD := fun w cs x => RdL (Lv w) w (eDatabase x) cs ∧ FDatabase x
set_option maxRecDepth 100000 in
theorem openDatabase {H : Type} {enc : TypeId × Value → H} {w : World} {base : Nat} {spare : Nat → Bool} {held : Bool} {fuel : Nat} {cs : List Value} {x : DataW H × List MemPlace} (h : DataW.trod enc Tryz.prog w base spare held fuel 63 cs = some x) : ∃ b, RDatabase w cs b := by
  obtain ⟨xs, n, _, _, hl, hxl, hf⟩ := DataW.trod_struct Tryz.underlying63 h
  have hl2 : cs.length = 1 := hl.trans (by kernel_rfl)
  match cs, hl2 with
  | [c0], _ =>
    match xs, hxl with
    | [y0], _ =>
      obtain ⟨l0, r0, f0⟩ := openTableS (hf 0 _ rfl)
      exact ⟨⟨l0⟩, (RdL.append r0 rdL_nil), f0⟩

def RUpdate : Rd UpdateD := fun w cs x => RdL (Lv w) w (eUpdate x) cs ∧ FUpdate x
set_option maxRecDepth 100000 in
theorem openUpdate {H : Type} {enc : TypeId × Value → H} {w : World} {base : Nat} {spare : Nat → Bool} {held : Bool} {fuel : Nat} {cs : List Value} {x : DataW H × List MemPlace} (h : DataW.trod enc Tryz.prog w base spare held fuel 27 cs = some x) : ∃ b, RUpdate w cs b := by
  obtain ⟨xs, n, _, _, hl, hxl, hf⟩ := DataW.trod_struct Tryz.underlying27 h
  have hl2 : cs.length = 3 := hl.trans (by kernel_rfl)
  match cs, hl2 with
  | [c0, c1, c2], _ =>
    match xs, hxl with
    | [y0, y1, y2], _ =>
      obtain ⟨l0, r0⟩ := trod_str Tryz.underlying9 (hf 0 _ rfl)
      obtain ⟨l1, r1⟩ := trod_bool Tryz.underlying4 (hf 1 _ rfl)
      obtain ⟨l2, r2, f2⟩ := openIntS (hf 2 _ rfl)
      exact ⟨⟨l0, l1, l2⟩, (rdL_cons (rdS r0) (rdL_cons (rdB r1) (RdL.append r2 rdL_nil))), r0.2, trivial, f2⟩

def RAtom : Rd AtomD := fun w cs x => RdL (Lv w) w (eAtom x) cs ∧ FAtom x
set_option maxRecDepth 100000 in
theorem openAtom {H : Type} {enc : TypeId × Value → H} {w : World} {base : Nat} {spare : Nat → Bool} {held : Bool} {fuel : Nat} {cs : List Value} {x : DataW H × List MemPlace} (h : DataW.trod enc Tryz.prog w base spare held fuel 50 cs = some x) : ∃ b, RAtom w cs b := by
  obtain ⟨xs, n, _, _, hl, hxl, hf⟩ := DataW.trod_struct Tryz.underlying50 h
  have hl2 : cs.length = 2 := hl.trans (by kernel_rfl)
  match cs, hl2 with
  | [c0, c1], _ =>
    match xs, hxl with
    | [y0, y1], _ =>
      obtain ⟨l0, r0⟩ := trod_str Tryz.underlying9 (hf 0 _ rfl)
      obtain ⟨l1, r1, f1⟩ := openIntS (hf 1 _ rfl)
      exact ⟨⟨l0, l1⟩, (rdL_cons (rdS r0) (RdL.append r1 rdL_nil)), r0.2, f1⟩

def RGroupStats : Rd GroupStatsD := fun w cs x => RdL (Lv w) w (eGroupStats x) cs ∧ FGroupStats x
set_option maxRecDepth 100000 in
theorem openGroupStats {H : Type} {enc : TypeId × Value → H} {w : World} {base : Nat} {spare : Nat → Bool} {held : Bool} {fuel : Nat} {cs : List Value} {x : DataW H × List MemPlace} (h : DataW.trod enc Tryz.prog w base spare held fuel 155 cs = some x) : ∃ b, RGroupStats w cs b := by
  obtain ⟨xs, n, _, _, hl, hxl, hf⟩ := DataW.trod_struct Tryz.underlying155 h
  have hl2 : cs.length = 3 := hl.trans (by kernel_rfl)
  match cs, hl2 with
  | [c0, c1, c2], _ =>
    match xs, hxl with
    | [y0, y1, y2], _ =>
      obtain ⟨l0, r0, f0⟩ := openIntS (hf 0 _ rfl)
      obtain ⟨l1, r1, f1⟩ := openIntSS (hf 1 _ rfl)
      obtain ⟨l2, r2, f2⟩ := openIntS (hf 2 _ rfl)
      exact ⟨⟨l0, l1, l2⟩, (RdL.append r0 (RdL.append r1 (RdL.append r2 rdL_nil))), f0, f1, f2⟩

def RGroupStatsS : Rd (List GroupStatsD) := fun w cs l => RdL (Lv w) w (eGroupStatsS l) cs ∧ FGroupStatsS l
theorem openGroupStatsS {H : Type} {enc : TypeId × Value → H} {w : World} {base : Nat} {spare : Nat → Bool} {held : Bool} {fuel : Nat} {cs : List Value} {x : DataW H × List MemPlace} (h : DataW.trod enc Tryz.prog w base spare held fuel 22 cs = some x) : ∃ l, RGroupStatsS w cs l := by
  obtain ⟨l, hl⟩ := trod_slice (k := 3) (R := RGroupStats) Tryz.underlying22 (by kernel_rfl) (by omega) (fun _ _ _ h => openGroupStats h) h
  have hf : FGroupStatsS l := hl.all_ (fun _ _ _ h => h.2)
  obtain ⟨A, c, rfl, _⟩ := id hl
  exact ⟨l, rdL_cons (rd_slice (R := RGroupStats) (enc := eGroupStats) (fun cs x h => h.1) hl) rdL_nil, hf⟩

def RTableStats : Rd TableStatsD := fun w cs x => RdL (Lv w) w (eTableStats x) cs ∧ FTableStats x
set_option maxRecDepth 100000 in
theorem openTableStats {H : Type} {enc : TypeId × Value → H} {w : World} {base : Nat} {spare : Nat → Bool} {held : Bool} {fuel : Nat} {cs : List Value} {x : DataW H × List MemPlace} (h : DataW.trod enc Tryz.prog w base spare held fuel 24 cs = some x) : ∃ b, RTableStats w cs b := by
  obtain ⟨xs, n, _, _, hl, hxl, hf⟩ := DataW.trod_struct Tryz.underlying24 h
  have hl2 : cs.length = 4 := hl.trans (by kernel_rfl)
  match cs, hl2 with
  | [c0, c1, c2, c3], _ =>
    match xs, hxl with
    | [y0, y1, y2, y3], _ =>
      obtain ⟨l0, r0⟩ := trod_str Tryz.underlying9 (hf 0 _ rfl)
      obtain ⟨l1, r1⟩ := trod_int Tryz.underlying3 (hf 1 _ rfl)
      obtain ⟨l2, r2⟩ := trod_int Tryz.underlying3 (hf 2 _ rfl)
      obtain ⟨l3, r3, f3⟩ := openGroupStatsS (hf 3 _ rfl)
      exact ⟨⟨l0, l1, l2, l3⟩, (rdL_cons (rdS r0) (rdL_cons (rdI r1) (rdL_cons (rdI r2) (RdL.append r3 rdL_nil)))), r0.2, r1.2, r2.2, f3⟩

def RTableStatsS : Rd (List TableStatsD) := fun w cs l => RdL (Lv w) w (eTableStatsS l) cs ∧ FTableStatsS l
theorem openTableStatsS {H : Type} {enc : TypeId × Value → H} {w : World} {base : Nat} {spare : Nat → Bool} {held : Bool} {fuel : Nat} {cs : List Value} {x : DataW H × List MemPlace} (h : DataW.trod enc Tryz.prog w base spare held fuel 64 cs = some x) : ∃ l, RTableStatsS w cs l := by
  obtain ⟨l, hl⟩ := trod_slice (k := 4) (R := RTableStats) Tryz.underlying64 (by kernel_rfl) (by omega) (fun _ _ _ h => openTableStats h) h
  have hf : FTableStatsS l := hl.all_ (fun _ _ _ h => h.2)
  obtain ⟨A, c, rfl, _⟩ := id hl
  exact ⟨l, rdL_cons (rd_slice (R := RTableStats) (enc := eTableStats) (fun cs x h => h.1) hl) rdL_nil, hf⟩

def RCatalogue : Rd CatalogueD := fun w cs x => RdL (Lv w) w (eCatalogue x) cs ∧ FCatalogue x
set_option maxRecDepth 100000 in
theorem openCatalogue {H : Type} {enc : TypeId × Value → H} {w : World} {base : Nat} {spare : Nat → Bool} {held : Bool} {fuel : Nat} {cs : List Value} {x : DataW H × List MemPlace} (h : DataW.trod enc Tryz.prog w base spare held fuel 66 cs = some x) : ∃ b, RCatalogue w cs b := by
  obtain ⟨xs, n, _, _, hl, hxl, hf⟩ := DataW.trod_struct Tryz.underlying66 h
  have hl2 : cs.length = 2 := hl.trans (by kernel_rfl)
  match cs, hl2 with
  | [c0, c1], _ =>
    match xs, hxl with
    | [y0, y1], _ =>
      obtain ⟨l0, r0⟩ := trod_int Tryz.underlying3 (hf 0 _ rfl)
      obtain ⟨l1, r1, f1⟩ := openTableStatsS (hf 1 _ rfl)
      exact ⟨⟨l0, l1⟩, (rdL_cons (rdI r0) (RdL.append r1 rdL_nil)), r0.2, f1⟩

def RDependency : Rd DependencyD := fun w cs x => RdL (Lv w) w (eDependency x) cs ∧ FDependency x
set_option maxRecDepth 100000 in
theorem openDependency {H : Type} {enc : TypeId × Value → H} {w : World} {base : Nat} {spare : Nat → Bool} {held : Bool} {fuel : Nat} {cs : List Value} {x : DataW H × List MemPlace} (h : DataW.trod enc Tryz.prog w base spare held fuel 135 cs = some x) : ∃ b, RDependency w cs b := by
  obtain ⟨xs, n, _, _, hl, hxl, hf⟩ := DataW.trod_struct Tryz.underlying135 h
  have hl2 : cs.length = 3 := hl.trans (by kernel_rfl)
  match cs, hl2 with
  | [c0, c1, c2], _ =>
    match xs, hxl with
    | [y0, y1, y2], _ =>
      obtain ⟨l0, r0⟩ := trod_str Tryz.underlying9 (hf 0 _ rfl)
      obtain ⟨l1, r1, f1⟩ := openIntS (hf 1 _ rfl)
      obtain ⟨l2, r2⟩ := trod_int Tryz.underlying3 (hf 2 _ rfl)
      exact ⟨⟨l0, l1, l2⟩, (rdL_cons (rdS r0) (RdL.append r1 (rdL_cons (rdI r2) rdL_nil))), r0.2, f1, r2.2⟩

def RDependencyS : Rd (List DependencyD) := fun w cs l => RdL (Lv w) w (eDependencyS l) cs ∧ FDependencyS l
theorem openDependencyS {H : Type} {enc : TypeId × Value → H} {w : World} {base : Nat} {spare : Nat → Bool} {held : Bool} {fuel : Nat} {cs : List Value} {x : DataW H × List MemPlace} (h : DataW.trod enc Tryz.prog w base spare held fuel 67 cs = some x) : ∃ l, RDependencyS w cs l := by
  obtain ⟨l, hl⟩ := trod_slice (k := 3) (R := RDependency) Tryz.underlying67 (by kernel_rfl) (by omega) (fun _ _ _ h => openDependency h) h
  have hf : FDependencyS l := hl.all_ (fun _ _ _ h => h.2)
  obtain ⟨A, c, rfl, _⟩ := id hl
  exact ⟨l, rdL_cons (rd_slice (R := RDependency) (enc := eDependency) (fun cs x h => h.1) hl) rdL_nil, hf⟩

def RInclusion : Rd InclusionD := fun w cs x => RdL (Lv w) w (eInclusion x) cs ∧ FInclusion x
set_option maxRecDepth 100000 in
theorem openInclusion {H : Type} {enc : TypeId × Value → H} {w : World} {base : Nat} {spare : Nat → Bool} {held : Bool} {fuel : Nat} {cs : List Value} {x : DataW H × List MemPlace} (h : DataW.trod enc Tryz.prog w base spare held fuel 138 cs = some x) : ∃ b, RInclusion w cs b := by
  obtain ⟨xs, n, _, _, hl, hxl, hf⟩ := DataW.trod_struct Tryz.underlying138 h
  have hl2 : cs.length = 4 := hl.trans (by kernel_rfl)
  match cs, hl2 with
  | [c0, c1, c2, c3], _ =>
    match xs, hxl with
    | [y0, y1, y2, y3], _ =>
      obtain ⟨l0, r0⟩ := trod_str Tryz.underlying9 (hf 0 _ rfl)
      obtain ⟨l1, r1⟩ := trod_int Tryz.underlying3 (hf 1 _ rfl)
      obtain ⟨l2, r2⟩ := trod_str Tryz.underlying9 (hf 2 _ rfl)
      obtain ⟨l3, r3⟩ := trod_int Tryz.underlying3 (hf 3 _ rfl)
      exact ⟨⟨l0, l1, l2, l3⟩, (rdL_cons (rdS r0) (rdL_cons (rdI r1) (rdL_cons (rdS r2) (rdL_cons (rdI r3) rdL_nil)))), r0.2, r1.2, r2.2, r3.2⟩

def RInclusionS : Rd (List InclusionD) := fun w cs l => RdL (Lv w) w (eInclusionS l) cs ∧ FInclusionS l
theorem openInclusionS {H : Type} {enc : TypeId × Value → H} {w : World} {base : Nat} {spare : Nat → Bool} {held : Bool} {fuel : Nat} {cs : List Value} {x : DataW H × List MemPlace} (h : DataW.trod enc Tryz.prog w base spare held fuel 68 cs = some x) : ∃ l, RInclusionS w cs l := by
  obtain ⟨l, hl⟩ := trod_slice (k := 4) (R := RInclusion) Tryz.underlying68 (by kernel_rfl) (by omega) (fun _ _ _ h => openInclusion h) h
  have hf : FInclusionS l := hl.all_ (fun _ _ _ h => h.2)
  obtain ⟨A, c, rfl, _⟩ := id hl
  exact ⟨l, rdL_cons (rd_slice (R := RInclusion) (enc := eInclusion) (fun cs x h => h.1) hl) rdL_nil, hf⟩

def RStore : Rd StoreD := fun w cs x => RdL (Lv w) w (eStore x) cs ∧ FStore x
set_option maxRecDepth 100000 in
theorem openStore {H : Type} {enc : TypeId × Value → H} {w : World} {base : Nat} {spare : Nat → Bool} {held : Bool} {fuel : Nat} {cs : List Value} {x : DataW H × List MemPlace} (h : DataW.trod enc Tryz.prog w base spare held fuel 70 cs = some x) : ∃ b, RStore w cs b := by
  obtain ⟨xs, n, _, _, hl, hxl, hf⟩ := DataW.trod_struct Tryz.underlying70 h
  have hl2 : cs.length = 5 := hl.trans (by kernel_rfl)
  match cs, hl2 with
  | [c0, c1, c2, c3, c4], _ =>
    match xs, hxl with
    | [y0, y1, y2, y3], _ =>
      obtain ⟨l0, r0, f0⟩ := openDatabase (hf 0 _ rfl)
      obtain ⟨l1, r1, f1⟩ := openCatalogue (hf 1 _ rfl)
      obtain ⟨l2, r2, f2⟩ := openDependencyS (hf 2 _ rfl)
      obtain ⟨l3, r3, f3⟩ := openInclusionS (hf 3 _ rfl)
      exact ⟨⟨l0, l1, l2, l3⟩, (RdL.append r0 (RdL.append r1 (RdL.append r2 (RdL.append r3 rdL_nil)))), f0, f1, f2, f3⟩
end Go.Proofs.YtjlagjhmlmfjeaaGreat
