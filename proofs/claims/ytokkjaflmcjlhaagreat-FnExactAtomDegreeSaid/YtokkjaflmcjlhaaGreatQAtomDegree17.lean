/-
  Contracts and plain laws, joined: part 18.
-/
import Derived.Test.YtokkjaflmcjlhaaGreatQAtomDegree3
import Derived.Test.YtokkjaflmcjlhaaGreatQAtomDegree0
namespace Go.Proofs.YtokkjaflmcjlhaaGreat
open Go.ChangeShapes Go.WideShapes Go.ChangeAt Go.RowKit
set_option linter.unusedVariables false
set_option linter.unusedSimpArgs false
set_option maxRecDepth 100000
set_option maxHeartbeats 4000000
def RIntS : Rd (List Int) := fun w cs l => RdL (Lv w) w (eIntS l) cs ∧ FIntS l
theorem openIntS {H : Type} {enc : TypeId × Value → H} {w : World} {base : Nat} {spare : Nat → Bool} {held : Bool} {fuel : Nat} {cs : List Value} {x : DataW H × List MemPlace} (h : DataW.trod enc Tryz.prog w base spare held fuel 32 cs = some x) : ∃ l, RIntS w cs l := by
  obtain ⟨l, hl⟩ := trod_slice (k := 1) (R := IntR) Tryz.underlying32 (by kernel_rfl) (by omega) (fun _ _ _ h => trod_int Tryz.underlying3 h) h
  have hf : FIntS l := hl.all_ (fun _ _ _ h => h.2)
  obtain ⟨A, c, rfl, _⟩ := id hl
  exact ⟨l, rdL_cons (rd_slice (R := IntR) (enc := intD) (fun cs x h => by obtain ⟨rfl, _⟩ := h; exact rdL_cons rdV_int rdL_nil) hl) rdL_nil, hf⟩
def RIntSS : Rd (List (List Int)) := fun w cs l => RdL (Lv w) w (eIntSS l) cs ∧ FIntSS l
theorem openIntSS {H : Type} {enc : TypeId × Value → H} {w : World} {base : Nat} {spare : Nat → Bool} {held : Bool} {fuel : Nat} {cs : List Value} {x : DataW H × List MemPlace} (h : DataW.trod enc Tryz.prog w base spare held fuel 160 cs = some x) : ∃ l, RIntSS w cs l := by
  obtain ⟨l, hl⟩ := trod_slice (k := 1) (R := RIntS) Tryz.underlying160 (by kernel_rfl) (by omega) (fun _ _ _ h => openIntS h) h
  have hf : FIntSS l := hl.all_ (fun _ _ _ h => h.2)
  obtain ⟨A, c, rfl, _⟩ := id hl
  exact ⟨l, rdL_cons (rd_slice (R := RIntS) (enc := eIntS) (fun cs x h => h.1) hl) rdL_nil, hf⟩
def RTable : Rd TableD := fun w cs x => RdL (Lv w) w (eTable x) cs ∧ FTable x
set_option maxRecDepth 100000 in
theorem openTable {H : Type} {enc : TypeId × Value → H} {w : World} {base : Nat} {spare : Nat → Bool} {held : Bool} {fuel : Nat} {cs : List Value} {x : DataW H × List MemPlace} (h : DataW.trod enc Tryz.prog w base spare held fuel 202 cs = some x) : ∃ b, RTable w cs b := by
  obtain ⟨xs, n, _, _, hl, hxl, hf⟩ := DataW.trod_struct Tryz.underlying202 h
  have hl2 : cs.length = 3 := hl.trans (by kernel_rfl)
  match cs, hl2 with
  | [c0, c1, c2], _ =>
    match xs, hxl with
    | [y0, y1, y2], _ =>
      obtain ⟨l0, r0⟩ := trod_str Tryz.underlying9 (hf 0 _ rfl)
      obtain ⟨l1, r1⟩ := trod_int Tryz.underlying3 (hf 1 _ rfl)
      obtain ⟨l2, r2, f2⟩ := openIntSS (hf 2 _ rfl)
      exact ⟨⟨l0, l1, l2⟩, (rdL_cons (rdS r0) (rdL_cons (rdI r1) (RdL.append r2 rdL_nil))), r0.2, r1.2, f2⟩
def RTableS : Rd (List TableD) := fun w cs l => RdL (Lv w) w (eTableS l) cs ∧ FTableS l
theorem openTableS {H : Type} {enc : TypeId × Value → H} {w : World} {base : Nat} {spare : Nat → Bool} {held : Bool} {fuel : Nat} {cs : List Value} {x : DataW H × List MemPlace} (h : DataW.trod enc Tryz.prog w base spare held fuel 22 cs = some x) : ∃ l, RTableS w cs l := by
  obtain ⟨l, hl⟩ := trod_slice (k := 3) (R := RTable) Tryz.underlying22 (by kernel_rfl) (by omega) (fun _ _ _ h => openTable h) h
  have hf : FTableS l := hl.all_ (fun _ _ _ h => h.2)
  obtain ⟨A, c, rfl, _⟩ := id hl
  exact ⟨l, rdL_cons (rd_slice (R := RTable) (enc := eTable) (fun cs x h => h.1) hl) rdL_nil, hf⟩
def RDatabase : Rd DatabaseD := fun w cs x => RdL (Lv w) w (eDatabase x) cs ∧ FDatabase x
set_option maxRecDepth 100000 in
theorem openDatabase {H : Type} {enc : TypeId × Value → H} {w : World} {base : Nat} {spare : Nat → Bool} {held : Bool} {fuel : Nat} {cs : List Value} {x : DataW H × List MemPlace} (h : DataW.trod enc Tryz.prog w base spare held fuel 24 cs = some x) : ∃ b, RDatabase w cs b := by
  obtain ⟨xs, n, _, _, hl, hxl, hf⟩ := DataW.trod_struct Tryz.underlying24 h
  have hl2 : cs.length = 1 := hl.trans (by kernel_rfl)
  match cs, hl2 with
  | [c0], _ =>
    match xs, hxl with
    | [y0], _ =>
      obtain ⟨l0, r0, f0⟩ := openTableS (hf 0 _ rfl)
      exact ⟨⟨l0⟩, (RdL.append r0 rdL_nil), f0⟩
def RAtom : Rd AtomD := fun w cs x => RdL (Lv w) w (eAtom x) cs ∧ FAtom x
set_option maxRecDepth 100000 in
theorem openAtom {H : Type} {enc : TypeId × Value → H} {w : World} {base : Nat} {spare : Nat → Bool} {held : Bool} {fuel : Nat} {cs : List Value} {x : DataW H × List MemPlace} (h : DataW.trod enc Tryz.prog w base spare held fuel 185 cs = some x) : ∃ b, RAtom w cs b := by
  obtain ⟨xs, n, _, _, hl, hxl, hf⟩ := DataW.trod_struct Tryz.underlying185 h
  have hl2 : cs.length = 2 := hl.trans (by kernel_rfl)
  match cs, hl2 with
  | [c0, c1], _ =>
    match xs, hxl with
    | [y0, y1], _ =>
      obtain ⟨l0, r0⟩ := trod_str Tryz.underlying9 (hf 0 _ rfl)
      obtain ⟨l1, r1, f1⟩ := openIntS (hf 1 _ rfl)
      exact ⟨⟨l0, l1⟩, (rdL_cons (rdS r0) (RdL.append r1 rdL_nil)), r0.2, f1⟩
def RAtomS : Rd (List AtomD) := fun w cs l => RdL (Lv w) w (eAtomS l) cs ∧ FAtomS l
theorem openAtomS {H : Type} {enc : TypeId × Value → H} {w : World} {base : Nat} {spare : Nat → Bool} {held : Bool} {fuel : Nat} {cs : List Value} {x : DataW H × List MemPlace} (h : DataW.trod enc Tryz.prog w base spare held fuel 66 cs = some x) : ∃ l, RAtomS w cs l := by
  obtain ⟨l, hl⟩ := trod_slice (k := 2) (R := RAtom) Tryz.underlying66 (by kernel_rfl) (by omega) (fun _ _ _ h => openAtom h) h
  have hf : FAtomS l := hl.all_ (fun _ _ _ h => h.2)
  obtain ⟨A, c, rfl, _⟩ := id hl
  exact ⟨l, rdL_cons (rd_slice (R := RAtom) (enc := eAtom) (fun cs x h => h.1) hl) rdL_nil, hf⟩
def RQuery : Rd QueryD := fun w cs x => RdL (Lv w) w (eQuery x) cs ∧ FQuery x
set_option maxRecDepth 100000 in
theorem openQuery {H : Type} {enc : TypeId × Value → H} {w : World} {base : Nat} {spare : Nat → Bool} {held : Bool} {fuel : Nat} {cs : List Value} {x : DataW H × List MemPlace} (h : DataW.trod enc Tryz.prog w base spare held fuel 68 cs = some x) : ∃ b, RQuery w cs b := by
  obtain ⟨xs, n, _, _, hl, hxl, hf⟩ := DataW.trod_struct Tryz.underlying68 h
  have hl2 : cs.length = 2 := hl.trans (by kernel_rfl)
  match cs, hl2 with
  | [c0, c1], _ =>
    match xs, hxl with
    | [y0, y1], _ =>
      obtain ⟨l0, r0⟩ := trod_int Tryz.underlying3 (hf 0 _ rfl)
      obtain ⟨l1, r1, f1⟩ := openAtomS (hf 1 _ rfl)
      exact ⟨⟨l0, l1⟩, (rdL_cons (rdI r0) (RdL.append r1 rdL_nil)), r0.2, f1⟩
def RGroupStats : Rd GroupStatsD := fun w cs x => RdL (Lv w) w (eGroupStats x) cs ∧ FGroupStats x
set_option maxRecDepth 100000 in
theorem openGroupStats {H : Type} {enc : TypeId × Value → H} {w : World} {base : Nat} {spare : Nat → Bool} {held : Bool} {fuel : Nat} {cs : List Value} {x : DataW H × List MemPlace} (h : DataW.trod enc Tryz.prog w base spare held fuel 251 cs = some x) : ∃ b, RGroupStats w cs b := by
  obtain ⟨xs, n, _, _, hl, hxl, hf⟩ := DataW.trod_struct Tryz.underlying251 h
  have hl2 : cs.length = 3 := hl.trans (by kernel_rfl)
  match cs, hl2 with
  | [c0, c1, c2], _ =>
    match xs, hxl with
    | [y0, y1, y2], _ =>
      obtain ⟨l0, r0, f0⟩ := openIntS (hf 0 _ rfl)
      obtain ⟨l1, r1, f1⟩ := openIntSS (hf 1 _ rfl)
      obtain ⟨l2, r2, f2⟩ := openIntS (hf 2 _ rfl)
      exact ⟨⟨l0, l1, l2⟩, (RdL.append r0 (RdL.append r1 (RdL.append r2 rdL_nil))), f0, f1, f2⟩
def RGroupStatsS : Rd (List GroupStatsD) := fun w cs l => RdL (Lv w) w (eGroupStatsS l) cs ∧ FGroupStatsS l
theorem openGroupStatsS {H : Type} {enc : TypeId × Value → H} {w : World} {base : Nat} {spare : Nat → Bool} {held : Bool} {fuel : Nat} {cs : List Value} {x : DataW H × List MemPlace} (h : DataW.trod enc Tryz.prog w base spare held fuel 204 cs = some x) : ∃ l, RGroupStatsS w cs l := by
  obtain ⟨l, hl⟩ := trod_slice (k := 3) (R := RGroupStats) Tryz.underlying204 (by kernel_rfl) (by omega) (fun _ _ _ h => openGroupStats h) h
  have hf : FGroupStatsS l := hl.all_ (fun _ _ _ h => h.2)
  obtain ⟨A, c, rfl, _⟩ := id hl
  exact ⟨l, rdL_cons (rd_slice (R := RGroupStats) (enc := eGroupStats) (fun cs x h => h.1) hl) rdL_nil, hf⟩
def RTableStats : Rd TableStatsD := fun w cs x => RdL (Lv w) w (eTableStats x) cs ∧ FTableStats x
set_option maxRecDepth 100000 in
theorem openTableStats {H : Type} {enc : TypeId × Value → H} {w : World} {base : Nat} {spare : Nat → Bool} {held : Bool} {fuel : Nat} {cs : List Value} {x : DataW H × List MemPlace} (h : DataW.trod enc Tryz.prog w base spare held fuel 206 cs = some x) : ∃ b, RTableStats w cs b := by
  obtain ⟨xs, n, _, _, hl, hxl, hf⟩ := DataW.trod_struct Tryz.underlying206 h
  have hl2 : cs.length = 4 := hl.trans (by kernel_rfl)
  match cs, hl2 with
  | [c0, c1, c2, c3], _ =>
    match xs, hxl with
    | [y0, y1, y2, y3], _ =>
      obtain ⟨l0, r0⟩ := trod_str Tryz.underlying9 (hf 0 _ rfl)
      obtain ⟨l1, r1⟩ := trod_int Tryz.underlying3 (hf 1 _ rfl)
      obtain ⟨l2, r2⟩ := trod_int Tryz.underlying3 (hf 2 _ rfl)
      obtain ⟨l3, r3, f3⟩ := openGroupStatsS (hf 3 _ rfl)
      exact ⟨⟨l0, l1, l2, l3⟩, (rdL_cons (rdS r0) (rdL_cons (rdI r1) (rdL_cons (rdI r2) (RdL.append r3 rdL_nil)))), r0.2, r1.2, r2.2, f3⟩
def RTableStatsS : Rd (List TableStatsD) := fun w cs l => RdL (Lv w) w (eTableStatsS l) cs ∧ FTableStatsS l
theorem openTableStatsS {H : Type} {enc : TypeId × Value → H} {w : World} {base : Nat} {spare : Nat → Bool} {held : Bool} {fuel : Nat} {cs : List Value} {x : DataW H × List MemPlace} (h : DataW.trod enc Tryz.prog w base spare held fuel 25 cs = some x) : ∃ l, RTableStatsS w cs l := by
  obtain ⟨l, hl⟩ := trod_slice (k := 4) (R := RTableStats) Tryz.underlying25 (by kernel_rfl) (by omega) (fun _ _ _ h => openTableStats h) h
  have hf : FTableStatsS l := hl.all_ (fun _ _ _ h => h.2)
  obtain ⟨A, c, rfl, _⟩ := id hl
  exact ⟨l, rdL_cons (rd_slice (R := RTableStats) (enc := eTableStats) (fun cs x h => h.1) hl) rdL_nil, hf⟩
def RCatalogue : Rd CatalogueD := fun w cs x => RdL (Lv w) w (eCatalogue x) cs ∧ FCatalogue x
set_option maxRecDepth 100000 in
theorem openCatalogue {H : Type} {enc : TypeId × Value → H} {w : World} {base : Nat} {spare : Nat → Bool} {held : Bool} {fuel : Nat} {cs : List Value} {x : DataW H × List MemPlace} (h : DataW.trod enc Tryz.prog w base spare held fuel 27 cs = some x) : ∃ b, RCatalogue w cs b := by
  obtain ⟨xs, n, _, _, hl, hxl, hf⟩ := DataW.trod_struct Tryz.underlying27 h
  have hl2 : cs.length = 2 := hl.trans (by kernel_rfl)
  match cs, hl2 with
  | [c0, c1], _ =>
    match xs, hxl with
    | [y0, y1], _ =>
      obtain ⟨l0, r0⟩ := trod_int Tryz.underlying3 (hf 0 _ rfl)
      obtain ⟨l1, r1, f1⟩ := openTableStatsS (hf 1 _ rfl)
      exact ⟨⟨l0, l1⟩, (rdL_cons (rdI r0) (RdL.append r1 rdL_nil)), r0.2, f1⟩
def RDependency : Rd DependencyD := fun w cs x => RdL (Lv w) w (eDependency x) cs ∧ FDependency x
set_option maxRecDepth 100000 in
theorem openDependency {H : Type} {enc : TypeId × Value → H} {w : World} {base : Nat} {spare : Nat → Bool} {held : Bool} {fuel : Nat} {cs : List Value} {x : DataW H × List MemPlace} (h : DataW.trod enc Tryz.prog w base spare held fuel 154 cs = some x) : ∃ b, RDependency w cs b := by
  obtain ⟨xs, n, _, _, hl, hxl, hf⟩ := DataW.trod_struct Tryz.underlying154 h
  have hl2 : cs.length = 3 := hl.trans (by kernel_rfl)
  match cs, hl2 with
  | [c0, c1, c2], _ =>
    match xs, hxl with
    | [y0, y1, y2], _ =>
      obtain ⟨l0, r0⟩ := trod_str Tryz.underlying9 (hf 0 _ rfl)
      obtain ⟨l1, r1, f1⟩ := openIntS (hf 1 _ rfl)
      obtain ⟨l2, r2⟩ := trod_int Tryz.underlying3 (hf 2 _ rfl)
      exact ⟨⟨l0, l1, l2⟩, (rdL_cons (rdS r0) (RdL.append r1 (rdL_cons (rdI r2) rdL_nil))), r0.2, f1, r2.2⟩
def RDependencyS : Rd (List DependencyD) := fun w cs l => RdL (Lv w) w (eDependencyS l) cs ∧ FDependencyS l
theorem openDependencyS {H : Type} {enc : TypeId × Value → H} {w : World} {base : Nat} {spare : Nat → Bool} {held : Bool} {fuel : Nat} {cs : List Value} {x : DataW H × List MemPlace} (h : DataW.trod enc Tryz.prog w base spare held fuel 28 cs = some x) : ∃ l, RDependencyS w cs l := by
  obtain ⟨l, hl⟩ := trod_slice (k := 3) (R := RDependency) Tryz.underlying28 (by kernel_rfl) (by omega) (fun _ _ _ h => openDependency h) h
  have hf : FDependencyS l := hl.all_ (fun _ _ _ h => h.2)
  obtain ⟨A, c, rfl, _⟩ := id hl
  exact ⟨l, rdL_cons (rd_slice (R := RDependency) (enc := eDependency) (fun cs x h => h.1) hl) rdL_nil, hf⟩
def RInclusion : Rd InclusionD := fun w cs x => RdL (Lv w) w (eInclusion x) cs ∧ FInclusion x
set_option maxRecDepth 100000 in
theorem openInclusion {H : Type} {enc : TypeId × Value → H} {w : World} {base : Nat} {spare : Nat → Bool} {held : Bool} {fuel : Nat} {cs : List Value} {x : DataW H × List MemPlace} (h : DataW.trod enc Tryz.prog w base spare held fuel 157 cs = some x) : ∃ b, RInclusion w cs b := by
  obtain ⟨xs, n, _, _, hl, hxl, hf⟩ := DataW.trod_struct Tryz.underlying157 h
  have hl2 : cs.length = 4 := hl.trans (by kernel_rfl)
  match cs, hl2 with
  | [c0, c1, c2, c3], _ =>
    match xs, hxl with
    | [y0, y1, y2, y3], _ =>
      obtain ⟨l0, r0⟩ := trod_str Tryz.underlying9 (hf 0 _ rfl)
      obtain ⟨l1, r1⟩ := trod_int Tryz.underlying3 (hf 1 _ rfl)
      obtain ⟨l2, r2⟩ := trod_str Tryz.underlying9 (hf 2 _ rfl)
      obtain ⟨l3, r3⟩ := trod_int Tryz.underlying3 (hf 3 _ rfl)
      exact ⟨⟨l0, l1, l2, l3⟩, (rdL_cons (rdS r0) (rdL_cons (rdI r1) (rdL_cons (rdS r2) (rdL_cons (rdI r3) rdL_nil)))), r0.2, r1.2, r2.2, r3.2⟩
def RInclusionS : Rd (List InclusionD) := fun w cs l => RdL (Lv w) w (eInclusionS l) cs ∧ FInclusionS l
theorem openInclusionS {H : Type} {enc : TypeId × Value → H} {w : World} {base : Nat} {spare : Nat → Bool} {held : Bool} {fuel : Nat} {cs : List Value} {x : DataW H × List MemPlace} (h : DataW.trod enc Tryz.prog w base spare held fuel 29 cs = some x) : ∃ l, RInclusionS w cs l := by
  obtain ⟨l, hl⟩ := trod_slice (k := 4) (R := RInclusion) Tryz.underlying29 (by kernel_rfl) (by omega) (fun _ _ _ h => openInclusion h) h
  have hf : FInclusionS l := hl.all_ (fun _ _ _ h => h.2)
  obtain ⟨A, c, rfl, _⟩ := id hl
  exact ⟨l, rdL_cons (rd_slice (R := RInclusion) (enc := eInclusion) (fun cs x h => h.1) hl) rdL_nil, hf⟩
def RStore : Rd StoreD := fun w cs x => RdL (Lv w) w (eStore x) cs ∧ FStore x
set_option maxRecDepth 100000 in
theorem openStore {H : Type} {enc : TypeId × Value → H} {w : World} {base : Nat} {spare : Nat → Bool} {held : Bool} {fuel : Nat} {cs : List Value} {x : DataW H × List MemPlace} (h : DataW.trod enc Tryz.prog w base spare held fuel 31 cs = some x) : ∃ b, RStore w cs b := by
  obtain ⟨xs, n, _, _, hl, hxl, hf⟩ := DataW.trod_struct Tryz.underlying31 h
  have hl2 : cs.length = 5 := hl.trans (by kernel_rfl)
  match cs, hl2 with
  | [c0, c1, c2, c3, c4], _ =>
    match xs, hxl with
    | [y0, y1, y2, y3], _ =>
      obtain ⟨l0, r0, f0⟩ := openDatabase (hf 0 _ rfl)
      obtain ⟨l1, r1, f1⟩ := openCatalogue (hf 1 _ rfl)
      obtain ⟨l2, r2, f2⟩ := openDependencyS (hf 2 _ rfl)
      obtain ⟨l3, r3, f3⟩ := openInclusionS (hf 3 _ rfl)
      exact ⟨⟨l0, l1, l2, l3⟩, (RdL.append r0 (RdL.append r1 (RdL.append r2 (RdL.append r3 rdL_nil)))), f0, f1, f2, f3⟩
end Go.Proofs.YtokkjaflmcjlhaaGreat
namespace Go.Proofs.YtokkjaflmcjlhaaGreat
open Go.ChangeShapes Go.WideShapes Go.ChangeAt Go.RowKit
set_option linter.unusedVariables false
set_option linter.unusedSimpArgs false
set_option maxRecDepth 100000
set_option maxHeartbeats 4000000
theorem fr_own : ownKnob Tryz.prog.godebug = none := by kernel_rfl
theorem fr_laid : laidOutB Tryz.prog = true := by kernel_rfl
theorem fr_maps : mapsRowed Tryz.prog = true := by kernel_rfl
theorem fr_stops : (Tryz.prog.stops == []) = true := by kernel_rfl
theorem fr_sk : (Tryz.prog.stopKnobs == []) = true := by kernel_rfl
theorem fr_heard : Tryz.prog.stopsHeard = true := by kernel_rfl
theorem fr_enter : Tryz.prog.mayEnter = true := by kernel_rfl
theorem fr_keys : (Rows.fnExactUpdateStoreRow.plainKeys == Tryz.prog.plainKeys) = true := by kernel_rfl
theorem fr_lifts : (Rows.fnExactUpdateStoreRow.lifted == Tryz.prog.liftsFinal) = true := by kernel_rfl
theorem fr_make : (Tryz.prog.make == some Rows.fnExactUpdateStoreRow.make) = true := by kernel_rfl
end Go.Proofs.YtokkjaflmcjlhaaGreat
