/-
  Contracts and plain laws, joined: part 26.
-/
import Derived.Test.YtdfebigfnjfgpaaGreatQI3
import Derived.Test.YtdfebigfnjfgpaaGreatQI0
namespace Go.Proofs.YtdfebigfnjfgpaaGreat
open Go.ChangeShapes Go.WideShapes Go.ChangeAt Go.RowKit
set_option linter.unusedVariables false
set_option linter.unusedSimpArgs false
set_option maxRecDepth 100000
set_option maxHeartbeats 4000000
def aRn:Rd (List Int):=fun w cs l=>jS (Lv w) w (aA l) cs∧aDb l
theorem zS {H:Type} {enc:TypeId × Value→H} {w:World} {base:Nat} {spare:Nat→Bool} {held:Bool} {fuel:Nat} {cs:List Value} {x:DataW H × List MemPlace} (h:DataW.trod enc Tryz.prog w base spare held fuel 39 cs=some x): ∃l,aRn w cs l:=by
 obtain ⟨l,hl⟩:=kV (k:=1) (R:=aNc) Tryz.underlying39 (by kernel_rfl) (by omega) (fun _ _ _ h=>trod_int Tryz.underlying3 h) h
 have hf:aDb l:=hl.all_ (fun _ _ _ h=>h.2)
 obtain ⟨A,c,rfl,_⟩:=id hl
 exact ⟨l,eV (nQ (R:=aNc) (enc:=intD) (fun cs x h=>by obtain ⟨rfl,_⟩:=h;exact eV rdV_int iG) hl) iG,hf⟩
def aUS:Rd (List (List Int)):=fun w cs l=>jS (Lv w) w (aUH l) cs∧aFj l
theorem aJG {H:Type} {enc:TypeId × Value→H} {w:World} {base:Nat} {spare:Nat→Bool} {held:Bool} {fuel:Nat} {cs:List Value} {x:DataW H × List MemPlace} (h:DataW.trod enc Tryz.prog w base spare held fuel 78 cs=some x): ∃l,aUS w cs l:=by
 obtain ⟨l,hl⟩:=kV (k:=1) (R:=aRn) Tryz.underlying78 (by kernel_rfl) (by omega) (fun _ _ _ h=>zS h) h
 have hf:aFj l:=hl.all_ (fun _ _ _ h=>h.2)
 obtain ⟨A,c,rfl,_⟩:=id hl
 exact ⟨l,eV (nQ (R:=aRn) (enc:=aA) (fun cs x h=>h.1) hl) iG,hf⟩
def aMl:Rd aV:=fun w cs x=>jS (Lv w) w (aR x) cs∧aMJ x
set_option maxRecDepth 100000 in
theorem aPO {H:Type} {enc:TypeId × Value→H} {w:World} {base:Nat} {spare:Nat→Bool} {held:Bool} {fuel:Nat} {cs:List Value} {x:DataW H × List MemPlace} (h:DataW.trod enc Tryz.prog w base spare held fuel 152 cs=some x): ∃b,aMl w cs b:=by
 obtain ⟨xs,n,_,_,hl,hxl,hf⟩:=DataW.trod_struct Tryz.underlying152 h
 have hl2:cs.length=3:=hl.trans (by kernel_rfl)
 match cs,hl2 with
 | [c0,c1,c2],_=>
   match xs,hxl with
   | [y0,y1,y2],_=>
     obtain ⟨l0,r0⟩:=tI Tryz.underlying9 (hf 0 _ rfl)
     obtain ⟨l1,r1⟩:=trod_int Tryz.underlying3 (hf 1 _ rfl)
     obtain ⟨l2,r2,f2⟩:=aJG (hf 2 _ rfl)
     exact ⟨⟨l0,l1,l2⟩,(eV (rdS r0) (eV (rdI r1) (jS.append r2 iG))),r0.2,r1.2,f2⟩
def aTA:Rd (List aV):=fun w cs l=>jS (Lv w) w (aSh l) cs∧aEw l
theorem aMm {H:Type} {enc:TypeId × Value→H} {w:World} {base:Nat} {spare:Nat→Bool} {held:Bool} {fuel:Nat} {cs:List Value} {x:DataW H × List MemPlace} (h:DataW.trod enc Tryz.prog w base spare held fuel 22 cs=some x): ∃l,aTA w cs l:=by
 obtain ⟨l,hl⟩:=kV (k:=3) (R:=aMl) Tryz.underlying22 (by kernel_rfl) (by omega) (fun _ _ _ h=>aPO h) h
 have hf:aEw l:=hl.all_ (fun _ _ _ h=>h.2)
 obtain ⟨A,c,rfl,_⟩:=id hl
 exact ⟨l,eV (nQ (R:=aMl) (enc:=aR) (fun cs x h=>h.1) hl) iG,hf⟩
def aPP:Rd aS:=fun w cs x=>jS (Lv w) w (aOP x) cs∧aDB x
set_option maxRecDepth 100000 in
theorem aJu {H:Type} {enc:TypeId × Value→H} {w:World} {base:Nat} {spare:Nat→Bool} {held:Bool} {fuel:Nat} {cs:List Value} {x:DataW H × List MemPlace} (h:DataW.trod enc Tryz.prog w base spare held fuel 24 cs=some x): ∃b,aPP w cs b:=by
 obtain ⟨xs,n,_,_,hl,hxl,hf⟩:=DataW.trod_struct Tryz.underlying24 h
 have hl2:cs.length=1:=hl.trans (by kernel_rfl)
 match cs,hl2 with
 | [c0],_=>
   match xs,hxl with
   | [y0],_=>
     obtain ⟨l0,r0,f0⟩:=aMm (hf 0 _ rfl)
     exact ⟨⟨l0⟩,(jS.append r0 iG),f0⟩
def aRo:Rd dS:=fun w cs x=>jS (Lv w) w (bH x) cs∧aQ1 x
set_option maxRecDepth 100000 in
theorem aRp {H:Type} {enc:TypeId × Value→H} {w:World} {base:Nat} {spare:Nat→Bool} {held:Bool} {fuel:Nat} {cs:List Value} {x:DataW H × List MemPlace} (h:DataW.trod enc Tryz.prog w base spare held fuel 121 cs=some x): ∃b,aRo w cs b:=by
 obtain ⟨xs,n,_,_,hl,hxl,hf⟩:=DataW.trod_struct Tryz.underlying121 h
 have hl2:cs.length=2:=hl.trans (by kernel_rfl)
 match cs,hl2 with
 | [c0,c1],_=>
   match xs,hxl with
   | [y0,y1],_=>
     obtain ⟨l0,r0⟩:=tI Tryz.underlying9 (hf 0 _ rfl)
     obtain ⟨l1,r1,f1⟩:=zS (hf 1 _ rfl)
     exact ⟨⟨l0,l1⟩,(eV (rdS r0) (jS.append r1 iG)),r0.2,f1⟩
def aUT:Rd (List dS):=fun w cs l=>jS (Lv w) w (aUI l) cs∧aJ2 l
theorem aPQ {H:Type} {enc:TypeId × Value→H} {w:World} {base:Nat} {spare:Nat→Bool} {held:Bool} {fuel:Nat} {cs:List Value} {x:DataW H × List MemPlace} (h:DataW.trod enc Tryz.prog w base spare held fuel 32 cs=some x): ∃l,aUT w cs l:=by
 obtain ⟨l,hl⟩:=kV (k:=2) (R:=aRo) Tryz.underlying32 (by kernel_rfl) (by omega) (fun _ _ _ h=>aRp h) h
 have hf:aJ2 l:=hl.all_ (fun _ _ _ h=>h.2)
 obtain ⟨A,c,rfl,_⟩:=id hl
 exact ⟨l,eV (nQ (R:=aRo) (enc:=bH) (fun cs x h=>h.1) hl) iG,hf⟩
def RQuery:Rd QueryD:=fun w cs x=>jS (Lv w) w (aUJ x) cs∧aMK x
set_option maxRecDepth 100000 in
theorem openQuery {H:Type} {enc:TypeId × Value→H} {w:World} {base:Nat} {spare:Nat→Bool} {held:Bool} {fuel:Nat} {cs:List Value} {x:DataW H × List MemPlace} (h:DataW.trod enc Tryz.prog w base spare held fuel 34 cs=some x): ∃b,RQuery w cs b:=by
 obtain ⟨xs,n,_,_,hl,hxl,hf⟩:=DataW.trod_struct Tryz.underlying34 h
 have hl2:cs.length=2:=hl.trans (by kernel_rfl)
 match cs,hl2 with
 | [c0,c1],_=>
   match xs,hxl with
   | [y0,y1],_=>
     obtain ⟨l0,r0⟩:=trod_int Tryz.underlying3 (hf 0 _ rfl)
     obtain ⟨l1,r1,f1⟩:=aPQ (hf 1 _ rfl)
     exact ⟨⟨l0,l1⟩,(eV (rdI r0) (jS.append r1 iG)),r0.2,f1⟩
def zT:Rd aP:=fun w cs x=>jS (Lv w) w (aB x) cs∧xP x
set_option maxRecDepth 100000 in
theorem aH1 {H:Type} {enc:TypeId × Value→H} {w:World} {base:Nat} {spare:Nat→Bool} {held:Bool} {fuel:Nat} {cs:List Value} {x:DataW H × List MemPlace} (h:DataW.trod enc Tryz.prog w base spare held fuel 206 cs=some x): ∃b,zT w cs b:=by
 obtain ⟨xs,n,_,_,hl,hxl,hf⟩:=DataW.trod_struct Tryz.underlying206 h
 have hl2:cs.length=3:=hl.trans (by kernel_rfl)
 match cs,hl2 with
 | [c0,c1,c2],_=>
   match xs,hxl with
   | [y0,y1,y2],_=>
     obtain ⟨l0,r0,f0⟩:=zS (hf 0 _ rfl)
     obtain ⟨l1,r1,f1⟩:=aJG (hf 1 _ rfl)
     obtain ⟨l2,r2,f2⟩:=zS (hf 2 _ rfl)
     exact ⟨⟨l0,l1,l2⟩,(jS.append r0 (jS.append r1 (jS.append r2 iG))),f0,f1,f2⟩
def aJv:Rd (List aP):=fun w cs l=>jS (Lv w) w (aJ3 l) cs∧qM l
theorem aEn {H:Type} {enc:TypeId × Value→H} {w:World} {base:Nat} {spare:Nat→Bool} {held:Bool} {fuel:Nat} {cs:List Value} {x:DataW H × List MemPlace} (h:DataW.trod enc Tryz.prog w base spare held fuel 154 cs=some x): ∃l,aJv w cs l:=by
 obtain ⟨l,hl⟩:=kV (k:=3) (R:=zT) Tryz.underlying154 (by kernel_rfl) (by omega) (fun _ _ _ h=>aH1 h) h
 have hf:qM l:=hl.all_ (fun _ _ _ h=>h.2)
 obtain ⟨A,c,rfl,_⟩:=id hl
 exact ⟨l,eV (nQ (R:=zT) (enc:=aB) (fun cs x h=>h.1) hl) iG,hf⟩
def zU:Rd aH:=fun w cs x=>jS (Lv w) w (aE x) cs∧xQ x
set_option maxRecDepth 100000 in
theorem aH2 {H:Type} {enc:TypeId × Value→H} {w:World} {base:Nat} {spare:Nat→Bool} {held:Bool} {fuel:Nat} {cs:List Value} {x:DataW H × List MemPlace} (h:DataW.trod enc Tryz.prog w base spare held fuel 156 cs=some x): ∃b,zU w cs b:=by
 obtain ⟨xs,n,_,_,hl,hxl,hf⟩:=DataW.trod_struct Tryz.underlying156 h
 have hl2:cs.length=4:=hl.trans (by kernel_rfl)
 match cs,hl2 with
 | [c0,c1,c2,c3],_=>
   match xs,hxl with
   | [y0,y1,y2,y3],_=>
     obtain ⟨l0,r0⟩:=tI Tryz.underlying9 (hf 0 _ rfl)
     obtain ⟨l1,r1⟩:=trod_int Tryz.underlying3 (hf 1 _ rfl)
     obtain ⟨l2,r2⟩:=trod_int Tryz.underlying3 (hf 2 _ rfl)
     obtain ⟨l3,r3,f3⟩:=aEn (hf 3 _ rfl)
     exact ⟨⟨l0,l1,l2,l3⟩,(eV (rdS r0) (eV (rdI r1) (eV (rdI r2) (jS.append r3 iG)))),r0.2,r1.2,r2.2,f3⟩
def aJw:Rd (List aH):=fun w cs l=>jS (Lv w) w (aJ4 l) cs∧qN l
theorem aEo {H:Type} {enc:TypeId × Value→H} {w:World} {base:Nat} {spare:Nat→Bool} {held:Bool} {fuel:Nat} {cs:List Value} {x:DataW H × List MemPlace} (h:DataW.trod enc Tryz.prog w base spare held fuel 25 cs=some x): ∃l,aJw w cs l:=by
 obtain ⟨l,hl⟩:=kV (k:=4) (R:=zU) Tryz.underlying25 (by kernel_rfl) (by omega) (fun _ _ _ h=>aH2 h) h
 have hf:qN l:=hl.all_ (fun _ _ _ h=>h.2)
 obtain ⟨A,c,rfl,_⟩:=id hl
 exact ⟨l,eV (nQ (R:=zU) (enc:=aE) (fun cs x h=>h.1) hl) iG,hf⟩
def aMn:Rd cU:=fun w cs x=>jS (Lv w) w (aML x) cs∧aAt x
set_option maxRecDepth 100000 in
theorem aHv {H:Type} {enc:TypeId × Value→H} {w:World} {base:Nat} {spare:Nat→Bool} {held:Bool} {fuel:Nat} {cs:List Value} {x:DataW H × List MemPlace} (h:DataW.trod enc Tryz.prog w base spare held fuel 27 cs=some x): ∃b,aMn w cs b:=by
 obtain ⟨xs,n,_,_,hl,hxl,hf⟩:=DataW.trod_struct Tryz.underlying27 h
 have hl2:cs.length=2:=hl.trans (by kernel_rfl)
 match cs,hl2 with
 | [c0,c1],_=>
   match xs,hxl with
   | [y0,y1],_=>
     obtain ⟨l0,r0⟩:=trod_int Tryz.underlying3 (hf 0 _ rfl)
     obtain ⟨l1,r1,f1⟩:=aEo (hf 1 _ rfl)
     exact ⟨⟨l0,l1⟩,(eV (rdI r0) (jS.append r1 iG)),r0.2,f1⟩
def zV:Rd aX:=fun w cs x=>jS (Lv w) w (aM x) cs∧xR x
set_option maxRecDepth 100000 in
theorem aH3 {H:Type} {enc:TypeId × Value→H} {w:World} {base:Nat} {spare:Nat→Bool} {held:Bool} {fuel:Nat} {cs:List Value} {x:DataW H × List MemPlace} (h:DataW.trod enc Tryz.prog w base spare held fuel 115 cs=some x): ∃b,zV w cs b:=by
 obtain ⟨xs,n,_,_,hl,hxl,hf⟩:=DataW.trod_struct Tryz.underlying115 h
 have hl2:cs.length=3:=hl.trans (by kernel_rfl)
 match cs,hl2 with
 | [c0,c1,c2],_=>
   match xs,hxl with
   | [y0,y1,y2],_=>
     obtain ⟨l0,r0⟩:=tI Tryz.underlying9 (hf 0 _ rfl)
     obtain ⟨l1,r1,f1⟩:=zS (hf 1 _ rfl)
     obtain ⟨l2,r2⟩:=trod_int Tryz.underlying3 (hf 2 _ rfl)
     exact ⟨⟨l0,l1,l2⟩,(eV (rdS r0) (jS.append r1 (eV (rdI r2) iG))),r0.2,f1,r2.2⟩
def aJx:Rd (List aX):=fun w cs l=>jS (Lv w) w (aJ5 l) cs∧qO l
theorem aEp {H:Type} {enc:TypeId × Value→H} {w:World} {base:Nat} {spare:Nat→Bool} {held:Bool} {fuel:Nat} {cs:List Value} {x:DataW H × List MemPlace} (h:DataW.trod enc Tryz.prog w base spare held fuel 28 cs=some x): ∃l,aJx w cs l:=by
 obtain ⟨l,hl⟩:=kV (k:=3) (R:=zV) Tryz.underlying28 (by kernel_rfl) (by omega) (fun _ _ _ h=>aH3 h) h
 have hf:qO l:=hl.all_ (fun _ _ _ h=>h.2)
 obtain ⟨A,c,rfl,_⟩:=id hl
 exact ⟨l,eV (nQ (R:=zV) (enc:=aM) (fun cs x h=>h.1) hl) iG,hf⟩
def aBc:Rd aW:=fun w cs x=>jS (Lv w) w (aQ x) cs∧aAu x
set_option maxRecDepth 100000 in
theorem aHw {H:Type} {enc:TypeId × Value→H} {w:World} {base:Nat} {spare:Nat→Bool} {held:Bool} {fuel:Nat} {cs:List Value} {x:DataW H × List MemPlace} (h:DataW.trod enc Tryz.prog w base spare held fuel 118 cs=some x): ∃b,aBc w cs b:=by
 obtain ⟨xs,n,_,_,hl,hxl,hf⟩:=DataW.trod_struct Tryz.underlying118 h
 have hl2:cs.length=4:=hl.trans (by kernel_rfl)
 match cs,hl2 with
 | [c0,c1,c2,c3],_=>
   match xs,hxl with
   | [y0,y1,y2,y3],_=>
     obtain ⟨l0,r0⟩:=tI Tryz.underlying9 (hf 0 _ rfl)
     obtain ⟨l1,r1⟩:=trod_int Tryz.underlying3 (hf 1 _ rfl)
     obtain ⟨l2,r2⟩:=tI Tryz.underlying9 (hf 2 _ rfl)
     obtain ⟨l3,r3⟩:=trod_int Tryz.underlying3 (hf 3 _ rfl)
     exact ⟨⟨l0,l1,l2,l3⟩,(eV (rdS r0) (eV (rdI r1) (eV (rdS r2) (eV (rdI r3) iG)))),r0.2,r1.2,r2.2,r3.2⟩
def aLi:Rd (List aW):=fun w cs l=>jS (Lv w) w (aKg l) cs∧sM l
theorem aH4 {H:Type} {enc:TypeId × Value→H} {w:World} {base:Nat} {spare:Nat→Bool} {held:Bool} {fuel:Nat} {cs:List Value} {x:DataW H × List MemPlace} (h:DataW.trod enc Tryz.prog w base spare held fuel 29 cs=some x): ∃l,aLi w cs l:=by
 obtain ⟨l,hl⟩:=kV (k:=4) (R:=aBc) Tryz.underlying29 (by kernel_rfl) (by omega) (fun _ _ _ h=>aHw h) h
 have hf:sM l:=hl.all_ (fun _ _ _ h=>h.2)
 obtain ⟨A,c,rfl,_⟩:=id hl
 exact ⟨l,eV (nQ (R:=aBc) (enc:=aQ) (fun cs x h=>h.1) hl) iG,hf⟩
def RStore:Rd StoreD:=fun w cs x=>jS (Lv w) w (aUK x) cs∧aMM x
set_option maxRecDepth 100000 in
theorem openStore {H:Type} {enc:TypeId × Value→H} {w:World} {base:Nat} {spare:Nat→Bool} {held:Bool} {fuel:Nat} {cs:List Value} {x:DataW H × List MemPlace} (h:DataW.trod enc Tryz.prog w base spare held fuel 31 cs=some x): ∃b,RStore w cs b:=by
 obtain ⟨xs,n,_,_,hl,hxl,hf⟩:=DataW.trod_struct Tryz.underlying31 h
 have hl2:cs.length=5:=hl.trans (by kernel_rfl)
 match cs,hl2 with
 | [c0,c1,c2,c3,c4],_=>
   match xs,hxl with
   | [y0,y1,y2,y3],_=>
     obtain ⟨l0,r0,f0⟩:=aJu (hf 0 _ rfl)
     obtain ⟨l1,r1,f1⟩:=aHv (hf 1 _ rfl)
     obtain ⟨l2,r2,f2⟩:=aEp (hf 2 _ rfl)
     obtain ⟨l3,r3,f3⟩:=aH4 (hf 3 _ rfl)
     exact ⟨⟨l0,l1,l2,l3⟩,(jS.append r0 (jS.append r1 (jS.append r2 (jS.append r3 iG)))),f0,f1,f2,f3⟩
def RRational:Rd RationalD:=fun w cs x=>jS (Lv w) w (aU x) cs∧aDD x
set_option maxRecDepth 100000 in
theorem openRational {H:Type} {enc:TypeId × Value→H} {w:World} {base:Nat} {spare:Nat→Bool} {held:Bool} {fuel:Nat} {cs:List Value} {x:DataW H × List MemPlace} (h:DataW.trod enc Tryz.prog w base spare held fuel 68 cs=some x): ∃b,RRational w cs b:=by
 obtain ⟨xs,n,_,_,hl,hxl,hf⟩:=DataW.trod_struct Tryz.underlying68 h
 have hl2:cs.length=2:=hl.trans (by kernel_rfl)
 match cs,hl2 with
 | [c0,c1],_=>
   match xs,hxl with
   | [y0,y1],_=>
     obtain ⟨l0,r0⟩:=trod_int Tryz.underlying3 (hf 0 _ rfl)
     obtain ⟨l1,r1⟩:=trod_int Tryz.underlying3 (hf 1 _ rfl)
     exact ⟨⟨l0,l1⟩,(eV (rdI r0) (eV (rdI r1) iG)),r0.2,r1.2⟩
def RRationalS:Rd (List RationalD):=fun w cs l=>jS (Lv w) w (aMN l) cs∧uU l
theorem openRationalS {H:Type} {enc:TypeId × Value→H} {w:World} {base:Nat} {spare:Nat→Bool} {held:Bool} {fuel:Nat} {cs:List Value} {x:DataW H × List MemPlace} (h:DataW.trod enc Tryz.prog w base spare held fuel 35 cs=some x): ∃l,RRationalS w cs l:=by
 obtain ⟨l,hl⟩:=kV (k:=2) (R:=RRational) Tryz.underlying35 (by kernel_rfl) (by omega) (fun _ _ _ h=>openRational h) h
 have hf:uU l:=hl.all_ (fun _ _ _ h=>h.2)
 obtain ⟨A,c,rfl,_⟩:=id hl
 exact ⟨l,eV (nQ (R:=RRational) (enc:=aU) (fun cs x h=>h.1) hl) iG,hf⟩
end Go.Proofs.YtdfebigfnjfgpaaGreat
namespace Go.Proofs.YtdfebigfnjfgpaaGreat
open Go.ChangeShapes Go.WideShapes Go.ChangeAt Go.RowKit
set_option linter.unusedVariables false
set_option linter.unusedSimpArgs false
set_option maxRecDepth 100000
set_option maxHeartbeats 4000000
theorem fr_own:ownKnob Tryz.prog.godebug=none:=by kernel_rfl
theorem fr_laid:laidOutB Tryz.prog=true:=by kernel_rfl
theorem fr_maps:mapsRowed Tryz.prog=true:=by kernel_rfl
theorem fr_stops:(Tryz.prog.stops== [])=true:=by kernel_rfl
theorem fr_sk:(Tryz.prog.stopKnobs== [])=true:=by kernel_rfl
theorem fr_heard:Tryz.prog.stopsHeard=true:=by kernel_rfl
theorem fr_enter:Tryz.prog.mayEnter=true:=by kernel_rfl
theorem fr_keys:(Rows.fnExactProofConstraintsRow.plainKeys==Tryz.prog.plainKeys)=true:=by kernel_rfl
theorem fr_lifts:(Rows.fnExactProofConstraintsRow.lifted==Tryz.prog.liftsFinal)=true:=by kernel_rfl
theorem fr_make:(Tryz.prog.make==some Rows.fnExactProofConstraintsRow.make)=true:=by kernel_rfl
end Go.Proofs.YtdfebigfnjfgpaaGreat
