/-
  Contracts and plain laws, joined: part 28.
-/
import Derived.Test.YtlidmoeecphbmaaGreates3
import Derived.Test.YtlidmoeecphbmaaGreates0
namespace Go.Proofs.YtlidmoeecphbmaaGreat
open Go.ChangeShapes Go.WideShapes Go.ChangeAt Go.RowKit
set_option linter.unusedVariables false
set_option linter.unusedSimpArgs false
set_option maxRecDepth 100000
set_option maxHeartbeats 4000000
def aX3:Rd (List Int):=fun w cs l=>jR (Lv w) w (aE l) cs/\aFe l
theorem aBd {H:Type}{enc:TypeId × Value->H}{w:World}{base:Nat}{spare:Nat->Bool}{held:Bool}{fuel:Nat}{cs:List Value}{x:DataW H × List MemPlace}(h:DataW.trod enc Tryz.prog w base spare held fuel 91 cs=some x): ∃l,aX3 w cs l:=by
 obtain⟨l,hl⟩:=mQ (k:=1) (R:=aS0) Tryz.underlying91 (by kernel_rfl) (by omega) (fun _ _ _ h=>trod_int Tryz.underlying3 h) h;have hf:aFe l:=hl.all_ (fun _ _ _ h=>h.2);obtain⟨A,c,rfl,_⟩:=id hl;exact⟨l,eY (rQ (R:=aS0) (enc:=intD) (fun cs x h=>by obtain⟨rfl,_⟩:=h;exact eY rdV_int iZ) hl) iZ,hf⟩
def bA5:Rd (List (List Int)):=fun w cs l=>jR (Lv w) w (bAO l) cs/\aHy l
theorem aMb {H:Type}{enc:TypeId × Value->H}{w:World}{base:Nat}{spare:Nat->Bool}{held:Bool}{fuel:Nat}{cs:List Value}{x:DataW H × List MemPlace}(h:DataW.trod enc Tryz.prog w base spare held fuel 92 cs=some x): ∃l,bA5 w cs l:=by
 obtain⟨l,hl⟩:=mQ (k:=1) (R:=aX3) Tryz.underlying92 (by kernel_rfl) (by omega) (fun _ _ _ h=>aBd h) h;have hf:aHy l:=hl.all_ (fun _ _ _ h=>h.2);obtain⟨A,c,rfl,_⟩:=id hl;exact⟨l,eY (rQ (R:=aX3) (enc:=aE) (fun cs x h=>h.1) hl) iZ,hf⟩
def aRX:Rd aV:=fun w cs x=>jR (Lv w) w (aS x) cs/\aQ4 x
set_option maxRecDepth 100000 in
theorem aUU {H:Type}{enc:TypeId × Value->H}{w:World}{base:Nat}{spare:Nat->Bool}{held:Bool}{fuel:Nat}{cs:List Value}{x:DataW H × List MemPlace}(h:DataW.trod enc Tryz.prog w base spare held fuel 165 cs=some x): ∃b,aRX w cs b:=by
 obtain⟨xs,n,_,_,hl,hxl,hf⟩:=DataW.trod_struct Tryz.underlying165 h;have hl2:cs.length=3:=hl.trans (by kernel_rfl)
 match cs,hl2 with
 | [c0,c1,c2],_=>
   match xs,hxl with
   | [y0,y1,y2],_=>
     obtain⟨l0,r0⟩:=wF Tryz.underlying9 (hf 0 _ rfl);obtain⟨l1,r1⟩:=trod_int Tryz.underlying3 (hf 1 _ rfl);obtain⟨l2,r2,f2⟩:=aMb (hf 2 _ rfl);exact⟨⟨l0,l1,l2⟩,(eY (rdS r0) (eY (rdI r1) (jR.append r2 iZ))),r0.2,r1.2,f2⟩
def aZA:Rd (List aV):=fun w cs l=>jR (Lv w) w (aYW l) cs/\aHA l
theorem aRY {H:Type}{enc:TypeId × Value->H}{w:World}{base:Nat}{spare:Nat->Bool}{held:Bool}{fuel:Nat}{cs:List Value}{x:DataW H × List MemPlace}(h:DataW.trod enc Tryz.prog w base spare held fuel 22 cs=some x): ∃l,aZA w cs l:=by
 obtain⟨l,hl⟩:=mQ (k:=3) (R:=aRX) Tryz.underlying22 (by kernel_rfl) (by omega) (fun _ _ _ h=>aUU h) h;have hf:aHA l:=hl.all_ (fun _ _ _ h=>h.2);obtain⟨A,c,rfl,_⟩:=id hl;exact⟨l,eY (rQ (R:=aRX) (enc:=aS) (fun cs x h=>h.1) hl) iZ,hf⟩
def aUV:Rd aX:=fun w cs x=>jR (Lv w) w (aTA x) cs/\aFD x
set_option maxRecDepth 100000 in
theorem aNj {H:Type}{enc:TypeId × Value->H}{w:World}{base:Nat}{spare:Nat->Bool}{held:Bool}{fuel:Nat}{cs:List Value}{x:DataW H × List MemPlace}(h:DataW.trod enc Tryz.prog w base spare held fuel 24 cs=some x): ∃b,aUV w cs b:=by
 obtain⟨xs,n,_,_,hl,hxl,hf⟩:=DataW.trod_struct Tryz.underlying24 h;have hl2:cs.length=1:=hl.trans (by kernel_rfl)
 match cs,hl2 with
 | [c0],_=>
   match xs,hxl with
   | [y0],_=>
     obtain⟨l0,r0,f0⟩:=aRY (hf 0 _ rfl);exact⟨⟨l0⟩,(jR.append r0 iZ),f0⟩
def aX4:Rd bX:=fun w cs x=>jR (Lv w) w (bB x) cs/\aV3 x
set_option maxRecDepth 100000 in
theorem aX5 {H:Type}{enc:TypeId × Value->H}{w:World}{base:Nat}{spare:Nat->Bool}{held:Bool}{fuel:Nat}{cs:List Value}{x:DataW H × List MemPlace}(h:DataW.trod enc Tryz.prog w base spare held fuel 118 cs=some x): ∃b,aX4 w cs b:=by
 obtain⟨xs,n,_,_,hl,hxl,hf⟩:=DataW.trod_struct Tryz.underlying118 h;have hl2:cs.length=2:=hl.trans (by kernel_rfl)
 match cs,hl2 with
 | [c0,c1],_=>
   match xs,hxl with
   | [y0,y1],_=>
     obtain⟨l0,r0⟩:=wF Tryz.underlying9 (hf 0 _ rfl);obtain⟨l1,r1,f1⟩:=aBd (hf 1 _ rfl);exact⟨⟨l0,l1⟩,(eY (rdS r0) (jR.append r1 iZ)),r0.2,f1⟩
def bA6:Rd (List bX):=fun w cs l=>jR (Lv w) w (bAP l) cs/\aNB l
theorem aUW {H:Type}{enc:TypeId × Value->H}{w:World}{base:Nat}{spare:Nat->Bool}{held:Bool}{fuel:Nat}{cs:List Value}{x:DataW H × List MemPlace}(h:DataW.trod enc Tryz.prog w base spare held fuel 32 cs=some x): ∃l,bA6 w cs l:=by
 obtain⟨l,hl⟩:=mQ (k:=2) (R:=aX4) Tryz.underlying32 (by kernel_rfl) (by omega) (fun _ _ _ h=>aX5 h) h;have hf:aNB l:=hl.all_ (fun _ _ _ h=>h.2);obtain⟨A,c,rfl,_⟩:=id hl;exact⟨l,eY (rQ (R:=aX4) (enc:=bB) (fun cs x h=>h.1) hl) iZ,hf⟩
def RQuery:Rd QueryD:=fun w cs x=>jR (Lv w) w (bAQ x) cs/\aQ5 x
set_option maxRecDepth 100000 in
theorem openQuery {H:Type}{enc:TypeId × Value->H}{w:World}{base:Nat}{spare:Nat->Bool}{held:Bool}{fuel:Nat}{cs:List Value}{x:DataW H × List MemPlace}(h:DataW.trod enc Tryz.prog w base spare held fuel 34 cs=some x): ∃b,RQuery w cs b:=by
 obtain⟨xs,n,_,_,hl,hxl,hf⟩:=DataW.trod_struct Tryz.underlying34 h;have hl2:cs.length=2:=hl.trans (by kernel_rfl)
 match cs,hl2 with
 | [c0,c1],_=>
   match xs,hxl with
   | [y0,y1],_=>
     obtain⟨l0,r0⟩:=trod_int Tryz.underlying3 (hf 0 _ rfl);obtain⟨l1,r1,f1⟩:=aUW (hf 1 _ rfl);exact⟨⟨l0,l1⟩,(eY (rdI r0) (jR.append r1 iZ)),r0.2,f1⟩
def aBe:Rd aI:=fun w cs x=>jR (Lv w) w (aC x) cs/\aA8 x
set_option maxRecDepth 100000 in
theorem aKO {H:Type}{enc:TypeId × Value->H}{w:World}{base:Nat}{spare:Nat->Bool}{held:Bool}{fuel:Nat}{cs:List Value}{x:DataW H × List MemPlace}(h:DataW.trod enc Tryz.prog w base spare held fuel 233 cs=some x): ∃b,aBe w cs b:=by
 obtain⟨xs,n,_,_,hl,hxl,hf⟩:=DataW.trod_struct Tryz.underlying233 h;have hl2:cs.length=3:=hl.trans (by kernel_rfl)
 match cs,hl2 with
 | [c0,c1,c2],_=>
   match xs,hxl with
   | [y0,y1,y2],_=>
     obtain⟨l0,r0,f0⟩:=aBd (hf 0 _ rfl);obtain⟨l1,r1,f1⟩:=aMb (hf 1 _ rfl);obtain⟨l2,r2,f2⟩:=aBd (hf 2 _ rfl);exact⟨⟨l0,l1,l2⟩,(jR.append r0 (jR.append r1 (jR.append r2 iZ))),f0,f1,f2⟩
def aNk:Rd (List aI):=fun w cs l=>jR (Lv w) w (aNC l) cs/\sQ l
theorem aGr {H:Type}{enc:TypeId × Value->H}{w:World}{base:Nat}{spare:Nat->Bool}{held:Bool}{fuel:Nat}{cs:List Value}{x:DataW H × List MemPlace}(h:DataW.trod enc Tryz.prog w base spare held fuel 167 cs=some x): ∃l,aNk w cs l:=by
 obtain⟨l,hl⟩:=mQ (k:=3) (R:=aBe) Tryz.underlying167 (by kernel_rfl) (by omega) (fun _ _ _ h=>aKO h) h;have hf:sQ l:=hl.all_ (fun _ _ _ h=>h.2);obtain⟨A,c,rfl,_⟩:=id hl;exact⟨l,eY (rQ (R:=aBe) (enc:=aC) (fun cs x h=>h.1) hl) iZ,hf⟩
def aBf:Rd aD:=fun w cs x=>jR (Lv w) w (aF x) cs/\aA9 x
set_option maxRecDepth 100000 in
theorem aKP {H:Type}{enc:TypeId × Value->H}{w:World}{base:Nat}{spare:Nat->Bool}{held:Bool}{fuel:Nat}{cs:List Value}{x:DataW H × List MemPlace}(h:DataW.trod enc Tryz.prog w base spare held fuel 169 cs=some x): ∃b,aBf w cs b:=by
 obtain⟨xs,n,_,_,hl,hxl,hf⟩:=DataW.trod_struct Tryz.underlying169 h;have hl2:cs.length=4:=hl.trans (by kernel_rfl)
 match cs,hl2 with
 | [c0,c1,c2,c3],_=>
   match xs,hxl with
   | [y0,y1,y2,y3],_=>
     obtain⟨l0,r0⟩:=wF Tryz.underlying9 (hf 0 _ rfl);obtain⟨l1,r1⟩:=trod_int Tryz.underlying3 (hf 1 _ rfl);obtain⟨l2,r2⟩:=trod_int Tryz.underlying3 (hf 2 _ rfl);obtain⟨l3,r3,f3⟩:=aGr (hf 3 _ rfl);exact⟨⟨l0,l1,l2,l3⟩,(eY (rdS r0) (eY (rdI r1) (eY (rdI r2) (jR.append r3 iZ)))),r0.2,r1.2,r2.2,f3⟩
def aNl:Rd (List aD):=fun w cs l=>jR (Lv w) w (aND l) cs/\sR l
theorem aGs {H:Type}{enc:TypeId × Value->H}{w:World}{base:Nat}{spare:Nat->Bool}{held:Bool}{fuel:Nat}{cs:List Value}{x:DataW H × List MemPlace}(h:DataW.trod enc Tryz.prog w base spare held fuel 25 cs=some x): ∃l,aNl w cs l:=by
 obtain⟨l,hl⟩:=mQ (k:=4) (R:=aBf) Tryz.underlying25 (by kernel_rfl) (by omega) (fun _ _ _ h=>aKP h) h;have hf:sR l:=hl.all_ (fun _ _ _ h=>h.2);obtain⟨A,c,rfl,_⟩:=id hl;exact⟨l,eY (rQ (R:=aBf) (enc:=aF) (fun cs x h=>h.1) hl) iZ,hf⟩
def aRZ:Rd cA:=fun w cs x=>jR (Lv w) w (aQ6 x) cs/\aCh x
set_option maxRecDepth 100000 in
theorem aKv {H:Type}{enc:TypeId × Value->H}{w:World}{base:Nat}{spare:Nat->Bool}{held:Bool}{fuel:Nat}{cs:List Value}{x:DataW H × List MemPlace}(h:DataW.trod enc Tryz.prog w base spare held fuel 27 cs=some x): ∃b,aRZ w cs b:=by
 obtain⟨xs,n,_,_,hl,hxl,hf⟩:=DataW.trod_struct Tryz.underlying27 h;have hl2:cs.length=2:=hl.trans (by kernel_rfl)
 match cs,hl2 with
 | [c0,c1],_=>
   match xs,hxl with
   | [y0,y1],_=>
     obtain⟨l0,r0⟩:=trod_int Tryz.underlying3 (hf 0 _ rfl);obtain⟨l1,r1,f1⟩:=aGs (hf 1 _ rfl);exact⟨⟨l0,l1⟩,(eY (rdI r0) (jR.append r1 iZ)),r0.2,f1⟩
def aBg:Rd aR:=fun w cs x=>jR (Lv w) w (aN x) cs/\aAa x
set_option maxRecDepth 100000 in
theorem aKQ {H:Type}{enc:TypeId × Value->H}{w:World}{base:Nat}{spare:Nat->Bool}{held:Bool}{fuel:Nat}{cs:List Value}{x:DataW H × List MemPlace}(h:DataW.trod enc Tryz.prog w base spare held fuel 112 cs=some x): ∃b,aBg w cs b:=by
 obtain⟨xs,n,_,_,hl,hxl,hf⟩:=DataW.trod_struct Tryz.underlying112 h;have hl2:cs.length=3:=hl.trans (by kernel_rfl)
 match cs,hl2 with
 | [c0,c1,c2],_=>
   match xs,hxl with
   | [y0,y1,y2],_=>
     obtain⟨l0,r0⟩:=wF Tryz.underlying9 (hf 0 _ rfl);obtain⟨l1,r1,f1⟩:=aBd (hf 1 _ rfl);obtain⟨l2,r2⟩:=trod_int Tryz.underlying3 (hf 2 _ rfl);exact⟨⟨l0,l1,l2⟩,(eY (rdS r0) (jR.append r1 (eY (rdI r2) iZ))),r0.2,f1,r2.2⟩
def aNm:Rd (List aR):=fun w cs l=>jR (Lv w) w (aNE l) cs/\sS l
theorem aGt {H:Type}{enc:TypeId × Value->H}{w:World}{base:Nat}{spare:Nat->Bool}{held:Bool}{fuel:Nat}{cs:List Value}{x:DataW H × List MemPlace}(h:DataW.trod enc Tryz.prog w base spare held fuel 28 cs=some x): ∃l,aNm w cs l:=by
 obtain⟨l,hl⟩:=mQ (k:=3) (R:=aBg) Tryz.underlying28 (by kernel_rfl) (by omega) (fun _ _ _ h=>aKQ h) h;have hf:sS l:=hl.all_ (fun _ _ _ h=>h.2);obtain⟨A,c,rfl,_⟩:=id hl;exact⟨l,eY (rQ (R:=aBg) (enc:=aN) (fun cs x h=>h.1) hl) iZ,hf⟩
def aDc:Rd aP:=fun w cs x=>jR (Lv w) w (aQ x) cs/\aCi x
set_option maxRecDepth 100000 in
theorem aKw {H:Type}{enc:TypeId × Value->H}{w:World}{base:Nat}{spare:Nat->Bool}{held:Bool}{fuel:Nat}{cs:List Value}{x:DataW H × List MemPlace}(h:DataW.trod enc Tryz.prog w base spare held fuel 115 cs=some x): ∃b,aDc w cs b:=by
 obtain⟨xs,n,_,_,hl,hxl,hf⟩:=DataW.trod_struct Tryz.underlying115 h;have hl2:cs.length=4:=hl.trans (by kernel_rfl)
 match cs,hl2 with
 | [c0,c1,c2,c3],_=>
   match xs,hxl with
   | [y0,y1,y2,y3],_=>
     obtain⟨l0,r0⟩:=wF Tryz.underlying9 (hf 0 _ rfl);obtain⟨l1,r1⟩:=trod_int Tryz.underlying3 (hf 1 _ rfl);obtain⟨l2,r2⟩:=wF Tryz.underlying9 (hf 2 _ rfl);obtain⟨l3,r3⟩:=trod_int Tryz.underlying3 (hf 3 _ rfl);exact⟨⟨l0,l1,l2,l3⟩,(eY (rdS r0) (eY (rdI r1) (eY (rdS r2) (eY (rdI r3) iZ)))),r0.2,r1.2,r2.2,r3.2⟩
def aQB:Rd (List aP):=fun w cs l=>jR (Lv w) w (aO5 l) cs/\vC l
theorem aKR {H:Type}{enc:TypeId × Value->H}{w:World}{base:Nat}{spare:Nat->Bool}{held:Bool}{fuel:Nat}{cs:List Value}{x:DataW H × List MemPlace}(h:DataW.trod enc Tryz.prog w base spare held fuel 29 cs=some x): ∃l,aQB w cs l:=by
 obtain⟨l,hl⟩:=mQ (k:=4) (R:=aDc) Tryz.underlying29 (by kernel_rfl) (by omega) (fun _ _ _ h=>aKw h) h;have hf:vC l:=hl.all_ (fun _ _ _ h=>h.2);obtain⟨A,c,rfl,_⟩:=id hl;exact⟨l,eY (rQ (R:=aDc) (enc:=aQ) (fun cs x h=>h.1) hl) iZ,hf⟩
def RStore:Rd StoreD:=fun w cs x=>jR (Lv w) w (bAR x) cs/\aQ7 x
set_option maxRecDepth 100000 in
theorem openStore {H:Type}{enc:TypeId × Value->H}{w:World}{base:Nat}{spare:Nat->Bool}{held:Bool}{fuel:Nat}{cs:List Value}{x:DataW H × List MemPlace}(h:DataW.trod enc Tryz.prog w base spare held fuel 31 cs=some x): ∃b,RStore w cs b:=by
 obtain⟨xs,n,_,_,hl,hxl,hf⟩:=DataW.trod_struct Tryz.underlying31 h;have hl2:cs.length=5:=hl.trans (by kernel_rfl)
 match cs,hl2 with
 | [c0,c1,c2,c3,c4],_=>
   match xs,hxl with
   | [y0,y1,y2,y3],_=>
     obtain⟨l0,r0,f0⟩:=aNj (hf 0 _ rfl);obtain⟨l1,r1,f1⟩:=aKv (hf 1 _ rfl);obtain⟨l2,r2,f2⟩:=aGt (hf 2 _ rfl);obtain⟨l3,r3,f3⟩:=aKR (hf 3 _ rfl);exact⟨⟨l0,l1,l2,l3⟩,(jR.append r0 (jR.append r1 (jR.append r2 (jR.append r3 iZ)))),f0,f1,f2,f3⟩
end Go.Proofs.YtlidmoeecphbmaaGreat
namespace Go.Proofs.YtlidmoeecphbmaaGreat
open Go.ChangeShapes Go.WideShapes Go.ChangeAt Go.RowKit
set_option linter.unusedVariables false
set_option linter.unusedSimpArgs false
set_option maxRecDepth 100000
set_option maxHeartbeats 4000000
theorem fr_own:ownKnob Tryz.prog.godebug=none:=by kernel_rfl
theorem fr_laid:laidOutB Tryz.prog=true:=by kernel_rfl
theorem fr_maps:mapsRowed Tryz.prog=true:=by kernel_rfl
theorem fr_stops:(Tryz.prog.stops== [])=true:=by kernel_rfl
theorem fr_sk:(Tryz.prog.stopKnobs== [])=true:=by kernel_rfl
theorem fr_heard:Tryz.prog.stopsHeard=true:=by kernel_rfl
theorem fr_enter:Tryz.prog.mayEnter=true:=by kernel_rfl
theorem fr_keys:(Rows.fnExactEntropyBoundRow.plainKeys==Tryz.prog.plainKeys)=true:=by kernel_rfl
theorem fr_lifts:(Rows.fnExactEntropyBoundRow.lifted==Tryz.prog.liftsFinal)=true:=by kernel_rfl
theorem fr_make:(Tryz.prog.make==some Rows.fnExactEntropyBoundRow.make)=true:=by kernel_rfl
end Go.Proofs.YtlidmoeecphbmaaGreat
