/-
  Contracts and plain laws, joined: part 21.
-/
import Derived.Test.YtokkjaflmcjlhaaGreatQC14
import Derived.Test.YtokkjaflmcjlhaaGreatQC16
import Derived.Test.YtokkjaflmcjlhaaGreatQC17
import Derived.Test.YtokkjaflmcjlhaaGreatQC18
import Derived.Test.YtokkjaflmcjlhaaGreatQC19
import Derived.Test.YtokkjaflmcjlhaaGreatQC3
import Derived.Test.YtokkjaflmcjlhaaGreatQC0
namespace Go.Proofs.YtokkjaflmcjlhaaGreat
open Go.ChangeShapes Go.WideShapes Go.ChangeAt Go.RowKit
set_option linter.unusedVariables false
set_option linter.unusedSimpArgs false
set_option maxRecDepth 100000
set_option maxHeartbeats 4000000
theorem lawQueryConstraints (a0:StoreD) (a1:QueryD) (a2:Int) (h0:aKG a0) (h1:aKE a1) (h2:Fits a2):dG Tryz.prog 12 [.agg [.sl 162 3 (a0.database.tables.map aP),.int .i64 a0.catalogue.version,.sl 121 4 (a0.catalogue.tables.map aC),.sl 168 3 (a0.dependencies.map aJ),.sl 170 4 (a0.inclusions.map aM)],.agg [.int .i64 a1.variableCount,.sl 131 2 (a1.atoms.map bC)],.one (.int .i64 a2)] (vB true) []:=by
 refine aY bK aU Tryz.func12 (by kernel_rfl) (.call (vI (aQ (eD a0) (1048576:Int))) []<| .br (.fin []) (.call (vI (aQ (jY a1) (aQ (eD a0) (1048576:Int)))) []<| .br (.fin []) (cI (nO a0)<| cI (nP a1)<| cI (uJ a0 a1 a2)<| cI (nO a0)<| cI (nP a1)<| cI (pJ a0 a1 a2)<| .call (vB true) []<| cI (nO a0)<| .call (vB true) []<| cI (nP a1)<| .call (vB true) []<| jX (qT a0 (1:Int)) [(0,3300),(1,3301),(2,3302),(3,3303)]<| jX (qV a1 ((1:Int)+((nT a0:Nat):Int))) [(0,3500)]<| .no<| .call (vB true) []<| jX (gA (fD a0 a1 a2) (1:Int)) [(0,3900)]<| .call (vI ((1:Int)+((cK (fD a0 a1 a2):Nat):Int))) []<| .no<| .no<| cI (nO a0)<| cI (nP a1)<| cI (pJ a0 a1 a2)<| .call (vB true) []<| .call (vI ((1:Int)+((cK (fD a0 a1 a2):Nat):Int))) []<| .no<| .no<| .fin []))) (p:=(a0.database.tables.map aP).length≤9223372036854775807→(a0.catalogue.tables.map aC).length≤9223372036854775807→(a0.dependencies.map aJ).length≤9223372036854775807→(a0.inclusions.map aM).length≤9223372036854775807→(a1.atoms.map bC).length≤9223372036854775807→aFf a0 (1048576:Int)∧(((decide ((aQ (eD a0) (1048576:Int))<(0:Int)))=true→(true)=true∧True)∧((decide ((aQ (eD a0) (1048576:Int))<(0:Int)))=false→aFh a1 (aQ (eD a0) (1048576:Int))∧(((decide ((aQ (jY a1) (aQ (eD a0) (1048576:Int)))<(0:Int)))=true→(true)=true∧True)∧((decide ((aQ (jY a1) (aQ (eD a0) (1048576:Int)))<(0:Int)))=false→qZ a0∧rA a1∧aB5 a0 a1 a2∧qZ a0∧rA a1∧uI a0 a1 a2∧iO (fD a0 a1 a2)∧qZ a0∧aF8 a0∧rA a1∧aFa a1∧aFY a0 (1:Int)∧a0.catalogue.version=a0.catalogue.version∧(1:Int)=(1:Int)∧a0.database.tables.map aP=a0.database.tables.map aP∧a0.catalogue.tables.map aC=a0.catalogue.tables.map aC∧a0.dependencies.map aJ=a0.dependencies.map aJ∧a0.inclusions.map aM=a0.inclusions.map aM∧aF1 a1 ((1:Int)+((nT a0:Nat):Int))∧a1.variableCount=a1.variableCount∧((1:Int)+((nT a0:Nat):Int))=((1:Int)+((nT a0:Nat):Int))∧a1.atoms.map bC=a1.atoms.map bC∧(decide ((((1:Int)+((nT a0:Nat):Int))+((yZ a1:Nat):Int))<(0:Int)))=false∧iO (fD a0 a1 a2)∧oS (fD a0 a1 a2) (1:Int)∧(1:Int)=(1:Int)∧(fD a0 a1 a2).map aD=(fD a0 a1 a2).map aD∧dG Tryz.prog 56 [.one (.sl 149 3 ((cF (1:Int) (fD a0 a1 a2)).map aD)),.one (.int .i64 (1:Int))] (vI ((1:Int)+((cK (fD a0 a1 a2):Nat):Int))) []∧(decide (((1:Int)+((cK (fD a0 a1 a2):Nat):Int))<(0:Int)))=false∧(!(decide (((1:Int)+((cK (fD a0 a1 a2):Nat):Int))=((1:Int)+((cK (fD a0 a1 a2):Nat):Int)))))=false∧qZ a0∧rA a1∧uI a0 a1 a2∧iO (fD a0 a1 a2)∧dG Tryz.prog 56 [.one (.sl 149 3 ((cF (1:Int) (fD a0 a1 a2)).map aD)),.one (.int .i64 (1:Int))] (vI ((1:Int)+((cK (fD a0 a1 a2):Nat):Int))) []∧(decide (((1:Int)+((cK (fD a0 a1 a2):Nat):Int))<(0:Int)))=false∧(!(decide (((1:Int)+((cK (fD a0 a1 a2):Nat):Int))=((1:Int)+((cK (fD a0 a1 a2):Nat):Int)))))=false∧(true)=true∧True))))) (by kernel_rfl) ?_
 intro n0 n1 n2 n3 n4
 simp only [List.length_map] at n0 n1 n2 n3 n4
 refine ⟨aOq a0 _ (by first | assumption | exact hf) (by omega) (by omega),fun c0=>?_,fun c0=>?_⟩
 ·replace c0:=yq c0
  refine ⟨?_,trivial⟩
  ·rfl
 ·replace c0:=nq c0
  try (have y0:=hJ c0;try rw [aO y0] at*)
  refine ⟨aOs a1 _ (by first | assumption | exact hf) (by omega) (by omega),fun c1=>?_,fun c1=>?_⟩
  ·replace c1:=yq c1
   refine ⟨?_,trivial⟩
   ·rfl
  ·replace c1:=nq c1
   try (have y1:=hJ c1;try rw [aO y1] at*)
   have f1:=aMb a0 a1 a2
   have f2:=kY (fD a0 a1 a2)
   have f3:gT (fD a0 a1 a2)=(fD a0 a1 a2).length:=rfl
   have sa0:=aK2 a0
   have sa1:=aK3 a1
   refine ⟨aBa a0 (by first | omega | (have:=cStoreS_el ‹x[k]? =some _›;omega)),aBb a1 (by first | omega | (have:=cQueryS_el ‹x[k]? =some _›;omega)),aK0 a0 a1 a2 (by omega) (by omega),aBa a0 (by first | omega | (have:=cStoreS_el ‹x[k]? =some _›;omega)),aBb a1 (by first | omega | (have:=cQueryS_el ‹x[k]? =some _›;omega)),aFT a0 a1 a2 (by omega) (by omega),by first | exact fW (fD a0 a1 a2) | exact fW _,aBa a0 (by first | omega | (have:=cStoreS_el ‹x[k]? =some _›;omega)),by first | exact aJ7 a0 | exact aJ7 _,aBb a1 (by first | omega | (have:=cQueryS_el ‹x[k]? =some _›;omega)),by first | exact aJ9 a1 | exact aJ9 _,aOk _ _ (by omega) (by first | omega | (dsimp only;omega)),rfl,rfl,rfl,rfl,rfl,rfl,aOm _ _ (by omega) (by first | omega | (dsimp only;omega)),rfl,rfl,rfl,by first | (simp;done) | (simp;omega) | (simp [*];done),by first | exact fW (fD a0 a1 a2) | exact fW _,aA8 _ _ (by omega) (by first | omega | (dsimp only;omega)),rfl,rfl,qW _ _ (by omega) (by first | omega | (dsimp only;omega)),by first | (simp;done) | (simp;omega) | (simp [*];done),by first | (simp;done) | (simp;omega) | (simp [*];done),aBa a0 (by first | omega | (have:=cStoreS_el ‹x[k]? =some _›;omega)),aBb a1 (by first | omega | (have:=cQueryS_el ‹x[k]? =some _›;omega)),aFT a0 a1 a2 (by omega) (by omega),by first | exact fW (fD a0 a1 a2) | exact fW _,qW _ _ (by omega) (by first | omega | (dsimp only;omega)),by first | (simp;done) | (simp;omega) | (simp [*];done),by first | (simp;done) | (simp;omega) | (simp [*];done),?_,trivial⟩
   ·rfl
end Go.Proofs.YtokkjaflmcjlhaaGreat
namespace Go.Proofs.YtokkjaflmcjlhaaGreat
open Go.ChangeShapes Go.WideShapes Go.ChangeAt Go.RowKit
set_option linter.unusedVariables false
set_option linter.unusedSimpArgs false
set_option maxRecDepth 100000
set_option maxHeartbeats 4000000
def aOt:Rd (List Int):=fun w cs l=>iB (Lv w) w (aE l) cs∧aC3 l
theorem yB {H:Type} {enc:TypeId × Value→H} {w:World} {base:Nat} {spare:Nat→Bool} {held:Bool} {fuel:Nat} {cs:List Value} {x:DataW H × List MemPlace} (h:DataW.trod enc Tryz.prog w base spare held fuel 32 cs=some x): ∃l,aOt w cs l:=by
 obtain ⟨l,hl⟩:=kH (k:=1) (R:=aLR) Tryz.underlying32 (by kernel_rfl) (by omega) (fun _ _ _ h=>trod_int Tryz.underlying3 h) h
 have hf:aC3 l:=hl.all_ (fun _ _ _ h=>h.2)
 obtain ⟨A,c,rfl,_⟩:=id hl
 exact ⟨l,eM (oF (R:=aLR) (enc:=intD) (fun cs x h=>by obtain ⟨rfl,_⟩:=h;exact eM rdV_int gN) hl) gN,hf⟩
def aRN:Rd (List (List Int)):=fun w cs l=>iB (Lv w) w (aRE l) cs∧aES l
theorem aHO {H:Type} {enc:TypeId × Value→H} {w:World} {base:Nat} {spare:Nat→Bool} {held:Bool} {fuel:Nat} {cs:List Value} {x:DataW H × List MemPlace} (h:DataW.trod enc Tryz.prog w base spare held fuel 160 cs=some x): ∃l,aRN w cs l:=by
 obtain ⟨l,hl⟩:=kH (k:=1) (R:=aOt) Tryz.underlying160 (by kernel_rfl) (by omega) (fun _ _ _ h=>yB h) h
 have hf:aES l:=hl.all_ (fun _ _ _ h=>h.2)
 obtain ⟨A,c,rfl,_⟩:=id hl
 exact ⟨l,eM (oF (R:=aOt) (enc:=aE) (fun cs x h=>h.1) hl) gN,hf⟩
def aK5:Rd aR:=fun w cs x=>iB (Lv w) w (aP x) cs∧aKD x
set_option maxRecDepth 100000 in
theorem aMg {H:Type} {enc:TypeId × Value→H} {w:World} {base:Nat} {spare:Nat→Bool} {held:Bool} {fuel:Nat} {cs:List Value} {x:DataW H × List MemPlace} (h:DataW.trod enc Tryz.prog w base spare held fuel 202 cs=some x): ∃b,aK5 w cs b:=by
 obtain ⟨xs,n,_,_,hl,hxl,hf⟩:=DataW.trod_struct Tryz.underlying202 h
 have hl2:cs.length=3:=hl.trans (by kernel_rfl)
 match cs,hl2 with
 | [c0,c1,c2],_=>
   match xs,hxl with
   | [y0,y1,y2],_=>
     obtain ⟨l0,r0⟩:=sF Tryz.underlying9 (hf 0 _ rfl)
     obtain ⟨l1,r1⟩:=trod_int Tryz.underlying3 (hf 1 _ rfl)
     obtain ⟨l2,r2,f2⟩:=aHO (hf 2 _ rfl)
     exact ⟨⟨l0,l1,l2⟩,(eM (rdS r0) (eM (rdI r1) (iB.append r2 gN))),r0.2,r1.2,f2⟩
def aPy:Rd (List aR):=fun w cs l=>iB (Lv w) w (aPm l) cs∧aD3 l
theorem aK6 {H:Type} {enc:TypeId × Value→H} {w:World} {base:Nat} {spare:Nat→Bool} {held:Bool} {fuel:Nat} {cs:List Value} {x:DataW H × List MemPlace} (h:DataW.trod enc Tryz.prog w base spare held fuel 22 cs=some x): ∃l,aPy w cs l:=by
 obtain ⟨l,hl⟩:=kH (k:=3) (R:=aK5) Tryz.underlying22 (by kernel_rfl) (by omega) (fun _ _ _ h=>aMg h) h
 have hf:aD3 l:=hl.all_ (fun _ _ _ h=>h.2)
 obtain ⟨A,c,rfl,_⟩:=id hl
 exact ⟨l,eM (oF (R:=aK5) (enc:=aP) (fun cs x h=>h.1) hl) gN,hf⟩
def aMh:Rd aV:=fun w cs x=>iB (Lv w) w (aLu x) cs∧aCA x
set_option maxRecDepth 100000 in
theorem aHz {H:Type} {enc:TypeId × Value→H} {w:World} {base:Nat} {spare:Nat→Bool} {held:Bool} {fuel:Nat} {cs:List Value} {x:DataW H × List MemPlace} (h:DataW.trod enc Tryz.prog w base spare held fuel 24 cs=some x): ∃b,aMh w cs b:=by
 obtain ⟨xs,n,_,_,hl,hxl,hf⟩:=DataW.trod_struct Tryz.underlying24 h
 have hl2:cs.length=1:=hl.trans (by kernel_rfl)
 match cs,hl2 with
 | [c0],_=>
   match xs,hxl with
   | [y0],_=>
     obtain ⟨l0,r0,f0⟩:=aK6 (hf 0 _ rfl)
     exact ⟨⟨l0⟩,(iB.append r0 gN),f0⟩
def aOu:Rd bR:=fun w cs x=>iB (Lv w) w (bC x) cs∧aNr x
set_option maxRecDepth 100000 in
theorem aOv {H:Type} {enc:TypeId × Value→H} {w:World} {base:Nat} {spare:Nat→Bool} {held:Bool} {fuel:Nat} {cs:List Value} {x:DataW H × List MemPlace} (h:DataW.trod enc Tryz.prog w base spare held fuel 185 cs=some x): ∃b,aOu w cs b:=by
 obtain ⟨xs,n,_,_,hl,hxl,hf⟩:=DataW.trod_struct Tryz.underlying185 h
 have hl2:cs.length=2:=hl.trans (by kernel_rfl)
 match cs,hl2 with
 | [c0,c1],_=>
   match xs,hxl with
   | [y0,y1],_=>
     obtain ⟨l0,r0⟩:=sF Tryz.underlying9 (hf 0 _ rfl)
     obtain ⟨l1,r1,f1⟩:=yB (hf 1 _ rfl)
     exact ⟨⟨l0,l1⟩,(eM (rdS r0) (iB.append r1 gN)),r0.2,f1⟩
def aRO:Rd (List bR):=fun w cs l=>iB (Lv w) w (aRF l) cs∧aHb l
theorem aMi {H:Type} {enc:TypeId × Value→H} {w:World} {base:Nat} {spare:Nat→Bool} {held:Bool} {fuel:Nat} {cs:List Value} {x:DataW H × List MemPlace} (h:DataW.trod enc Tryz.prog w base spare held fuel 66 cs=some x): ∃l,aRO w cs l:=by
 obtain ⟨l,hl⟩:=kH (k:=2) (R:=aOu) Tryz.underlying66 (by kernel_rfl) (by omega) (fun _ _ _ h=>aOv h) h
 have hf:aHb l:=hl.all_ (fun _ _ _ h=>h.2)
 obtain ⟨A,c,rfl,_⟩:=id hl
 exact ⟨l,eM (oF (R:=aOu) (enc:=bC) (fun cs x h=>h.1) hl) gN,hf⟩
def RQuery:Rd QueryD:=fun w cs x=>iB (Lv w) w (aRG x) cs∧aKE x
set_option maxRecDepth 100000 in
theorem openQuery {H:Type} {enc:TypeId × Value→H} {w:World} {base:Nat} {spare:Nat→Bool} {held:Bool} {fuel:Nat} {cs:List Value} {x:DataW H × List MemPlace} (h:DataW.trod enc Tryz.prog w base spare held fuel 68 cs=some x): ∃b,RQuery w cs b:=by
 obtain ⟨xs,n,_,_,hl,hxl,hf⟩:=DataW.trod_struct Tryz.underlying68 h
 have hl2:cs.length=2:=hl.trans (by kernel_rfl)
 match cs,hl2 with
 | [c0,c1],_=>
   match xs,hxl with
   | [y0,y1],_=>
     obtain ⟨l0,r0⟩:=trod_int Tryz.underlying3 (hf 0 _ rfl)
     obtain ⟨l1,r1,f1⟩:=aMi (hf 1 _ rfl)
     exact ⟨⟨l0,l1⟩,(eM (rdI r0) (iB.append r1 gN)),r0.2,f1⟩
def yC:Rd aG:=fun w cs x=>iB (Lv w) w (aA x) cs∧wJ x
set_option maxRecDepth 100000 in
theorem aFi {H:Type} {enc:TypeId × Value→H} {w:World} {base:Nat} {spare:Nat→Bool} {held:Bool} {fuel:Nat} {cs:List Value} {x:DataW H × List MemPlace} (h:DataW.trod enc Tryz.prog w base spare held fuel 251 cs=some x): ∃b,yC w cs b:=by
 obtain ⟨xs,n,_,_,hl,hxl,hf⟩:=DataW.trod_struct Tryz.underlying251 h
 have hl2:cs.length=3:=hl.trans (by kernel_rfl)
 match cs,hl2 with
 | [c0,c1,c2],_=>
   match xs,hxl with
   | [y0,y1,y2],_=>
     obtain ⟨l0,r0,f0⟩:=yB (hf 0 _ rfl)
     obtain ⟨l1,r1,f1⟩:=aHO (hf 1 _ rfl)
     obtain ⟨l2,r2,f2⟩:=yB (hf 2 _ rfl)
     exact ⟨⟨l0,l1,l2⟩,(iB.append r0 (iB.append r1 (iB.append r2 gN))),f0,f1,f2⟩
def aIA:Rd (List aG):=fun w cs l=>iB (Lv w) w (aHc l) cs∧pE l
theorem aDU {H:Type} {enc:TypeId × Value→H} {w:World} {base:Nat} {spare:Nat→Bool} {held:Bool} {fuel:Nat} {cs:List Value} {x:DataW H × List MemPlace} (h:DataW.trod enc Tryz.prog w base spare held fuel 204 cs=some x): ∃l,aIA w cs l:=by
 obtain ⟨l,hl⟩:=kH (k:=3) (R:=yC) Tryz.underlying204 (by kernel_rfl) (by omega) (fun _ _ _ h=>aFi h) h
 have hf:pE l:=hl.all_ (fun _ _ _ h=>h.2)
 obtain ⟨A,c,rfl,_⟩:=id hl
 exact ⟨l,eM (oF (R:=yC) (enc:=aA) (fun cs x h=>h.1) hl) gN,hf⟩
def yD:Rd aB:=fun w cs x=>iB (Lv w) w (aC x) cs∧wK x
set_option maxRecDepth 100000 in
theorem aFj {H:Type} {enc:TypeId × Value→H} {w:World} {base:Nat} {spare:Nat→Bool} {held:Bool} {fuel:Nat} {cs:List Value} {x:DataW H × List MemPlace} (h:DataW.trod enc Tryz.prog w base spare held fuel 206 cs=some x): ∃b,yD w cs b:=by
 obtain ⟨xs,n,_,_,hl,hxl,hf⟩:=DataW.trod_struct Tryz.underlying206 h
 have hl2:cs.length=4:=hl.trans (by kernel_rfl)
 match cs,hl2 with
 | [c0,c1,c2,c3],_=>
   match xs,hxl with
   | [y0,y1,y2,y3],_=>
     obtain ⟨l0,r0⟩:=sF Tryz.underlying9 (hf 0 _ rfl)
     obtain ⟨l1,r1⟩:=trod_int Tryz.underlying3 (hf 1 _ rfl)
     obtain ⟨l2,r2⟩:=trod_int Tryz.underlying3 (hf 2 _ rfl)
     obtain ⟨l3,r3,f3⟩:=aDU (hf 3 _ rfl)
     exact ⟨⟨l0,l1,l2,l3⟩,(eM (rdS r0) (eM (rdI r1) (eM (rdI r2) (iB.append r3 gN)))),r0.2,r1.2,r2.2,f3⟩
def aIB:Rd (List aB):=fun w cs l=>iB (Lv w) w (aHd l) cs∧pF l
theorem aDV {H:Type} {enc:TypeId × Value→H} {w:World} {base:Nat} {spare:Nat→Bool} {held:Bool} {fuel:Nat} {cs:List Value} {x:DataW H × List MemPlace} (h:DataW.trod enc Tryz.prog w base spare held fuel 25 cs=some x): ∃l,aIB w cs l:=by
 obtain ⟨l,hl⟩:=kH (k:=4) (R:=yD) Tryz.underlying25 (by kernel_rfl) (by omega) (fun _ _ _ h=>aFj h) h
 have hf:pF l:=hl.all_ (fun _ _ _ h=>h.2)
 obtain ⟨A,c,rfl,_⟩:=id hl
 exact ⟨l,eM (oF (R:=yD) (enc:=aC) (fun cs x h=>h.1) hl) gN,hf⟩
def aK7:Rd bS:=fun w cs x=>iB (Lv w) w (aKF x) cs∧aAE x
set_option maxRecDepth 100000 in
theorem aGJ {H:Type} {enc:TypeId × Value→H} {w:World} {base:Nat} {spare:Nat→Bool} {held:Bool} {fuel:Nat} {cs:List Value} {x:DataW H × List MemPlace} (h:DataW.trod enc Tryz.prog w base spare held fuel 27 cs=some x): ∃b,aK7 w cs b:=by
 obtain ⟨xs,n,_,_,hl,hxl,hf⟩:=DataW.trod_struct Tryz.underlying27 h
 have hl2:cs.length=2:=hl.trans (by kernel_rfl)
 match cs,hl2 with
 | [c0,c1],_=>
   match xs,hxl with
   | [y0,y1],_=>
     obtain ⟨l0,r0⟩:=trod_int Tryz.underlying3 (hf 0 _ rfl)
     obtain ⟨l1,r1,f1⟩:=aDV (hf 1 _ rfl)
     exact ⟨⟨l0,l1⟩,(eM (rdI r0) (iB.append r1 gN)),r0.2,f1⟩
def yE:Rd aN:=fun w cs x=>iB (Lv w) w (aJ x) cs∧wL x
set_option maxRecDepth 100000 in
theorem aFk {H:Type} {enc:TypeId × Value→H} {w:World} {base:Nat} {spare:Nat→Bool} {held:Bool} {fuel:Nat} {cs:List Value} {x:DataW H × List MemPlace} (h:DataW.trod enc Tryz.prog w base spare held fuel 154 cs=some x): ∃b,yE w cs b:=by
 obtain ⟨xs,n,_,_,hl,hxl,hf⟩:=DataW.trod_struct Tryz.underlying154 h
 have hl2:cs.length=3:=hl.trans (by kernel_rfl)
 match cs,hl2 with
 | [c0,c1,c2],_=>
   match xs,hxl with
   | [y0,y1,y2],_=>
     obtain ⟨l0,r0⟩:=sF Tryz.underlying9 (hf 0 _ rfl)
     obtain ⟨l1,r1,f1⟩:=yB (hf 1 _ rfl)
     obtain ⟨l2,r2⟩:=trod_int Tryz.underlying3 (hf 2 _ rfl)
     exact ⟨⟨l0,l1,l2⟩,(eM (rdS r0) (iB.append r1 (eM (rdI r2) gN))),r0.2,f1,r2.2⟩
def aIC:Rd (List aN):=fun w cs l=>iB (Lv w) w (aHe l) cs∧pG l
theorem aDW {H:Type} {enc:TypeId × Value→H} {w:World} {base:Nat} {spare:Nat→Bool} {held:Bool} {fuel:Nat} {cs:List Value} {x:DataW H × List MemPlace} (h:DataW.trod enc Tryz.prog w base spare held fuel 28 cs=some x): ∃l,aIC w cs l:=by
 obtain ⟨l,hl⟩:=kH (k:=3) (R:=yE) Tryz.underlying28 (by kernel_rfl) (by omega) (fun _ _ _ h=>aFk h) h
 have hf:pG l:=hl.all_ (fun _ _ _ h=>h.2)
 obtain ⟨A,c,rfl,_⟩:=id hl
 exact ⟨l,eM (oF (R:=yE) (enc:=aJ) (fun cs x h=>h.1) hl) gN,hf⟩
def aAe:Rd aL:=fun w cs x=>iB (Lv w) w (aM x) cs∧aAF x
set_option maxRecDepth 100000 in
theorem aGK {H:Type} {enc:TypeId × Value→H} {w:World} {base:Nat} {spare:Nat→Bool} {held:Bool} {fuel:Nat} {cs:List Value} {x:DataW H × List MemPlace} (h:DataW.trod enc Tryz.prog w base spare held fuel 157 cs=some x): ∃b,aAe w cs b:=by
 obtain ⟨xs,n,_,_,hl,hxl,hf⟩:=DataW.trod_struct Tryz.underlying157 h
 have hl2:cs.length=4:=hl.trans (by kernel_rfl)
 match cs,hl2 with
 | [c0,c1,c2,c3],_=>
   match xs,hxl with
   | [y0,y1,y2,y3],_=>
     obtain ⟨l0,r0⟩:=sF Tryz.underlying9 (hf 0 _ rfl)
     obtain ⟨l1,r1⟩:=trod_int Tryz.underlying3 (hf 1 _ rfl)
     obtain ⟨l2,r2⟩:=sF Tryz.underlying9 (hf 2 _ rfl)
     obtain ⟨l3,r3⟩:=trod_int Tryz.underlying3 (hf 3 _ rfl)
     exact ⟨⟨l0,l1,l2,l3⟩,(eM (rdS r0) (eM (rdI r1) (eM (rdS r2) (eM (rdI r3) gN)))),r0.2,r1.2,r2.2,r3.2⟩
def aJc:Rd (List aL):=fun w cs l=>iB (Lv w) w (aIk l) cs∧rK l
theorem aFl {H:Type} {enc:TypeId × Value→H} {w:World} {base:Nat} {spare:Nat→Bool} {held:Bool} {fuel:Nat} {cs:List Value} {x:DataW H × List MemPlace} (h:DataW.trod enc Tryz.prog w base spare held fuel 29 cs=some x): ∃l,aJc w cs l:=by
 obtain ⟨l,hl⟩:=kH (k:=4) (R:=aAe) Tryz.underlying29 (by kernel_rfl) (by omega) (fun _ _ _ h=>aGK h) h
 have hf:rK l:=hl.all_ (fun _ _ _ h=>h.2)
 obtain ⟨A,c,rfl,_⟩:=id hl
 exact ⟨l,eM (oF (R:=aAe) (enc:=aM) (fun cs x h=>h.1) hl) gN,hf⟩
def RStore:Rd StoreD:=fun w cs x=>iB (Lv w) w (aRH x) cs∧aKG x
set_option maxRecDepth 100000 in
theorem openStore {H:Type} {enc:TypeId × Value→H} {w:World} {base:Nat} {spare:Nat→Bool} {held:Bool} {fuel:Nat} {cs:List Value} {x:DataW H × List MemPlace} (h:DataW.trod enc Tryz.prog w base spare held fuel 31 cs=some x): ∃b,RStore w cs b:=by
 obtain ⟨xs,n,_,_,hl,hxl,hf⟩:=DataW.trod_struct Tryz.underlying31 h
 have hl2:cs.length=5:=hl.trans (by kernel_rfl)
 match cs,hl2 with
 | [c0,c1,c2,c3,c4],_=>
   match xs,hxl with
   | [y0,y1,y2,y3],_=>
     obtain ⟨l0,r0,f0⟩:=aHz (hf 0 _ rfl)
     obtain ⟨l1,r1,f1⟩:=aGJ (hf 1 _ rfl)
     obtain ⟨l2,r2,f2⟩:=aDW (hf 2 _ rfl)
     obtain ⟨l3,r3,f3⟩:=aFl (hf 3 _ rfl)
     exact ⟨⟨l0,l1,l2,l3⟩,(iB.append r0 (iB.append r1 (iB.append r2 (iB.append r3 gN)))),f0,f1,f2,f3⟩
end Go.Proofs.YtokkjaflmcjlhaaGreat
namespace Go.Proofs.YtokkjaflmcjlhaaGreat
open Go.ChangeShapes Go.WideShapes Go.ChangeAt Go.RowKit
set_option linter.unusedVariables false
set_option linter.unusedSimpArgs false
set_option maxRecDepth 100000
set_option maxHeartbeats 4000000
theorem fr_own:ownKnob Tryz.prog.godebug=none:=by kernel_rfl
theorem fr_laid:laidOutB Tryz.prog=true:=by kernel_rfl
theorem fr_maps:mapsRowed Tryz.prog=true:=by kernel_rfl
theorem fr_stops:(Tryz.prog.stops== [])=true:=by kernel_rfl
theorem fr_sk:(Tryz.prog.stopKnobs== [])=true:=by kernel_rfl
theorem fr_heard:Tryz.prog.stopsHeard=true:=by kernel_rfl
theorem fr_enter:Tryz.prog.mayEnter=true:=by kernel_rfl
theorem fr_keys:(Rows.fnExactUpdateStoreRow.plainKeys==Tryz.prog.plainKeys)=true:=by kernel_rfl
theorem fr_lifts:(Rows.fnExactUpdateStoreRow.lifted==Tryz.prog.liftsFinal)=true:=by kernel_rfl
theorem fr_make:(Tryz.prog.make==some Rows.fnExactUpdateStoreRow.make)=true:=by kernel_rfl
end Go.Proofs.YtokkjaflmcjlhaaGreat
