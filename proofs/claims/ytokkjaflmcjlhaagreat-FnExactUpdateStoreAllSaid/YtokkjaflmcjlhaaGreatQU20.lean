/-
  Contracts and plain laws, joined: part 21.
-/
import Derived.Test.YtokkjaflmcjlhaaGreatQU14
import Derived.Test.YtokkjaflmcjlhaaGreatQU15
import Derived.Test.YtokkjaflmcjlhaaGreatQU16
import Derived.Test.YtokkjaflmcjlhaaGreatQU17
import Derived.Test.YtokkjaflmcjlhaaGreatQU18
import Derived.Test.YtokkjaflmcjlhaaGreatQU19
import Derived.Test.YtokkjaflmcjlhaaGreatQU3
import Derived.Test.YtokkjaflmcjlhaaGreatQU0
namespace Go.Proofs.YtokkjaflmcjlhaaGreat
open Go.ChangeShapes Go.WideShapes Go.ChangeAt Go.RowKit
set_option linter.unusedVariables false
set_option linter.unusedSimpArgs false
set_option maxRecDepth 100000
set_option maxHeartbeats 4000000
theorem lawUpdateStoreAll (a0:StoreD) (a1:List UpdateD) (h0:aJB a0) (h1:aAh a1):dJ Tryz.prog 4 [.agg [.sl 162 3 (a0.database.tables.map aD),.int .i64 a0.catalogue.version,.sl 121 4 (a0.catalogue.tables.map aA),.sl 168 3 (a0.dependencies.map aB),.sl 170 4 (a0.inclusions.map aE)],.one (.sl 50 3 (a1.map aX))] (vB true) []:=by
 refine aZ bR aT Tryz.func4 (by kernel_rfl) (.call (vI (aQ (dQ a0) (1048576:Int))) []<| .br (.fin []) (.call (vI (aQ (gE a1) (aQ (dQ a0) (1048576:Int)))) []<| .br (.fin []) (bG (nN a0)<| bG (kS a1)<| bG (wX a0 a1)<| bG (nN a0)<| bG (kS a1)<| bG (rL a0 a1)<| .call (vB true) []<| .lit<| .lit<| .lit<| .lit<| .no<| bG (nN a0)<| .call (vB true) []<| bG (kS a1)<| .call (vB true) []<| kD (nI a0 (1:Int)) [(0,3600),(1,3601),(2,3602),(3,3603)]<| kD (mN a1 ((1:Int)+((fQ a0:Nat):Int))) [(0,3800)]<| .no<| .call (vB true) []<| .lit<| .lit<| .lit<| .lit<| .lit<| .lit<| .no<| kD (nI ((dW a0 a1).1) (1:Int)) [(0,4200),(1,4201),(2,4202),(3,4203)]<| .call (vI ((1:Int)+((fQ ((dW a0 a1).1):Nat):Int))) []<| .no<| .no<| bG (nN a0)<| bG (kS a1)<| bG (rL a0 a1)<| .call (vB true) []<| .lit<| .lit<| .lit<| .lit<| .no<| .call (vI ((1:Int)+((fQ ((dW a0 a1).1):Nat):Int))) []<| .no<| .no<| .fin []))) (p:=(a0.database.tables.map aD).length≤9223372036854775807→(a0.catalogue.tables.map aA).length≤9223372036854775807→(a0.dependencies.map aB).length≤9223372036854775807→(a0.inclusions.map aE).length≤9223372036854775807→(a1.map aX).length≤9223372036854775807→aEd a0 (1048576:Int)∧(((decide ((aQ (dQ a0) (1048576:Int))<(0:Int)))=true→(true)=true∧True)∧((decide ((aQ (dQ a0) (1048576:Int))<(0:Int)))=false→aBP a1 (aQ (dQ a0) (1048576:Int))∧(((decide ((aQ (gE a1) (aQ (dQ a0) (1048576:Int)))<(0:Int)))=true→(true)=true∧True)∧((decide ((aQ (gE a1) (aQ (dQ a0) (1048576:Int)))<(0:Int)))=false→qQ a0∧mO a1∧aCY a0 a1∧qQ a0∧mO a1∧wW a0 a1∧qR ((dW a0 a1).1)∧(!(decide (((dW a0 a1).2)=((dW a0 a1).2))))=false∧qQ a0∧qR a0∧mO a1∧aBL a1∧aAN a0 (1:Int)∧a0.catalogue.version=a0.catalogue.version∧(1:Int)=(1:Int)∧a0.database.tables.map aD=a0.database.tables.map aD∧a0.catalogue.tables.map aA=a0.catalogue.tables.map aA∧a0.dependencies.map aB=a0.dependencies.map aB∧a0.inclusions.map aE=a0.inclusions.map aE∧aBH a1 ((1:Int)+((fQ a0:Nat):Int))∧((1:Int)+((fQ a0:Nat):Int))=((1:Int)+((fQ a0:Nat):Int))∧a1.map aX=a1.map aX∧(decide ((((1:Int)+((fQ a0:Nat):Int))+((wZ a1:Nat):Int))<(0:Int)))=false∧qR ((dW a0 a1).1)∧(!(decide (((dW a0 a1).2)=((dW a0 a1).2))))=false∧aAN ((dW a0 a1).1) (1:Int)∧((((dW a0 a1).1).catalogue).version)=((((dW a0 a1).1).catalogue).version)∧(1:Int)=(1:Int)∧((((dW a0 a1).1).database).tables).map aD=((((dW a0 a1).1).database).tables).map aD∧((((dW a0 a1).1).catalogue).tables).map aA=((((dW a0 a1).1).catalogue).tables).map aA∧(((dW a0 a1).1).dependencies).map aB=(((dW a0 a1).1).dependencies).map aB∧(((dW a0 a1).1).inclusions).map aE=(((dW a0 a1).1).inclusions).map aE∧dJ Tryz.prog 23 [.agg [.sl 162 3 ((((eJ (1:Int) ((dW a0 a1).1)).database).tables).map aD),.int .i64 ((((dW a0 a1).1).catalogue).version),.sl 121 4 ((((eJ (1:Int) ((dW a0 a1).1)).catalogue).tables).map aA),.sl 168 3 (((eJ (1:Int) ((dW a0 a1).1)).dependencies).map aB),.sl 170 4 (((eJ (1:Int) ((dW a0 a1).1)).inclusions).map aE)],.one (.int .i64 (1:Int))] (vI ((1:Int)+((fQ ((dW a0 a1).1):Nat):Int))) []∧(decide (((1:Int)+((fQ ((dW a0 a1).1):Nat):Int))<(0:Int)))=false∧(!(decide (((1:Int)+((fQ ((dW a0 a1).1):Nat):Int))=((1:Int)+((fQ ((dW a0 a1).1):Nat):Int)))))=false∧qQ a0∧mO a1∧wW a0 a1∧qR ((dW a0 a1).1)∧(!(decide (((dW a0 a1).2)=((dW a0 a1).2))))=false∧dJ Tryz.prog 23 [.agg [.sl 162 3 ((((eJ (1:Int) ((dW a0 a1).1)).database).tables).map aD),.int .i64 ((((dW a0 a1).1).catalogue).version),.sl 121 4 ((((eJ (1:Int) ((dW a0 a1).1)).catalogue).tables).map aA),.sl 168 3 (((eJ (1:Int) ((dW a0 a1).1)).dependencies).map aB),.sl 170 4 (((eJ (1:Int) ((dW a0 a1).1)).inclusions).map aE)],.one (.int .i64 (1:Int))] (vI ((1:Int)+((fQ ((dW a0 a1).1):Nat):Int))) []∧(decide (((1:Int)+((fQ ((dW a0 a1).1):Nat):Int))<(0:Int)))=false∧(!(decide (((1:Int)+((fQ ((dW a0 a1).1):Nat):Int))=((1:Int)+((fQ ((dW a0 a1).1):Nat):Int)))))=false∧(true)=true∧True))))) (by kernel_rfl) ?_
 intro n0 n1 n2 n3 n4
 simp only [List.length_map] at n0 n1 n2 n3 n4
 refine ⟨aNL a0 _ (by first | assumption | exact hf) (by omega) (by omega),fun c0=>?_,fun c0=>?_⟩
 ·replace c0:=yq c0
  refine ⟨?_,trivial⟩
  ·rfl
 ·replace c0:=nq c0
  try (have y0:=iG c0;try rw [aO y0] at*)
  refine ⟨aJY a1 _ (by first | assumption | exact hf) (by omega) (by omega),fun c1=>?_,fun c1=>?_⟩
  ·replace c1:=yq c1
   refine ⟨?_,trivial⟩
   ·rfl
  ·replace c1:=nq c1
   try (have y1:=iG c1;try rw [aO y1] at*)
   have f0:=aES a0 a1
   have f1:dQ (dW a0 a1).1≤1048576:=f0.elim (fun q=>by rw [q];omega) (fun q=>by omega)
   have f2:=aEV (dW a0 a1).1
   have sa0:=aEV a0
   have sa1:=aC0 a1
   refine ⟨aBJ a0 (by first | omega | (have:=cStoreS_el ‹x[k]? =some _›;omega)),tX a1 (by first | omega | (have:=cUpdateSS_el ‹x[k]? =some _›;omega)),aLN _ _ (by omega) (by omega),aBJ a0 (by first | omega | (have:=cStoreS_el ‹x[k]? =some _›;omega)),tX a1 (by first | omega | (have:=cUpdateSS_el ‹x[k]? =some _›;omega)),aGH _ _ (by omega) (by omega),by first | exact oM ((dW a0 a1).1) | exact oM _,by first | (simp;done) | (simp;omega) | (simp [*];done),aBJ a0 (by first | omega | (have:=cStoreS_el ‹x[k]? =some _›;omega)),by first | exact oM a0 | exact oM _,tX a1 (by first | omega | (have:=cUpdateSS_el ‹x[k]? =some _›;omega)),by first | exact aE7 a1 | exact aE7 _,aIW _ _ (by omega) (by first | omega | (dsimp only;omega)),rfl,rfl,rfl,rfl,rfl,rfl,aJU _ _ (by omega) (by first | omega | (dsimp only;omega)),rfl,rfl,by first | (simp;done) | (simp;omega) | (simp [*];done),by first | exact oM ((dW a0 a1).1) | exact oM _,by first | (simp;done) | (simp;omega) | (simp [*];done),aIW _ _ (by omega) (by first | omega | (dsimp only;omega)),rfl,rfl,rfl,rfl,rfl,rfl,aI0 _ _ (by omega) (by first | omega | (dsimp only;omega)),by first | (simp;done) | (simp;omega) | (simp [*];done),by first | (simp;done) | (simp;omega) | (simp [*];done),aBJ a0 (by first | omega | (have:=cStoreS_el ‹x[k]? =some _›;omega)),tX a1 (by first | omega | (have:=cUpdateSS_el ‹x[k]? =some _›;omega)),aGH _ _ (by omega) (by omega),by first | exact oM ((dW a0 a1).1) | exact oM _,by first | (simp;done) | (simp;omega) | (simp [*];done),aI0 _ _ (by omega) (by first | omega | (dsimp only;omega)),by first | (simp;done) | (simp;omega) | (simp [*];done),by first | (simp;done) | (simp;omega) | (simp [*];done),?_,trivial⟩
   ·rfl
end Go.Proofs.YtokkjaflmcjlhaaGreat
namespace Go.Proofs.YtokkjaflmcjlhaaGreat
open Go.ChangeShapes Go.WideShapes Go.ChangeAt Go.RowKit
set_option linter.unusedVariables false
set_option linter.unusedSimpArgs false
set_option maxRecDepth 100000
set_option maxHeartbeats 4000000
def aNM:Rd (List Int):=fun w cs l=>iM (Lv w) w (aF l) cs∧aCC l
theorem xL {H:Type} {enc:TypeId × Value→H} {w:World} {base:Nat} {spare:Nat→Bool} {held:Bool} {fuel:Nat} {cs:List Value} {x:DataW H × List MemPlace} (h:DataW.trod enc Tryz.prog w base spare held fuel 32 cs=some x): ∃l,aNM w cs l:=by
 obtain ⟨l,hl⟩:=kB (k:=1) (R:=aKH) Tryz.underlying32 (by kernel_rfl) (by omega) (fun _ _ _ h=>trod_int Tryz.underlying3 h) h
 have hf:aCC l:=hl.all_ (fun _ _ _ h=>h.2)
 obtain ⟨A,c,rfl,_⟩:=id hl
 exact ⟨l,eN (oB (R:=aKH) (enc:=intD) (fun cs x h=>by obtain ⟨rfl,_⟩:=h;exact eN aJb gZ) hl) gZ,hf⟩
def aP0:Rd (List (List Int)):=fun w cs l=>iM (Lv w) w (aPW l) cs∧aDb l
theorem aGL {H:Type} {enc:TypeId × Value→H} {w:World} {base:Nat} {spare:Nat→Bool} {held:Bool} {fuel:Nat} {cs:List Value} {x:DataW H × List MemPlace} (h:DataW.trod enc Tryz.prog w base spare held fuel 160 cs=some x): ∃l,aP0 w cs l:=by
 obtain ⟨l,hl⟩:=kB (k:=1) (R:=aNM) Tryz.underlying160 (by kernel_rfl) (by omega) (fun _ _ _ h=>xL h) h
 have hf:aDb l:=hl.all_ (fun _ _ _ h=>h.2)
 obtain ⟨A,c,rfl,_⟩:=id hl
 exact ⟨l,eN (oB (R:=aNM) (enc:=aF) (fun cs x h=>h.1) hl) gZ,hf⟩
def aJZ:Rd aN:=fun w cs x=>iM (Lv w) w (aD x) cs∧aIz x
set_option maxRecDepth 100000 in
theorem aLV {H:Type} {enc:TypeId × Value→H} {w:World} {base:Nat} {spare:Nat→Bool} {held:Bool} {fuel:Nat} {cs:List Value} {x:DataW H × List MemPlace} (h:DataW.trod enc Tryz.prog w base spare held fuel 202 cs=some x): ∃b,aJZ w cs b:=by
 obtain ⟨xs,n,_,_,hl,hxl,hf⟩:=DataW.trod_struct Tryz.underlying202 h
 have hl2:cs.length=3:=hl.trans (by kernel_rfl)
 match cs,hl2 with
 | [c0,c1,c2],_=>
   match xs,hxl with
   | [y0,y1,y2],_=>
     obtain ⟨l0,r0⟩:=rX Tryz.underlying9 (hf 0 _ rfl)
     obtain ⟨l1,r1⟩:=trod_int Tryz.underlying3 (hf 1 _ rfl)
     obtain ⟨l2,r2,f2⟩:=aGL (hf 2 _ rfl)
     exact ⟨⟨l0,l1,l2⟩,(eN (rdS r0) (eN (rdI r1) (iM.append r2 gZ))),r0.2,r1.2,f2⟩
def aOS:Rd (List aN):=fun w cs l=>iM (Lv w) w (aOE l) cs∧aCr l
theorem aJ0 {H:Type} {enc:TypeId × Value→H} {w:World} {base:Nat} {spare:Nat→Bool} {held:Bool} {fuel:Nat} {cs:List Value} {x:DataW H × List MemPlace} (h:DataW.trod enc Tryz.prog w base spare held fuel 22 cs=some x): ∃l,aOS w cs l:=by
 obtain ⟨l,hl⟩:=kB (k:=3) (R:=aJZ) Tryz.underlying22 (by kernel_rfl) (by omega) (fun _ _ _ h=>aLV h) h
 have hf:aCr l:=hl.all_ (fun _ _ _ h=>h.2)
 obtain ⟨A,c,rfl,_⟩:=id hl
 exact ⟨l,eN (oB (R:=aJZ) (enc:=aD) (fun cs x h=>h.1) hl) gZ,hf⟩
def aLW:Rd aP:=fun w cs x=>iM (Lv w) w (aKk x) cs∧aBa x
set_option maxRecDepth 100000 in
theorem aGv {H:Type} {enc:TypeId × Value→H} {w:World} {base:Nat} {spare:Nat→Bool} {held:Bool} {fuel:Nat} {cs:List Value} {x:DataW H × List MemPlace} (h:DataW.trod enc Tryz.prog w base spare held fuel 24 cs=some x): ∃b,aLW w cs b:=by
 obtain ⟨xs,n,_,_,hl,hxl,hf⟩:=DataW.trod_struct Tryz.underlying24 h
 have hl2:cs.length=1:=hl.trans (by kernel_rfl)
 match cs,hl2 with
 | [c0],_=>
   match xs,hxl with
   | [y0],_=>
     obtain ⟨l0,r0,f0⟩:=aJ0 (hf 0 _ rfl)
     exact ⟨⟨l0⟩,(iM.append r0 gZ),f0⟩
def aGw:Rd UpdateD:=fun w cs x=>iM (Lv w) w (aX x) cs∧aG7 x
set_option maxRecDepth 100000 in
theorem aJ1 {H:Type} {enc:TypeId × Value→H} {w:World} {base:Nat} {spare:Nat→Bool} {held:Bool} {fuel:Nat} {cs:List Value} {x:DataW H × List MemPlace} (h:DataW.trod enc Tryz.prog w base spare held fuel 34 cs=some x): ∃b,aGw w cs b:=by
 obtain ⟨xs,n,_,_,hl,hxl,hf⟩:=DataW.trod_struct Tryz.underlying34 h
 have hl2:cs.length=3:=hl.trans (by kernel_rfl)
 match cs,hl2 with
 | [c0,c1,c2],_=>
   match xs,hxl with
   | [y0,y1,y2],_=>
     obtain ⟨l0,r0⟩:=rX Tryz.underlying9 (hf 0 _ rfl)
     obtain ⟨l1,r1⟩:=aKI Tryz.underlying4 (hf 1 _ rfl)
     obtain ⟨l2,r2,f2⟩:=xL (hf 2 _ rfl)
     exact ⟨⟨l0,l1,l2⟩,(eN (rdS r0) (eN (rdB r1) (iM.append r2 gZ))),r0.2,trivial,f2⟩
def RUpdateS:Rd (List UpdateD):=fun w cs l=>iM (Lv w) w (aM8 l) cs∧aAh l
theorem openUpdateS {H:Type} {enc:TypeId × Value→H} {w:World} {base:Nat} {spare:Nat→Bool} {held:Bool} {fuel:Nat} {cs:List Value} {x:DataW H × List MemPlace} (h:DataW.trod enc Tryz.prog w base spare held fuel 57 cs=some x): ∃l,RUpdateS w cs l:=by
 obtain ⟨l,hl⟩:=kB (k:=3) (R:=aGw) Tryz.underlying57 (by kernel_rfl) (by omega) (fun _ _ _ h=>aJ1 h) h
 have hf:aAh l:=hl.all_ (fun _ _ _ h=>h.2)
 obtain ⟨A,c,rfl,_⟩:=id hl
 exact ⟨l,eN (oB (R:=aGw) (enc:=aX) (fun cs x h=>h.1) hl) gZ,hf⟩
def xM:Rd aH:=fun w cs x=>iM (Lv w) w (aC x) cs∧vQ x
set_option maxRecDepth 100000 in
theorem aEe {H:Type} {enc:TypeId × Value→H} {w:World} {base:Nat} {spare:Nat→Bool} {held:Bool} {fuel:Nat} {cs:List Value} {x:DataW H × List MemPlace} (h:DataW.trod enc Tryz.prog w base spare held fuel 251 cs=some x): ∃b,xM w cs b:=by
 obtain ⟨xs,n,_,_,hl,hxl,hf⟩:=DataW.trod_struct Tryz.underlying251 h
 have hl2:cs.length=3:=hl.trans (by kernel_rfl)
 match cs,hl2 with
 | [c0,c1,c2],_=>
   match xs,hxl with
   | [y0,y1,y2],_=>
     obtain ⟨l0,r0,f0⟩:=xL (hf 0 _ rfl)
     obtain ⟨l1,r1,f1⟩:=aGL (hf 1 _ rfl)
     obtain ⟨l2,r2,f2⟩:=xL (hf 2 _ rfl)
     exact ⟨⟨l0,l1,l2⟩,(iM.append r0 (iM.append r1 (iM.append r2 gZ))),f0,f1,f2⟩
def aGx:Rd (List aH):=fun w cs l=>iM (Lv w) w (aG8 l) cs∧pB l
theorem aCj {H:Type} {enc:TypeId × Value→H} {w:World} {base:Nat} {spare:Nat→Bool} {held:Bool} {fuel:Nat} {cs:List Value} {x:DataW H × List MemPlace} (h:DataW.trod enc Tryz.prog w base spare held fuel 204 cs=some x): ∃l,aGx w cs l:=by
 obtain ⟨l,hl⟩:=kB (k:=3) (R:=xM) Tryz.underlying204 (by kernel_rfl) (by omega) (fun _ _ _ h=>aEe h) h
 have hf:pB l:=hl.all_ (fun _ _ _ h=>h.2)
 obtain ⟨A,c,rfl,_⟩:=id hl
 exact ⟨l,eN (oB (R:=xM) (enc:=aC) (fun cs x h=>h.1) hl) gZ,hf⟩
def xN:Rd aG:=fun w cs x=>iM (Lv w) w (aA x) cs∧vR x
set_option maxRecDepth 100000 in
theorem aEf {H:Type} {enc:TypeId × Value→H} {w:World} {base:Nat} {spare:Nat→Bool} {held:Bool} {fuel:Nat} {cs:List Value} {x:DataW H × List MemPlace} (h:DataW.trod enc Tryz.prog w base spare held fuel 206 cs=some x): ∃b,xN w cs b:=by
 obtain ⟨xs,n,_,_,hl,hxl,hf⟩:=DataW.trod_struct Tryz.underlying206 h
 have hl2:cs.length=4:=hl.trans (by kernel_rfl)
 match cs,hl2 with
 | [c0,c1,c2,c3],_=>
   match xs,hxl with
   | [y0,y1,y2,y3],_=>
     obtain ⟨l0,r0⟩:=rX Tryz.underlying9 (hf 0 _ rfl)
     obtain ⟨l1,r1⟩:=trod_int Tryz.underlying3 (hf 1 _ rfl)
     obtain ⟨l2,r2⟩:=trod_int Tryz.underlying3 (hf 2 _ rfl)
     obtain ⟨l3,r3,f3⟩:=aCj (hf 3 _ rfl)
     exact ⟨⟨l0,l1,l2,l3⟩,(eN (rdS r0) (eN (rdI r1) (eN (rdI r2) (iM.append r3 gZ)))),r0.2,r1.2,r2.2,f3⟩
def aGy:Rd (List aG):=fun w cs l=>iM (Lv w) w (aG9 l) cs∧pC l
theorem aCk {H:Type} {enc:TypeId × Value→H} {w:World} {base:Nat} {spare:Nat→Bool} {held:Bool} {fuel:Nat} {cs:List Value} {x:DataW H × List MemPlace} (h:DataW.trod enc Tryz.prog w base spare held fuel 25 cs=some x): ∃l,aGy w cs l:=by
 obtain ⟨l,hl⟩:=kB (k:=4) (R:=xN) Tryz.underlying25 (by kernel_rfl) (by omega) (fun _ _ _ h=>aEf h) h
 have hf:pC l:=hl.all_ (fun _ _ _ h=>h.2)
 obtain ⟨A,c,rfl,_⟩:=id hl
 exact ⟨l,eN (oB (R:=xN) (enc:=aA) (fun cs x h=>h.1) hl) gZ,hf⟩
def aJ2:Rd cA:=fun w cs x=>iM (Lv w) w (aJA x) cs∧zG x
set_option maxRecDepth 100000 in
theorem aFJ {H:Type} {enc:TypeId × Value→H} {w:World} {base:Nat} {spare:Nat→Bool} {held:Bool} {fuel:Nat} {cs:List Value} {x:DataW H × List MemPlace} (h:DataW.trod enc Tryz.prog w base spare held fuel 27 cs=some x): ∃b,aJ2 w cs b:=by
 obtain ⟨xs,n,_,_,hl,hxl,hf⟩:=DataW.trod_struct Tryz.underlying27 h
 have hl2:cs.length=2:=hl.trans (by kernel_rfl)
 match cs,hl2 with
 | [c0,c1],_=>
   match xs,hxl with
   | [y0,y1],_=>
     obtain ⟨l0,r0⟩:=trod_int Tryz.underlying3 (hf 0 _ rfl)
     obtain ⟨l1,r1,f1⟩:=aCk (hf 1 _ rfl)
     exact ⟨⟨l0,l1⟩,(eN (rdI r0) (iM.append r1 gZ)),r0.2,f1⟩
def xO:Rd aJ:=fun w cs x=>iM (Lv w) w (aB x) cs∧vS x
set_option maxRecDepth 100000 in
theorem aEg {H:Type} {enc:TypeId × Value→H} {w:World} {base:Nat} {spare:Nat→Bool} {held:Bool} {fuel:Nat} {cs:List Value} {x:DataW H × List MemPlace} (h:DataW.trod enc Tryz.prog w base spare held fuel 154 cs=some x): ∃b,xO w cs b:=by
 obtain ⟨xs,n,_,_,hl,hxl,hf⟩:=DataW.trod_struct Tryz.underlying154 h
 have hl2:cs.length=3:=hl.trans (by kernel_rfl)
 match cs,hl2 with
 | [c0,c1,c2],_=>
   match xs,hxl with
   | [y0,y1,y2],_=>
     obtain ⟨l0,r0⟩:=rX Tryz.underlying9 (hf 0 _ rfl)
     obtain ⟨l1,r1,f1⟩:=xL (hf 1 _ rfl)
     obtain ⟨l2,r2⟩:=trod_int Tryz.underlying3 (hf 2 _ rfl)
     exact ⟨⟨l0,l1,l2⟩,(eN (rdS r0) (iM.append r1 (eN (rdI r2) gZ))),r0.2,f1,r2.2⟩
def aGz:Rd (List aJ):=fun w cs l=>iM (Lv w) w (aGa l) cs∧pD l
theorem aCl {H:Type} {enc:TypeId × Value→H} {w:World} {base:Nat} {spare:Nat→Bool} {held:Bool} {fuel:Nat} {cs:List Value} {x:DataW H × List MemPlace} (h:DataW.trod enc Tryz.prog w base spare held fuel 28 cs=some x): ∃l,aGz w cs l:=by
 obtain ⟨l,hl⟩:=kB (k:=3) (R:=xO) Tryz.underlying28 (by kernel_rfl) (by omega) (fun _ _ _ h=>aEg h) h
 have hf:pD l:=hl.all_ (fun _ _ _ h=>h.2)
 obtain ⟨A,c,rfl,_⟩:=id hl
 exact ⟨l,eN (oB (R:=xO) (enc:=aB) (fun cs x h=>h.1) hl) gZ,hf⟩
def aAS:Rd aL:=fun w cs x=>iM (Lv w) w (aE x) cs∧zH x
set_option maxRecDepth 100000 in
theorem aFK {H:Type} {enc:TypeId × Value→H} {w:World} {base:Nat} {spare:Nat→Bool} {held:Bool} {fuel:Nat} {cs:List Value} {x:DataW H × List MemPlace} (h:DataW.trod enc Tryz.prog w base spare held fuel 157 cs=some x): ∃b,aAS w cs b:=by
 obtain ⟨xs,n,_,_,hl,hxl,hf⟩:=DataW.trod_struct Tryz.underlying157 h
 have hl2:cs.length=4:=hl.trans (by kernel_rfl)
 match cs,hl2 with
 | [c0,c1,c2,c3],_=>
   match xs,hxl with
   | [y0,y1,y2,y3],_=>
     obtain ⟨l0,r0⟩:=rX Tryz.underlying9 (hf 0 _ rfl)
     obtain ⟨l1,r1⟩:=trod_int Tryz.underlying3 (hf 1 _ rfl)
     obtain ⟨l2,r2⟩:=rX Tryz.underlying9 (hf 2 _ rfl)
     obtain ⟨l3,r3⟩:=trod_int Tryz.underlying3 (hf 3 _ rfl)
     exact ⟨⟨l0,l1,l2,l3⟩,(eN (rdS r0) (eN (rdI r1) (eN (rdS r2) (eN (rdI r3) gZ)))),r0.2,r1.2,r2.2,r3.2⟩
def aI7:Rd (List aL):=fun w cs l=>iM (Lv w) w (aHh l) cs∧rC l
theorem aEh {H:Type} {enc:TypeId × Value→H} {w:World} {base:Nat} {spare:Nat→Bool} {held:Bool} {fuel:Nat} {cs:List Value} {x:DataW H × List MemPlace} (h:DataW.trod enc Tryz.prog w base spare held fuel 29 cs=some x): ∃l,aI7 w cs l:=by
 obtain ⟨l,hl⟩:=kB (k:=4) (R:=aAS) Tryz.underlying29 (by kernel_rfl) (by omega) (fun _ _ _ h=>aFK h) h
 have hf:rC l:=hl.all_ (fun _ _ _ h=>h.2)
 obtain ⟨A,c,rfl,_⟩:=id hl
 exact ⟨l,eN (oB (R:=aAS) (enc:=aE) (fun cs x h=>h.1) hl) gZ,hf⟩
def RStore:Rd StoreD:=fun w cs x=>iM (Lv w) w (aPX x) cs∧aJB x
set_option maxRecDepth 100000 in
theorem openStore {H:Type} {enc:TypeId × Value→H} {w:World} {base:Nat} {spare:Nat→Bool} {held:Bool} {fuel:Nat} {cs:List Value} {x:DataW H × List MemPlace} (h:DataW.trod enc Tryz.prog w base spare held fuel 31 cs=some x): ∃b,RStore w cs b:=by
 obtain ⟨xs,n,_,_,hl,hxl,hf⟩:=DataW.trod_struct Tryz.underlying31 h
 have hl2:cs.length=5:=hl.trans (by kernel_rfl)
 match cs,hl2 with
 | [c0,c1,c2,c3,c4],_=>
   match xs,hxl with
   | [y0,y1,y2,y3],_=>
     obtain ⟨l0,r0,f0⟩:=aGv (hf 0 _ rfl)
     obtain ⟨l1,r1,f1⟩:=aFJ (hf 1 _ rfl)
     obtain ⟨l2,r2,f2⟩:=aCl (hf 2 _ rfl)
     obtain ⟨l3,r3,f3⟩:=aEh (hf 3 _ rfl)
     exact ⟨⟨l0,l1,l2,l3⟩,(iM.append r0 (iM.append r1 (iM.append r2 (iM.append r3 gZ)))),f0,f1,f2,f3⟩
end Go.Proofs.YtokkjaflmcjlhaaGreat
namespace Go.Proofs.YtokkjaflmcjlhaaGreat
open Go.ChangeShapes Go.WideShapes Go.ChangeAt Go.RowKit
set_option linter.unusedVariables false
set_option linter.unusedSimpArgs false
set_option maxRecDepth 100000
set_option maxHeartbeats 4000000
theorem fr_own:ownKnob Tryz.prog.godebug=none:=by kernel_rfl
theorem fr_laid:laidOutB Tryz.prog=true:=by kernel_rfl
theorem fr_maps:mapsRowed Tryz.prog=true:=by kernel_rfl
theorem fr_stops:(Tryz.prog.stops== [])=true:=by kernel_rfl
theorem fr_sk:(Tryz.prog.stopKnobs== [])=true:=by kernel_rfl
theorem fr_heard:Tryz.prog.stopsHeard=true:=by kernel_rfl
theorem fr_enter:Tryz.prog.mayEnter=true:=by kernel_rfl
theorem fr_keys:(Rows.fnExactUpdateStoreRow.plainKeys==Tryz.prog.plainKeys)=true:=by kernel_rfl
theorem fr_lifts:(Rows.fnExactUpdateStoreRow.lifted==Tryz.prog.liftsFinal)=true:=by kernel_rfl
theorem fr_make:(Tryz.prog.make==some Rows.fnExactUpdateStoreRow.make)=true:=by kernel_rfl
end Go.Proofs.YtokkjaflmcjlhaaGreat
