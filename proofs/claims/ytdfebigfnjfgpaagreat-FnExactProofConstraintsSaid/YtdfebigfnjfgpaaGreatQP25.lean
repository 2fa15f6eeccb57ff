/-
  Contracts and plain laws, joined: part 26.
-/
import Derived.Test.YtdfebigfnjfgpaaGreatQP21
import Derived.Test.YtdfebigfnjfgpaaGreatQP18
import Derived.Test.YtdfebigfnjfgpaaGreatQP19
import Derived.Test.YtdfebigfnjfgpaaGreatQP22
import Derived.Test.YtdfebigfnjfgpaaGreatQP23
import Derived.Test.YtdfebigfnjfgpaaGreatQP24
import Derived.Test.YtdfebigfnjfgpaaGreatQP3
import Derived.Test.YtdfebigfnjfgpaaGreatQP0
namespace Go.Proofs.YtdfebigfnjfgpaaGreat
open Go.ChangeShapes Go.WideShapes Go.ChangeAt Go.RowKit
set_option linter.unusedVariables false
set_option linter.unusedSimpArgs false
set_option maxRecDepth 100000
set_option maxHeartbeats 4000000
theorem lawProofConstraints (a0:StoreD) (a1:QueryD) (a2:Int) (a3:List RationalD) (h0:aMy a0) (h1:aMw a1) (h2:Fits a2) (h3:wF a3):cX Tryz.prog 3 [.agg [.sl 167 3 (a0.database.tables.map aP),.int .i64 a0.catalogue.version,.sl 161 4 (a0.catalogue.tables.map aD),.sl 131 3 (a0.dependencies.map aJ),.sl 133 4 (a0.inclusions.map aM)],.agg [.int .i64 a1.variableCount,.sl 135 2 (a1.atoms.map aZ)],.one (.int .i64 a2),.one (.sl 70 2 (a3.map aW))] (vB true) []:=by
 refine aX bG aR Tryz.func3 (by kernel_rfl) (.call (vI (aQ (dU a0) (1048576:Int))) []<| .br (.fin []) (.call (vI (aQ (gF a1) (aQ (dU a0) (1048576:Int)))) []<| .br (.fin []) (.call (vI (aQ (gK a3) (aQ (gF a1) (aQ (dU a0) (1048576:Int))))) []<| .br (.fin []) (cB (pS a0)<| cB (pO a1)<| cB (kQ a3)<| cB (aAS a0 a1 a2 a3)<| cB (pS a0)<| cB (pO a1)<| cB (kQ a3)<| cB (uF a0 a1 a2 a3)<| .call (vB true) []<| cB (pS a0)<| .call (vB true) []<| cB (pO a1)<| .call (vB true) []<| cB (kQ a3)<| .call (vB true) []<| kA (tB a0 (1:Int)) [(0,4300),(1,4301),(2,4302),(3,4303)]<| kA (tA a1 ((1:Int)+((lV a0:Nat):Int))) [(0,4500)]<| kA (mE a3 (((1:Int)+((lV a0:Nat):Int))+((pW a1:Nat):Int))) [(0,4700)]<| .no<| .call (vB true) []<| kA (lM (kS a0 a1 a2 a3) (1:Int)) [(0,5200)]<| .call (vI ((1:Int)+((cT (kS a0 a1 a2 a3):Nat):Int))) []<| .no<| .no<| cB (pS a0)<| cB (pO a1)<| cB (kQ a3)<| cB (uF a0 a1 a2 a3)<| .call (vB true) []<| .call (vI ((1:Int)+((cT (kS a0 a1 a2 a3):Nat):Int))) []<| .no<| .no<| .fin [])))) (p:=(a0.database.tables.map aP).length≤9223372036854775807→(a0.catalogue.tables.map aD).length≤9223372036854775807→(a0.dependencies.map aJ).length≤9223372036854775807→(a0.inclusions.map aM).length≤9223372036854775807→(a1.atoms.map aZ).length≤9223372036854775807→(a3.map aW).length≤9223372036854775807→aIG a0 (1048576:Int)∧(((decide ((aQ (dU a0) (1048576:Int))<(0:Int)))=true→(true)=true∧True)∧((decide ((aQ (dU a0) (1048576:Int))<(0:Int)))=false→aIC a1 (aQ (dU a0) (1048576:Int))∧(((decide ((aQ (gF a1) (aQ (dU a0) (1048576:Int)))<(0:Int)))=true→(true)=true∧True)∧((decide ((aQ (gF a1) (aQ (dU a0) (1048576:Int)))<(0:Int)))=false→aA3 a3 (aQ (gF a1) (aQ (dU a0) (1048576:Int)))∧(((decide ((aQ (gK a3) (aQ (gF a1) (aQ (dU a0) (1048576:Int))))<(0:Int)))=true→(true)=true∧True)∧((decide ((aQ (gK a3) (aQ (gF a1) (aQ (dU a0) (1048576:Int))))<(0:Int)))=false→tG a0∧tD a1∧mF a3∧aFA a0 a1 a2 a3∧tG a0∧tD a1∧mF a3∧aAR a0 a1 a2 a3∧nP (kS a0 a1 a2 a3)∧tG a0∧aHz a0∧tD a1∧aHx a1∧mF a3∧aA0 a3∧aHh a0 (1:Int)∧a0.catalogue.version=a0.catalogue.version∧(1:Int)=(1:Int)∧a0.database.tables.map aP=a0.database.tables.map aP∧a0.catalogue.tables.map aD=a0.catalogue.tables.map aD∧a0.dependencies.map aJ=a0.dependencies.map aJ∧a0.inclusions.map aM=a0.inclusions.map aM∧aHd a1 ((1:Int)+((lV a0:Nat):Int))∧a1.variableCount=a1.variableCount∧((1:Int)+((lV a0:Nat):Int))=((1:Int)+((lV a0:Nat):Int))∧a1.atoms.map aZ=a1.atoms.map aZ∧aAO a3 (((1:Int)+((lV a0:Nat):Int))+((pW a1:Nat):Int))∧(((1:Int)+((lV a0:Nat):Int))+((pW a1:Nat):Int))=(((1:Int)+((lV a0:Nat):Int))+((pW a1:Nat):Int))∧a3.map aW=a3.map aW∧(decide (((((1:Int)+((lV a0:Nat):Int))+((pW a1:Nat):Int))+((sY a3:Nat):Int))<(0:Int)))=false∧nP (kS a0 a1 a2 a3)∧pL (kS a0 a1 a2 a3) (1:Int)∧(1:Int)=(1:Int)∧(kS a0 a1 a2 a3).map intD=(kS a0 a1 a2 a3).map intD∧cX Tryz.prog 21 [.one (.sl 3 1 ((dF (1:Int) (kS a0 a1 a2 a3)).map intD)),.one (.int .i64 (1:Int))] (vI ((1:Int)+((cT (kS a0 a1 a2 a3):Nat):Int))) []∧(decide (((1:Int)+((cT (kS a0 a1 a2 a3):Nat):Int))<(0:Int)))=false∧(!(decide (((1:Int)+((cT (kS a0 a1 a2 a3):Nat):Int))=((1:Int)+((cT (kS a0 a1 a2 a3):Nat):Int)))))=false∧tG a0∧tD a1∧mF a3∧aAR a0 a1 a2 a3∧nP (kS a0 a1 a2 a3)∧cX Tryz.prog 21 [.one (.sl 3 1 ((dF (1:Int) (kS a0 a1 a2 a3)).map intD)),.one (.int .i64 (1:Int))] (vI ((1:Int)+((cT (kS a0 a1 a2 a3):Nat):Int))) []∧(decide (((1:Int)+((cT (kS a0 a1 a2 a3):Nat):Int))<(0:Int)))=false∧(!(decide (((1:Int)+((cT (kS a0 a1 a2 a3):Nat):Int))=((1:Int)+((cT (kS a0 a1 a2 a3):Nat):Int)))))=false∧(true)=true∧True))))))) (by kernel_rfl) ?_
 intro n0 n1 n2 n3 n4 n5
 simp only [List.length_map] at n0 n1 n2 n3 n4 n5
 have z3:gK a3=a3.length:=rfl
 refine ⟨aS3 a0 _ (by first | assumption | exact hf) (by omega) (by omega),fun c0=>?_,fun c0=>?_⟩
 ·replace c0:=yq c0
  refine ⟨?_,trivial⟩
  ·rfl
 ·replace c0:=nq c0
  try (have y0:=iY c0;try rw [aO y0] at*)
  refine ⟨aS2 a1 _ (by first | assumption | exact hf) (by omega) (by omega),fun c1=>?_,fun c1=>?_⟩
  ·replace c1:=yq c1
   refine ⟨?_,trivial⟩
   ·rfl
  ·replace c1:=nq c1
   try (have y1:=iY c1;try rw [aO y1] at*)
   refine ⟨aKg a3 _ (by first | assumption | exact hf) (by omega) (by omega),fun c2=>?_,fun c2=>?_⟩
   ·replace c2:=yq c2
    refine ⟨?_,trivial⟩
    ·rfl
   ·replace c2:=nq c2
    try (have y2:=iY c2;try rw [aO y2] at*)
    have f1:=aST a0 a1 a2 a3
    have f2:=jU (kS a0 a1 a2 a3)
    have f3:bS (kS a0 a1 a2 a3)=(kS a0 a1 a2 a3).length:=rfl
    have sa0:=aN2 a0
    have sa1:=aN1 a1
    have sa3:=aBN a3
    refine ⟨aDQ a0 (by first | omega | (have:=cStoreS_el ‹x[k]? =some _›;omega)),aDP a1 (by first | omega | (have:=cQueryS_el ‹x[k]? =some _›;omega)),rP a3 (by first | omega | (have:=cRationalSS_el ‹x[k]? =some _›;omega)),aPu a0 a1 a2 a3 (by omega) (by omega),aDQ a0 (by first | omega | (have:=cStoreS_el ‹x[k]? =some _›;omega)),aDP a1 (by first | omega | (have:=cQueryS_el ‹x[k]? =some _›;omega)),rP a3 (by first | omega | (have:=cRationalSS_el ‹x[k]? =some _›;omega)),aJn a0 a1 a2 a3 (by omega) (by omega),by first | exact kK (kS a0 a1 a2 a3) | exact kK _,aDQ a0 (by first | omega | (have:=cStoreS_el ‹x[k]? =some _›;omega)),by first | exact aM1 a0 | exact aM1 _,aDP a1 (by first | omega | (have:=cQueryS_el ‹x[k]? =some _›;omega)),by first | exact aM0 a1 | exact aM0 _,rP a3 (by first | omega | (have:=cRationalSS_el ‹x[k]? =some _›;omega)),by first | exact aDU a3 | exact aDU _,aSP _ _ (by omega) (by first | omega | (dsimp only;omega)),rfl,rfl,rfl,rfl,rfl,rfl,aSO _ _ (by omega) (by first | omega | (dsimp only;omega)),rfl,rfl,rfl,aKa _ _ (by omega) (by first | omega | (dsimp only;omega)),rfl,rfl,by first | (simp;done) | (simp;omega) | (simp [*];done),by first | exact kK (kS a0 a1 a2 a3) | exact kK _,aBA _ _ (by omega) (by first | omega | (dsimp only;omega)),rfl,rfl,aOX _ _ (by omega) (by first | omega | (dsimp only;omega)),by first | (simp;done) | (simp;omega) | (simp [*];done),by first | (simp;done) | (simp;omega) | (simp [*];done),aDQ a0 (by first | omega | (have:=cStoreS_el ‹x[k]? =some _›;omega)),aDP a1 (by first | omega | (have:=cQueryS_el ‹x[k]? =some _›;omega)),rP a3 (by first | omega | (have:=cRationalSS_el ‹x[k]? =some _›;omega)),aJn a0 a1 a2 a3 (by omega) (by omega),by first | exact kK (kS a0 a1 a2 a3) | exact kK _,aOX _ _ (by omega) (by first | omega | (dsimp only;omega)),by first | (simp;done) | (simp;omega) | (simp [*];done),by first | (simp;done) | (simp;omega) | (simp [*];done),?_,trivial⟩
    ·rfl
end Go.Proofs.YtdfebigfnjfgpaaGreat
namespace Go.Proofs.YtdfebigfnjfgpaaGreat
open Go.ChangeShapes Go.WideShapes Go.ChangeAt Go.RowKit
set_option linter.unusedVariables false
set_option linter.unusedSimpArgs false
set_option maxRecDepth 100000
set_option maxHeartbeats 4000000
def aS4:Rd (List Int):=fun w cs l=>jI (Lv w) w (aC l) cs∧aEN l
theorem aA4 {H:Type} {enc:TypeId × Value→H} {w:World} {base:Nat} {spare:Nat→Bool} {held:Bool} {fuel:Nat} {cs:List Value} {x:DataW H × List MemPlace} (h:DataW.trod enc Tryz.prog w base spare held fuel 39 cs=some x): ∃l,aS4 w cs l:=by
 obtain ⟨l,hl⟩:=kU (k:=1) (R:=aOZ) Tryz.underlying39 (by kernel_rfl) (by omega) (fun _ _ _ h=>trod_int Tryz.underlying3 h) h
 have hf:aEN l:=hl.all_ (fun _ _ _ h=>h.2)
 obtain ⟨A,c,rfl,_⟩:=id hl
 exact ⟨l,eN (nV (R:=aOZ) (enc:=intD) (fun cs x h=>by obtain ⟨rfl,_⟩:=h;exact eN rdV_int hJ) hl) hJ,hf⟩
def aUy:Rd (List (List Int)):=fun w cs l=>jI (Lv w) w (aUm l) cs∧aGU l
theorem aJr {H:Type} {enc:TypeId × Value→H} {w:World} {base:Nat} {spare:Nat→Bool} {held:Bool} {fuel:Nat} {cs:List Value} {x:DataW H × List MemPlace} (h:DataW.trod enc Tryz.prog w base spare held fuel 78 cs=some x): ∃l,aUy w cs l:=by
 obtain ⟨l,hl⟩:=kU (k:=1) (R:=aS4) Tryz.underlying78 (by kernel_rfl) (by omega) (fun _ _ _ h=>aA4 h) h
 have hf:aGU l:=hl.all_ (fun _ _ _ h=>h.2)
 obtain ⟨A,c,rfl,_⟩:=id hl
 exact ⟨l,eN (nV (R:=aS4) (enc:=aC) (fun cs x h=>h.1) hl) hJ,hf⟩
def aN9:Rd aS:=fun w cs x=>jI (Lv w) w (aP x) cs∧aMv x
set_option maxRecDepth 100000 in
theorem aPy {H:Type} {enc:TypeId × Value→H} {w:World} {base:Nat} {spare:Nat→Bool} {held:Bool} {fuel:Nat} {cs:List Value} {x:DataW H × List MemPlace} (h:DataW.trod enc Tryz.prog w base spare held fuel 152 cs=some x): ∃b,aN9 w cs b:=by
 obtain ⟨xs,n,_,_,hl,hxl,hf⟩:=DataW.trod_struct Tryz.underlying152 h
 have hl2:cs.length=3:=hl.trans (by kernel_rfl)
 match cs,hl2 with
 | [c0,c1,c2],_=>
   match xs,hxl with
   | [y0,y1,y2],_=>
     obtain ⟨l0,r0⟩:=uO Tryz.underlying9 (hf 0 _ rfl)
     obtain ⟨l1,r1⟩:=trod_int Tryz.underlying3 (hf 1 _ rfl)
     obtain ⟨l2,r2,f2⟩:=aJr (hf 2 _ rfl)
     exact ⟨⟨l0,l1,l2⟩,(eN (rdS r0) (eN (rdI r1) (jI.append r2 hJ))),r0.2,r1.2,f2⟩
def aTh:Rd (List aS):=fun w cs l=>jI (Lv w) w (aTY l) cs∧aF5 l
theorem aNa {H:Type} {enc:TypeId × Value→H} {w:World} {base:Nat} {spare:Nat→Bool} {held:Bool} {fuel:Nat} {cs:List Value} {x:DataW H × List MemPlace} (h:DataW.trod enc Tryz.prog w base spare held fuel 22 cs=some x): ∃l,aTh w cs l:=by
 obtain ⟨l,hl⟩:=kU (k:=3) (R:=aN9) Tryz.underlying22 (by kernel_rfl) (by omega) (fun _ _ _ h=>aPy h) h
 have hf:aF5 l:=hl.all_ (fun _ _ _ h=>h.2)
 obtain ⟨A,c,rfl,_⟩:=id hl
 exact ⟨l,eN (nV (R:=aN9) (enc:=aP) (fun cs x h=>h.1) hl) hJ,hf⟩
def aPz:Rd aV:=fun w cs x=>jI (Lv w) w (aPC x) cs∧aDg x
set_option maxRecDepth 100000 in
theorem aKh {H:Type} {enc:TypeId × Value→H} {w:World} {base:Nat} {spare:Nat→Bool} {held:Bool} {fuel:Nat} {cs:List Value} {x:DataW H × List MemPlace} (h:DataW.trod enc Tryz.prog w base spare held fuel 24 cs=some x): ∃b,aPz w cs b:=by
 obtain ⟨xs,n,_,_,hl,hxl,hf⟩:=DataW.trod_struct Tryz.underlying24 h
 have hl2:cs.length=1:=hl.trans (by kernel_rfl)
 match cs,hl2 with
 | [c0],_=>
   match xs,hxl with
   | [y0],_=>
     obtain ⟨l0,r0,f0⟩:=aNa (hf 0 _ rfl)
     exact ⟨⟨l0⟩,(jI.append r0 hJ),f0⟩
def aS5:Rd bZ:=fun w cs x=>jI (Lv w) w (aZ x) cs∧aRK x
set_option maxRecDepth 100000 in
theorem aS6 {H:Type} {enc:TypeId × Value→H} {w:World} {base:Nat} {spare:Nat→Bool} {held:Bool} {fuel:Nat} {cs:List Value} {x:DataW H × List MemPlace} (h:DataW.trod enc Tryz.prog w base spare held fuel 121 cs=some x): ∃b,aS5 w cs b:=by
 obtain ⟨xs,n,_,_,hl,hxl,hf⟩:=DataW.trod_struct Tryz.underlying121 h
 have hl2:cs.length=2:=hl.trans (by kernel_rfl)
 match cs,hl2 with
 | [c0,c1],_=>
   match xs,hxl with
   | [y0,y1],_=>
     obtain ⟨l0,r0⟩:=uO Tryz.underlying9 (hf 0 _ rfl)
     obtain ⟨l1,r1,f1⟩:=aA4 (hf 1 _ rfl)
     exact ⟨⟨l0,l1⟩,(eN (rdS r0) (jI.append r1 hJ)),r0.2,f1⟩
def aUz:Rd (List bZ):=fun w cs l=>jI (Lv w) w (aUn l) cs∧aKO l
theorem aQA {H:Type} {enc:TypeId × Value→H} {w:World} {base:Nat} {spare:Nat→Bool} {held:Bool} {fuel:Nat} {cs:List Value} {x:DataW H × List MemPlace} (h:DataW.trod enc Tryz.prog w base spare held fuel 32 cs=some x): ∃l,aUz w cs l:=by
 obtain ⟨l,hl⟩:=kU (k:=2) (R:=aS5) Tryz.underlying32 (by kernel_rfl) (by omega) (fun _ _ _ h=>aS6 h) h
 have hf:aKO l:=hl.all_ (fun _ _ _ h=>h.2)
 obtain ⟨A,c,rfl,_⟩:=id hl
 exact ⟨l,eN (nV (R:=aS5) (enc:=aZ) (fun cs x h=>h.1) hl) hJ,hf⟩
def RQuery:Rd QueryD:=fun w cs x=>jI (Lv w) w (aUo x) cs∧aMw x
set_option maxRecDepth 100000 in
theorem openQuery {H:Type} {enc:TypeId × Value→H} {w:World} {base:Nat} {spare:Nat→Bool} {held:Bool} {fuel:Nat} {cs:List Value} {x:DataW H × List MemPlace} (h:DataW.trod enc Tryz.prog w base spare held fuel 34 cs=some x): ∃b,RQuery w cs b:=by
 obtain ⟨xs,n,_,_,hl,hxl,hf⟩:=DataW.trod_struct Tryz.underlying34 h
 have hl2:cs.length=2:=hl.trans (by kernel_rfl)
 match cs,hl2 with
 | [c0,c1],_=>
   match xs,hxl with
   | [y0,y1],_=>
     obtain ⟨l0,r0⟩:=trod_int Tryz.underlying3 (hf 0 _ rfl)
     obtain ⟨l1,r1,f1⟩:=aQA (hf 1 _ rfl)
     exact ⟨⟨l0,l1⟩,(eN (rdI r0) (jI.append r1 hJ)),r0.2,f1⟩
def aA5:Rd aG:=fun w cs x=>jI (Lv w) w (aA x) cs∧zB x
set_option maxRecDepth 100000 in
theorem aIH {H:Type} {enc:TypeId × Value→H} {w:World} {base:Nat} {spare:Nat→Bool} {held:Bool} {fuel:Nat} {cs:List Value} {x:DataW H × List MemPlace} (h:DataW.trod enc Tryz.prog w base spare held fuel 206 cs=some x): ∃b,aA5 w cs b:=by
 obtain ⟨xs,n,_,_,hl,hxl,hf⟩:=DataW.trod_struct Tryz.underlying206 h
 have hl2:cs.length=3:=hl.trans (by kernel_rfl)
 match cs,hl2 with
 | [c0,c1,c2],_=>
   match xs,hxl with
   | [y0,y1,y2],_=>
     obtain ⟨l0,r0,f0⟩:=aA4 (hf 0 _ rfl)
     obtain ⟨l1,r1,f1⟩:=aJr (hf 1 _ rfl)
     obtain ⟨l2,r2,f2⟩:=aA4 (hf 2 _ rfl)
     exact ⟨⟨l0,l1,l2⟩,(jI.append r0 (jI.append r1 (jI.append r2 hJ))),f0,f1,f2⟩
def aKi:Rd (List aG):=fun w cs l=>jI (Lv w) w (aKP l) cs∧rG l
theorem aFW {H:Type} {enc:TypeId × Value→H} {w:World} {base:Nat} {spare:Nat→Bool} {held:Bool} {fuel:Nat} {cs:List Value} {x:DataW H × List MemPlace} (h:DataW.trod enc Tryz.prog w base spare held fuel 154 cs=some x): ∃l,aKi w cs l:=by
 obtain ⟨l,hl⟩:=kU (k:=3) (R:=aA5) Tryz.underlying154 (by kernel_rfl) (by omega) (fun _ _ _ h=>aIH h) h
 have hf:rG l:=hl.all_ (fun _ _ _ h=>h.2)
 obtain ⟨A,c,rfl,_⟩:=id hl
 exact ⟨l,eN (nV (R:=aA5) (enc:=aA) (fun cs x h=>h.1) hl) hJ,hf⟩
def aA6:Rd aB:=fun w cs x=>jI (Lv w) w (aD x) cs∧zC x
set_option maxRecDepth 100000 in
theorem aII {H:Type} {enc:TypeId × Value→H} {w:World} {base:Nat} {spare:Nat→Bool} {held:Bool} {fuel:Nat} {cs:List Value} {x:DataW H × List MemPlace} (h:DataW.trod enc Tryz.prog w base spare held fuel 156 cs=some x): ∃b,aA6 w cs b:=by
 obtain ⟨xs,n,_,_,hl,hxl,hf⟩:=DataW.trod_struct Tryz.underlying156 h
 have hl2:cs.length=4:=hl.trans (by kernel_rfl)
 match cs,hl2 with
 | [c0,c1,c2,c3],_=>
   match xs,hxl with
   | [y0,y1,y2,y3],_=>
     obtain ⟨l0,r0⟩:=uO Tryz.underlying9 (hf 0 _ rfl)
     obtain ⟨l1,r1⟩:=trod_int Tryz.underlying3 (hf 1 _ rfl)
     obtain ⟨l2,r2⟩:=trod_int Tryz.underlying3 (hf 2 _ rfl)
     obtain ⟨l3,r3,f3⟩:=aFW (hf 3 _ rfl)
     exact ⟨⟨l0,l1,l2,l3⟩,(eN (rdS r0) (eN (rdI r1) (eN (rdI r2) (jI.append r3 hJ)))),r0.2,r1.2,r2.2,f3⟩
def aKj:Rd (List aB):=fun w cs l=>jI (Lv w) w (aKQ l) cs∧rH l
theorem aFX {H:Type} {enc:TypeId × Value→H} {w:World} {base:Nat} {spare:Nat→Bool} {held:Bool} {fuel:Nat} {cs:List Value} {x:DataW H × List MemPlace} (h:DataW.trod enc Tryz.prog w base spare held fuel 25 cs=some x): ∃l,aKj w cs l:=by
 obtain ⟨l,hl⟩:=kU (k:=4) (R:=aA6) Tryz.underlying25 (by kernel_rfl) (by omega) (fun _ _ _ h=>aII h) h
 have hf:rH l:=hl.all_ (fun _ _ _ h=>h.2)
 obtain ⟨A,c,rfl,_⟩:=id hl
 exact ⟨l,eN (nV (R:=aA6) (enc:=aD) (fun cs x h=>h.1) hl) hJ,hf⟩
def aNb:Rd cD:=fun w cs x=>jI (Lv w) w (aMx x) cs∧aB9 x
set_option maxRecDepth 100000 in
theorem aIc {H:Type} {enc:TypeId × Value→H} {w:World} {base:Nat} {spare:Nat→Bool} {held:Bool} {fuel:Nat} {cs:List Value} {x:DataW H × List MemPlace} (h:DataW.trod enc Tryz.prog w base spare held fuel 27 cs=some x): ∃b,aNb w cs b:=by
 obtain ⟨xs,n,_,_,hl,hxl,hf⟩:=DataW.trod_struct Tryz.underlying27 h
 have hl2:cs.length=2:=hl.trans (by kernel_rfl)
 match cs,hl2 with
 | [c0,c1],_=>
   match xs,hxl with
   | [y0,y1],_=>
     obtain ⟨l0,r0⟩:=trod_int Tryz.underlying3 (hf 0 _ rfl)
     obtain ⟨l1,r1,f1⟩:=aFX (hf 1 _ rfl)
     exact ⟨⟨l0,l1⟩,(eN (rdI r0) (jI.append r1 hJ)),r0.2,f1⟩
def aA7:Rd aN:=fun w cs x=>jI (Lv w) w (aJ x) cs∧zD x
set_option maxRecDepth 100000 in
theorem aIJ {H:Type} {enc:TypeId × Value→H} {w:World} {base:Nat} {spare:Nat→Bool} {held:Bool} {fuel:Nat} {cs:List Value} {x:DataW H × List MemPlace} (h:DataW.trod enc Tryz.prog w base spare held fuel 115 cs=some x): ∃b,aA7 w cs b:=by
 obtain ⟨xs,n,_,_,hl,hxl,hf⟩:=DataW.trod_struct Tryz.underlying115 h
 have hl2:cs.length=3:=hl.trans (by kernel_rfl)
 match cs,hl2 with
 | [c0,c1,c2],_=>
   match xs,hxl with
   | [y0,y1,y2],_=>
     obtain ⟨l0,r0⟩:=uO Tryz.underlying9 (hf 0 _ rfl)
     obtain ⟨l1,r1,f1⟩:=aA4 (hf 1 _ rfl)
     obtain ⟨l2,r2⟩:=trod_int Tryz.underlying3 (hf 2 _ rfl)
     exact ⟨⟨l0,l1,l2⟩,(eN (rdS r0) (jI.append r1 (eN (rdI r2) hJ))),r0.2,f1,r2.2⟩
def aKk:Rd (List aN):=fun w cs l=>jI (Lv w) w (aKR l) cs∧rI l
theorem aFY {H:Type} {enc:TypeId × Value→H} {w:World} {base:Nat} {spare:Nat→Bool} {held:Bool} {fuel:Nat} {cs:List Value} {x:DataW H × List MemPlace} (h:DataW.trod enc Tryz.prog w base spare held fuel 28 cs=some x): ∃l,aKk w cs l:=by
 obtain ⟨l,hl⟩:=kU (k:=3) (R:=aA7) Tryz.underlying28 (by kernel_rfl) (by omega) (fun _ _ _ h=>aIJ h) h
 have hf:rI l:=hl.all_ (fun _ _ _ h=>h.2)
 obtain ⟨A,c,rfl,_⟩:=id hl
 exact ⟨l,eN (nV (R:=aA7) (enc:=aJ) (fun cs x h=>h.1) hl) hJ,hf⟩
def aCO:Rd aL:=fun w cs x=>jI (Lv w) w (aM x) cs∧aBa x
set_option maxRecDepth 100000 in
theorem aId {H:Type} {enc:TypeId × Value→H} {w:World} {base:Nat} {spare:Nat→Bool} {held:Bool} {fuel:Nat} {cs:List Value} {x:DataW H × List MemPlace} (h:DataW.trod enc Tryz.prog w base spare held fuel 118 cs=some x): ∃b,aCO w cs b:=by
 obtain ⟨xs,n,_,_,hl,hxl,hf⟩:=DataW.trod_struct Tryz.underlying118 h
 have hl2:cs.length=4:=hl.trans (by kernel_rfl)
 match cs,hl2 with
 | [c0,c1,c2,c3],_=>
   match xs,hxl with
   | [y0,y1,y2,y3],_=>
     obtain ⟨l0,r0⟩:=uO Tryz.underlying9 (hf 0 _ rfl)
     obtain ⟨l1,r1⟩:=trod_int Tryz.underlying3 (hf 1 _ rfl)
     obtain ⟨l2,r2⟩:=uO Tryz.underlying9 (hf 2 _ rfl)
     obtain ⟨l3,r3⟩:=trod_int Tryz.underlying3 (hf 3 _ rfl)
     exact ⟨⟨l0,l1,l2,l3⟩,(eN (rdS r0) (eN (rdI r1) (eN (rdS r2) (eN (rdI r3) hJ)))),r0.2,r1.2,r2.2,r3.2⟩
def aM4:Rd (List aL):=fun w cs l=>jI (Lv w) w (aL3 l) cs∧tQ l
theorem aIK {H:Type} {enc:TypeId × Value→H} {w:World} {base:Nat} {spare:Nat→Bool} {held:Bool} {fuel:Nat} {cs:List Value} {x:DataW H × List MemPlace} (h:DataW.trod enc Tryz.prog w base spare held fuel 29 cs=some x): ∃l,aM4 w cs l:=by
 obtain ⟨l,hl⟩:=kU (k:=4) (R:=aCO) Tryz.underlying29 (by kernel_rfl) (by omega) (fun _ _ _ h=>aId h) h
 have hf:tQ l:=hl.all_ (fun _ _ _ h=>h.2)
 obtain ⟨A,c,rfl,_⟩:=id hl
 exact ⟨l,eN (nV (R:=aCO) (enc:=aM) (fun cs x h=>h.1) hl) hJ,hf⟩
def RStore:Rd StoreD:=fun w cs x=>jI (Lv w) w (aUp x) cs∧aMy x
set_option maxRecDepth 100000 in
theorem openStore {H:Type} {enc:TypeId × Value→H} {w:World} {base:Nat} {spare:Nat→Bool} {held:Bool} {fuel:Nat} {cs:List Value} {x:DataW H × List MemPlace} (h:DataW.trod enc Tryz.prog w base spare held fuel 31 cs=some x): ∃b,RStore w cs b:=by
 obtain ⟨xs,n,_,_,hl,hxl,hf⟩:=DataW.trod_struct Tryz.underlying31 h
 have hl2:cs.length=5:=hl.trans (by kernel_rfl)
 match cs,hl2 with
 | [c0,c1,c2,c3,c4],_=>
   match xs,hxl with
   | [y0,y1,y2,y3],_=>
     obtain ⟨l0,r0,f0⟩:=aKh (hf 0 _ rfl)
     obtain ⟨l1,r1,f1⟩:=aIc (hf 1 _ rfl)
     obtain ⟨l2,r2,f2⟩:=aFY (hf 2 _ rfl)
     obtain ⟨l3,r3,f3⟩:=aIK (hf 3 _ rfl)
     exact ⟨⟨l0,l1,l2,l3⟩,(jI.append r0 (jI.append r1 (jI.append r2 (jI.append r3 hJ)))),f0,f1,f2,f3⟩
def aEE:Rd RationalD:=fun w cs x=>jI (Lv w) w (aW x) cs∧aJM x
set_option maxRecDepth 100000 in
theorem aKl {H:Type} {enc:TypeId × Value→H} {w:World} {base:Nat} {spare:Nat→Bool} {held:Bool} {fuel:Nat} {cs:List Value} {x:DataW H × List MemPlace} (h:DataW.trod enc Tryz.prog w base spare held fuel 68 cs=some x): ∃b,aEE w cs b:=by
 obtain ⟨xs,n,_,_,hl,hxl,hf⟩:=DataW.trod_struct Tryz.underlying68 h
 have hl2:cs.length=2:=hl.trans (by kernel_rfl)
 match cs,hl2 with
 | [c0,c1],_=>
   match xs,hxl with
   | [y0,y1],_=>
     obtain ⟨l0,r0⟩:=trod_int Tryz.underlying3 (hf 0 _ rfl)
     obtain ⟨l1,r1⟩:=trod_int Tryz.underlying3 (hf 1 _ rfl)
     exact ⟨⟨l0,l1⟩,(eN (rdI r0) (eN (rdI r1) hJ)),r0.2,r1.2⟩
def RRationalS:Rd (List RationalD):=fun w cs l=>jI (Lv w) w (aMz l) cs∧wF l
theorem openRationalS {H:Type} {enc:TypeId × Value→H} {w:World} {base:Nat} {spare:Nat→Bool} {held:Bool} {fuel:Nat} {cs:List Value} {x:DataW H × List MemPlace} (h:DataW.trod enc Tryz.prog w base spare held fuel 35 cs=some x): ∃l,RRationalS w cs l:=by
 obtain ⟨l,hl⟩:=kU (k:=2) (R:=aEE) Tryz.underlying35 (by kernel_rfl) (by omega) (fun _ _ _ h=>aKl h) h
 have hf:wF l:=hl.all_ (fun _ _ _ h=>h.2)
 obtain ⟨A,c,rfl,_⟩:=id hl
 exact ⟨l,eN (nV (R:=aEE) (enc:=aW) (fun cs x h=>h.1) hl) hJ,hf⟩
end Go.Proofs.YtdfebigfnjfgpaaGreat
namespace Go.Proofs.YtdfebigfnjfgpaaGreat
open Go.ChangeShapes Go.WideShapes Go.ChangeAt Go.RowKit
set_option linter.unusedVariables false
set_option linter.unusedSimpArgs false
set_option maxRecDepth 100000
set_option maxHeartbeats 4000000
theorem fr_own:ownKnob Tryz.prog.godebug=none:=by kernel_rfl
theorem fr_laid:laidOutB Tryz.prog=true:=by kernel_rfl
theorem fr_maps:mapsRowed Tryz.prog=true:=by kernel_rfl
theorem fr_stops:(Tryz.prog.stops== [])=true:=by kernel_rfl
theorem fr_sk:(Tryz.prog.stopKnobs== [])=true:=by kernel_rfl
theorem fr_heard:Tryz.prog.stopsHeard=true:=by kernel_rfl
theorem fr_enter:Tryz.prog.mayEnter=true:=by kernel_rfl
theorem fr_keys:(Rows.fnExactProofConstraintsRow.plainKeys==Tryz.prog.plainKeys)=true:=by kernel_rfl
theorem fr_lifts:(Rows.fnExactProofConstraintsRow.lifted==Tryz.prog.liftsFinal)=true:=by kernel_rfl
theorem fr_make:(Tryz.prog.make==some Rows.fnExactProofConstraintsRow.make)=true:=by kernel_rfl
end Go.Proofs.YtdfebigfnjfgpaaGreat
