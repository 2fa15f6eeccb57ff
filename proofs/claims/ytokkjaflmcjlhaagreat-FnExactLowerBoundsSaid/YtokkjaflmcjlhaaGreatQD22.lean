/-
  Contracts and plain laws, joined: part 23.
-/
import Derived.Test.YtokkjaflmcjlhaaGreatQD20
import Derived.Test.YtokkjaflmcjlhaaGreatQD21
import Derived.Test.YtokkjaflmcjlhaaGreatQD16
import Derived.Test.YtokkjaflmcjlhaaGreatQD17
import Derived.Test.YtokkjaflmcjlhaaGreatQD18
import Derived.Test.YtokkjaflmcjlhaaGreatQD19
import Derived.Test.YtokkjaflmcjlhaaGreatQD13
import Derived.Test.YtokkjaflmcjlhaaGreatQD15
namespace Go.Proofs.YtokkjaflmcjlhaaGreat
open Go.ChangeShapes Go.WideShapes Go.ChangeAt Go.RowKit
set_option linter.unusedVariables false
set_option linter.unusedSimpArgs false
set_option maxRecDepth 100000
set_option maxHeartbeats 4000000
def aGd (k:Int) (x:bK):bK:=⟨aW (k),cM (k+1) x.vars⟩
def lM (x:bK):Nat:=1+bX x.vars
theorem aIU (x:bK):lM x≤4+5*iJ x:=by
 have:=iM x.vars
 unfold lM iJ;omega
def aJM (k:Int) (l:List bK):List bK:=qB aGd lM k l
def aBX (l:List bK):Nat:=bO lM l
theorem aDU (l:List bK):aBX l≤5*lG l:=nH aIU l
def aMn (k:Int) (x:QueryD):QueryD:=⟨x.variableCount,aJM (k) x.atoms⟩
def wB (x:QueryD):Nat:=aBX x.atoms
theorem aGe (x:QueryD):wB x≤5*jL x:=by
 have:=aDU x.atoms
 unfold wB jL;omega
abbrev sB (x:List bK) (m:Int):List AV × List (Nat × Rs) × AV × List (Nat × Rs):=([.own 0,vI m],[(0,.arr 131 2 true (x.map aU))],vI (m+((aBX x:Nat):Int)),[(0,.arr 131 2 true ((aJM m x).map aU))])
abbrev aGf (x:List bK) (m:Int):Prop:=lT Tryz.prog 116 (sB x m).1 (sB x m).2.1 (sB x m).2.2.1 (sB x m).2.2.2
theorem aQ6 (x:List bK) (m:Int) (h0:0≤m) (hm:m+5*((lG x:Nat):Int)≤4611686018427387904):aGf x m:=by
 refine mZ bF aS Tryz.func116 (by kernel_rfl) (by kernel_rfl) (.loop (Nat × Int × (List bK)) (Q3 Nat Int (List bK)) [1,5,6,7,8,9,10,11,12,13,14,15,16,17,18,19,20,21,22,23,24,25,26] [0,2407] (fun yy0=>[(5,vI (yy0.1:Int)),(1,vI yy0.2.1)]) (fun yy0=>[(0,some (.arr 131 2 true (yy0.2.2.map aU)))]) (fun yy0=>yy0.1≤x.length∧yy0.2.1=m+((bO lM (x.take yy0.1):Nat):Int)∧yy0.2.2=cV aGd lM m x yy0.1) (fun yy0=>x.length - yy0.1) (fun yy0=> .len yy0.2.2.length<| .br (.call (.p none (.str (aW yy0.2.1))) []<| .len yy0.2.2.length<| .setm bK aU yy0.2.2 (fun s4_6=>(⟨aW yy0.2.1,s4_6.vars⟩:bK)) (fun s4_6=> .split 6 0 yy0.1 1 2407 bK aU (yy0.2.2.set yy0.1 (⟨aW yy0.2.1,s4_6.vars⟩:bK)) (fun b2407=> .len ((yy0.2.2.set yy0.1 (⟨aW yy0.2.1,s4_6.vars⟩:bK)).length)<| jE (jR b2407.vars (yy0.2.1+(1:Int))) [(0,2407)]<| .join 3 0 2407 bK aU (yy0.2.2.set yy0.1 (⟨aW yy0.2.1,s4_6.vars⟩:bK)) (fun a2407=>(⟨a2407.name,cM (yy0.2.1+(1:Int)) b2407.vars⟩:bK)) (fun a2407=> .back [(0,0)])))) (.fin [(0,0)]))) (p:=(∃(k:Nat) (z:Int) (r:List bK),(0:Int)=(k:Int)∧m=z∧x.map aU=r.map aU∧k≤x.length∧z=m+((bO lM (x.take k):Nat):Int)∧r=cV aGd lM m x k)∧ ∀(k:Nat) (z:Int) (r:List bK),(k≤x.length∧z=m+((bO lM (x.take k):Nat):Int)∧r=cV aGd lM m x k)→Lm aU r∧(((decide ((k:Int)<((r.length:Nat):Int)))=true→oL z∧(0≤(k:Int)∧Lm aU r∧(k:Int)<((r.length:Nat):Int)∧(r.map aU=r.map aU∧k<r.length∧ ∀s4_6,r[k]? =some s4_6→0+1≤(aU s4_6).length∧(aU s4_6).take 0++((aU (⟨aW z,s4_6.vars⟩:bK)).drop 0).take 1++(aU s4_6).drop (0+1)=aU (⟨aW z,s4_6.vars⟩:bK)∧(aW z)=((⟨aW z,s4_6.vars⟩:bK).name)∧(cG (z+(1:Int))∧((r.set k (⟨aW z,s4_6.vars⟩:bK)).map aU=(r.set k (⟨aW z,s4_6.vars⟩:bK)).map aU∧k<(r.set k (⟨aW z,s4_6.vars⟩:bK)).length∧ ∀b2407,(r.set k (⟨aW z,s4_6.vars⟩:bK))[k]? =some b2407→0≤(k:Int)∧Lm aU (r.set k (⟨aW z,s4_6.vars⟩:bK))∧(k:Int)<(((r.set k (⟨aW z,s4_6.vars⟩:bK)).length:Nat):Int)∧(k=k∧(mR b2407.vars (z+(1:Int))∧(z+(1:Int))=(z+(1:Int))∧b2407.vars.map intD=b2407.vars.map intD∧((r.set k (⟨aW z,s4_6.vars⟩:bK)).map aU=(r.set k (⟨aW z,s4_6.vars⟩:bK)).map aU∧k<(r.set k (⟨aW z,s4_6.vars⟩:bK)).length∧ ∀a2407,(r.set k (⟨aW z,s4_6.vars⟩:bK))[k]? =some a2407→((aU a2407).take 1++ .sl 3 1 ((cM (z+(1:Int)) b2407.vars).map intD)::(aU a2407).drop (1+1)=aU (⟨a2407.name,cM (z+(1:Int)) b2407.vars⟩:bK))∧cG ((k:Int)+(1:Int))∧ ∃(k' :Nat) (z' :Int) (r' :List bK),((k:Int)+(1:Int))=(k' :Int)∧((z+(1:Int))+((bX b2407.vars:Nat):Int))=z' ∧((r.set k (⟨aW z,s4_6.vars⟩:bK)).set k (⟨a2407.name,cM (z+(1:Int)) b2407.vars⟩:bK)).map aU=r'.map aU∧(k' ≤x.length∧z' =m+((bO lM (x.take k'):Nat):Int)∧r' =cV aGd lM m x k')∧x.length - k' <x.length - k))))))))∧((decide ((k:Int)<((r.length:Nat):Int)))=false→z=(m+((aBX x:Nat):Int))∧r.map aU=(aJM m x).map aU∧True))) (by kernel_rfl) ?_
 have hS:aBX x=bO lM x:=rfl
 have hC:lG x=x.length+bO iJ x:=rfl
 refine ⟨⟨0,m,x,rfl,rfl,rfl,Nat.zero_le _,by simp [bO],(iT _ _ _ _).symm⟩,fun k z r ⟨hk,hz,hr⟩=>?_⟩
 have hrl:r.length=x.length:=by rw [hr];exact jX _ _ _ _ _ hk
 refine ⟨List.length_map _,fun c0=>?_,fun c0=>?_⟩
 ·replace c0:=yq c0
  obtain ⟨y,hy⟩:=bY (l:=x) (k:=k) (by omega)
  have hry:r[k]? =some y:=by rw [hr,jY _ _ _ _ _ (by omega)];exact hy
  have hs:=cW lM hy
  have hle:=fN lM x (k+1)
  have hA:bO lM (x.take k)≤5*(k+bO iJ (x.take k)):=aLt aIU x k hk
  have hB:=cW iJ hy
  have hD:=fN iJ x (k+1)
  have hF:iJ y=ByteArray.size y.name+bZ y.vars:=rfl
  have hle5:=aDU x
  have hE:lM y=1+bX y.vars:=rfl
  have hy_vars:=iM y.vars
  refine ⟨aAY _ (by omega),by omega,List.length_map _,by first | omega | (simp only [List.length_set];omega),rfl,by first | omega | (simp only [List.length_set];omega),fun s4_6 hs4_6=>?_⟩
  obtain rfl:=(aX hry hs4_6).symm
  refine ⟨Nat.le_of_ble_eq_true rfl,rfl,rfl,⟨by first | omega | (dsimp only;omega),by first | omega | (dsimp only;omega)⟩,rfl,by first | omega | (simp only [List.length_set];omega),fun b2407 hb2407=>?_⟩
  obtain rfl:=jK hb2407
  refine ⟨by omega,List.length_map _,by first | omega | (simp only [List.length_set];omega),rfl,wA _ _ (by omega) (by first | omega | (dsimp only;omega)),rfl,rfl,rfl,by first | omega | (simp only [List.length_set];omega),fun a2407 ha2407=>⟨rfl,?_⟩⟩
  obtain rfl:=jK ha2407
  refine ⟨⟨by first | omega | (dsimp only;omega),by first | omega | (dsimp only;omega)⟩,?_⟩
  exact ⟨k+1,_,_,rfl,rfl,rfl,⟨by omega,by rw [hs];(try dsimp only);omega,by subst hz hr;(try simp only [List.set_set]);exact jZ _ _ _ _ _ _ hy⟩,by omega⟩
 ·replace c0:=nq c0
  have hkx:k=x.length:=by omega
  rw [hkx,List.take_length] at hz
  rw [hkx,iU] at hr
  refine ⟨?_,?_,trivial⟩
  ·first | (rw [hz];rfl) | (rw [hr];rfl) | (rw [hz,hS])
  ·first | (rw [hz];rfl) | (rw [hr];rfl) | (rw [hz,hS])
abbrev oO (x:QueryD) (m:Int):List AV × List (Nat × Rs) × AV × List (Nat × Rs):=([.agg [vI x.variableCount,.own 0],vI m],[(0,.arr 131 2 true (x.atoms.map aU))],vI (m+((wB x:Nat):Int)),[(0,.arr 131 2 true (((aMn m x).atoms).map aU))])
abbrev aBY (x:QueryD) (m:Int):Prop:=lT Tryz.prog 47 (oO x m).1 (oO x m).2.1 (oO x m).2.2.1 (oO x m).2.2.2
theorem aKp (x:QueryD) (m:Int) (h0:0≤m) (hm:m+5*((jL x:Nat):Int)≤4611686018427387904):aBY x m:=by
 refine mZ bF aS Tryz.func47 (by kernel_rfl) (by kernel_rfl) (jE (sB x.atoms m) [(0,0)]<| .fin [(0,0)]) (p:=aGf x.atoms m∧m=m∧x.atoms.map aU=x.atoms.map aU∧(m+((aBX x.atoms:Nat):Int))=(m+((wB x:Nat):Int))∧(aJM m x.atoms).map aU=((aMn m x).atoms).map aU∧True) (by kernel_rfl) ?_
 have hS:wB x=aBX x.atoms:=rfl
 have hC:jL x=lG x.atoms:=rfl
 have:=aDU x.atoms
 refine ⟨aQ6 _ _ (by omega) (by first | omega | (dsimp only;omega)),rfl,rfl,?_,?_,trivial⟩
 ·first | rfl | (rw [hS];omega)
 ·first | rfl | (rw [hS];omega)
abbrev aOP (x:List Int) (m:Int):Prop:=cU Tryz.prog 49 [.one (.sl 3 1 ((cM m x).map intD)),.one (.int .i64 m)] (vI (m+((bX x:Nat):Int))) []
theorem aE8 (x:List Int) (m:Int) (h0:0≤m) (hm:m+5*((bZ x:Nat):Int)≤4611686018427387904):aOP x m:=by
 refine aV bF aS Tryz.func49 (by kernel_rfl) (.loop (Nat × Int) (Q2 Nat Int) [1,5,6,7,8,9,10,11,12,13,14,15,16,17,18,19] [] (fun yy0=>[(5,vI (yy0.1:Int)),(1,vI yy0.2)]) (fun yy0=>[]) (fun yy0=>yy0.1≤x.length∧yy0.2=m+((bO oK (x.take yy0.1):Nat):Int)) (fun yy0=>x.length - yy0.1) (fun yy0=> .len ((cM m x).length)<| .br (.elem _ intD (cM m x) (fun e14=> .no<| .back [])) (.fin []))) (p:=((cM m x).map intD).length≤9223372036854775807→(∃(k:Nat) (z:Int),(0:Int)=(k:Int)∧m=z∧k≤x.length∧z=m+((bO oK (x.take k):Nat):Int))∧ ∀(k:Nat) (z:Int),(k≤x.length∧z=m+((bO oK (x.take k):Nat):Int))→Lm intD (cM m x)∧(((decide ((k:Int)<(((cM m x).length:Nat):Int)))=true→0≤(k:Int)∧Em intD (cM m x) k fun e14=>(!(decide (e14=z)))=false∧cG (z+(1:Int))∧cG ((k:Int)+(1:Int))∧ ∃(k' :Nat) (z' :Int),((k:Int)+(1:Int))=(k' :Int)∧(z+(1:Int))=z' ∧(k' ≤x.length∧z' =m+((bO oK (x.take k'):Nat):Int))∧x.length - k' <x.length - k)∧((decide ((k:Int)<(((cM m x).length:Nat):Int)))=false→z=(m+((bX x:Nat):Int))∧True))) (by kernel_rfl) ?_
 intro n0
 simp only [List.length_map] at n0
 have hS:bX x=bO oK x:=rfl
 have hC:bZ x=x.length:=rfl
 have hlen:(cM m x).length=x.length:=nR _ _ _ _
 refine ⟨⟨0,m,rfl,rfl,Nat.zero_le _,by simp [bO]⟩,fun k z ⟨hk,hz⟩=>?_⟩
 refine ⟨List.length_map _,fun c0=>?_,fun c0=>?_⟩
 ·replace c0:=yq c0
  obtain ⟨y,hy⟩:=bY (l:=x) (k:=k) (by omega)
  have hY:(cM m x)[k]? =some (aLs z y):=by rw [hz];exact aEa _ _ x m k y hy
  have hs:=cW oK hy
  have hle:=fN oK x (k+1)
  have hA:bO oK (x.take k)≤5*k:=aTh (fun _=>by simp [oK]) x k hk
  have hle5:=iM x
  have hE:oK y=1:=rfl
  refine ⟨by omega,rfl,by omega,fun e14 h14=>?_⟩
  obtain rfl:=(aX hY h14).symm
  refine ⟨by simp [aLs],⟨by omega,by omega⟩,⟨by omega,by omega⟩,?_⟩
  exact ⟨k+1,_,rfl,rfl,⟨by omega,by rw [hs];(try dsimp only);omega⟩,by omega⟩
 ·replace c0:=nq c0
  have hkx:k=x.length:=by omega
  rw [hkx,List.take_length] at hz
  refine ⟨?_,trivial⟩
  ·rw [hz];rfl
theorem lawSafeOrder (a0:StoreD) (a1:QueryD) (a2:Int) (a3:Int) (h0:aFV a0) (h1:aFS a1) (h2:Fits a2) (h3:Fits a3):cU Tryz.prog 10 [.agg [.sl 162 3 (a0.database.tables.map aL),.int .i64 a0.catalogue.version,.sl 121 4 (a0.catalogue.tables.map aA),.sl 168 3 (a0.dependencies.map aD),.sl 170 4 (a0.inclusions.map aE)],.agg [.int .i64 a1.variableCount,.sl 131 2 (a1.atoms.map aU)],.one (.int .i64 a2),.one (.int .i64 a3)] (vB true) []:=by
 refine aV bF aS Tryz.func10 (by kernel_rfl) (.call (vI (aO (cJ a0) (1048576:Int))) []<| .br (.fin []) (.call (vI (aO (jL a1) (aO (cJ a0) (1048576:Int)))) []<| .br (.fin []) (bP (gD a0)<| bP (gE a1)<| bP (qM a0 a1 a2 a3)<| bP (gD a0)<| bP (gE a1)<| bP (qL a0 a1 a2 a3)<| .call (vB true) []<| bP (gD a0)<| .call (vB true) []<| bP (gE a1)<| .call (vB true) []<| jE (oN a0 (1:Int)) [(0,3600),(1,3601),(2,3602),(3,3603)]<| jE (oO a1 ((1:Int)+((kJ a0:Nat):Int))) [(0,3800)]<| .no<| .call (vB true) []<| jE (jR (eT a0 a1 a2 a3) (1:Int)) [(0,4300)]<| .call (vI ((1:Int)+((bX (eT a0 a1 a2 a3):Nat):Int))) []<| .no<| .no<| bP (gD a0)<| bP (gE a1)<| bP (qL a0 a1 a2 a3)<| .call (vB true) []<| .call (vI ((1:Int)+((bX (eT a0 a1 a2 a3):Nat):Int))) []<| .no<| .no<| .fin []))) (p:=(a0.database.tables.map aL).length≤9223372036854775807→(a0.catalogue.tables.map aA).length≤9223372036854775807→(a0.dependencies.map aD).length≤9223372036854775807→(a0.inclusions.map aE).length≤9223372036854775807→(a1.atoms.map aU).length≤9223372036854775807→vW a0 (1048576:Int)∧(((decide ((aO (cJ a0) (1048576:Int))<(0:Int)))=true→(true)=true∧True)∧((decide ((aO (cJ a0) (1048576:Int))<(0:Int)))=false→vX a1 (aO (cJ a0) (1048576:Int))∧(((decide ((aO (jL a1) (aO (cJ a0) (1048576:Int)))<(0:Int)))=true→(true)=true∧True)∧((decide ((aO (jL a1) (aO (cJ a0) (1048576:Int)))<(0:Int)))=false→gQ a0∧gR a1∧vS a0 a1 a2 a3∧gQ a0∧gR a1∧vR a0 a1 a2 a3∧jQ (eT a0 a1 a2 a3)∧gQ a0∧vU a0∧gR a1∧vV a1∧aBW a0 (1:Int)∧a0.catalogue.version=a0.catalogue.version∧(1:Int)=(1:Int)∧a0.database.tables.map aL=a0.database.tables.map aL∧a0.catalogue.tables.map aA=a0.catalogue.tables.map aA∧a0.dependencies.map aD=a0.dependencies.map aD∧a0.inclusions.map aE=a0.inclusions.map aE∧aBY a1 ((1:Int)+((kJ a0:Nat):Int))∧a1.variableCount=a1.variableCount∧((1:Int)+((kJ a0:Nat):Int))=((1:Int)+((kJ a0:Nat):Int))∧a1.atoms.map aU=a1.atoms.map aU∧(decide ((((1:Int)+((kJ a0:Nat):Int))+((wB a1:Nat):Int))<(0:Int)))=false∧jQ (eT a0 a1 a2 a3)∧mR (eT a0 a1 a2 a3) (1:Int)∧(1:Int)=(1:Int)∧(eT a0 a1 a2 a3).map intD=(eT a0 a1 a2 a3).map intD∧cU Tryz.prog 49 [.one (.sl 3 1 ((cM (1:Int) (eT a0 a1 a2 a3)).map intD)),.one (.int .i64 (1:Int))] (vI ((1:Int)+((bX (eT a0 a1 a2 a3):Nat):Int))) []∧(decide (((1:Int)+((bX (eT a0 a1 a2 a3):Nat):Int))<(0:Int)))=false∧(!(decide (((1:Int)+((bX (eT a0 a1 a2 a3):Nat):Int))=((1:Int)+((bX (eT a0 a1 a2 a3):Nat):Int)))))=false∧gQ a0∧gR a1∧vR a0 a1 a2 a3∧jQ (eT a0 a1 a2 a3)∧cU Tryz.prog 49 [.one (.sl 3 1 ((cM (1:Int) (eT a0 a1 a2 a3)).map intD)),.one (.int .i64 (1:Int))] (vI ((1:Int)+((bX (eT a0 a1 a2 a3):Nat):Int))) []∧(decide (((1:Int)+((bX (eT a0 a1 a2 a3):Nat):Int))<(0:Int)))=false∧(!(decide (((1:Int)+((bX (eT a0 a1 a2 a3):Nat):Int))=((1:Int)+((bX (eT a0 a1 a2 a3):Nat):Int)))))=false∧(true)=true∧True))))) (by kernel_rfl) ?_
 intro n0 n1 n2 n3 n4
 simp only [List.length_map] at n0 n1 n2 n3 n4
 refine ⟨aG4 a0 _ (by first | assumption | exact hf) (by omega) (by omega),fun c0=>?_,fun c0=>?_⟩
 ·replace c0:=yq c0
  refine ⟨?_,trivial⟩
  ·rfl
 ·replace c0:=nq c0
  try (have y0:=gL c0;try rw [aN y0] at*)
  refine ⟨aG6 a1 _ (by first | assumption | exact hf) (by omega) (by omega),fun c1=>?_,fun c1=>?_⟩
  ·replace c1:=yq c1
   refine ⟨?_,trivial⟩
   ·rfl
  ·replace c1:=nq c1
   try (have y1:=gL c1;try rw [aN y1] at*)
   have f1:=aOH a0 a1 a2 a3
   have f2:=iM (eT a0 a1 a2 a3)
   have f3:bZ (eT a0 a1 a2 a3)=(eT a0 a1 a2 a3).length:=rfl
   have sa0:=aG9 a0
   have sa1:=aGe a1
   refine ⟨lI a0 (by first | omega | (have:=cStoreS_el ‹x[k]? =some _›;omega)),lJ a1 (by first | omega | (have:=cQueryS_el ‹x[k]? =some _›;omega)),aGS a0 a1 a2 a3 (by omega),lI a0 (by first | omega | (have:=cStoreS_el ‹x[k]? =some _›;omega)),lJ a1 (by first | omega | (have:=cQueryS_el ‹x[k]? =some _›;omega)),aGQ a0 a1 a2 a3 (by omega),by first | exact fW (eT a0 a1 a2 a3) | exact fW _,lI a0 (by first | omega | (have:=cStoreS_el ‹x[k]? =some _›;omega)),by first | exact uF a0 | exact uF _,lJ a1 (by first | omega | (have:=cQueryS_el ‹x[k]? =some _›;omega)),by first | exact uG a1 | exact uG _,aKo _ _ (by omega) (by first | omega | (dsimp only;omega)),rfl,rfl,rfl,rfl,rfl,rfl,aKp _ _ (by omega) (by first | omega | (dsimp only;omega)),rfl,rfl,rfl,by first | (simp;done) | (simp;omega) | (simp [*];done),by first | exact fW (eT a0 a1 a2 a3) | exact fW _,wA _ _ (by omega) (by first | omega | (dsimp only;omega)),rfl,rfl,aE8 _ _ (by omega) (by first | omega | (dsimp only;omega)),by first | (simp;done) | (simp;omega) | (simp [*];done),by first | (simp;done) | (simp;omega) | (simp [*];done),lI a0 (by first | omega | (have:=cStoreS_el ‹x[k]? =some _›;omega)),lJ a1 (by first | omega | (have:=cQueryS_el ‹x[k]? =some _›;omega)),aGQ a0 a1 a2 a3 (by omega),by first | exact fW (eT a0 a1 a2 a3) | exact fW _,aE8 _ _ (by omega) (by first | omega | (dsimp only;omega)),by first | (simp;done) | (simp;omega) | (simp [*];done),by first | (simp;done) | (simp;omega) | (simp [*];done),?_,trivial⟩
   ·rfl
def aKq (q:QueryD) (i:Nat) (m:Int):Bool:=(q.atoms.getD i dL).vars.any fun v=>decide (v∈gN q m)
def gI (q:QueryD) (u:Nat→Bool) (i:Nat):Bool:= !u i&&(decide (i<q.atoms.length)&&aKq q i (m4 u))
def nL (q:QueryD) (m:Int) (u:Nat→Bool):Nat→Bool:=fun i=>u i || (gI q u i&&cP m i)
def gX (q:QueryD) (m:Int):Nat→(Nat→Bool)→(Nat→Bool)
 | 0,u=>u
 | k+1,u=>nL q m (gX q m k u)
def pP (m:Int):Nat→Bool:=fun i=>cP m i&&(List.range i).all fun j=> !cP m j
def nO (q:QueryD) (m:Int):Bool:=decide (m4 (gX q m q.atoms.length (pP m))=m)
theorem aMo {m:Int} (h:1≤m∧m≤15):dD .and .i64 m (-m)=m4 (pP m)∧1≤gH (pP m):=by
 have h1:m=1∨m=2∨m=3∨m=4∨m=5∨m=6∨m=7∨m=8∨m=9∨m=10∨m=11∨m=12∨m=13∨m=14∨m=15:=by omega
 rcases h1 with rfl | rfl | rfl | rfl | rfl | rfl | rfl | rfl | rfl | rfl | rfl | rfl | rfl | rfl | rfl<;>decide
theorem aTi {a b:Nat→Bool} (h:m4 a=m4 b) {i:Nat} (hi:i<4):a i=b i:=aQI h hi
theorem aKr {q:QueryD} {m:Int} {a b:Nat→Bool} (h:m4 a=m4 b):m4 (nL q m a)=m4 (nL q m b):=
 aK2 fun i hi=>by rw [nL,nL,gI,gI,h,aTi h hi]
theorem aIV {q:QueryD} {m:Int} {u:Nat→Bool} (h:m4 (nL q m u)=m4 u): ∀k,m4 (gX q m k u)=m4 u
 | 0=>rfl
 | k+1=>by rw [gX,aKr (aIV h k),h]
theorem aIW (q:QueryD) (m:Int) (u:Nat→Bool) (j:Nat): ∀k,gX q m (k+j) u=gX q m k (gX q m j u)
 | 0=>by rw [Nat.zero_add];rfl
 | k+1=>by rw [Nat.add_right_comm,gX,aIW q m u j k,gX]
theorem aE9 {a b:Bool} (h:a=true→b=true):b1 a≤b1 b:=by
 cases a with
 | false=>exact Nat.zero_le _
 | true=>rw [h rfl];exact Nat.le_refl _
theorem aJN {a b:Bool} (h:b1 a=b1 b):a=b:=by revert h;cases a<;>cases b<;>decide
theorem aOQ {u w:Nat→Bool} (h: ∀i,u i=true→w i=true) (hne: ¬m4 w=m4 u):gH u+1≤gH w:=by
 have h0:=aE9 (h 0)
 have h1:=aE9 (h 1)
 have h2:=aE9 (h 2)
 have h3:=aE9 (h 3)
 by_cases e:gH w=gH u
 ·exfalso
  apply hne
  unfold gH at e
  rw [m4,m4,aJN (show b1 (w 0)=b1 (u 0) by omega),aJN (show b1 (w 1)=b1 (u 1) by omega),aJN (show b1 (w 2)=b1 (u 2) by omega),aJN (show b1 (w 3)=b1 (u 3) by omega)]
 ·unfold gH at*
  omega
theorem aLu (q:QueryD) (m:Int) (u:Nat→Bool) {i:Nat} (h:u i=true):nL q m u i=true:=by rw [nL,h];rfl
theorem aKs {q:QueryD} {m:Int}: ∀{k i},gX q m k (pP m) i=true→cP m i=true
 | 0,i,h=>by rw [gX,pP,Bool.and_eq_true] at h;exact h.1
 | k+1,i,h=>by
   rw [gX,nL,Bool.or_eq_true,Bool.and_eq_true] at h
   rcases h with h | h
   ·exact aKs h
   ·exact h.2
theorem aQ7 {p:Nat→Bool} {n:Nat} (hn:n≤4) (h: ∀v,n≤v→v<4→p v=false):gH p≤n:=by
 have e0:=aDv (p 0)
 have e1:=aDv (p 1)
 have e2:=aDv (p 2)
 have e3:=aDv (p 3)
 have z:b1 false=0:=rfl
 have h4:n=0∨n=1∨n=2∨n=3∨n=4:=by omega
 unfold gH
 rcases h4 with rfl | rfl | rfl | rfl | rfl
 ·rw [h 0 (by omega) (by omega),h 1 (by omega) (by omega),h 2 (by omega) (by omega),h 3 (by omega) (by omega)];decide
 ·rw [h 1 (by omega) (by omega),h 2 (by omega) (by omega),h 3 (by omega) (by omega),z];omega
 ·rw [h 2 (by omega) (by omega),h 3 (by omega) (by omega),z];omega
 ·rw [h 3 (by omega) (by omega),z];omega
 ·omega
theorem aRt {q:QueryD} {m:Int} {k:Nat} (hm:0≤m∧m≤(1:Int)*2^q.atoms.length - 1) (hn:q.atoms.length≤4) (hk:k+1≤gH (gX q m k (pP m))) (hf:m4 (nL q m (gX q m k (pP m)))=m4 (gX q m k (pP m))):decide (m4 (gX q m k (pP m))=m)=nO q m:=by
 have h1:gH (gX q m k (pP m))≤q.atoms.length:=aQ7 hn fun v hv h4=>by
  cases e:gX q m k (pP m) v with
  | false=>rfl
  | true=>have:=aKs e;rw [aCL hm hv h4] at this;cases this
 obtain ⟨j,hj⟩: ∃j,q.atoms.length=j+k:=⟨q.atoms.length - k,by omega⟩
 rw [nO,hj,aIW,aIV hf]
theorem aOR {q:QueryD} {m:Int} {k:Nat} {u:Nat→Bool} (hu:u=gX q m k (pP m)) (hk:k+1≤gH u) (hne: ¬m4 (nL q m u)=m4 u):nL q m u=gX q m (k+1) (pP m)∧k+1+1≤gH (nL q m u)∧4 - gH (nL q m u)<4 - gH u:=by
 have h1:gH u+1≤gH (nL q m u):=aOQ (u:=u) (w:=nL q m u) (fun i h=>aLu q m u h) hne
 have h2:=aE1 (nL q m u)
 exact ⟨by rw [gX,hu],by omega,by omega⟩
theorem wC {q:QueryD} {m:Int} {u:Nat→Bool} (h:0≤m∧m≤15):dD .or .i64 (m4 u) (dD .and .i64 (m4 (gI q u)) m)=m4 (nL q m u):=by
 have e:m=m4 (cP m):=aE0 h
 rw [show dD .and .i64 (m4 (gI q u)) m=m4 (fun i=>gI q u i&&cP m i) by rw [←aQH,←e],aTL];rfl
theorem aQ8 (a b:List Int):decide (0<((fQ a b).length:Int))=a.any fun v=>decide (v∈b):=by
 apply Bool.eq_iff_iff.2
 rw [decide_eq_true_eq,List.any_eq_true]
 constructor
 ·intro h
  obtain ⟨x,hx⟩:=bY (l:=fQ a b) (k:=0) (by omega)
  have:=List.mem_filter.1 (List.mem_of_getElem? hx)
  exact ⟨x,this⟩
 ·rintro ⟨x,hx⟩
  have:x∈fQ a b:=List.mem_filter.2 hx
  have:=List.length_pos_of_mem this
  omega
theorem aOS {q:QueryD} {i:Nat} {m:Int} (h:bM q=true) (hi:i<q.atoms.length):(!decide (dD .and .i64 (m4 (inM q ((1:Int)*2^i))) (m4 (inM q m))=0))=aKq q i m:=by
 obtain ⟨a,ha⟩:=bY (l:=q.atoms) (k:=i) hi
 rw [aQH]
 apply Bool.eq_iff_iff.2
 rw [Bool.not_eq_true',decide_eq_false_iff_not,aKq,List.any_eq_true,aE2]
 constructor
 ·intro hc
  obtain ⟨x,hx⟩:=List.exists_mem_of_ne_nil _ (aOE hc)
  have h1:=nE.1 hx
  rw [Bool.and_eq_true] at h1
  refine ⟨x,?_,by rw [decide_eq_true_eq,aCK h];exact ⟨h1.1,h1.2.2.2⟩⟩
  rw [aZ ha,←aGN h ha,aCK h]
  exact ⟨h1.1,h1.2.2.1⟩
 ·rintro ⟨x,hx,hm⟩ hc
  rw [aZ ha,←aGN h ha,aCK h] at hx
  rw [decide_eq_true_eq,aCK h] at hm
  have hv:x.toNat<4:=by
   have h1:=(cX h).1
   rcases Nat.lt_or_ge x.toNat 4 with e | e
   ·exact e
   ·rw [aJD h m (by omega)] at hm;cases hm.2
  have:=aDP hc hv
  rw [hx.2,hm.2] at this;cases this
def lA (q:QueryD) (u:Nat→Bool) (i:Nat):Nat→Bool:=fun v=>decide (v<i)&&gI q u v
theorem aGg (q:QueryD) (u:Nat→Bool):(0:Int)=m4 (lA q u 0):=by simp [m4,b4,lA]
theorem qY {q:QueryD} {u:Nat→Bool} {i:Nat} (h:gI q u i=true):(fun v=>lA q u i v || decide (v=i))=lA q u (i+1):=by
 funext v
 rw [lA,lA]
 by_cases e:v=i
 ·subst e;simp [h]
 ·rcases Nat.lt_or_ge v i with q | q
  ·simp [e,q,show v<i+1 by omega]
  ·simp [e,show ¬v<i by omega,show ¬v<i+1 by omega]
theorem uO {q:QueryD} {u:Nat→Bool} {i:Nat} (h:gI q u i=false):lA q u i=lA q u (i+1):=by
 funext v
 rw [lA,lA]
 by_cases e:v=i
 ·subst e;simp [h]
 ·rcases Nat.lt_or_ge v i with q | q
  ·simp [q,show v<i+1 by omega]
  ·simp [show ¬v<i by omega,show ¬v<i+1 by omega]
theorem aIX {q:QueryD} {u:Nat→Bool} {i:Nat} (h:q.atoms.length≤i):lA q u i=gI q u:=by
 funext v
 rw [lA]
 rcases Nat.lt_or_ge v i with e | e
 ·simp [e]
 ·rw [gI,show decide (v<q.atoms.length)=false by simp;omega];simp
def zV (s:StoreD) (q:QueryD) (m:Nat):Int:=if nO q (m:Int)=true then nG s q (m:Int) else 0
def dS (q:QueryD):Nat:=(eG q).toNat
def fX (s:StoreD) (q:QueryD):List Int:=if kU s q 1=true then 0::(List.range (dS q)).map (fun m=>zV s q (m+1)) else []
theorem aAZ {s:StoreD} {q:QueryD} (h:kU s q 1=true):fX s q=0::(List.range (dS q)).map (fun m=>zV s q (m+1)):=by rw [fX,if_pos h]
theorem aC8 {s:StoreD} {q:QueryD} (h:kU s q 1=false):fX s q= []:=by rw [fX,if_neg (by rw [h];decide)]
abbrev aKt (q:QueryD) (u:Nat→Bool) (g:Int):Prop:=cU Tryz.prog 255 [.agg [.int .i64 q.variableCount,.sl 131 2 (q.atoms.map aU)],.one (.int .i64 g)] (vI (m4 (gI q u))) []
theorem aOT (q:QueryD) (u:Nat→Bool) (g:Int) (hq3:bM q=true) (hu:g=m4 u):aKt q u g:=by
 refine aV bF aS Tryz.func255 (by kernel_rfl) (bP (sS q g)<| .len q.atoms.length<| .loop (Nat × Int) (Q2 Nat Int) [6,7,8,15,16,17,18,19,20,21,22,23,24,25,26,27,28,29,30,31,32,33,34,35,36,37] [800,2900] (fun yy0=>[(15,vI (yy0.1:Int)),(6,vI yy0.2)]) (fun yy0=>[]) (fun yy0=>yy0.1≤q.atoms.length∧yy0.2=m4 (lA q u yy0.1)) (fun yy0=>q.atoms.length - yy0.1) (fun yy0=> .br (.elem _ aU q.atoms (fun e18=> .br (bP (sU e18.vars (gN q g))<| .len ((fQ e18.vars (gN q g)).length)<| .lit<| .lit<| .br (.back []) (.back [])) (.back []))) (.fin []))) (p:=(q.atoms.map aU).length≤9223372036854775807→zE q g∧(Lm aU q.atoms∧((∃(k:Nat) (o:Int),(0:Int)=(k:Int)∧(0:Int)=o∧k≤q.atoms.length∧o=m4 (lA q u k))∧ ∀(k:Nat) (o:Int),(k≤q.atoms.length∧o=m4 (lA q u k))→((decide ((k:Int)<((q.atoms.length:Nat):Int)))=true→0≤(k:Int)∧Em aU q.atoms k fun e18=>(0≤(k:Int)∧(k:Int)≤64)∧(((decide ((dD .and .i64 (g/2^k) (1:Int))=(0:Int)))=true→zG e18.vars (gN q g)∧(Lm intD (fQ e18.vars (gN q g))∧(((decide ((0:Int)<(((fQ e18.vars (gN q g)).length:Nat):Int)))=true→(0≤(k:Int)∧(k:Int)≤64)∧cG ((1:Int)*2^k)∧cG ((k:Int)+(1:Int))∧ ∃(k' :Nat) (o' :Int),((k:Int)+(1:Int))=(k' :Int)∧(dD .or .i64 o ((1:Int)*2^k))=o' ∧(k' ≤q.atoms.length∧o' =m4 (lA q u k'))∧q.atoms.length - k' <q.atoms.length - k)∧((decide ((0:Int)<(((fQ e18.vars (gN q g)).length:Nat):Int)))=false→cG ((k:Int)+(1:Int))∧ ∃(k' :Nat) (o' :Int),((k:Int)+(1:Int))=(k' :Int)∧o=o' ∧(k' ≤q.atoms.length∧o' =m4 (lA q u k'))∧q.atoms.length - k' <q.atoms.length - k))))∧((decide ((dD .and .i64 (g/2^k) (1:Int))=(0:Int)))=false→cG ((k:Int)+(1:Int))∧ ∃(k' :Nat) (o' :Int),((k:Int)+(1:Int))=(k' :Int)∧o=o' ∧(k' ≤q.atoms.length∧o' =m4 (lA q u k'))∧q.atoms.length - k' <q.atoms.length - k)))∧((decide ((k:Int)<((q.atoms.length:Nat):Int)))=false→o=(m4 (gI q u))∧True)))) (by kernel_rfl) ?_
 intro n0
 simp only [List.length_map] at n0
 have hq5:=(cX hq3).2.1
 have hgr:=aCG u
 rw [←hu] at hgr
 refine ⟨aIF q g (by first | assumption | exact (iA (q:=q) (m:=g) (by assumption)).1),List.length_map _,⟨0,(0:Int),rfl,rfl,Nat.zero_le _,aGg _ _⟩,fun k o ⟨hk,ho⟩=>?_⟩
 refine ⟨fun c0=>?_,fun c0=>?_⟩
 ·replace c0:=yq c0
  obtain ⟨w1,w2,w3⟩:=tF (x:=((k:Nat):Int)) (iG (by omega) (by omega))
  rw [Int.toNat_natCast] at w1
  have hz0:=aCH (m:=g) (v:=k) hgr (by omega)
  rw [show cP g k=u k by rw [hu];exact aFy (by omega)] at hz0
  refine ⟨by omega,rfl,by omega,fun e18 h18=>?_⟩
  have wv:=(oE ((cX hq3).2.2 _ (List.mem_of_getElem? h18))).2.1
  have hmt:aKq q k (m4 u)=e18.vars.any (fun v=>decide (v∈gN q g)):=by rw [aKq,aZ h18,hu]
  have hba:=aQ8 e18.vars (gN q g)
  refine ⟨⟨by omega,by omega⟩,fun g25=>?_,fun g25=>?_⟩
  ·replace g25:=yq g25
   refine ⟨aII e18.vars _ (by first | omega | (have:=aDN;simp only [*];omega)),List.length_map _,fun c1=>?_,fun c1=>?_⟩
   ·replace c1:=yq c1
    have hT:gI q u k=true:=by rw [decide_eq_true g25] at hz0;rw [gI,←hz0,hmt,←hba,decide_eq_true c1,decide_eq_true (show k<q.atoms.length by omega)];rfl
    refine ⟨⟨by omega,by omega⟩,by first | exact w1 | exact ⟨by omega,by omega⟩,by first | exact w1 | exact ⟨by omega,by omega⟩,?_⟩
    exact ⟨k+1,_,rfl,rfl,⟨by omega,by first | (rw [ho,aA6 (by omega),qY hT];done) | (rw [ho,uO hF];done)⟩,by omega⟩
   ·replace c1:=nq c1
    have hF:gI q u k=false:=by rw [decide_eq_true g25] at hz0;rw [gI,←hz0,hmt,←hba,decide_eq_false c1];simp
    refine ⟨by first | exact w1 | exact ⟨by omega,by omega⟩,?_⟩
    exact ⟨k+1,_,rfl,rfl,⟨by omega,by first | (rw [ho,aA6 (by omega),qY hT];done) | (rw [ho,uO hF];done)⟩,by omega⟩
  ·replace g25:=nq g25
   have hF:gI q u k=false:=by rw [decide_eq_false g25] at hz0;rw [gI,←hz0];rfl
   refine ⟨by first | exact w1 | exact ⟨by omega,by omega⟩,?_⟩
   exact ⟨k+1,_,rfl,rfl,⟨by omega,by first | (rw [ho,aA6 (by omega),qY hT];done) | (rw [ho,uO hF];done)⟩,by omega⟩
 ·replace c0:=nq c0
  refine ⟨?_,trivial⟩
  ·rw [ho,aIX (by omega)]
abbrev aKu (q:QueryD) (u:Nat→Bool) (g:Int):Prop:=cU Tryz.prog 252 [.agg [.int .i64 q.variableCount,.sl 131 2 (q.atoms.map aU)],.one (.int .i64 g)] (vI (m4 (gI q u))) []
theorem aOU (q:QueryD) (u:Nat→Bool) (g:Int) (hq3:bM q=true) (hu:g=m4 u):aKu q u g:=by
 refine aV bF aS Tryz.func252 (by kernel_rfl) (.call (vI (m4 (inM q g))) []<| .loop (Nat × Int) (Q2 Nat Int) [5,7,11,12,13,14,15,16,17,18,19,20,21,22,23,24,25,26,27,28,29,30,31,32,33,34,35] [] (fun yy0=>[(7,vI (yy0.1:Int)),(5,vI yy0.2)]) (fun yy0=>[]) (fun yy0=>yy0.1≤q.atoms.length∧yy0.2=m4 (lA q u yy0.1)) (fun yy0=>q.atoms.length - yy0.1) (fun yy0=> .len q.atoms.length<| .br (.br (.call (vI (m4 (inM q ((1:Int)*2^yy0.1)))) []<| .lit<| .lit<| .lit<| .lit<| .br (.back []) (.back [])) (.back [])) (.fin []))) (p:=(q.atoms.map aU).length≤9223372036854775807→qJ q g∧((∃(k:Nat) (o:Int),(0:Int)=(k:Int)∧(0:Int)=o∧k≤q.atoms.length∧o=m4 (lA q u k))∧ ∀(k:Nat) (o:Int),(k≤q.atoms.length∧o=m4 (lA q u k))→Lm aU q.atoms∧(((decide ((k:Int)<((q.atoms.length:Nat):Int)))=true→(0≤(k:Int)∧(k:Int)≤64)∧(((decide ((dD .and .i64 (g/2^k) (1:Int))=(0:Int)))=true→(0≤(k:Int)∧(k:Int)≤64)∧(cG ((1:Int)*2^k)∧(qJ q ((1:Int)*2^k)∧(((!(decide ((dD .and .i64 (m4 (inM q ((1:Int)*2^k))) (m4 (inM q g)))=(0:Int))))=true→(0≤(k:Int)∧(k:Int)≤64)∧cG ((1:Int)*2^k)∧cG ((k:Int)+(1:Int))∧ ∃(k' :Nat) (o' :Int),((k:Int)+(1:Int))=(k' :Int)∧(dD .or .i64 o ((1:Int)*2^k))=o' ∧(k' ≤q.atoms.length∧o' =m4 (lA q u k'))∧q.atoms.length - k' <q.atoms.length - k)∧((!(decide ((dD .and .i64 (m4 (inM q ((1:Int)*2^k))) (m4 (inM q g)))=(0:Int))))=false→cG ((k:Int)+(1:Int))∧ ∃(k' :Nat) (o' :Int),((k:Int)+(1:Int))=(k' :Int)∧o=o' ∧(k' ≤q.atoms.length∧o' =m4 (lA q u k'))∧q.atoms.length - k' <q.atoms.length - k)))))∧((decide ((dD .and .i64 (g/2^k) (1:Int))=(0:Int)))=false→cG ((k:Int)+(1:Int))∧ ∃(k' :Nat) (o' :Int),((k:Int)+(1:Int))=(k' :Int)∧o=o' ∧(k' ≤q.atoms.length∧o' =m4 (lA q u k'))∧q.atoms.length - k' <q.atoms.length - k)))∧((decide ((k:Int)<((q.atoms.length:Nat):Int)))=false→o=(m4 (gI q u))∧True)))) (by kernel_rfl) ?_
 intro n0
 simp only [List.length_map] at n0
 have hq5:=(cX hq3).2.1
 have hgr:=aCG u
 rw [←hu] at hgr
 refine ⟨aBL q g (by first | assumption | exact (iA (q:=q) (m:=g) (by assumption)).1),⟨0,(0:Int),rfl,rfl,Nat.zero_le _,aGg _ _⟩,fun k o ⟨hk,ho⟩=>?_⟩
 refine ⟨List.length_map _,fun c0=>?_,fun c0=>?_⟩
 ·replace c0:=yq c0
  obtain ⟨w1,w2,w3⟩:=tF (x:=((k:Nat):Int)) (iG (by omega) (by omega))
  rw [Int.toNat_natCast] at w1
  have hz0:=aCH (m:=g) (v:=k) hgr (by omega)
  rw [show cP g k=u k by rw [hu];exact aFy (by omega)] at hz0
  have hbm:=aOS (m:=g) hq3 (show k<q.atoms.length by omega)
  refine ⟨⟨by omega,by omega⟩,fun g23=>?_,fun g23=>?_⟩
  ·replace g23:=yq g23
   refine ⟨⟨by omega,by omega⟩,by first | exact w1 | exact ⟨by omega,by omega⟩,aBL q ((1:Int)*2^k) (by first | assumption | exact (iA (q:=q) (m:=((1:Int)*2^k)) (by assumption)).1),fun c1=>?_,fun c1=>?_⟩
   ·replace c1:=nq (nt c1)
    have hT:gI q u k=true:=by rw [decide_eq_true g23] at hz0;rw [decide_eq_false c1] at hbm;rw [gI,←hz0,←hu,←hbm,decide_eq_true (show k<q.atoms.length by omega)];rfl
    refine ⟨⟨by omega,by omega⟩,by first | exact w1 | exact ⟨by omega,by omega⟩,by first | exact w1 | exact ⟨by omega,by omega⟩,?_⟩
    exact ⟨k+1,_,rfl,rfl,⟨by omega,by first | (rw [ho,aA6 (by omega),qY hT];done) | (rw [ho,uO hF];done)⟩,by omega⟩
   ·replace c1:=yq (nf c1)
    have hF:gI q u k=false:=by rw [decide_eq_true g23] at hz0;rw [decide_eq_true c1] at hbm;rw [gI,←hz0,←hu,←hbm];simp
    refine ⟨by first | exact w1 | exact ⟨by omega,by omega⟩,?_⟩
    exact ⟨k+1,_,rfl,rfl,⟨by omega,by first | (rw [ho,aA6 (by omega),qY hT];done) | (rw [ho,uO hF];done)⟩,by omega⟩
  ·replace g23:=nq g23
   have hF:gI q u k=false:=by rw [decide_eq_false g23] at hz0;rw [gI,←hz0];rfl
   refine ⟨by first | exact w1 | exact ⟨by omega,by omega⟩,?_⟩
   exact ⟨k+1,_,rfl,rfl,⟨by omega,by first | (rw [ho,aA6 (by omega),qY hT];done) | (rw [ho,uO hF];done)⟩,by omega⟩
 ·replace c0:=nq c0
  refine ⟨?_,trivial⟩
  ·rw [ho,aIX (by omega)]
abbrev aGh (q:QueryD) (m:Int):Prop:=cU Tryz.prog 191 [.agg [.int .i64 q.variableCount,.sl 131 2 (q.atoms.map aU)],.one (.int .i64 m)] (vB (nO q m)) []
theorem aQ9 (q:QueryD) (m:Int) (hq3:bM q=true) (hm:1≤m∧m≤(1:Int)*2^q.atoms.length - 1):aGh q m:=by
 refine aV bF aS Tryz.func191 (by kernel_rfl) (.no<| .loop (Int × (Nat→Bool)) (Q2 Int (Nat→Bool)) [5,6,13,14,15,16,17,18,19,20,21,22,26] [] (fun yy0=>[(5,vI yy0.1)]) (fun yy0=>[]) (fun yy0=>yy0.1=m4 yy0.2∧(∃k,yy0.2=gX q m k (pP m)∧k+1≤gH yy0.2)) (fun yy0=>4 - gH yy0.2) (fun yy0=> .call (vI (m4 (gI q yy0.2))) []<| .br (.fin []) (.back []))) (p:=(q.atoms.map aU).length≤9223372036854775807→(decide (m=(0:Int)))=false∧(cG (-m)∧((∃(g:Int) (u:Nat→Bool),(dD .and .i64 m (-m))=g∧g=m4 u∧(∃k,u=gX q m k (pP m)∧k+1≤gH u))∧ ∀(g:Int) (u:Nat→Bool),(g=m4 u∧(∃k,u=gX q m k (pP m)∧k+1≤gH u))→cU Tryz.prog 255 [.agg [.int .i64 q.variableCount,.sl 131 2 (q.atoms.map aU)],.one (.int .i64 g)] (vI (m4 (gI q u))) []∧(((decide ((dD .or .i64 g (dD .and .i64 (m4 (gI q u)) m))=g))=true→(decide (g=m))=(nO q m)∧True)∧((decide ((dD .or .i64 g (dD .and .i64 (m4 (gI q u)) m))=g))=false→ ∃(g' :Int) (u' :Nat→Bool),(dD .or .i64 g (dD .and .i64 (m4 (gI q u)) m))=g' ∧(g' =m4 u' ∧(∃k,u' =gX q m k (pP m)∧k+1≤gH u'))∧4 - gH u' <4 - gH u))))) (by kernel_rfl) ?_
 intro n0
 simp only [List.length_map] at n0
 have hq5:=(cX hq3).2.1
 have hf4:=fR hq5
 obtain ⟨hl1,hl2⟩:=aMo (m:=m) ⟨by omega,by omega⟩
 refine ⟨by (rw [decide_eq_false_iff_not];omega),⟨by omega,by omega⟩,⟨dD .and .i64 m (-m),pP m,rfl,hl1,⟨0,rfl,hl2⟩⟩,fun g u ⟨hg,hu⟩=>?_⟩
 refine ⟨aOT q u _ (by assumption) (by assumption),fun c1=>?_,fun c1=>?_⟩
 ·replace c1:=yq c1
  rw [hg,wC ⟨by omega,by omega⟩] at c1
  obtain ⟨k,hk1,hk2⟩:=hu
  have hE:decide (g=m)=nO q m:=by rw [hg,hk1];exact aRt ⟨by omega,hm.2⟩ hq5.2 (by rw [←hk1];exact hk2) (by rw [←hk1];exact c1)
  refine ⟨?_,trivial⟩
  ·rw [hE]
 ·replace c1:=nq c1
  rw [hg,wC ⟨by omega,by omega⟩] at c1
  obtain ⟨k,hk1,hk2⟩:=hu
  obtain ⟨b1',b2',b3'⟩:=aOR hk1 hk2 c1
  exact ⟨_,nL q m u,rfl,⟨by rw [hg,wC ⟨by omega,by omega⟩],⟨k+1,b1',b2'⟩⟩,b3'⟩
abbrev aGi (q:QueryD) (m:Int):Prop:=cU Tryz.prog 189 [.agg [.int .i64 q.variableCount,.sl 131 2 (q.atoms.map aU)],.one (.int .i64 m)] (vB (nO q m)) []
theorem aQa (q:QueryD) (m:Int) (hq3:bM q=true) (hm:1≤m∧m≤(1:Int)*2^q.atoms.length - 1):aGi q m:=by
 refine aV bF aS Tryz.func189 (by kernel_rfl) (.loop (Nat × Int) (Q2 Nat Int) [5,6,11,12,13,14,15,16,17,18,19,20,21,22,23,24] [] (fun yy0=>[(6,vI (yy0.1:Int)),(5,vI yy0.2)]) (fun yy0=>[]) (fun yy0=>yy0.1≤q.atoms.length∧yy0.2=m4 (gX q m yy0.1 (pP m))) (fun yy0=>q.atoms.length - yy0.1) (fun yy0=> .len q.atoms.length<| .br (.call (vI (m4 (gI q (gX q m yy0.1 (pP m))))) []<| .back []) (.fin []))) (p:=(q.atoms.map aU).length≤9223372036854775807→cG (-m)∧((∃(k:Nat) (g:Int),(0:Int)=(k:Int)∧(dD .and .i64 m (-m))=g∧k≤q.atoms.length∧g=m4 (gX q m k (pP m)))∧ ∀(k:Nat) (g:Int),(k≤q.atoms.length∧g=m4 (gX q m k (pP m)))→Lm aU q.atoms∧(((decide ((k:Int)<((q.atoms.length:Nat):Int)))=true→cU Tryz.prog 252 [.agg [.int .i64 q.variableCount,.sl 131 2 (q.atoms.map aU)],.one (.int .i64 g)] (vI (m4 (gI q (gX q m k (pP m))))) []∧cG ((k:Int)+(1:Int))∧ ∃(k' :Nat) (g' :Int),((k:Int)+(1:Int))=(k' :Int)∧(dD .or .i64 g (dD .and .i64 (m4 (gI q (gX q m k (pP m)))) m))=g' ∧(k' ≤q.atoms.length∧g' =m4 (gX q m k' (pP m)))∧q.atoms.length - k' <q.atoms.length - k)∧((decide ((k:Int)<((q.atoms.length:Nat):Int)))=false→(decide (g=m))=(nO q m)∧True)))) (by kernel_rfl) ?_
 intro n0
 simp only [List.length_map] at n0
 have hq5:=(cX hq3).2.1
 have hf4:=fR hq5
 obtain ⟨hl1,hl2⟩:=aMo (m:=m) ⟨by omega,by omega⟩
 refine ⟨⟨by omega,by omega⟩,⟨0,dD .and .i64 m (-m),rfl,rfl,Nat.zero_le _,hl1⟩,fun k g ⟨hk,hg⟩=>?_⟩
 refine ⟨List.length_map _,fun c0=>?_,fun c0=>?_⟩
 ·replace c0:=yq c0
  refine ⟨aOU q (gX q m k (pP m)) _ (by assumption) (by assumption),⟨by omega,by omega⟩,?_⟩
  exact ⟨k+1,_,rfl,rfl,⟨by omega,by rw [hg,wC ⟨by omega,by omega⟩];rfl⟩,by omega⟩
 ·replace c0:=nq c0
  refine ⟨?_,trivial⟩
  ·rw [hg,nO,show q.atoms.length=k by omega]
abbrev aGj (q:QueryD) (m:Int):Prop:=cU Tryz.prog 117 [.agg [.int .i64 q.variableCount,.sl 131 2 (q.atoms.map aU)],.one (.int .i64 m)] (vB (decide (0<m)&&nO q m)) []
theorem aQb (q:QueryD) (m:Int) (hq3:bM q=true) (hm:0≤m∧m≤(1:Int)*2^q.atoms.length - 1):aGj q m:=by
 refine aV bF aS Tryz.func117 (by kernel_rfl) (.call (vB (gP q m)) []<| .yes<| .lit<| .lit<| .br (.call (vB (nO q m)) []<| .fin []) (.fin [])) (p:=(q.atoms.map aU).length≤9223372036854775807→aBK q m∧((gP q m)=true∧(((decide ((0:Int)<m))=true→aGi q m∧(nO q m)=(decide (0<m)&&nO q m)∧True)∧((decide ((0:Int)<m))=false→(false)=(decide (0<m)&&nO q m)∧True)))) (by kernel_rfl) ?_
 intro n0
 simp only [List.length_map] at n0
 have hmk:gP q m=true:=by rw [gP,hq3,iG hm.1 hm.2];rfl
 refine ⟨aK8 _ m,hmk,fun g12=>?_,fun g12=>?_⟩
 ·replace g12:=yq g12
  have hm0:=hm.1
  refine ⟨aQa q m (by assumption) ⟨by omega,by omega⟩,?_,trivial⟩
  ·first | (rw [decide_eq_false g12];rfl) | (rw [decide_eq_true g12];rfl)
 ·replace g12:=nq g12
  refine ⟨?_,trivial⟩
  ·first | (rw [decide_eq_false g12];rfl) | (rw [decide_eq_true g12];rfl)
end Go.Proofs.YtokkjaflmcjlhaaGreat
