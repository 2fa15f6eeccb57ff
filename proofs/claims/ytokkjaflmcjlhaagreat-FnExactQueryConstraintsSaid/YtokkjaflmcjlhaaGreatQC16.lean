/-
  Contracts and plain laws, joined: part 17.
-/
import Derived.Test.YtokkjaflmcjlhaaGreatQC14
import Derived.Test.YtokkjaflmcjlhaaGreatQC15
namespace Go.Proofs.YtokkjaflmcjlhaaGreat
open Go.ChangeShapes Go.WideShapes Go.ChangeAt Go.RowKit
set_option linter.unusedVariables false
set_option linter.unusedSimpArgs false
set_option maxRecDepth 100000
set_option maxHeartbeats 4000000
def aFZ (k:Int) (x:bR):bR:=⟨aX (k),dK (k+1) x.vars⟩
def kO (x:bR):Nat:=1+cZ x.vars
theorem aHK (x:bR):kO x≤4+5*fY x:=by
 have:=jT x.vars
 unfold kO fY;omega
def aHu (k:Int) (l:List bR):List bR:=nV aFZ kO k l
def aA7 (l:List bR):Nat:=bN kO l
theorem aCT (l:List bR):aA7 l≤5*jF l:=mL aHK l
def aLP (k:Int) (x:QueryD):QueryD:=⟨x.variableCount,aHu (k) x.atoms⟩
def yZ (x:QueryD):Nat:=aA7 x.atoms
theorem aK3 (x:QueryD):yZ x≤5*jY x:=by
 have:=aCT x.atoms
 unfold yZ jY;omega
def eU (k:Int) (x:aF):aF:=⟨k,k+1,k+1+1⟩
def bJ (x:aF):Nat:=1+1+1
theorem kX (x:aF):bJ x≤4+5*jO x:=by
 unfold bJ jO;omega
def cF (k:Int) (l:List aF):List aF:=nV eU bJ k l
def cK (l:List aF):Nat:=bN bJ l
theorem kY (l:List aF):cK l≤5*gT l:=aB6 (fun x=>by have:=kX x;simpa [jO] using this) l
abbrev qU (x:List bR) (m:Int):List AV × List (Nat × Rs) × AV × List (Nat × Rs):=([.own 0,vI m],[(0,.arr 131 2 true (x.map bC))],vI (m+((aA7 x:Nat):Int)),[(0,.arr 131 2 true ((aHu m x).map bC))])
abbrev aF0 (x:List bR) (m:Int):Prop:=lX Tryz.prog 116 (qU x m).1 (qU x m).2.1 (qU x m).2.2.1 (qU x m).2.2.2
theorem aOl (x:List bR) (m:Int) (h0:0≤m) (hm:m+5*((jF x:Nat):Int)≤4611686018427387904):aF0 x m:=by
 refine nA bK aU Tryz.func116 (by kernel_rfl) (by kernel_rfl) (.loop (Nat × Int × (List bR)) (Q3 Nat Int (List bR)) [1,5,6,7,8,9,10,11,12,13,14,15,16,17,18,19,20,21,22,23,24,25,26] [0,2407] (fun yy0=>[(5,vI (yy0.1:Int)),(1,vI yy0.2.1)]) (fun yy0=>[(0,some (.arr 131 2 true (yy0.2.2.map bC)))]) (fun yy0=>yy0.1≤x.length∧yy0.2.1=m+((bN kO (x.take yy0.1):Nat):Int)∧yy0.2.2=cP aFZ kO m x yy0.1) (fun yy0=>x.length - yy0.1) (fun yy0=> .len yy0.2.2.length<| .br (.call (.p none (.str (aX yy0.2.1))) []<| .len yy0.2.2.length<| .setm bR bC yy0.2.2 (fun s4_6=>(⟨aX yy0.2.1,s4_6.vars⟩:bR)) (fun s4_6=> .split 6 0 yy0.1 1 2407 bR bC (yy0.2.2.set yy0.1 (⟨aX yy0.2.1,s4_6.vars⟩:bR)) (fun b2407=> .len ((yy0.2.2.set yy0.1 (⟨aX yy0.2.1,s4_6.vars⟩:bR)).length)<| jX (kU b2407.vars (yy0.2.1+(1:Int))) [(0,2407)]<| .join 3 0 2407 bR bC (yy0.2.2.set yy0.1 (⟨aX yy0.2.1,s4_6.vars⟩:bR)) (fun a2407=>(⟨a2407.name,dK (yy0.2.1+(1:Int)) b2407.vars⟩:bR)) (fun a2407=> .back [(0,0)])))) (.fin [(0,0)]))) (p:=(∃(k:Nat) (z:Int) (r:List bR),(0:Int)=(k:Int)∧m=z∧x.map bC=r.map bC∧k≤x.length∧z=m+((bN kO (x.take k):Nat):Int)∧r=cP aFZ kO m x k)∧ ∀(k:Nat) (z:Int) (r:List bR),(k≤x.length∧z=m+((bN kO (x.take k):Nat):Int)∧r=cP aFZ kO m x k)→Lm bC r∧(((decide ((k:Int)<((r.length:Nat):Int)))=true→nI z∧(0≤(k:Int)∧Lm bC r∧(k:Int)<((r.length:Nat):Int)∧(r.map bC=r.map bC∧k<r.length∧ ∀s4_6,r[k]? =some s4_6→0+1≤(bC s4_6).length∧(bC s4_6).take 0++((bC (⟨aX z,s4_6.vars⟩:bR)).drop 0).take 1++(bC s4_6).drop (0+1)=bC (⟨aX z,s4_6.vars⟩:bR)∧(aX z)=((⟨aX z,s4_6.vars⟩:bR).name)∧(dB (z+(1:Int))∧((r.set k (⟨aX z,s4_6.vars⟩:bR)).map bC=(r.set k (⟨aX z,s4_6.vars⟩:bR)).map bC∧k<(r.set k (⟨aX z,s4_6.vars⟩:bR)).length∧ ∀b2407,(r.set k (⟨aX z,s4_6.vars⟩:bR))[k]? =some b2407→0≤(k:Int)∧Lm bC (r.set k (⟨aX z,s4_6.vars⟩:bR))∧(k:Int)<(((r.set k (⟨aX z,s4_6.vars⟩:bR)).length:Nat):Int)∧(k=k∧(pT b2407.vars (z+(1:Int))∧(z+(1:Int))=(z+(1:Int))∧b2407.vars.map intD=b2407.vars.map intD∧((r.set k (⟨aX z,s4_6.vars⟩:bR)).map bC=(r.set k (⟨aX z,s4_6.vars⟩:bR)).map bC∧k<(r.set k (⟨aX z,s4_6.vars⟩:bR)).length∧ ∀a2407,(r.set k (⟨aX z,s4_6.vars⟩:bR))[k]? =some a2407→((bC a2407).take 1++ .sl 3 1 ((dK (z+(1:Int)) b2407.vars).map intD)::(bC a2407).drop (1+1)=bC (⟨a2407.name,dK (z+(1:Int)) b2407.vars⟩:bR))∧dB ((k:Int)+(1:Int))∧ ∃(k' :Nat) (z' :Int) (r' :List bR),((k:Int)+(1:Int))=(k' :Int)∧((z+(1:Int))+((cZ b2407.vars:Nat):Int))=z' ∧((r.set k (⟨aX z,s4_6.vars⟩:bR)).set k (⟨a2407.name,dK (z+(1:Int)) b2407.vars⟩:bR)).map bC=r'.map bC∧(k' ≤x.length∧z' =m+((bN kO (x.take k'):Nat):Int)∧r' =cP aFZ kO m x k')∧x.length - k' <x.length - k))))))))∧((decide ((k:Int)<((r.length:Nat):Int)))=false→z=(m+((aA7 x:Nat):Int))∧r.map bC=(aHu m x).map bC∧True))) (by kernel_rfl) ?_
 have hS:aA7 x=bN kO x:=rfl
 have hC:jF x=x.length+bN fY x:=rfl
 refine ⟨⟨0,m,x,rfl,rfl,rfl,Nat.zero_le _,by simp [bN],(gK _ _ _ _).symm⟩,fun k z r ⟨hk,hz,hr⟩=>?_⟩
 have hrl:r.length=x.length:=by rw [hr];exact iE _ _ _ _ _ hk
 refine ⟨List.length_map _,fun c0=>?_,fun c0=>?_⟩
 ·replace c0:=yq c0
  obtain ⟨y,hy⟩:=cC (l:=x) (k:=k) (by omega)
  have hry:r[k]? =some y:=by rw [hr,iF _ _ _ _ _ (by omega)];exact hy
  have hs:=cW kO hy
  have hle:=fG kO x (k+1)
  have hA:bN kO (x.take k)≤5*(k+bN fY (x.take k)):=aK1 aHK x k hk
  have hB:=cW fY hy
  have hD:=fG fY x (k+1)
  have hF:fY y=ByteArray.size y.name+bX y.vars:=rfl
  have hle5:=aCT x
  have hE:kO y=1+cZ y.vars:=rfl
  have hy_vars:=jT y.vars
  refine ⟨yY _ (by omega),by omega,List.length_map _,by first | omega | (simp only [List.length_set];omega),rfl,by first | omega | (simp only [List.length_set];omega),fun s4_6 hs4_6=>?_⟩
  obtain rfl:=(bA hry hs4_6).symm
  refine ⟨Nat.le_of_ble_eq_true rfl,rfl,rfl,⟨by first | omega | (dsimp only;omega),by first | omega | (dsimp only;omega)⟩,rfl,by first | omega | (simp only [List.length_set];omega),fun b2407 hb2407=>?_⟩
  obtain rfl:=iA hb2407
  refine ⟨by omega,List.length_map _,by first | omega | (simp only [List.length_set];omega),rfl,aB8 _ _ (by omega) (by first | omega | (dsimp only;omega)),rfl,rfl,rfl,by first | omega | (simp only [List.length_set];omega),fun a2407 ha2407=>⟨rfl,?_⟩⟩
  obtain rfl:=iA ha2407
  refine ⟨⟨by first | omega | (dsimp only;omega),by first | omega | (dsimp only;omega)⟩,?_⟩
  exact ⟨k+1,_,_,rfl,rfl,rfl,⟨by omega,by rw [hs];(try dsimp only);omega,by subst hz hr;(try simp only [List.set_set]);exact iG _ _ _ _ _ _ hy⟩,by omega⟩
 ·replace c0:=nq c0
  have hkx:k=x.length:=by omega
  rw [hkx,List.take_length] at hz
  rw [hkx,gL] at hr
  refine ⟨?_,?_,trivial⟩
  ·first | (rw [hz];rfl) | (rw [hr];rfl) | (rw [hz,hS])
  ·first | (rw [hz];rfl) | (rw [hr];rfl) | (rw [hz,hS])
abbrev qV (x:QueryD) (m:Int):List AV × List (Nat × Rs) × AV × List (Nat × Rs):=([.agg [vI x.variableCount,.own 0],vI m],[(0,.arr 131 2 true (x.atoms.map bC))],vI (m+((yZ x:Nat):Int)),[(0,.arr 131 2 true (((aLP m x).atoms).map bC))])
abbrev aF1 (x:QueryD) (m:Int):Prop:=lX Tryz.prog 47 (qV x m).1 (qV x m).2.1 (qV x m).2.2.1 (qV x m).2.2.2
theorem aOm (x:QueryD) (m:Int) (h0:0≤m) (hm:m+5*((jY x:Nat):Int)≤4611686018427387904):aF1 x m:=by
 refine nA bK aU Tryz.func47 (by kernel_rfl) (by kernel_rfl) (jX (qU x.atoms m) [(0,0)]<| .fin [(0,0)]) (p:=aF0 x.atoms m∧m=m∧x.atoms.map bC=x.atoms.map bC∧(m+((aA7 x.atoms:Nat):Int))=(m+((yZ x:Nat):Int))∧(aHu m x.atoms).map bC=((aLP m x).atoms).map bC∧True) (by kernel_rfl) ?_
 have hS:yZ x=aA7 x.atoms:=rfl
 have hC:jY x=jF x.atoms:=rfl
 have:=aCT x.atoms
 refine ⟨aOl _ _ (by omega) (by first | omega | (dsimp only;omega)),rfl,rfl,?_,?_,trivial⟩
 ·first | rfl | (rw [hS];omega)
 ·first | rfl | (rw [hS];omega)
abbrev gA (x:List aF) (m:Int):List AV × List (Nat × Rs) × AV × List (Nat × Rs):=([.own 0,vI m],[(0,.arr 149 3 true (x.map aD))],vI (m+((cK x:Nat):Int)),[(0,.arr 149 3 true ((cF m x).map aD))])
abbrev oS (x:List aF) (m:Int):Prop:=lX Tryz.prog 55 (gA x m).1 (gA x m).2.1 (gA x m).2.2.1 (gA x m).2.2.2
theorem aA8 (x:List aF) (m:Int) (h0:0≤m) (hm:m+5*((gT x:Nat):Int)≤4611686018427387904):oS x m:=by
 refine nA bK aU Tryz.func55 (by kernel_rfl) (by kernel_rfl) (.loop (Nat × Int × (List aF)) (Q3 Nat Int (List aF)) [1,5,6,7,8,9,10,11,12,13,14,15,16,17,18,19,20,21,22,23,24,25,26,27,28,29,30,31,32] [0] (fun yy0=>[(5,vI (yy0.1:Int)),(1,vI yy0.2.1)]) (fun yy0=>[(0,some (.arr 149 3 true (yy0.2.2.map aD)))]) (fun yy0=>yy0.1≤x.length∧yy0.2.1=m+((bN bJ (x.take yy0.1):Nat):Int)∧yy0.2.2=cP eU bJ m x yy0.1) (fun yy0=>x.length - yy0.1) (fun yy0=> .len yy0.2.2.length<| .br (.len yy0.2.2.length<| .set aF aD yy0.2.2 (fun s4_5=>(⟨yy0.2.1,s4_5.dst,s4_5.bits⟩:aF)) (fun s4_5=> .len ((yy0.2.2.set yy0.1 (⟨yy0.2.1,s4_5.dst,s4_5.bits⟩:aF)).length)<| .set aF aD (yy0.2.2.set yy0.1 (⟨yy0.2.1,s4_5.dst,s4_5.bits⟩:aF)) (fun s6_5=>(⟨s6_5.src,yy0.2.1+(1:Int),s6_5.bits⟩:aF)) (fun s6_5=> .len (((yy0.2.2.set yy0.1 (⟨yy0.2.1,s4_5.dst,s4_5.bits⟩:aF)).set yy0.1 (⟨s6_5.src,yy0.2.1+(1:Int),s6_5.bits⟩:aF)).length)<| .set aF aD ((yy0.2.2.set yy0.1 (⟨yy0.2.1,s4_5.dst,s4_5.bits⟩:aF)).set yy0.1 (⟨s6_5.src,yy0.2.1+(1:Int),s6_5.bits⟩:aF)) (fun s8_5=>(⟨s8_5.src,s8_5.dst,(yy0.2.1+(1:Int))+(1:Int)⟩:aF)) (fun s8_5=> .back [(0,0)])))) (.fin [(0,0)]))) (p:=(∃(k:Nat) (z:Int) (r:List aF),(0:Int)=(k:Int)∧m=z∧x.map aD=r.map aD∧k≤x.length∧z=m+((bN bJ (x.take k):Nat):Int)∧r=cP eU bJ m x k)∧ ∀(k:Nat) (z:Int) (r:List aF),(k≤x.length∧z=m+((bN bJ (x.take k):Nat):Int)∧r=cP eU bJ m x k)→Lm aD r∧(((decide ((k:Int)<((r.length:Nat):Int)))=true→0≤(k:Int)∧Lm aD r∧(k:Int)<((r.length:Nat):Int)∧(r.map aD=r.map aD∧k<r.length∧ ∀s4_5,r[k]? =some s4_5→eC (aD s4_5)=true∧0+1≤(aD s4_5).length∧(aD s4_5).take 0++[.int .i64 z]++(aD s4_5).drop (0+1)=aD (⟨z,s4_5.dst,s4_5.bits⟩:aF)∧(dB (z+(1:Int))∧(0≤(k:Int)∧Lm aD (r.set k (⟨z,s4_5.dst,s4_5.bits⟩:aF))∧(k:Int)<(((r.set k (⟨z,s4_5.dst,s4_5.bits⟩:aF)).length:Nat):Int)∧((r.set k (⟨z,s4_5.dst,s4_5.bits⟩:aF)).map aD=(r.set k (⟨z,s4_5.dst,s4_5.bits⟩:aF)).map aD∧k<(r.set k (⟨z,s4_5.dst,s4_5.bits⟩:aF)).length∧ ∀s6_5,(r.set k (⟨z,s4_5.dst,s4_5.bits⟩:aF))[k]? =some s6_5→eC (aD s6_5)=true∧1+1≤(aD s6_5).length∧(aD s6_5).take 1++[.int .i64 (z+(1:Int))]++(aD s6_5).drop (1+1)=aD (⟨s6_5.src,z+(1:Int),s6_5.bits⟩:aF)∧(dB ((z+(1:Int))+(1:Int))∧(0≤(k:Int)∧Lm aD ((r.set k (⟨z,s4_5.dst,s4_5.bits⟩:aF)).set k (⟨s6_5.src,z+(1:Int),s6_5.bits⟩:aF))∧(k:Int)<((((r.set k (⟨z,s4_5.dst,s4_5.bits⟩:aF)).set k (⟨s6_5.src,z+(1:Int),s6_5.bits⟩:aF)).length:Nat):Int)∧(((r.set k (⟨z,s4_5.dst,s4_5.bits⟩:aF)).set k (⟨s6_5.src,z+(1:Int),s6_5.bits⟩:aF)).map aD=((r.set k (⟨z,s4_5.dst,s4_5.bits⟩:aF)).set k (⟨s6_5.src,z+(1:Int),s6_5.bits⟩:aF)).map aD∧k<((r.set k (⟨z,s4_5.dst,s4_5.bits⟩:aF)).set k (⟨s6_5.src,z+(1:Int),s6_5.bits⟩:aF)).length∧ ∀s8_5,((r.set k (⟨z,s4_5.dst,s4_5.bits⟩:aF)).set k (⟨s6_5.src,z+(1:Int),s6_5.bits⟩:aF))[k]? =some s8_5→eC (aD s8_5)=true∧2+1≤(aD s8_5).length∧(aD s8_5).take 2++[.int .i64 ((z+(1:Int))+(1:Int))]++(aD s8_5).drop (2+1)=aD (⟨s8_5.src,s8_5.dst,(z+(1:Int))+(1:Int)⟩:aF)∧dB (((z+(1:Int))+(1:Int))+(1:Int))∧dB ((k:Int)+(1:Int))∧ ∃(k' :Nat) (z' :Int) (r' :List aF),((k:Int)+(1:Int))=(k' :Int)∧(((z+(1:Int))+(1:Int))+(1:Int))=z' ∧(((r.set k (⟨z,s4_5.dst,s4_5.bits⟩:aF)).set k (⟨s6_5.src,z+(1:Int),s6_5.bits⟩:aF)).set k (⟨s8_5.src,s8_5.dst,(z+(1:Int))+(1:Int)⟩:aF)).map aD=r'.map aD∧(k' ≤x.length∧z' =m+((bN bJ (x.take k'):Nat):Int)∧r' =cP eU bJ m x k')∧x.length - k' <x.length - k))))))))∧((decide ((k:Int)<((r.length:Nat):Int)))=false→z=(m+((cK x:Nat):Int))∧r.map aD=(cF m x).map aD∧True))) (by kernel_rfl) ?_
 have hS:cK x=bN bJ x:=rfl
 have hC:gT x=x.length:=rfl
 refine ⟨⟨0,m,x,rfl,rfl,rfl,Nat.zero_le _,by simp [bN],(gK _ _ _ _).symm⟩,fun k z r ⟨hk,hz,hr⟩=>?_⟩
 have hrl:r.length=x.length:=by rw [hr];exact iE _ _ _ _ _ hk
 refine ⟨List.length_map _,fun c0=>?_,fun c0=>?_⟩
 ·replace c0:=yq c0
  obtain ⟨y,hy⟩:=cC (l:=x) (k:=k) (by omega)
  have hry:r[k]? =some y:=by rw [hr,iF _ _ _ _ _ (by omega)];exact hy
  have hs:=cW bJ hy
  have hle:=fG bJ x (k+1)
  have hA:bN bJ (x.take k)≤5*k:=aRM (fun y=>by have:=kX y;simpa [jO] using this) x k hk
  have hle5:=kY x
  have hE:bJ y=1+1+1:=rfl
  refine ⟨by omega,List.length_map _,by first | omega | (simp only [List.length_set];omega),rfl,by first | omega | (simp only [List.length_set];omega),fun s4_5 hs4_5=>⟨rfl,Nat.le_of_ble_eq_true rfl,rfl,?_⟩⟩
  obtain rfl:=(bA hry hs4_5).symm
  refine ⟨⟨by first | omega | (dsimp only;omega),by first | omega | (dsimp only;omega)⟩,by omega,List.length_map _,by first | omega | (simp only [List.length_set];omega),rfl,by first | omega | (simp only [List.length_set];omega),fun s6_5 hs6_5=>⟨rfl,Nat.le_of_ble_eq_true rfl,rfl,?_⟩⟩
  obtain rfl:=iA hs6_5
  refine ⟨⟨by first | omega | (dsimp only;omega),by first | omega | (dsimp only;omega)⟩,by omega,List.length_map _,by first | omega | (simp only [List.length_set];omega),rfl,by first | omega | (simp only [List.length_set];omega),fun s8_5 hs8_5=>⟨rfl,Nat.le_of_ble_eq_true rfl,rfl,?_⟩⟩
  obtain rfl:=iA hs8_5
  refine ⟨⟨by first | omega | (dsimp only;omega),by first | omega | (dsimp only;omega)⟩,⟨by first | omega | (dsimp only;omega),by first | omega | (dsimp only;omega)⟩,?_⟩
  exact ⟨k+1,_,_,rfl,rfl,rfl,⟨by omega,by rw [hs];(try dsimp only);omega,by subst hz hr;(try simp only [List.set_set]);exact iG _ _ _ _ _ _ hy⟩,by omega⟩
 ·replace c0:=nq c0
  have hkx:k=x.length:=by omega
  rw [hkx,List.take_length] at hz
  rw [hkx,gL] at hr
  refine ⟨?_,?_,trivial⟩
  ·first | (rw [hz];rfl) | (rw [hr];rfl) | (rw [hz,hS])
  ·first | (rw [hz];rfl) | (rw [hr];rfl) | (rw [hz,hS])
abbrev xR (x:List aF) (m:Int):Prop:=dG Tryz.prog 56 [.one (.sl 149 3 ((cF m x).map aD)),.one (.int .i64 m)] (vI (m+((cK x:Nat):Int))) []
theorem qW (x:List aF) (m:Int) (h0:0≤m) (hm:m+5*((gT x:Nat):Int)≤4611686018427387904):xR x m:=by
 refine aY bK aU Tryz.func56 (by kernel_rfl) (.loop (Nat × Int) (Q2 Nat Int) [1,5,6,7,8,9,10,11,12,13,14,15,16,17,18,19,20,21,22,23,24,25,26,27,28,29,30,31,32,33,34,35,36,37,38] [] (fun yy0=>[(5,vI (yy0.1:Int)),(1,vI yy0.2)]) (fun yy0=>[]) (fun yy0=>yy0.1≤x.length∧yy0.2=m+((bN bJ (x.take yy0.1):Nat):Int)) (fun yy0=>x.length - yy0.1) (fun yy0=> .len ((cF m x).length)<| .br (.elem _ aD (cF m x) (fun e14=> .no<| .elem _ aD (cF m x) (fun e23=> .no<| .elem _ aD (cF m x) (fun e32=> .no<| .back [])))) (.fin []))) (p:=((cF m x).map aD).length≤9223372036854775807→(∃(k:Nat) (z:Int),(0:Int)=(k:Int)∧m=z∧k≤x.length∧z=m+((bN bJ (x.take k):Nat):Int))∧ ∀(k:Nat) (z:Int),(k≤x.length∧z=m+((bN bJ (x.take k):Nat):Int))→Lm aD (cF m x)∧(((decide ((k:Int)<(((cF m x).length:Nat):Int)))=true→0≤(k:Int)∧Em aD (cF m x) k fun e14=>(!(decide (e14.src=z)))=false∧dB (z+(1:Int))∧0≤(k:Int)∧Em aD (cF m x) k fun e23=>(!(decide (e23.dst=(z+(1:Int)))))=false∧dB ((z+(1:Int))+(1:Int))∧0≤(k:Int)∧Em aD (cF m x) k fun e32=>(!(decide (e32.bits=((z+(1:Int))+(1:Int)))))=false∧dB (((z+(1:Int))+(1:Int))+(1:Int))∧dB ((k:Int)+(1:Int))∧ ∃(k' :Nat) (z' :Int),((k:Int)+(1:Int))=(k' :Int)∧(((z+(1:Int))+(1:Int))+(1:Int))=z' ∧(k' ≤x.length∧z' =m+((bN bJ (x.take k'):Nat):Int))∧x.length - k' <x.length - k)∧((decide ((k:Int)<(((cF m x).length:Nat):Int)))=false→z=(m+((cK x:Nat):Int))∧True))) (by kernel_rfl) ?_
 intro n0
 simp only [List.length_map] at n0
 have hS:cK x=bN bJ x:=rfl
 have hC:gT x=x.length:=rfl
 have hlen:(cF m x).length=x.length:=mR _ _ _ _
 refine ⟨⟨0,m,rfl,rfl,Nat.zero_le _,by simp [bN]⟩,fun k z ⟨hk,hz⟩=>?_⟩
 refine ⟨List.length_map _,fun c0=>?_,fun c0=>?_⟩
 ·replace c0:=yq c0
  obtain ⟨y,hy⟩:=cC (l:=x) (k:=k) (by omega)
  have hY:(cF m x)[k]? =some (eU z y):=by rw [hz];exact aDb _ _ x m k y hy
  have hs:=cW bJ hy
  have hle:=fG bJ x (k+1)
  have hA:bN bJ (x.take k)≤5*k:=aRM (fun y=>by have:=kX y;simpa [jO] using this) x k hk
  have hle5:=kY x
  have hE:bJ y=1+1+1:=rfl
  have hg:x.getD k aDN=y:=by simp [List.getD_eq_getElem?_getD,hy]
  try rw [hg]
  refine ⟨by omega,rfl,by omega,fun e14 h14=>?_⟩
  obtain rfl:=(bA hY h14).symm
  refine ⟨by simp [eU],⟨by omega,by omega⟩,by omega,rfl,by omega,fun e23 h23=>?_⟩
  obtain rfl:=(bA hY h23).symm
  refine ⟨by simp [eU],⟨by omega,by omega⟩,by omega,rfl,by omega,fun e32 h32=>?_⟩
  obtain rfl:=(bA hY h32).symm
  refine ⟨by simp [eU],⟨by omega,by omega⟩,⟨by omega,by omega⟩,?_⟩
  exact ⟨k+1,_,rfl,rfl,⟨by omega,by rw [hs];(try dsimp only);omega⟩,by omega⟩
 ·replace c0:=nq c0
  have hkx:k=x.length:=by omega
  rw [hkx,List.take_length] at hz
  refine ⟨?_,trivial⟩
  ·rw [hz];rfl
end Go.Proofs.YtokkjaflmcjlhaaGreat
