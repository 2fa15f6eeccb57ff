/-
  Contracts and plain laws, joined: part 6.
-/
import Derived.Test.YtdfebigfnjfgpaaQE4
import Derived.Test.YtdfebigfnjfgpaaQE3
namespace Go.Proofs.Ytdfebigfnjfgpaa
open Go.ChangeShapes Go.WideShapes Go.ChangeAt Go.RowKit
set_option linter.unusedVariables false
set_option linter.unusedSimpArgs false
set_option maxRecDepth 100000
set_option maxHeartbeats 4000000
abbrev fV (x:List Int) (m:Int):List AV × List (Nat × Rs) × AV × List (Nat × Rs):=([.own 0,vI m],[(0,.arr 3 1 true (x.map aD))],vI (m+((aZ x:Nat):Int)),[(0,.arr 3 1 true ((dP m x).map aD))])
abbrev lZ (x:List Int) (m:Int):Prop:=uP Try.prog 24 (fV x m).1 (fV x m).2.1 (fV x m).2.2.1 (fV x m).2.2.2
theorem vC (x:List Int) (m:Int) (h0:0≤m) (hm:m+5*((dC x:Nat):Int)≤4611686018427387904):lZ x m:=by
 refine rS gL cO Try.func24 (by kernel_rfl) (by kernel_rfl) (.loop (Nat × Int × (List Int)) (Q3 Nat Int (List Int)) [1,5,6,7,8,9,10,11,12,13,14,15,16,17] [0] (fun yy0=>[(5,vI (yy0.1:Int)),(1,vI yy0.2.1)]) (fun yy0=>[(0,some (.arr 3 1 true (yy0.2.2.map aD)))]) (fun yy0=>yy0.1≤x.length∧yy0.2.1=m+((bR fU (x.take yy0.1):Nat):Int)∧yy0.2.2=cG yL fU m x yy0.1) (fun yy0=>x.length - yy0.1) (fun yy0=> .len yy0.2.2.length<| .br (.len yy0.2.2.length<| .set Int aD yy0.2.2 (fun s4_4=>yy0.2.1) (fun s4_4=> .back [(0,0)])) (.fin [(0,0)]))) (p:=(∃(k:Nat) (z:Int) (r:List Int),(0:Int)=(k:Int)∧m=z∧x.map aD=r.map aD∧k≤x.length∧z=m+((bR fU (x.take k):Nat):Int)∧r=cG yL fU m x k)∧ ∀(k:Nat) (z:Int) (r:List Int),(k≤x.length∧z=m+((bR fU (x.take k):Nat):Int)∧r=cG yL fU m x k)→Lm aD r∧(((decide ((k:Int)<((r.length:Nat):Int)))=true→0≤(k:Int)∧Lm aD r∧(k:Int)<((r.length:Nat):Int)∧(r.map aD=r.map aD∧k<r.length∧ ∀s4_4,r[k]? =some s4_4→dZ (aD s4_4)=true∧0+1≤(aD s4_4).length∧(aD s4_4).take 0++[.int .i64 z]++(aD s4_4).drop (0+1)=aD z∧dV (z+(1:Int))∧dV ((k:Int)+(1:Int))∧ ∃(k' :Nat) (z' :Int) (r' :List Int),((k:Int)+(1:Int))=(k' :Int)∧(z+(1:Int))=z' ∧(r.set k z).map aD=r'.map aD∧(k' ≤x.length∧z' =m+((bR fU (x.take k'):Nat):Int)∧r' =cG yL fU m x k')∧x.length - k' <x.length - k))∧((decide ((k:Int)<((r.length:Nat):Int)))=false→z=(m+((aZ x:Nat):Int))∧r.map aD=(dP m x).map aD∧True))) (by kernel_rfl) ?_
 have hS:aZ x=bR fU x:=rfl
 have hC:dC x=x.length:=rfl
 refine ⟨⟨0,m,x,rfl,rfl,rfl,Nat.zero_le _,by simp [bR],(jS _ _ _ _).symm⟩,fun k z r ⟨hk,hz,hr⟩=>?_⟩
 have hrl:r.length=x.length:=by rw [hr];exact kM _ _ _ _ _ hk
 refine ⟨List.length_map _,fun c0=>?_,fun c0=>?_⟩
 ·replace c0:=yq c0
  obtain ⟨y,hy⟩:=iT (l:=x) (k:=k) (by omega)
  have hry:r[k]? =some y:=by rw [hr,kN _ _ _ _ _ (by omega)];exact hy
  have hs:=fG fU hy
  have hle:=jR fU x (k+1)
  have hA:bR fU (x.take k)≤5*k:=aDr (fun _=>by simp [fU]) x k hk
  have hle5:=dL x
  have hE:fU y=1:=rfl
  refine ⟨by omega,List.length_map _,by first | omega | (simp only [List.length_set];omega),rfl,by first | omega | (simp only [List.length_set];omega),fun s4_4 hs4_4=>⟨rfl,Nat.le_of_ble_eq_true rfl,rfl,?_⟩⟩
  obtain rfl:=(cF hry hs4_4).symm
  refine ⟨⟨by first | omega | (dsimp only;omega),by first | omega | (dsimp only;omega)⟩,⟨by first | omega | (dsimp only;omega),by first | omega | (dsimp only;omega)⟩,?_⟩
  exact ⟨k+1,_,_,rfl,rfl,rfl,⟨by omega,by rw [hs];(try dsimp only);omega,by subst hz hr;(try simp only [List.set_set]);exact kO _ _ _ _ _ _ hy⟩,by omega⟩
 ·replace c0:=nq c0
  have hkx:k=x.length:=by omega
  rw [hkx,List.take_length] at hz
  rw [hkx,jT] at hr
  refine ⟨?_,?_,trivial⟩
  ·first | (rw [hz];rfl) | (rw [hr];rfl) | (rw [hz,hS])
  ·first | (rw [hz];rfl) | (rw [hr];rfl) | (rw [hz,hS])
abbrev iJ (x:List (List Int)) (m:Int):List AV × List (Nat × Rs) × AV × List (Nat × Rs):=([.own 0,vI m],[(0,.arr 24 1 true (x.map aE))],vI (m+((cT x:Nat):Int)),[(0,.arr 24 1 true ((fA m x).map aE))])
abbrev rV (x:List (List Int)) (m:Int):Prop:=uP Try.prog 25 (iJ x m).1 (iJ x m).2.1 (iJ x m).2.2.1 (iJ x m).2.2.2
theorem aBt (x:List (List Int)) (m:Int) (h0:0≤m) (hm:m+5*((fQ x:Nat):Int)≤4611686018427387904):rV x m:=by
 refine rS gL cO Try.func25 (by kernel_rfl) (by kernel_rfl) (.loop (Nat × Int × (List (List Int))) (Q3 Nat Int (List (List Int))) [1,5,6,7,8,9,10,11,12,13,14,15,16,17] [0,1507] (fun yy0=>[(5,vI (yy0.1:Int)),(1,vI yy0.2.1)]) (fun yy0=>[(0,some (.arr 24 1 true (yy0.2.2.map aE)))]) (fun yy0=>yy0.1≤x.length∧yy0.2.1=m+((bR aZ (x.take yy0.1):Nat):Int)∧yy0.2.2=cG dP aZ m x yy0.1) (fun yy0=>x.length - yy0.1) (fun yy0=> .len yy0.2.2.length<| .br (.split 4 0 yy0.1 0 1507 (List Int) aE yy0.2.2 (fun b1507=> .len yy0.2.2.length<| lL (fV b1507 yy0.2.1) [(0,1507)]<| .join 3 0 1507 (List Int) aE yy0.2.2 (fun a1507=>dP yy0.2.1 b1507) (fun a1507=> .back [(0,0)]))) (.fin [(0,0)]))) (p:=(∃(k:Nat) (z:Int) (r:List (List Int)),(0:Int)=(k:Int)∧m=z∧x.map aE=r.map aE∧k≤x.length∧z=m+((bR aZ (x.take k):Nat):Int)∧r=cG dP aZ m x k)∧ ∀(k:Nat) (z:Int) (r:List (List Int)),(k≤x.length∧z=m+((bR aZ (x.take k):Nat):Int)∧r=cG dP aZ m x k)→Lm aE r∧(((decide ((k:Int)<((r.length:Nat):Int)))=true→r.map aE=r.map aE∧k<r.length∧ ∀b1507,r[k]? =some b1507→0≤(k:Int)∧Lm aE r∧(k:Int)<((r.length:Nat):Int)∧(k=k∧(lZ b1507 z∧z=z∧b1507.map aD=b1507.map aD∧(r.map aE=r.map aE∧k<r.length∧ ∀a1507,r[k]? =some a1507→((aE a1507).take 0++ .sl 3 1 ((dP z b1507).map aD)::(aE a1507).drop (0+1)=aE (dP z b1507))∧dV ((k:Int)+(1:Int))∧ ∃(k' :Nat) (z' :Int) (r' :List (List Int)),((k:Int)+(1:Int))=(k' :Int)∧(z+((aZ b1507:Nat):Int))=z' ∧(r.set k (dP z b1507)).map aE=r'.map aE∧(k' ≤x.length∧z' =m+((bR aZ (x.take k'):Nat):Int)∧r' =cG dP aZ m x k')∧x.length - k' <x.length - k))))∧((decide ((k:Int)<((r.length:Nat):Int)))=false→z=(m+((cT x:Nat):Int))∧r.map aE=(fA m x).map aE∧True))) (by kernel_rfl) ?_
 have hS:cT x=bR aZ x:=rfl
 have hC:fQ x=x.length+bR dC x:=rfl
 refine ⟨⟨0,m,x,rfl,rfl,rfl,Nat.zero_le _,by simp [bR],(jS _ _ _ _).symm⟩,fun k z r ⟨hk,hz,hr⟩=>?_⟩
 have hrl:r.length=x.length:=by rw [hr];exact kM _ _ _ _ _ hk
 refine ⟨List.length_map _,fun c0=>?_,fun c0=>?_⟩
 ·replace c0:=yq c0
  obtain ⟨y,hy⟩:=iT (l:=x) (k:=k) (by omega)
  have hry:r[k]? =some y:=by rw [hr,kN _ _ _ _ _ (by omega)];exact hy
  have hs:=fG aZ hy
  have hle:=jR aZ x (k+1)
  have hA:bR aZ (x.take k)≤5*(k+bR dC (x.take k)):=aEO (s:=aZ) (c:=dC) (fun y=>by have:=dL y;omega) x k hk
  have hB:=fG dC hy
  have hD:=jR dC x (k+1)
  have hle5:=jN x
  have hy5:=dL y
  refine ⟨rfl,by first | omega | (simp only [List.length_set];omega),fun b1507 hb1507=>?_⟩
  obtain rfl:=(cF hry hb1507).symm
  refine ⟨by omega,List.length_map _,by first | omega | (simp only [List.length_set];omega),rfl,vC _ _ (by omega) (by first | omega | (dsimp only;omega)),rfl,rfl,rfl,by first | omega | (simp only [List.length_set];omega),fun a1507 ha1507=>⟨rfl,?_⟩⟩
  obtain rfl:=(cF hry ha1507).symm
  refine ⟨⟨by first | omega | (dsimp only;omega),by first | omega | (dsimp only;omega)⟩,?_⟩
  exact ⟨k+1,_,_,rfl,rfl,rfl,⟨by omega,by rw [hs,hz];unfold aZ;omega,by subst hz hr;(try simp only [List.set_set]);exact kO _ _ _ _ _ _ hy⟩,by omega⟩
 ·replace c0:=nq c0
  have hkx:k=x.length:=by omega
  rw [hkx,List.take_length] at hz
  rw [hkx,jT] at hr
  refine ⟨?_,?_,trivial⟩
  ·first | (rw [hz];rfl) | (rw [hr];rfl) | (rw [hz,hS])
  ·first | (rw [hz];rfl) | (rw [hr];rfl) | (rw [hz,hS])
abbrev cQ (x:List SizeConstraintD) (m:Int):List AV × List (Nat × Rs) × AV × List (Nat × Rs):=([.own 0,vI m],[(0,.arr 41 3 true (x.map aA))],vI (m+((dN x:Nat):Int)),[(0,.arr 41 3 true ((jO m x).map aA))])
abbrev gO (x:List SizeConstraintD) (m:Int):Prop:=uP Try.prog 10 (cQ x m).1 (cQ x m).2.1 (cQ x m).2.2.1 (cQ x m).2.2.2
theorem mT (x:List SizeConstraintD) (m:Int) (h0:0≤m) (hm:m+5*((aY x:Nat):Int)≤4611686018427387904):gO x m:=by
 refine rS gL cO Try.func10 (by kernel_rfl) (by kernel_rfl) (.loop (Nat × Int × (List SizeConstraintD)) (Q3 Nat Int (List SizeConstraintD)) [1,5,6,7,8,9,10,11,12,13,14,15,16,17,18,19,20,21,22,23,24,25,26,27,28,29,30,31,32] [0] (fun yy0=>[(5,vI (yy0.1:Int)),(1,vI yy0.2.1)]) (fun yy0=>[(0,some (.arr 41 3 true (yy0.2.2.map aA)))]) (fun yy0=>yy0.1≤x.length∧yy0.2.1=m+((bR aP (x.take yy0.1):Nat):Int)∧yy0.2.2=cG dM aP m x yy0.1) (fun yy0=>x.length - yy0.1) (fun yy0=> .len yy0.2.2.length<| .br (.len yy0.2.2.length<| .set SizeConstraintD aA yy0.2.2 (fun s4_5=>(⟨yy0.2.1,s4_5.dst,s4_5.bits⟩:SizeConstraintD)) (fun s4_5=> .len ((yy0.2.2.set yy0.1 (⟨yy0.2.1,s4_5.dst,s4_5.bits⟩:SizeConstraintD)).length)<| .set SizeConstraintD aA (yy0.2.2.set yy0.1 (⟨yy0.2.1,s4_5.dst,s4_5.bits⟩:SizeConstraintD)) (fun s6_5=>(⟨s6_5.src,yy0.2.1+(1:Int),s6_5.bits⟩:SizeConstraintD)) (fun s6_5=> .len (((yy0.2.2.set yy0.1 (⟨yy0.2.1,s4_5.dst,s4_5.bits⟩:SizeConstraintD)).set yy0.1 (⟨s6_5.src,yy0.2.1+(1:Int),s6_5.bits⟩:SizeConstraintD)).length)<| .set SizeConstraintD aA ((yy0.2.2.set yy0.1 (⟨yy0.2.1,s4_5.dst,s4_5.bits⟩:SizeConstraintD)).set yy0.1 (⟨s6_5.src,yy0.2.1+(1:Int),s6_5.bits⟩:SizeConstraintD)) (fun s8_5=>(⟨s8_5.src,s8_5.dst,(yy0.2.1+(1:Int))+(1:Int)⟩:SizeConstraintD)) (fun s8_5=> .back [(0,0)])))) (.fin [(0,0)]))) (p:=(∃(k:Nat) (z:Int) (r:List SizeConstraintD),(0:Int)=(k:Int)∧m=z∧x.map aA=r.map aA∧k≤x.length∧z=m+((bR aP (x.take k):Nat):Int)∧r=cG dM aP m x k)∧ ∀(k:Nat) (z:Int) (r:List SizeConstraintD),(k≤x.length∧z=m+((bR aP (x.take k):Nat):Int)∧r=cG dM aP m x k)→Lm aA r∧(((decide ((k:Int)<((r.length:Nat):Int)))=true→0≤(k:Int)∧Lm aA r∧(k:Int)<((r.length:Nat):Int)∧(r.map aA=r.map aA∧k<r.length∧ ∀s4_5,r[k]? =some s4_5→dZ (aA s4_5)=true∧0+1≤(aA s4_5).length∧(aA s4_5).take 0++[.int .i64 z]++(aA s4_5).drop (0+1)=aA (⟨z,s4_5.dst,s4_5.bits⟩:SizeConstraintD)∧(dV (z+(1:Int))∧(0≤(k:Int)∧Lm aA (r.set k (⟨z,s4_5.dst,s4_5.bits⟩:SizeConstraintD))∧(k:Int)<(((r.set k (⟨z,s4_5.dst,s4_5.bits⟩:SizeConstraintD)).length:Nat):Int)∧((r.set k (⟨z,s4_5.dst,s4_5.bits⟩:SizeConstraintD)).map aA=(r.set k (⟨z,s4_5.dst,s4_5.bits⟩:SizeConstraintD)).map aA∧k<(r.set k (⟨z,s4_5.dst,s4_5.bits⟩:SizeConstraintD)).length∧ ∀s6_5,(r.set k (⟨z,s4_5.dst,s4_5.bits⟩:SizeConstraintD))[k]? =some s6_5→dZ (aA s6_5)=true∧1+1≤(aA s6_5).length∧(aA s6_5).take 1++[.int .i64 (z+(1:Int))]++(aA s6_5).drop (1+1)=aA (⟨s6_5.src,z+(1:Int),s6_5.bits⟩:SizeConstraintD)∧(dV ((z+(1:Int))+(1:Int))∧(0≤(k:Int)∧Lm aA ((r.set k (⟨z,s4_5.dst,s4_5.bits⟩:SizeConstraintD)).set k (⟨s6_5.src,z+(1:Int),s6_5.bits⟩:SizeConstraintD))∧(k:Int)<((((r.set k (⟨z,s4_5.dst,s4_5.bits⟩:SizeConstraintD)).set k (⟨s6_5.src,z+(1:Int),s6_5.bits⟩:SizeConstraintD)).length:Nat):Int)∧(((r.set k (⟨z,s4_5.dst,s4_5.bits⟩:SizeConstraintD)).set k (⟨s6_5.src,z+(1:Int),s6_5.bits⟩:SizeConstraintD)).map aA=((r.set k (⟨z,s4_5.dst,s4_5.bits⟩:SizeConstraintD)).set k (⟨s6_5.src,z+(1:Int),s6_5.bits⟩:SizeConstraintD)).map aA∧k<((r.set k (⟨z,s4_5.dst,s4_5.bits⟩:SizeConstraintD)).set k (⟨s6_5.src,z+(1:Int),s6_5.bits⟩:SizeConstraintD)).length∧ ∀s8_5,((r.set k (⟨z,s4_5.dst,s4_5.bits⟩:SizeConstraintD)).set k (⟨s6_5.src,z+(1:Int),s6_5.bits⟩:SizeConstraintD))[k]? =some s8_5→dZ (aA s8_5)=true∧2+1≤(aA s8_5).length∧(aA s8_5).take 2++[.int .i64 ((z+(1:Int))+(1:Int))]++(aA s8_5).drop (2+1)=aA (⟨s8_5.src,s8_5.dst,(z+(1:Int))+(1:Int)⟩:SizeConstraintD)∧dV (((z+(1:Int))+(1:Int))+(1:Int))∧dV ((k:Int)+(1:Int))∧ ∃(k' :Nat) (z' :Int) (r' :List SizeConstraintD),((k:Int)+(1:Int))=(k' :Int)∧(((z+(1:Int))+(1:Int))+(1:Int))=z' ∧(((r.set k (⟨z,s4_5.dst,s4_5.bits⟩:SizeConstraintD)).set k (⟨s6_5.src,z+(1:Int),s6_5.bits⟩:SizeConstraintD)).set k (⟨s8_5.src,s8_5.dst,(z+(1:Int))+(1:Int)⟩:SizeConstraintD)).map aA=r'.map aA∧(k' ≤x.length∧z' =m+((bR aP (x.take k'):Nat):Int)∧r' =cG dM aP m x k')∧x.length - k' <x.length - k))))))))∧((decide ((k:Int)<((r.length:Nat):Int)))=false→z=(m+((dN x:Nat):Int))∧r.map aA=(jO m x).map aA∧True))) (by kernel_rfl) ?_
 have hS:dN x=bR aP x:=rfl
 have hC:aY x=x.length:=rfl
 refine ⟨⟨0,m,x,rfl,rfl,rfl,Nat.zero_le _,by simp [bR],(jS _ _ _ _).symm⟩,fun k z r ⟨hk,hz,hr⟩=>?_⟩
 have hrl:r.length=x.length:=by rw [hr];exact kM _ _ _ _ _ hk
 refine ⟨List.length_map _,fun c0=>?_,fun c0=>?_⟩
 ·replace c0:=yq c0
  obtain ⟨y,hy⟩:=iT (l:=x) (k:=k) (by omega)
  have hry:r[k]? =some y:=by rw [hr,kN _ _ _ _ _ (by omega)];exact hy
  have hs:=fG aP hy
  have hle:=jR aP x (k+1)
  have hA:bR aP (x.take k)≤5*k:=aDr (fun y=>by have:=gU y;simpa [eO] using this) x k hk
  have hle5:=eF x
  have hE:aP y=1+1+1:=rfl
  refine ⟨by omega,List.length_map _,by first | omega | (simp only [List.length_set];omega),rfl,by first | omega | (simp only [List.length_set];omega),fun s4_5 hs4_5=>⟨rfl,Nat.le_of_ble_eq_true rfl,rfl,?_⟩⟩
  obtain rfl:=(cF hry hs4_5).symm
  refine ⟨⟨by first | omega | (dsimp only;omega),by first | omega | (dsimp only;omega)⟩,by omega,List.length_map _,by first | omega | (simp only [List.length_set];omega),rfl,by first | omega | (simp only [List.length_set];omega),fun s6_5 hs6_5=>⟨rfl,Nat.le_of_ble_eq_true rfl,rfl,?_⟩⟩
  obtain rfl:=aBr hs6_5
  refine ⟨⟨by first | omega | (dsimp only;omega),by first | omega | (dsimp only;omega)⟩,by omega,List.length_map _,by first | omega | (simp only [List.length_set];omega),rfl,by first | omega | (simp only [List.length_set];omega),fun s8_5 hs8_5=>⟨rfl,Nat.le_of_ble_eq_true rfl,rfl,?_⟩⟩
  obtain rfl:=aBr hs8_5
  refine ⟨⟨by first | omega | (dsimp only;omega),by first | omega | (dsimp only;omega)⟩,⟨by first | omega | (dsimp only;omega),by first | omega | (dsimp only;omega)⟩,?_⟩
  exact ⟨k+1,_,_,rfl,rfl,rfl,⟨by omega,by rw [hs];(try dsimp only);omega,by subst hz hr;(try simp only [List.set_set]);exact kO _ _ _ _ _ _ hy⟩,by omega⟩
 ·replace c0:=nq c0
  have hkx:k=x.length:=by omega
  rw [hkx,List.take_length] at hz
  rw [hkx,jT] at hr
  refine ⟨?_,?_,trivial⟩
  ·first | (rw [hz];rfl) | (rw [hr];rfl) | (rw [hz,hS])
  ·first | (rw [hz];rfl) | (rw [hr];rfl) | (rw [hz,hS])
abbrev fB (x:aQ) (m:Int):List AV × List (Nat × Rs) × AV × List (Nat × Rs):=([.agg [.own 0,.own 1,.own 2],vI m],[(0,.arr 3 1 true (x.objective.map aD)),(1,.arr 24 1 true (x.rows.map aE)),(2,.arr 3 1 true (x.limits.map aD))],vI (m+((bY x:Nat):Int)),[(0,.arr 3 1 true (((bN m x).objective).map aD)),(1,.arr 24 1 true (((bN m x).rows).map aE)),(2,.arr 3 1 true (((bN m x).limits).map aD))])
abbrev oE (x:aQ) (m:Int):Prop:=uP Try.prog 11 (fB x m).1 (fB x m).2.1 (fB x m).2.2.1 (fB x m).2.2.2
theorem yM (x:aQ) (m:Int) (h0:0≤m) (hm:m+5*((eZ x:Nat):Int)≤4611686018427387904):oE x m:=by
 refine rS gL cO Try.func11 (by kernel_rfl) (by kernel_rfl) (lL (fV x.objective m) [(0,0)]<| lL (iJ x.rows (m+((aZ x.objective:Nat):Int))) [(0,1)]<| lL (fV x.limits ((m+((aZ x.objective:Nat):Int))+((cT x.rows:Nat):Int))) [(0,2)]<| .fin [(0,0),(1,1),(2,2)]) (p:=lZ x.objective m∧m=m∧x.objective.map aD=x.objective.map aD∧rV x.rows (m+((aZ x.objective:Nat):Int))∧(m+((aZ x.objective:Nat):Int))=(m+((aZ x.objective:Nat):Int))∧x.rows.map aE=x.rows.map aE∧lZ x.limits ((m+((aZ x.objective:Nat):Int))+((cT x.rows:Nat):Int))∧((m+((aZ x.objective:Nat):Int))+((cT x.rows:Nat):Int))=((m+((aZ x.objective:Nat):Int))+((cT x.rows:Nat):Int))∧x.limits.map aD=x.limits.map aD∧(((m+((aZ x.objective:Nat):Int))+((cT x.rows:Nat):Int))+((aZ x.limits:Nat):Int))=(m+((bY x:Nat):Int))∧(dP m x.objective).map aD=((bN m x).objective).map aD∧(fA (m+((aZ x.objective:Nat):Int)) x.rows).map aE=((bN m x).rows).map aE∧(dP ((m+((aZ x.objective:Nat):Int))+((cT x.rows:Nat):Int)) x.limits).map aD=((bN m x).limits).map aD∧True) (by kernel_rfl) ?_
 have hS:bY x=aZ x.objective+cT x.rows+aZ x.limits:=rfl
 have hC:eZ x=dC x.objective+fQ x.rows+dC x.limits:=rfl
 have:=dL x.objective
 have:=jN x.rows
 have:=dL x.limits
 refine ⟨vC _ _ (by omega) (by first | omega | (dsimp only;omega)),rfl,rfl,aBt _ _ (by omega) (by first | omega | (dsimp only;omega)),rfl,rfl,vC _ _ (by omega) (by first | omega | (dsimp only;omega)),rfl,rfl,?_,?_,?_,?_,trivial⟩
 ·first | rfl | (rw [hS];omega)
 ·first | rfl | (rw [hS];omega)
 ·first | rfl | (rw [hS];omega)
 ·first | rfl | (rw [hS];omega)
abbrev aAe (x:List Int) (m:Int):Prop:=jP Try.prog 26 [.one (.sl 3 1 ((dP m x).map aD)),.one (.int .i64 m)] (vI (m+((aZ x:Nat):Int))) []
theorem vD (x:List Int) (m:Int) (h0:0≤m) (hm:m+5*((dC x:Nat):Int)≤4611686018427387904):aAe x m:=by
 refine eM gL cO Try.func26 (by kernel_rfl) (.loop (Nat × Int) (Q2 Nat Int) [1,5,6,7,8,9,10,11,12,13,14,15,16,17,18,19] [] (fun yy0=>[(5,vI (yy0.1:Int)),(1,vI yy0.2)]) (fun yy0=>[]) (fun yy0=>yy0.1≤x.length∧yy0.2=m+((bR fU (x.take yy0.1):Nat):Int)) (fun yy0=>x.length - yy0.1) (fun yy0=> .len ((dP m x).length)<| .br (.elem _ aD (dP m x) (fun e14=> .no<| .back [])) (.fin []))) (p:=((dP m x).map aD).length≤9223372036854775807→(∃(k:Nat) (z:Int),(0:Int)=(k:Int)∧m=z∧k≤x.length∧z=m+((bR fU (x.take k):Nat):Int))∧ ∀(k:Nat) (z:Int),(k≤x.length∧z=m+((bR fU (x.take k):Nat):Int))→Lm aD (dP m x)∧(((decide ((k:Int)<(((dP m x).length:Nat):Int)))=true→0≤(k:Int)∧Em aD (dP m x) k fun e14=>(!(decide (e14=z)))=false∧dV (z+(1:Int))∧dV ((k:Int)+(1:Int))∧ ∃(k' :Nat) (z' :Int),((k:Int)+(1:Int))=(k' :Int)∧(z+(1:Int))=z' ∧(k' ≤x.length∧z' =m+((bR fU (x.take k'):Nat):Int))∧x.length - k' <x.length - k)∧((decide ((k:Int)<(((dP m x).length:Nat):Int)))=false→z=(m+((aZ x:Nat):Int))∧True))) (by kernel_rfl) ?_
 intro n0
 simp only [List.length_map] at n0
 have hS:aZ x=bR fU x:=rfl
 have hC:dC x=x.length:=rfl
 have hlen:(dP m x).length=x.length:=eR _ _ _ _
 refine ⟨⟨0,m,rfl,rfl,Nat.zero_le _,by simp [bR]⟩,fun k z ⟨hk,hz⟩=>?_⟩
 refine ⟨List.length_map _,fun c0=>?_,fun c0=>?_⟩
 ·replace c0:=yq c0
  obtain ⟨y,hy⟩:=iT (l:=x) (k:=k) (by omega)
  have hY:(dP m x)[k]? =some (yL z y):=by rw [hz];exact nC _ _ x m k y hy
  have hs:=fG fU hy
  have hle:=jR fU x (k+1)
  have hA:bR fU (x.take k)≤5*k:=aDr (fun _=>by simp [fU]) x k hk
  have hle5:=dL x
  have hE:fU y=1:=rfl
  refine ⟨by omega,rfl,by omega,fun e14 h14=>?_⟩
  obtain rfl:=(cF hY h14).symm
  refine ⟨by simp [yL],⟨by omega,by omega⟩,⟨by omega,by omega⟩,?_⟩
  exact ⟨k+1,_,rfl,rfl,⟨by omega,by rw [hs];(try dsimp only);omega⟩,by omega⟩
 ·replace c0:=nq c0
  have hkx:k=x.length:=by omega
  rw [hkx,List.take_length] at hz
  refine ⟨?_,trivial⟩
  ·rw [hz];rfl
abbrev yN (x:List (List Int)) (m:Int):Prop:=jP Try.prog 27 [.one (.sl 24 1 ((fA m x).map aE)),.one (.int .i64 m)] (vI (m+((cT x:Nat):Int))) []
theorem aBu (x:List (List Int)) (m:Int) (h0:0≤m) (hm:m+5*((fQ x:Nat):Int)≤4611686018427387904):yN x m:=by
 refine eM gL cO Try.func27 (by kernel_rfl) (.loop (Nat × Int) (Q2 Nat Int) [1,5,6,7,8,9,10,11,12,13,14,15,16,17,18,19] [] (fun yy0=>[(5,vI (yy0.1:Int)),(1,vI yy0.2)]) (fun yy0=>[]) (fun yy0=>yy0.1≤x.length∧yy0.2=m+((bR aZ (x.take yy0.1):Nat):Int)) (fun yy0=>x.length - yy0.1) (fun yy0=> .len ((fA m x).length)<| .br (.elem _ aE (fA m x) (fun e14=> .call (vI (yy0.2+((aZ (x.getD yy0.1 ([]:List Int)):Nat):Int))) []<| .no<| .back [])) (.fin []))) (p:=((fA m x).map aE).length≤9223372036854775807→(∃(k:Nat) (z:Int),(0:Int)=(k:Int)∧m=z∧k≤x.length∧z=m+((bR aZ (x.take k):Nat):Int))∧ ∀(k:Nat) (z:Int),(k≤x.length∧z=m+((bR aZ (x.take k):Nat):Int))→Lm aE (fA m x)∧(((decide ((k:Int)<(((fA m x).length:Nat):Int)))=true→0≤(k:Int)∧Em aE (fA m x) k fun e14=>jP Try.prog 26 [.one (.sl 3 1 (e14.map aD)),.one (.int .i64 z)] (vI (z+((aZ (x.getD k ([]:List Int)):Nat):Int))) []∧(decide ((z+((aZ (x.getD k ([]:List Int)):Nat):Int))<(0:Int)))=false∧dV ((k:Int)+(1:Int))∧ ∃(k' :Nat) (z' :Int),((k:Int)+(1:Int))=(k' :Int)∧(z+((aZ (x.getD k ([]:List Int)):Nat):Int))=z' ∧(k' ≤x.length∧z' =m+((bR aZ (x.take k'):Nat):Int))∧x.length - k' <x.length - k)∧((decide ((k:Int)<(((fA m x).length:Nat):Int)))=false→z=(m+((cT x:Nat):Int))∧True))) (by kernel_rfl) ?_
 intro n0
 simp only [List.length_map] at n0
 have hS:cT x=bR aZ x:=rfl
 have hC:fQ x=x.length+bR dC x:=rfl
 have hlen:(fA m x).length=x.length:=eR _ _ _ _
 refine ⟨⟨0,m,rfl,rfl,Nat.zero_le _,by simp [bR]⟩,fun k z ⟨hk,hz⟩=>?_⟩
 refine ⟨List.length_map _,fun c0=>?_,fun c0=>?_⟩
 ·replace c0:=yq c0
  obtain ⟨y,hy⟩:=iT (l:=x) (k:=k) (by omega)
  have hY:(fA m x)[k]? =some (dP z y):=by rw [hz];exact nC _ _ x m k y hy
  have hs:=fG aZ hy
  have hle:=jR aZ x (k+1)
  have hA:bR aZ (x.take k)≤5*(k+bR dC (x.take k)):=aEO (s:=aZ) (c:=dC) (fun y=>by have:=dL y;omega) x k hk
  have hB:=fG dC hy
  have hD:=jR dC x (k+1)
  have hle5:=jN x
  have hy5:=dL y
  have hg:x.getD k ([]:List Int)=y:=by simp [List.getD_eq_getElem?_getD,hy]
  try rw [hg]
  refine ⟨by omega,rfl,by omega,fun e14 h14=>?_⟩
  obtain rfl:=(cF hY h14).symm
  refine ⟨vD _ _ (by omega) (by first | omega | (dsimp only;omega)),by simp;omega,⟨by omega,by omega⟩,?_⟩
  exact ⟨k+1,_,rfl,rfl,⟨by omega,by rw [hs,hz];omega⟩,by omega⟩
 ·replace c0:=nq c0
  have hkx:k=x.length:=by omega
  rw [hkx,List.take_length] at hz
  refine ⟨?_,trivial⟩
  ·rw [hz];rfl
abbrev vE (x:aQ) (m:Int):Prop:=jP Try.prog 12 [.agg [.sl 3 1 (((bN m x).objective).map aD),.sl 24 1 (((bN m x).rows).map aE),.sl 3 1 (((bN m x).limits).map aD)],.one (.int .i64 m)] (vI (m+((bY x:Nat):Int))) []
theorem rW (x:aQ) (m:Int) (h0:0≤m) (hm:m+5*((eZ x:Nat):Int)≤4611686018427387904):vE x m:=by
 refine eM gL cO Try.func12 (by kernel_rfl) (.call (vI (m+((aZ x.objective:Nat):Int))) []<| .no<| .call (vI ((m+((aZ x.objective:Nat):Int))+((cT x.rows:Nat):Int))) []<| .no<| .call (vI (((m+((aZ x.objective:Nat):Int))+((cT x.rows:Nat):Int))+((aZ x.limits:Nat):Int))) []<| .no<| .fin []) (p:=(((bN m x).objective).map aD).length≤9223372036854775807→(((bN m x).rows).map aE).length≤9223372036854775807→(((bN m x).limits).map aD).length≤9223372036854775807→jP Try.prog 26 [.one (.sl 3 1 (((bN m x).objective).map aD)),.one (.int .i64 m)] (vI (m+((aZ x.objective:Nat):Int))) []∧(decide ((m+((aZ x.objective:Nat):Int))<(0:Int)))=false∧jP Try.prog 27 [.one (.sl 24 1 (((bN m x).rows).map aE)),.one (.int .i64 (m+((aZ x.objective:Nat):Int)))] (vI ((m+((aZ x.objective:Nat):Int))+((cT x.rows:Nat):Int))) []∧(decide (((m+((aZ x.objective:Nat):Int))+((cT x.rows:Nat):Int))<(0:Int)))=false∧jP Try.prog 26 [.one (.sl 3 1 (((bN m x).limits).map aD)),.one (.int .i64 ((m+((aZ x.objective:Nat):Int))+((cT x.rows:Nat):Int)))] (vI (((m+((aZ x.objective:Nat):Int))+((cT x.rows:Nat):Int))+((aZ x.limits:Nat):Int))) []∧(decide ((((m+((aZ x.objective:Nat):Int))+((cT x.rows:Nat):Int))+((aZ x.limits:Nat):Int))<(0:Int)))=false∧(((m+((aZ x.objective:Nat):Int))+((cT x.rows:Nat):Int))+((aZ x.limits:Nat):Int))=(m+((bY x:Nat):Int))∧True) (by kernel_rfl) ?_
 intro n0 n1 n2
 simp only [List.length_map] at n0 n1 n2
 have hS:bY x=aZ x.objective+cT x.rows+aZ x.limits:=rfl
 have hC:eZ x=dC x.objective+fQ x.rows+dC x.limits:=rfl
 have:=dL x.objective
 have:=jN x.rows
 have:=dL x.limits
 refine ⟨vD _ _ (by omega) (by first | omega | (dsimp only;omega)),by simp;omega,aBu _ _ (by omega) (by first | omega | (dsimp only;omega)),by simp;omega,vD _ _ (by omega) (by first | omega | (dsimp only;omega)),by simp;omega,?_,trivial⟩
 ·first | rfl | (rw [hS];omega)
theorem rX (n:Int):fQ (kI n)≤1000:=by
 by_cases h:1≤n∧n≤4
 ·have:n=1∨n=2∨n=3∨n=4:=by omega
  rcases this with rfl | rfl | rfl | rfl<;>decide+kernel
 ·rw [kI,if_neg h];decide
def pB (n:Int) (c:SizeConstraintD):Bool:=decide (1≤c.dst∧c.dst≤(1:Int)*2^n.toNat - 1)&&(decide (0≤c.src)&&(decide (bI .and .i64 c.src c.dst=c.src)&&decide (¬c.src=c.dst)))
theorem aBv {n:Int} {c:SizeConstraintD} (h:pB n c=true):(1≤c.dst∧c.dst≤(1:Int)*2^n.toNat - 1)∧0≤c.src∧bI .and .i64 c.src c.dst=c.src∧ ¬c.src=c.dst:=by
 simpa only [pB,Bool.and_eq_true,decide_eq_true_eq] using h
theorem yO {n:Int} {c:SizeConstraintD} (h:(1≤c.dst∧c.dst≤(1:Int)*2^n.toNat - 1)∧0≤c.src∧bI .and .i64 c.src c.dst=c.src∧ ¬c.src=c.dst):pB n c=true:=by
 simpa only [pB,Bool.and_eq_true,decide_eq_true_eq] using h
theorem jZ {n:Int} {c:SizeConstraintD} (h: ¬((1≤c.dst∧c.dst≤(1:Int)*2^n.toNat - 1)∧0≤c.src∧bI .and .i64 c.src c.dst=c.src∧ ¬c.src=c.dst)):pB n c=false:=by
 cases e:pB n c with
 | false=>rfl
 | true=>exact absurd (aBv e) h
theorem mU {a c:Int} (h0:0≤a) (hc:0≤c) (ha:a≤9223372036854775807) (hc2:c≤9223372036854775807):bI .and .i64 a c≤c:=by
 obtain ⟨m,rfl⟩:=Int.eq_ofNat_of_zero_le h0
 obtain ⟨k,rfl⟩:=Int.eq_ofNat_of_zero_le hc
 have e1:(BitVec.ofInt 64 (m:Int)).toNat=m:=by simp;omega
 have e2:(BitVec.ofInt 64 (k:Int)).toNat=k:=by simp;omega
 have hle:m&&&k≤k:=Nat.and_le_right
 unfold bI
 show IntKind.i64.wrap ((BitVec.ofInt 64 (m:Int)&&&BitVec.ofInt 64 (k:Int)).toNat:Nat)≤_
 rw [BitVec.toNat_and,e1,e2,IntWalk.i64_in _ ⟨by omega,by omega⟩]
 omega
def fC (n:Int) (c:SizeConstraintD):List Int:=bQ (bE n) [c.dst] [c.src]
def aL (n:Int) (l:List SizeConstraintD):aQ:=⟨bQ (bE n) [bE n] [],bD n++l.map (fC n),List.replicate (bD n).length 0++l.map (·.bits)⟩
def aV (l:List SizeConstraintD) (n:Int):aQ × Bool:=if (1≤n∧n≤4)∧l.all (pB n)=true∧bK (aL n l)=true then (aL n l,true) else (iH,false)
theorem xE {l:List SizeConstraintD} {n:Int} (h1:1≤n∧n≤4) (h2:l.all (pB n)=true) (h3:bK (aL n l)=true):aV l n=(aL n l,true):=by rw [aV,if_pos ⟨h1,h2,h3⟩]
theorem aS {l:List SizeConstraintD} {n:Int} (h1: ¬(1≤n∧n≤4)):aV l n=(iH,false):=by rw [aV,if_neg (fun h=>h1 h.1)]
theorem aT {l:List SizeConstraintD} {n:Int} {k:Nat} {c:SizeConstraintD} (h:l[k]? =some c) (hc:pB n c=false):aV l n=(iH,false):=by
 rw [aV,if_neg (fun q=>by have:=mZ h hc;rw [q.2.1] at this;cases this)]
theorem yP {l:List SizeConstraintD} {n:Int} (h:bK (aL n l)=false):aV l n=(iH,false):=by
 rw [aV,if_neg (fun q=>by rw [q.2.2] at h;cases h)]
theorem aG {l:List SizeConstraintD} {n:Int} (h:64<l.length):aV l n=(iH,false):=yP (bO (fun q=>by
 have:(aL n l).rows.length=(bD n).length+l.length:=by simp [aL]
 omega))
theorem aBw (al:Int) (p m:List Int):(bQ al p m).length=al.toNat:=by
 have h: ∀(v:Int) (q:List Int) (r:List Int),(q.foldl (fD v) r).length=r.length:=by
  intro v q
  induction q with
  | nil=>intro r;rfl
  | cons s q ih=>
    intro r
    rw [List.foldl_cons,ih]
    unfold fD
    split
    ·simp
    ·rfl
 rw [bQ,h,h,List.length_replicate]
theorem rY {n:Int} {c:SizeConstraintD} (hd:0<c.dst) (hs:0<c.src):fC n c=((List.replicate (bE n).toNat (0:Int)).set (c.dst - 1).toNat 1).set (c.src - 1).toNat (-1):=by
 show fD (-1) (fD 1 _ c.dst) c.src=_
 rw [gN hd,gN hs]
theorem rZ {n:Int} {c:SizeConstraintD} (hd:0<c.dst) (hs: ¬0<c.src):fC n c=(List.replicate (bE n).toNat (0:Int)).set (c.dst - 1).toNat 1:=by
 show fD (-1) (fD 1 _ c.dst) c.src=_
 rw [gN hd,oB hs]
theorem bM {n:Int} (h:0<bE n):bQ (bE n) [bE n] []=(List.replicate (bE n).toNat (0:Int)).set (bE n - 1).toNat 1:=by
 show fD 1 _ (bE n)=_
 rw [gN h]
theorem uA (n:Int):(bD n).length≤1000:=by
 have h:=rX n
 have h2:=yJ (kI n)
 rw [←uY];omega
theorem sA {α:Type} {ct:α→Nat} {m:Nat}: ∀{l:List α},(∀x∈l,ct x≤m)→bR ct l≤l.length*m
 | [],_=>by simp [bR]
 | a::l,h=>by
   have h1:=h a (by simp)
   have h2:=sA (l:=l) fun x hx=>h x (by simp [hx])
   simp only [bR,List.map_cons,List.sum_cons,List.length_cons,Nat.add_mul,Nat.one_mul] at*
   omega
theorem vF {p:aQ} (h:bK p=true):eZ p≤2000:=by
 obtain ⟨h1,h2,h3,h4,h5⟩:=yK h
 have hs:bR dC p.rows≤p.rows.length*15:=sA fun r hr=>by
  have:=(h4 r (by simp [hr])).1
  have e:dC r=r.length:=rfl
  omega
 have e1:eZ p=dC p.objective+fQ p.rows+dC p.limits:=rfl
 have e2:dC p.objective=p.objective.length:=rfl
 have e3:dC p.limits=p.limits.length:=rfl
 have e4:fQ p.rows=p.rows.length+bR dC p.rows:=rfl
 omega
theorem yQ (l:List SizeConstraintD) (n:Int):eZ (aV l n).1≤2000:=by
 unfold aV
 split
 ·rename_i h;exact vF h.2.2
 ·decide
theorem aBx {n:Int} {l:List SizeConstraintD} (hn:1≤n∧n≤4): ∀r∈bD n++l.map (fC n),r.length≤1048576:=by
 intro r hr
 rcases List.mem_append.1 hr with h | h
 ·have h1:=rX n
  rw [uY] at h1
  obtain ⟨k,hk⟩:=List.getElem?_of_mem h
  have h2:=aA9 hk
  have e:dC r=r.length:=rfl
  omega
 ·obtain ⟨c,_,rfl⟩:=List.mem_map.1 h
  rw [fC,aBw]
  obtain ⟨b1,b2,b3⟩:=lY hn
  have hal:bE n=(1:Int)*2^n.toNat - 1:=rfl
  omega
end Go.Proofs.Ytdfebigfnjfgpaa
