/-
  Contracts and plain laws, joined: part 16.
-/
import Derived.Test.YtokkjaflmcjlhaaGreatQU14
namespace Go.Proofs.YtokkjaflmcjlhaaGreat
open Go.ChangeShapes Go.WideShapes Go.ChangeAt Go.RowKit
set_option linter.unusedVariables false
set_option linter.unusedSimpArgs false
set_option maxRecDepth 100000
set_option maxHeartbeats 4000000
abbrev kR (x:List Int) (m:Int):List AV × List (Nat × Rs) × AV × List (Nat × Rs):=([.own 0,vI m],[(0,.arr 3 1 true (x.map intD))],vI (m+((bS x:Nat):Int)),[(0,.arr 3 1 true ((cW m x).map intD))])
abbrev pN (x:List Int) (m:Int):Prop:=mW Tryz.prog 48 (kR x m).1 (kR x m).2.1 (kR x m).2.2.1 (kR x m).2.2.2
theorem aBG (x:List Int) (m:Int) (h0:0≤m) (hm:m+5*((bZ x:Nat):Int)≤4611686018427387904):pN x m:=by
 refine qD bR aT Tryz.func48 (by kernel_rfl) (by kernel_rfl) (.loop (Nat × Int × (List Int)) (Q3 Nat Int (List Int)) [1,5,6,7,8,9,10,11,12,13,14,15,16,17] [0] (fun yy0=>[(5,vI (yy0.1:Int)),(1,vI yy0.2.1)]) (fun yy0=>[(0,some (.arr 3 1 true (yy0.2.2.map intD)))]) (fun yy0=>yy0.1≤x.length∧yy0.2.1=m+((bB nG (x.take yy0.1):Nat):Int)∧yy0.2.2=dA aJT nG m x yy0.1) (fun yy0=>x.length - yy0.1) (fun yy0=> .len yy0.2.2.length<| .br (.len yy0.2.2.length<| .set Int intD yy0.2.2 (fun s4_4=>yy0.2.1) (fun s4_4=> .back [(0,0)])) (.fin [(0,0)]))) (p:=(∃(k:Nat) (z:Int) (r:List Int),(0:Int)=(k:Int)∧m=z∧x.map intD=r.map intD∧k≤x.length∧z=m+((bB nG (x.take k):Nat):Int)∧r=dA aJT nG m x k)∧ ∀(k:Nat) (z:Int) (r:List Int),(k≤x.length∧z=m+((bB nG (x.take k):Nat):Int)∧r=dA aJT nG m x k)→Lm intD r∧(((decide ((k:Int)<((r.length:Nat):Int)))=true→0≤(k:Int)∧Lm intD r∧(k:Int)<((r.length:Nat):Int)∧(r.map intD=r.map intD∧k<r.length∧ ∀s4_4,r[k]? =some s4_4→fG (intD s4_4)=true∧0+1≤(intD s4_4).length∧(intD s4_4).take 0++[.int .i64 z]++(intD s4_4).drop (0+1)=intD z∧dO (z+(1:Int))∧dO ((k:Int)+(1:Int))∧ ∃(k' :Nat) (z' :Int) (r' :List Int),((k:Int)+(1:Int))=(k' :Int)∧(z+(1:Int))=z' ∧(r.set k z).map intD=r'.map intD∧(k' ≤x.length∧z' =m+((bB nG (x.take k'):Nat):Int)∧r' =dA aJT nG m x k')∧x.length - k' <x.length - k))∧((decide ((k:Int)<((r.length:Nat):Int)))=false→z=(m+((bS x:Nat):Int))∧r.map intD=(cW m x).map intD∧True))) (by kernel_rfl) ?_
 have hS:bS x=bB nG x:=rfl
 have hC:bZ x=x.length:=rfl
 refine ⟨⟨0,m,x,rfl,rfl,rfl,Nat.zero_le _,by simp [bB],(iD _ _ _ _).symm⟩,fun k z r ⟨hk,hz,hr⟩=>?_⟩
 have hrl:r.length=x.length:=by rw [hr];exact jB _ _ _ _ _ hk
 refine ⟨List.length_map _,fun c0=>?_,fun c0=>?_⟩
 ·replace c0:=yq c0
  obtain ⟨y,hy⟩:=cE (l:=x) (k:=k) (by omega)
  have hry:r[k]? =some y:=by rw [hr,jC _ _ _ _ _ (by omega)];exact hy
  have hs:=bX nG hy
  have hle:=dX nG x (k+1)
  have hA:bB nG (x.take k)≤5*k:=aPm (fun _=>by simp [nG]) x k hk
  have hle5:=fU x
  have hE:nG y=1:=rfl
  refine ⟨by omega,List.length_map _,by first | omega | (simp only [List.length_set];omega),rfl,by first | omega | (simp only [List.length_set];omega),fun s4_4 hs4_4=>⟨rfl,Nat.le_of_ble_eq_true rfl,rfl,?_⟩⟩
  obtain rfl:=(aV hry hs4_4).symm
  refine ⟨⟨by first | omega | (dsimp only;omega),by first | omega | (dsimp only;omega)⟩,⟨by first | omega | (dsimp only;omega),by first | omega | (dsimp only;omega)⟩,?_⟩
  exact ⟨k+1,_,_,rfl,rfl,rfl,⟨by omega,by rw [hs];(try dsimp only);omega,by subst hz hr;(try simp only [List.set_set]);exact jD _ _ _ _ _ _ hy⟩,by omega⟩
 ·replace c0:=nq c0
  have hkx:k=x.length:=by omega
  rw [hkx,List.take_length] at hz
  rw [hkx,iE] at hr
  refine ⟨?_,?_,trivial⟩
  ·first | (rw [hz];rfl) | (rw [hr];rfl) | (rw [hz,hS])
  ·first | (rw [hz];rfl) | (rw [hr];rfl) | (rw [hz,hS])
abbrev nH (x:List (List Int)) (m:Int):List AV × List (Nat × Rs) × AV × List (Nat × Rs):=([.own 0,vI m],[(0,.arr 32 1 true (x.map aF))],vI (m+((eM x:Nat):Int)),[(0,.arr 32 1 true ((eR m x).map aF))])
abbrev aAM (x:List (List Int)) (m:Int):Prop:=mW Tryz.prog 239 (nH x m).1 (nH x m).2.1 (nH x m).2.2.1 (nH x m).2.2.2
theorem aIU (x:List (List Int)) (m:Int) (h0:0≤m) (hm:m+5*((cP x:Nat):Int)≤4611686018427387904):aAM x m:=by
 refine qD bR aT Tryz.func239 (by kernel_rfl) (by kernel_rfl) (.loop (Nat × Int × (List (List Int))) (Q3 Nat Int (List (List Int))) [1,5,6,7,8,9,10,11,12,13,14,15,16,17] [0,1507] (fun yy0=>[(5,vI (yy0.1:Int)),(1,vI yy0.2.1)]) (fun yy0=>[(0,some (.arr 32 1 true (yy0.2.2.map aF)))]) (fun yy0=>yy0.1≤x.length∧yy0.2.1=m+((bB bS (x.take yy0.1):Nat):Int)∧yy0.2.2=dA cW bS m x yy0.1) (fun yy0=>x.length - yy0.1) (fun yy0=> .len yy0.2.2.length<| .br (.split 4 0 yy0.1 0 1507 (List Int) aF yy0.2.2 (fun b1507=> .len yy0.2.2.length<| kD (kR b1507 yy0.2.1) [(0,1507)]<| .join 3 0 1507 (List Int) aF yy0.2.2 (fun a1507=>cW yy0.2.1 b1507) (fun a1507=> .back [(0,0)]))) (.fin [(0,0)]))) (p:=(∃(k:Nat) (z:Int) (r:List (List Int)),(0:Int)=(k:Int)∧m=z∧x.map aF=r.map aF∧k≤x.length∧z=m+((bB bS (x.take k):Nat):Int)∧r=dA cW bS m x k)∧ ∀(k:Nat) (z:Int) (r:List (List Int)),(k≤x.length∧z=m+((bB bS (x.take k):Nat):Int)∧r=dA cW bS m x k)→Lm aF r∧(((decide ((k:Int)<((r.length:Nat):Int)))=true→r.map aF=r.map aF∧k<r.length∧ ∀b1507,r[k]? =some b1507→0≤(k:Int)∧Lm aF r∧(k:Int)<((r.length:Nat):Int)∧(k=k∧(pN b1507 z∧z=z∧b1507.map intD=b1507.map intD∧(r.map aF=r.map aF∧k<r.length∧ ∀a1507,r[k]? =some a1507→((aF a1507).take 0++ .sl 3 1 ((cW z b1507).map intD)::(aF a1507).drop (0+1)=aF (cW z b1507))∧dO ((k:Int)+(1:Int))∧ ∃(k' :Nat) (z' :Int) (r' :List (List Int)),((k:Int)+(1:Int))=(k' :Int)∧(z+((bS b1507:Nat):Int))=z' ∧(r.set k (cW z b1507)).map aF=r'.map aF∧(k' ≤x.length∧z' =m+((bB bS (x.take k'):Nat):Int)∧r' =dA cW bS m x k')∧x.length - k' <x.length - k))))∧((decide ((k:Int)<((r.length:Nat):Int)))=false→z=(m+((eM x:Nat):Int))∧r.map aF=(eR m x).map aF∧True))) (by kernel_rfl) ?_
 have hS:eM x=bB bS x:=rfl
 have hC:cP x=x.length+bB bZ x:=rfl
 refine ⟨⟨0,m,x,rfl,rfl,rfl,Nat.zero_le _,by simp [bB],(iD _ _ _ _).symm⟩,fun k z r ⟨hk,hz,hr⟩=>?_⟩
 have hrl:r.length=x.length:=by rw [hr];exact jB _ _ _ _ _ hk
 refine ⟨List.length_map _,fun c0=>?_,fun c0=>?_⟩
 ·replace c0:=yq c0
  obtain ⟨y,hy⟩:=cE (l:=x) (k:=k) (by omega)
  have hry:r[k]? =some y:=by rw [hr,jC _ _ _ _ _ (by omega)];exact hy
  have hs:=bX bS hy
  have hle:=dX bS x (k+1)
  have hA:bB bS (x.take k)≤5*(k+bB bZ (x.take k)):=aBq (s:=bS) (c:=bZ) (fun y=>by have:=fU y;omega) x k hk
  have hB:=bX bZ hy
  have hD:=dX bZ x (k+1)
  have hle5:=mA x
  have hy5:=fU y
  refine ⟨rfl,by first | omega | (simp only [List.length_set];omega),fun b1507 hb1507=>?_⟩
  obtain rfl:=(aV hry hb1507).symm
  refine ⟨by omega,List.length_map _,by first | omega | (simp only [List.length_set];omega),rfl,aBG _ _ (by omega) (by first | omega | (dsimp only;omega)),rfl,rfl,rfl,by first | omega | (simp only [List.length_set];omega),fun a1507 ha1507=>⟨rfl,?_⟩⟩
  obtain rfl:=(aV hry ha1507).symm
  refine ⟨⟨by first | omega | (dsimp only;omega),by first | omega | (dsimp only;omega)⟩,?_⟩
  exact ⟨k+1,_,_,rfl,rfl,rfl,⟨by omega,by rw [hs,hz];unfold bS;omega,by subst hz hr;(try simp only [List.set_set]);exact jD _ _ _ _ _ _ hy⟩,by omega⟩
 ·replace c0:=nq c0
  have hkx:k=x.length:=by omega
  rw [hkx,List.take_length] at hz
  rw [hkx,iE] at hr
  refine ⟨?_,?_,trivial⟩
  ·first | (rw [hz];rfl) | (rw [hr];rfl) | (rw [hz,hS])
  ·first | (rw [hz];rfl) | (rw [hr];rfl) | (rw [hz,hS])
abbrev oL (x:List aN) (m:Int):List AV × List (Nat × Rs) × AV × List (Nat × Rs):=([.own 0,vI m],[(0,.arr 162 3 true (x.map aD))],vI (m+((jK x:Nat):Int)),[(0,.arr 162 3 true ((hJ m x).map aD))])
abbrev aC1 (x:List aN) (m:Int):Prop:=mW Tryz.prog 160 (oL x m).1 (oL x m).2.1 (oL x m).2.2.1 (oL x m).2.2.2
theorem aLO (x:List aN) (m:Int) (h0:0≤m) (hm:m+5*((eW x:Nat):Int)≤4611686018427387904):aC1 x m:=by
 refine qD bR aT Tryz.func160 (by kernel_rfl) (by kernel_rfl) (.loop (Nat × Int × (List aN)) (Q3 Nat Int (List aN)) [1,5,6,7,8,9,10,11,12,13,14,15,16,17,18,19,20,21,22,23,24,25,26,27,28,29,30,31,32,33] [0,3107] (fun yy0=>[(5,vI (yy0.1:Int)),(1,vI yy0.2.1)]) (fun yy0=>[(0,some (.arr 162 3 true (yy0.2.2.map aD)))]) (fun yy0=>yy0.1≤x.length∧yy0.2.1=m+((bB eX (x.take yy0.1):Nat):Int)∧yy0.2.2=dA rM eX m x yy0.1) (fun yy0=>x.length - yy0.1) (fun yy0=> .len yy0.2.2.length<| .br (.call (.p none (.str (aU yy0.2.1))) []<| .len yy0.2.2.length<| .setm aN aD yy0.2.2 (fun s4_6=>(⟨aU yy0.2.1,s4_6.arity,s4_6.rows⟩:aN)) (fun s4_6=> .len ((yy0.2.2.set yy0.1 (⟨aU yy0.2.1,s4_6.arity,s4_6.rows⟩:aN)).length)<| .setm aN aD (yy0.2.2.set yy0.1 (⟨aU yy0.2.1,s4_6.arity,s4_6.rows⟩:aN)) (fun s6_5=>(⟨s6_5.name,yy0.2.1+(1:Int),s6_5.rows⟩:aN)) (fun s6_5=> .split 8 0 yy0.1 2 3107 aN aD ((yy0.2.2.set yy0.1 (⟨aU yy0.2.1,s4_6.arity,s4_6.rows⟩:aN)).set yy0.1 (⟨s6_5.name,yy0.2.1+(1:Int),s6_5.rows⟩:aN)) (fun b3107=> .len (((yy0.2.2.set yy0.1 (⟨aU yy0.2.1,s4_6.arity,s4_6.rows⟩:aN)).set yy0.1 (⟨s6_5.name,yy0.2.1+(1:Int),s6_5.rows⟩:aN)).length)<| kD (nH b3107.rows ((yy0.2.1+(1:Int))+(1:Int))) [(0,3107)]<| .join 3 0 3107 aN aD ((yy0.2.2.set yy0.1 (⟨aU yy0.2.1,s4_6.arity,s4_6.rows⟩:aN)).set yy0.1 (⟨s6_5.name,yy0.2.1+(1:Int),s6_5.rows⟩:aN)) (fun a3107=>(⟨a3107.name,a3107.arity,eR ((yy0.2.1+(1:Int))+(1:Int)) b3107.rows⟩:aN)) (fun a3107=> .back [(0,0)]))))) (.fin [(0,0)]))) (p:=(∃(k:Nat) (z:Int) (r:List aN),(0:Int)=(k:Int)∧m=z∧x.map aD=r.map aD∧k≤x.length∧z=m+((bB eX (x.take k):Nat):Int)∧r=dA rM eX m x k)∧ ∀(k:Nat) (z:Int) (r:List aN),(k≤x.length∧z=m+((bB eX (x.take k):Nat):Int)∧r=dA rM eX m x k)→Lm aD r∧(((decide ((k:Int)<((r.length:Nat):Int)))=true→iB z∧(0≤(k:Int)∧Lm aD r∧(k:Int)<((r.length:Nat):Int)∧(r.map aD=r.map aD∧k<r.length∧ ∀s4_6,r[k]? =some s4_6→0+1≤(aD s4_6).length∧(aD s4_6).take 0++((aD (⟨aU z,s4_6.arity,s4_6.rows⟩:aN)).drop 0).take 1++(aD s4_6).drop (0+1)=aD (⟨aU z,s4_6.arity,s4_6.rows⟩:aN)∧(aU z)=((⟨aU z,s4_6.arity,s4_6.rows⟩:aN).name)∧(dO (z+(1:Int))∧(0≤(k:Int)∧Lm aD (r.set k (⟨aU z,s4_6.arity,s4_6.rows⟩:aN))∧(k:Int)<(((r.set k (⟨aU z,s4_6.arity,s4_6.rows⟩:aN)).length:Nat):Int)∧((r.set k (⟨aU z,s4_6.arity,s4_6.rows⟩:aN)).map aD=(r.set k (⟨aU z,s4_6.arity,s4_6.rows⟩:aN)).map aD∧k<(r.set k (⟨aU z,s4_6.arity,s4_6.rows⟩:aN)).length∧ ∀s6_5,(r.set k (⟨aU z,s4_6.arity,s4_6.rows⟩:aN))[k]? =some s6_5→1+1≤(aD s6_5).length∧(aD s6_5).take 1++((aD (⟨s6_5.name,z+(1:Int),s6_5.rows⟩:aN)).drop 1).take 1++(aD s6_5).drop (1+1)=aD (⟨s6_5.name,z+(1:Int),s6_5.rows⟩:aN)∧(z+(1:Int))=((⟨s6_5.name,z+(1:Int),s6_5.rows⟩:aN).arity)∧(dO ((z+(1:Int))+(1:Int))∧(((r.set k (⟨aU z,s4_6.arity,s4_6.rows⟩:aN)).set k (⟨s6_5.name,z+(1:Int),s6_5.rows⟩:aN)).map aD=((r.set k (⟨aU z,s4_6.arity,s4_6.rows⟩:aN)).set k (⟨s6_5.name,z+(1:Int),s6_5.rows⟩:aN)).map aD∧k<((r.set k (⟨aU z,s4_6.arity,s4_6.rows⟩:aN)).set k (⟨s6_5.name,z+(1:Int),s6_5.rows⟩:aN)).length∧ ∀b3107,((r.set k (⟨aU z,s4_6.arity,s4_6.rows⟩:aN)).set k (⟨s6_5.name,z+(1:Int),s6_5.rows⟩:aN))[k]? =some b3107→0≤(k:Int)∧Lm aD ((r.set k (⟨aU z,s4_6.arity,s4_6.rows⟩:aN)).set k (⟨s6_5.name,z+(1:Int),s6_5.rows⟩:aN))∧(k:Int)<((((r.set k (⟨aU z,s4_6.arity,s4_6.rows⟩:aN)).set k (⟨s6_5.name,z+(1:Int),s6_5.rows⟩:aN)).length:Nat):Int)∧(k=k∧(aAM b3107.rows ((z+(1:Int))+(1:Int))∧((z+(1:Int))+(1:Int))=((z+(1:Int))+(1:Int))∧b3107.rows.map aF=b3107.rows.map aF∧(((r.set k (⟨aU z,s4_6.arity,s4_6.rows⟩:aN)).set k (⟨s6_5.name,z+(1:Int),s6_5.rows⟩:aN)).map aD=((r.set k (⟨aU z,s4_6.arity,s4_6.rows⟩:aN)).set k (⟨s6_5.name,z+(1:Int),s6_5.rows⟩:aN)).map aD∧k<((r.set k (⟨aU z,s4_6.arity,s4_6.rows⟩:aN)).set k (⟨s6_5.name,z+(1:Int),s6_5.rows⟩:aN)).length∧ ∀a3107,((r.set k (⟨aU z,s4_6.arity,s4_6.rows⟩:aN)).set k (⟨s6_5.name,z+(1:Int),s6_5.rows⟩:aN))[k]? =some a3107→((aD a3107).take 2++ .sl 32 1 ((eR ((z+(1:Int))+(1:Int)) b3107.rows).map aF)::(aD a3107).drop (2+1)=aD (⟨a3107.name,a3107.arity,eR ((z+(1:Int))+(1:Int)) b3107.rows⟩:aN))∧dO ((k:Int)+(1:Int))∧ ∃(k' :Nat) (z' :Int) (r' :List aN),((k:Int)+(1:Int))=(k' :Int)∧(((z+(1:Int))+(1:Int))+((eM b3107.rows:Nat):Int))=z' ∧(((r.set k (⟨aU z,s4_6.arity,s4_6.rows⟩:aN)).set k (⟨s6_5.name,z+(1:Int),s6_5.rows⟩:aN)).set k (⟨a3107.name,a3107.arity,eR ((z+(1:Int))+(1:Int)) b3107.rows⟩:aN)).map aD=r'.map aD∧(k' ≤x.length∧z' =m+((bB eX (x.take k'):Nat):Int)∧r' =dA rM eX m x k')∧x.length - k' <x.length - k)))))))))))∧((decide ((k:Int)<((r.length:Nat):Int)))=false→z=(m+((jK x:Nat):Int))∧r.map aD=(hJ m x).map aD∧True))) (by kernel_rfl) ?_
 have hS:jK x=bB eX x:=rfl
 have hC:eW x=x.length+bB dF x:=rfl
 refine ⟨⟨0,m,x,rfl,rfl,rfl,Nat.zero_le _,by simp [bB],(iD _ _ _ _).symm⟩,fun k z r ⟨hk,hz,hr⟩=>?_⟩
 have hrl:r.length=x.length:=by rw [hr];exact jB _ _ _ _ _ hk
 refine ⟨List.length_map _,fun c0=>?_,fun c0=>?_⟩
 ·replace c0:=yq c0
  obtain ⟨y,hy⟩:=cE (l:=x) (k:=k) (by omega)
  have hry:r[k]? =some y:=by rw [hr,jC _ _ _ _ _ (by omega)];exact hy
  have hs:=bX eX hy
  have hle:=dX eX x (k+1)
  have hA:bB eX (x.take k)≤5*(k+bB dF (x.take k)):=aBq aAL x k hk
  have hB:=bX dF hy
  have hD:=dX dF x (k+1)
  have hF:dF y=ByteArray.size y.name+cP y.rows:=rfl
  have hle5:=qL x
  have hE:eX y=1+1+eM y.rows:=rfl
  have hy_rows:=mA y.rows
  refine ⟨mM _ (by omega),by omega,List.length_map _,by first | omega | (simp only [List.length_set];omega),rfl,by first | omega | (simp only [List.length_set];omega),fun s4_6 hs4_6=>?_⟩
  obtain rfl:=(aV hry hs4_6).symm
  refine ⟨Nat.le_of_ble_eq_true rfl,rfl,rfl,⟨by first | omega | (dsimp only;omega),by first | omega | (dsimp only;omega)⟩,by omega,List.length_map _,by first | omega | (simp only [List.length_set];omega),rfl,by first | omega | (simp only [List.length_set];omega),fun s6_5 hs6_5=>?_⟩
  obtain rfl:=iO hs6_5
  refine ⟨Nat.le_of_ble_eq_true rfl,rfl,rfl,⟨by first | omega | (dsimp only;omega),by first | omega | (dsimp only;omega)⟩,rfl,by first | omega | (simp only [List.length_set];omega),fun b3107 hb3107=>?_⟩
  obtain rfl:=iO hb3107
  refine ⟨by omega,List.length_map _,by first | omega | (simp only [List.length_set];omega),rfl,aIU _ _ (by omega) (by first | omega | (dsimp only;omega)),rfl,rfl,rfl,by first | omega | (simp only [List.length_set];omega),fun a3107 ha3107=>⟨rfl,?_⟩⟩
  obtain rfl:=iO ha3107
  refine ⟨⟨by first | omega | (dsimp only;omega),by first | omega | (dsimp only;omega)⟩,?_⟩
  exact ⟨k+1,_,_,rfl,rfl,rfl,⟨by omega,by rw [hs];(try dsimp only);omega,by subst hz hr;(try simp only [List.set_set]);exact jD _ _ _ _ _ _ hy⟩,by omega⟩
 ·replace c0:=nq c0
  have hkx:k=x.length:=by omega
  rw [hkx,List.take_length] at hz
  rw [hkx,iE] at hr
  refine ⟨?_,?_,trivial⟩
  ·first | (rw [hz];rfl) | (rw [hr];rfl) | (rw [hz,hS])
  ·first | (rw [hz];rfl) | (rw [hr];rfl) | (rw [hz,hS])
abbrev lD (x:aP) (m:Int):List AV × List (Nat × Rs) × AV × List (Nat × Rs):=([.agg [.own 0],vI m],[(0,.arr 162 3 true (x.tables.map aD))],vI (m+((bL x:Nat):Int)),[(0,.arr 162 3 true (((lR m x).tables).map aD))])
abbrev yN (x:aP) (m:Int):Prop:=mW Tryz.prog 81 (lD x m).1 (lD x m).2.1 (lD x m).2.2.1 (lD x m).2.2.2
theorem aIV (x:aP) (m:Int) (h0:0≤m) (hm:m+5*((aW x:Nat):Int)≤4611686018427387904):yN x m:=by
 refine qD bR aT Tryz.func81 (by kernel_rfl) (by kernel_rfl) (kD (oL x.tables m) [(0,0)]<| .fin [(0,0)]) (p:=aC1 x.tables m∧m=m∧x.tables.map aD=x.tables.map aD∧(m+((jK x.tables:Nat):Int))=(m+((bL x:Nat):Int))∧(hJ m x.tables).map aD=((lR m x).tables).map aD∧True) (by kernel_rfl) ?_
 have hS:bL x=jK x.tables:=rfl
 have hC:aW x=eW x.tables:=rfl
 have:=qL x.tables
 refine ⟨aLO _ _ (by omega) (by first | omega | (dsimp only;omega)),rfl,rfl,?_,?_,trivial⟩
 ·first | rfl | (rw [hS];omega)
 ·first | rfl | (rw [hS];omega)
abbrev mN (x:List UpdateD) (m:Int):List AV × List (Nat × Rs) × AV × List (Nat × Rs):=([.own 0,vI m],[(0,.arr 50 3 true (x.map aX))],vI (m+((wZ x:Nat):Int)),[(0,.arr 50 3 true ((aIT m x).map aX))])
abbrev aBH (x:List UpdateD) (m:Int):Prop:=mW Tryz.prog 29 (mN x m).1 (mN x m).2.1 (mN x m).2.2.1 (mN x m).2.2.2
theorem aJU (x:List UpdateD) (m:Int) (h0:0≤m) (hm:m+5*((gE x:Nat):Int)≤4611686018427387904):aBH x m:=by
 refine qD bR aT Tryz.func29 (by kernel_rfl) (by kernel_rfl) (.loop (Nat × Int × (List UpdateD)) (Q3 Nat Int (List UpdateD)) [1,5,6,7,8,9,10,11,12,13,14,15,16,17,18,19,20,21,22,23,24,25,26,27,28,29,30,31,32,33,34,35] [0,3307] (fun yy0=>[(5,vI (yy0.1:Int)),(1,vI yy0.2.1)]) (fun yy0=>[(0,some (.arr 50 3 true (yy0.2.2.map aX)))]) (fun yy0=>yy0.1≤x.length∧yy0.2.1=m+((bB gA (x.take yy0.1):Nat):Int)∧yy0.2.2=dA wY gA m x yy0.1) (fun yy0=>x.length - yy0.1) (fun yy0=> .len yy0.2.2.length<| .br (.call (.p none (.str (aU yy0.2.1))) []<| .len yy0.2.2.length<| .setm UpdateD aX yy0.2.2 (fun s4_6=>(⟨aU yy0.2.1,s4_6.ins,s4_6.row⟩:UpdateD)) (fun s4_6=> .len ((yy0.2.2.set yy0.1 (⟨aU yy0.2.1,s4_6.ins,s4_6.row⟩:UpdateD)).length)<| .setm UpdateD aX (yy0.2.2.set yy0.1 (⟨aU yy0.2.1,s4_6.ins,s4_6.row⟩:UpdateD)) (fun s6_7=>(⟨s6_7.name,decide ((Int.tmod (yy0.2.1+(1:Int)) (3:Int))=(0:Int)),s6_7.row⟩:UpdateD)) (fun s6_7=> .split 8 0 yy0.1 2 3307 UpdateD aX ((yy0.2.2.set yy0.1 (⟨aU yy0.2.1,s4_6.ins,s4_6.row⟩:UpdateD)).set yy0.1 (⟨s6_7.name,decide ((Int.tmod (yy0.2.1+(1:Int)) (3:Int))=(0:Int)),s6_7.row⟩:UpdateD)) (fun b3307=> .len (((yy0.2.2.set yy0.1 (⟨aU yy0.2.1,s4_6.ins,s4_6.row⟩:UpdateD)).set yy0.1 (⟨s6_7.name,decide ((Int.tmod (yy0.2.1+(1:Int)) (3:Int))=(0:Int)),s6_7.row⟩:UpdateD)).length)<| kD (kR b3307.row ((yy0.2.1+(1:Int))+(1:Int))) [(0,3307)]<| .join 3 0 3307 UpdateD aX ((yy0.2.2.set yy0.1 (⟨aU yy0.2.1,s4_6.ins,s4_6.row⟩:UpdateD)).set yy0.1 (⟨s6_7.name,decide ((Int.tmod (yy0.2.1+(1:Int)) (3:Int))=(0:Int)),s6_7.row⟩:UpdateD)) (fun a3307=>(⟨a3307.name,a3307.ins,cW ((yy0.2.1+(1:Int))+(1:Int)) b3307.row⟩:UpdateD)) (fun a3307=> .back [(0,0)]))))) (.fin [(0,0)]))) (p:=(∃(k:Nat) (z:Int) (r:List UpdateD),(0:Int)=(k:Int)∧m=z∧x.map aX=r.map aX∧k≤x.length∧z=m+((bB gA (x.take k):Nat):Int)∧r=dA wY gA m x k)∧ ∀(k:Nat) (z:Int) (r:List UpdateD),(k≤x.length∧z=m+((bB gA (x.take k):Nat):Int)∧r=dA wY gA m x k)→Lm aX r∧(((decide ((k:Int)<((r.length:Nat):Int)))=true→iB z∧(0≤(k:Int)∧Lm aX r∧(k:Int)<((r.length:Nat):Int)∧(r.map aX=r.map aX∧k<r.length∧ ∀s4_6,r[k]? =some s4_6→0+1≤(aX s4_6).length∧(aX s4_6).take 0++((aX (⟨aU z,s4_6.ins,s4_6.row⟩:UpdateD)).drop 0).take 1++(aX s4_6).drop (0+1)=aX (⟨aU z,s4_6.ins,s4_6.row⟩:UpdateD)∧(aU z)=((⟨aU z,s4_6.ins,s4_6.row⟩:UpdateD).name)∧(dO (z+(1:Int))∧((3:Int)≠0∧(0≤(k:Int)∧Lm aX (r.set k (⟨aU z,s4_6.ins,s4_6.row⟩:UpdateD))∧(k:Int)<(((r.set k (⟨aU z,s4_6.ins,s4_6.row⟩:UpdateD)).length:Nat):Int)∧((r.set k (⟨aU z,s4_6.ins,s4_6.row⟩:UpdateD)).map aX=(r.set k (⟨aU z,s4_6.ins,s4_6.row⟩:UpdateD)).map aX∧k<(r.set k (⟨aU z,s4_6.ins,s4_6.row⟩:UpdateD)).length∧ ∀s6_7,(r.set k (⟨aU z,s4_6.ins,s4_6.row⟩:UpdateD))[k]? =some s6_7→1+1≤(aX s6_7).length∧(aX s6_7).take 1++((aX (⟨s6_7.name,decide ((Int.tmod (z+(1:Int)) (3:Int))=(0:Int)),s6_7.row⟩:UpdateD)).drop 1).take 1++(aX s6_7).drop (1+1)=aX (⟨s6_7.name,decide ((Int.tmod (z+(1:Int)) (3:Int))=(0:Int)),s6_7.row⟩:UpdateD)∧(decide ((Int.tmod (z+(1:Int)) (3:Int))=(0:Int)))=((⟨s6_7.name,decide ((Int.tmod (z+(1:Int)) (3:Int))=(0:Int)),s6_7.row⟩:UpdateD).ins)∧(dO ((z+(1:Int))+(1:Int))∧(((r.set k (⟨aU z,s4_6.ins,s4_6.row⟩:UpdateD)).set k (⟨s6_7.name,decide ((Int.tmod (z+(1:Int)) (3:Int))=(0:Int)),s6_7.row⟩:UpdateD)).map aX=((r.set k (⟨aU z,s4_6.ins,s4_6.row⟩:UpdateD)).set k (⟨s6_7.name,decide ((Int.tmod (z+(1:Int)) (3:Int))=(0:Int)),s6_7.row⟩:UpdateD)).map aX∧k<((r.set k (⟨aU z,s4_6.ins,s4_6.row⟩:UpdateD)).set k (⟨s6_7.name,decide ((Int.tmod (z+(1:Int)) (3:Int))=(0:Int)),s6_7.row⟩:UpdateD)).length∧ ∀b3307,((r.set k (⟨aU z,s4_6.ins,s4_6.row⟩:UpdateD)).set k (⟨s6_7.name,decide ((Int.tmod (z+(1:Int)) (3:Int))=(0:Int)),s6_7.row⟩:UpdateD))[k]? =some b3307→0≤(k:Int)∧Lm aX ((r.set k (⟨aU z,s4_6.ins,s4_6.row⟩:UpdateD)).set k (⟨s6_7.name,decide ((Int.tmod (z+(1:Int)) (3:Int))=(0:Int)),s6_7.row⟩:UpdateD))∧(k:Int)<((((r.set k (⟨aU z,s4_6.ins,s4_6.row⟩:UpdateD)).set k (⟨s6_7.name,decide ((Int.tmod (z+(1:Int)) (3:Int))=(0:Int)),s6_7.row⟩:UpdateD)).length:Nat):Int)∧(k=k∧(pN b3307.row ((z+(1:Int))+(1:Int))∧((z+(1:Int))+(1:Int))=((z+(1:Int))+(1:Int))∧b3307.row.map intD=b3307.row.map intD∧(((r.set k (⟨aU z,s4_6.ins,s4_6.row⟩:UpdateD)).set k (⟨s6_7.name,decide ((Int.tmod (z+(1:Int)) (3:Int))=(0:Int)),s6_7.row⟩:UpdateD)).map aX=((r.set k (⟨aU z,s4_6.ins,s4_6.row⟩:UpdateD)).set k (⟨s6_7.name,decide ((Int.tmod (z+(1:Int)) (3:Int))=(0:Int)),s6_7.row⟩:UpdateD)).map aX∧k<((r.set k (⟨aU z,s4_6.ins,s4_6.row⟩:UpdateD)).set k (⟨s6_7.name,decide ((Int.tmod (z+(1:Int)) (3:Int))=(0:Int)),s6_7.row⟩:UpdateD)).length∧ ∀a3307,((r.set k (⟨aU z,s4_6.ins,s4_6.row⟩:UpdateD)).set k (⟨s6_7.name,decide ((Int.tmod (z+(1:Int)) (3:Int))=(0:Int)),s6_7.row⟩:UpdateD))[k]? =some a3307→((aX a3307).take 2++ .sl 3 1 ((cW ((z+(1:Int))+(1:Int)) b3307.row).map intD)::(aX a3307).drop (2+1)=aX (⟨a3307.name,a3307.ins,cW ((z+(1:Int))+(1:Int)) b3307.row⟩:UpdateD))∧dO ((k:Int)+(1:Int))∧ ∃(k' :Nat) (z' :Int) (r' :List UpdateD),((k:Int)+(1:Int))=(k' :Int)∧(((z+(1:Int))+(1:Int))+((bS b3307.row:Nat):Int))=z' ∧(((r.set k (⟨aU z,s4_6.ins,s4_6.row⟩:UpdateD)).set k (⟨s6_7.name,decide ((Int.tmod (z+(1:Int)) (3:Int))=(0:Int)),s6_7.row⟩:UpdateD)).set k (⟨a3307.name,a3307.ins,cW ((z+(1:Int))+(1:Int)) b3307.row⟩:UpdateD)).map aX=r'.map aX∧(k' ≤x.length∧z' =m+((bB gA (x.take k'):Nat):Int)∧r' =dA wY gA m x k')∧x.length - k' <x.length - k))))))))))))∧((decide ((k:Int)<((r.length:Nat):Int)))=false→z=(m+((wZ x:Nat):Int))∧r.map aX=(aIT m x).map aX∧True))) (by kernel_rfl) ?_
 have hS:wZ x=bB gA x:=rfl
 have hC:gE x=x.length+bB dR x:=rfl
 refine ⟨⟨0,m,x,rfl,rfl,rfl,Nat.zero_le _,by simp [bB],(iD _ _ _ _).symm⟩,fun k z r ⟨hk,hz,hr⟩=>?_⟩
 have hrl:r.length=x.length:=by rw [hr];exact jB _ _ _ _ _ hk
 refine ⟨List.length_map _,fun c0=>?_,fun c0=>?_⟩
 ·replace c0:=yq c0
  obtain ⟨y,hy⟩:=cE (l:=x) (k:=k) (by omega)
  have hry:r[k]? =some y:=by rw [hr,jC _ _ _ _ _ (by omega)];exact hy
  have hs:=bX gA hy
  have hle:=dX gA x (k+1)
  have hA:bB gA (x.take k)≤5*(k+bB dR (x.take k)):=aBq aCZ x k hk
  have hB:=bX dR hy
  have hD:=dX dR x (k+1)
  have hF:dR y=ByteArray.size y.name+bZ y.row:=rfl
  have hle5:=aC0 x
  have hE:gA y=1+1+bS y.row:=rfl
  have hy_row:=fU y.row
  refine ⟨mM _ (by omega),by omega,List.length_map _,by first | omega | (simp only [List.length_set];omega),rfl,by first | omega | (simp only [List.length_set];omega),fun s4_6 hs4_6=>?_⟩
  obtain rfl:=(aV hry hs4_6).symm
  refine ⟨Nat.le_of_ble_eq_true rfl,rfl,rfl,⟨by first | omega | (dsimp only;omega),by first | omega | (dsimp only;omega)⟩,by omega,by omega,List.length_map _,by first | omega | (simp only [List.length_set];omega),rfl,by first | omega | (simp only [List.length_set];omega),fun s6_7 hs6_7=>?_⟩
  obtain rfl:=iO hs6_7
  refine ⟨Nat.le_of_ble_eq_true rfl,rfl,rfl,⟨by first | omega | (dsimp only;omega),by first | omega | (dsimp only;omega)⟩,rfl,by first | omega | (simp only [List.length_set];omega),fun b3307 hb3307=>?_⟩
  obtain rfl:=iO hb3307
  refine ⟨by omega,List.length_map _,by first | omega | (simp only [List.length_set];omega),rfl,aBG _ _ (by omega) (by first | omega | (dsimp only;omega)),rfl,rfl,rfl,by first | omega | (simp only [List.length_set];omega),fun a3307 ha3307=>⟨rfl,?_⟩⟩
  obtain rfl:=iO ha3307
  refine ⟨⟨by first | omega | (dsimp only;omega),by first | omega | (dsimp only;omega)⟩,?_⟩
  exact ⟨k+1,_,_,rfl,rfl,rfl,⟨by omega,by rw [hs];(try dsimp only);omega,by subst hz hr;(try simp only [List.set_set]);exact jD _ _ _ _ _ _ hy⟩,by omega⟩
 ·replace c0:=nq c0
  have hkx:k=x.length:=by omega
  rw [hkx,List.take_length] at hz
  rw [hkx,iE] at hr
  refine ⟨?_,?_,trivial⟩
  ·first | (rw [hz];rfl) | (rw [hr];rfl) | (rw [hz,hS])
  ·first | (rw [hz];rfl) | (rw [hr];rfl) | (rw [hz,hS])
abbrev iX (x:List aH) (m:Int):List AV × List (Nat × Rs) × AV × List (Nat × Rs):=([.own 0,vI m],[(0,.arr 218 3 true (x.map aC))],vI (m+((eG x:Nat):Int)),[(0,.arr 218 3 true ((dB m x).map aC))])
abbrev sP (x:List aH) (m:Int):Prop:=mW Tryz.prog 240 (iX x m).1 (iX x m).2.1 (iX x m).2.2.1 (iX x m).2.2.2
theorem aEW (x:List aH) (m:Int) (h0:0≤m) (hm:m+5*((cS x:Nat):Int)≤4611686018427387904):sP x m:=by
 refine qD bR aT Tryz.func240 (by kernel_rfl) (by kernel_rfl) (.loop (Nat × Int × (List aH)) (Q3 Nat Int (List aH)) [1,5,6,7,8,9,10,11,12,13,14,15,16,17,18,19,20,21,22,23,24,25,26,27,28,29,30,31,32] [0,1607,2307,3007] (fun yy0=>[(5,vI (yy0.1:Int)),(1,vI yy0.2.1)]) (fun yy0=>[(0,some (.arr 218 3 true (yy0.2.2.map aC)))]) (fun yy0=>yy0.1≤x.length∧yy0.2.1=m+((bB cH (x.take yy0.1):Nat):Int)∧yy0.2.2=dA kQ cH m x yy0.1) (fun yy0=>x.length - yy0.1) (fun yy0=> .len yy0.2.2.length<| .br (.split 4 0 yy0.1 0 1607 aH aC yy0.2.2 (fun b1607=> .len yy0.2.2.length<| kD (kR b1607.columns yy0.2.1) [(0,1607)]<| .join 5 0 1607 aH aC yy0.2.2 (fun a1607=>(⟨cW yy0.2.1 b1607.columns,a1607.values,a1607.counts⟩:aH)) (fun a1607=> .split 5 0 yy0.1 1 2307 aH aC (yy0.2.2.set yy0.1 (⟨cW yy0.2.1 b1607.columns,a1607.values,a1607.counts⟩:aH)) (fun b2307=> .len ((yy0.2.2.set yy0.1 (⟨cW yy0.2.1 b1607.columns,a1607.values,a1607.counts⟩:aH)).length)<| kD (nH b2307.values (yy0.2.1+((bS b1607.columns:Nat):Int))) [(0,2307)]<| .join 6 0 2307 aH aC (yy0.2.2.set yy0.1 (⟨cW yy0.2.1 b1607.columns,a1607.values,a1607.counts⟩:aH)) (fun a2307=>(⟨a2307.columns,eR (yy0.2.1+((bS b1607.columns:Nat):Int)) b2307.values,a2307.counts⟩:aH)) (fun a2307=> .split 6 0 yy0.1 2 3007 aH aC ((yy0.2.2.set yy0.1 (⟨cW yy0.2.1 b1607.columns,a1607.values,a1607.counts⟩:aH)).set yy0.1 (⟨a2307.columns,eR (yy0.2.1+((bS b1607.columns:Nat):Int)) b2307.values,a2307.counts⟩:aH)) (fun b3007=> .len (((yy0.2.2.set yy0.1 (⟨cW yy0.2.1 b1607.columns,a1607.values,a1607.counts⟩:aH)).set yy0.1 (⟨a2307.columns,eR (yy0.2.1+((bS b1607.columns:Nat):Int)) b2307.values,a2307.counts⟩:aH)).length)<| kD (kR b3007.counts ((yy0.2.1+((bS b1607.columns:Nat):Int))+((eM b2307.values:Nat):Int))) [(0,3007)]<| .join 3 0 3007 aH aC ((yy0.2.2.set yy0.1 (⟨cW yy0.2.1 b1607.columns,a1607.values,a1607.counts⟩:aH)).set yy0.1 (⟨a2307.columns,eR (yy0.2.1+((bS b1607.columns:Nat):Int)) b2307.values,a2307.counts⟩:aH)) (fun a3007=>(⟨a3007.columns,a3007.values,cW ((yy0.2.1+((bS b1607.columns:Nat):Int))+((eM b2307.values:Nat):Int)) b3007.counts⟩:aH)) (fun a3007=> .back [(0,0)]))))))) (.fin [(0,0)]))) (p:=(∃(k:Nat) (z:Int) (r:List aH),(0:Int)=(k:Int)∧m=z∧x.map aC=r.map aC∧k≤x.length∧z=m+((bB cH (x.take k):Nat):Int)∧r=dA kQ cH m x k)∧ ∀(k:Nat) (z:Int) (r:List aH),(k≤x.length∧z=m+((bB cH (x.take k):Nat):Int)∧r=dA kQ cH m x k)→Lm aC r∧(((decide ((k:Int)<((r.length:Nat):Int)))=true→r.map aC=r.map aC∧k<r.length∧ ∀b1607,r[k]? =some b1607→0≤(k:Int)∧Lm aC r∧(k:Int)<((r.length:Nat):Int)∧(k=k∧(pN b1607.columns z∧z=z∧b1607.columns.map intD=b1607.columns.map intD∧(r.map aC=r.map aC∧k<r.length∧ ∀a1607,r[k]? =some a1607→((aC a1607).take 0++ .sl 3 1 ((cW z b1607.columns).map intD)::(aC a1607).drop (0+1)=aC (⟨cW z b1607.columns,a1607.values,a1607.counts⟩:aH))∧(r.set k (⟨cW z b1607.columns,a1607.values,a1607.counts⟩:aH)).map aC=(r.set k (⟨cW z b1607.columns,a1607.values,a1607.counts⟩:aH)).map aC∧k<(r.set k (⟨cW z b1607.columns,a1607.values,a1607.counts⟩:aH)).length∧ ∀b2307,(r.set k (⟨cW z b1607.columns,a1607.values,a1607.counts⟩:aH))[k]? =some b2307→0≤(k:Int)∧Lm aC (r.set k (⟨cW z b1607.columns,a1607.values,a1607.counts⟩:aH))∧(k:Int)<(((r.set k (⟨cW z b1607.columns,a1607.values,a1607.counts⟩:aH)).length:Nat):Int)∧(k=k∧(aAM b2307.values (z+((bS b1607.columns:Nat):Int))∧(z+((bS b1607.columns:Nat):Int))=(z+((bS b1607.columns:Nat):Int))∧b2307.values.map aF=b2307.values.map aF∧((r.set k (⟨cW z b1607.columns,a1607.values,a1607.counts⟩:aH)).map aC=(r.set k (⟨cW z b1607.columns,a1607.values,a1607.counts⟩:aH)).map aC∧k<(r.set k (⟨cW z b1607.columns,a1607.values,a1607.counts⟩:aH)).length∧ ∀a2307,(r.set k (⟨cW z b1607.columns,a1607.values,a1607.counts⟩:aH))[k]? =some a2307→((aC a2307).take 1++ .sl 32 1 ((eR (z+((bS b1607.columns:Nat):Int)) b2307.values).map aF)::(aC a2307).drop (1+1)=aC (⟨a2307.columns,eR (z+((bS b1607.columns:Nat):Int)) b2307.values,a2307.counts⟩:aH))∧((r.set k (⟨cW z b1607.columns,a1607.values,a1607.counts⟩:aH)).set k (⟨a2307.columns,eR (z+((bS b1607.columns:Nat):Int)) b2307.values,a2307.counts⟩:aH)).map aC=((r.set k (⟨cW z b1607.columns,a1607.values,a1607.counts⟩:aH)).set k (⟨a2307.columns,eR (z+((bS b1607.columns:Nat):Int)) b2307.values,a2307.counts⟩:aH)).map aC∧k<((r.set k (⟨cW z b1607.columns,a1607.values,a1607.counts⟩:aH)).set k (⟨a2307.columns,eR (z+((bS b1607.columns:Nat):Int)) b2307.values,a2307.counts⟩:aH)).length∧ ∀b3007,((r.set k (⟨cW z b1607.columns,a1607.values,a1607.counts⟩:aH)).set k (⟨a2307.columns,eR (z+((bS b1607.columns:Nat):Int)) b2307.values,a2307.counts⟩:aH))[k]? =some b3007→0≤(k:Int)∧Lm aC ((r.set k (⟨cW z b1607.columns,a1607.values,a1607.counts⟩:aH)).set k (⟨a2307.columns,eR (z+((bS b1607.columns:Nat):Int)) b2307.values,a2307.counts⟩:aH))∧(k:Int)<((((r.set k (⟨cW z b1607.columns,a1607.values,a1607.counts⟩:aH)).set k (⟨a2307.columns,eR (z+((bS b1607.columns:Nat):Int)) b2307.values,a2307.counts⟩:aH)).length:Nat):Int)∧(k=k∧(pN b3007.counts ((z+((bS b1607.columns:Nat):Int))+((eM b2307.values:Nat):Int))∧((z+((bS b1607.columns:Nat):Int))+((eM b2307.values:Nat):Int))=((z+((bS b1607.columns:Nat):Int))+((eM b2307.values:Nat):Int))∧b3007.counts.map intD=b3007.counts.map intD∧(((r.set k (⟨cW z b1607.columns,a1607.values,a1607.counts⟩:aH)).set k (⟨a2307.columns,eR (z+((bS b1607.columns:Nat):Int)) b2307.values,a2307.counts⟩:aH)).map aC=((r.set k (⟨cW z b1607.columns,a1607.values,a1607.counts⟩:aH)).set k (⟨a2307.columns,eR (z+((bS b1607.columns:Nat):Int)) b2307.values,a2307.counts⟩:aH)).map aC∧k<((r.set k (⟨cW z b1607.columns,a1607.values,a1607.counts⟩:aH)).set k (⟨a2307.columns,eR (z+((bS b1607.columns:Nat):Int)) b2307.values,a2307.counts⟩:aH)).length∧ ∀a3007,((r.set k (⟨cW z b1607.columns,a1607.values,a1607.counts⟩:aH)).set k (⟨a2307.columns,eR (z+((bS b1607.columns:Nat):Int)) b2307.values,a2307.counts⟩:aH))[k]? =some a3007→((aC a3007).take 2++ .sl 3 1 ((cW ((z+((bS b1607.columns:Nat):Int))+((eM b2307.values:Nat):Int)) b3007.counts).map intD)::(aC a3007).drop (2+1)=aC (⟨a3007.columns,a3007.values,cW ((z+((bS b1607.columns:Nat):Int))+((eM b2307.values:Nat):Int)) b3007.counts⟩:aH))∧dO ((k:Int)+(1:Int))∧ ∃(k' :Nat) (z' :Int) (r' :List aH),((k:Int)+(1:Int))=(k' :Int)∧(((z+((bS b1607.columns:Nat):Int))+((eM b2307.values:Nat):Int))+((bS b3007.counts:Nat):Int))=z' ∧(((r.set k (⟨cW z b1607.columns,a1607.values,a1607.counts⟩:aH)).set k (⟨a2307.columns,eR (z+((bS b1607.columns:Nat):Int)) b2307.values,a2307.counts⟩:aH)).set k (⟨a3007.columns,a3007.values,cW ((z+((bS b1607.columns:Nat):Int))+((eM b2307.values:Nat):Int)) b3007.counts⟩:aH)).map aC=r'.map aC∧(k' ≤x.length∧z' =m+((bB cH (x.take k'):Nat):Int)∧r' =dA kQ cH m x k')∧x.length - k' <x.length - k))))))))))∧((decide ((k:Int)<((r.length:Nat):Int)))=false→z=(m+((eG x:Nat):Int))∧r.map aC=(dB m x).map aC∧True))) (by kernel_rfl) ?_
 have hS:eG x=bB cH x:=rfl
 have hC:cS x=x.length+bB bD x:=rfl
 refine ⟨⟨0,m,x,rfl,rfl,rfl,Nat.zero_le _,by simp [bB],(iD _ _ _ _).symm⟩,fun k z r ⟨hk,hz,hr⟩=>?_⟩
 have hrl:r.length=x.length:=by rw [hr];exact jB _ _ _ _ _ hk
 refine ⟨List.length_map _,fun c0=>?_,fun c0=>?_⟩
 ·replace c0:=yq c0
  obtain ⟨y,hy⟩:=cE (l:=x) (k:=k) (by omega)
  have hry:r[k]? =some y:=by rw [hr,jC _ _ _ _ _ (by omega)];exact hy
  have hs:=bX cH hy
  have hle:=dX cH x (k+1)
  have hA:bB cH (x.take k)≤5*(k+bB bD (x.take k)):=aBq oP x k hk
  have hB:=bX bD hy
  have hD:=dX bD x (k+1)
  have hF:bD y=bZ y.columns+cP y.values+bZ y.counts:=rfl
  have hle5:=jP x
  have hE:cH y=bS y.columns+eM y.values+bS y.counts:=rfl
  have hy_columns:=fU y.columns
  have hy_values:=mA y.values
  have hy_counts:=fU y.counts
  refine ⟨rfl,by first | omega | (simp only [List.length_set];omega),fun b1607 hb1607=>?_⟩
  obtain rfl:=(aV hry hb1607).symm
  refine ⟨by omega,List.length_map _,by first | omega | (simp only [List.length_set];omega),rfl,aBG _ _ (by omega) (by first | omega | (dsimp only;omega)),rfl,rfl,rfl,by first | omega | (simp only [List.length_set];omega),fun a1607 ha1607=>⟨rfl,?_⟩⟩
  obtain rfl:=(aV hry ha1607).symm
  refine ⟨rfl,by first | omega | (simp only [List.length_set];omega),fun b2307 hb2307=>?_⟩
  obtain rfl:=iO hb2307
  refine ⟨by omega,List.length_map _,by first | omega | (simp only [List.length_set];omega),rfl,aIU _ _ (by omega) (by first | omega | (dsimp only;omega)),rfl,rfl,rfl,by first | omega | (simp only [List.length_set];omega),fun a2307 ha2307=>⟨rfl,?_⟩⟩
  obtain rfl:=iO ha2307
  refine ⟨rfl,by first | omega | (simp only [List.length_set];omega),fun b3007 hb3007=>?_⟩
  obtain rfl:=iO hb3007
  refine ⟨by omega,List.length_map _,by first | omega | (simp only [List.length_set];omega),rfl,aBG _ _ (by omega) (by first | omega | (dsimp only;omega)),rfl,rfl,rfl,by first | omega | (simp only [List.length_set];omega),fun a3007 ha3007=>⟨rfl,?_⟩⟩
  obtain rfl:=iO ha3007
  refine ⟨⟨by first | omega | (dsimp only;omega),by first | omega | (dsimp only;omega)⟩,?_⟩
  exact ⟨k+1,_,_,rfl,rfl,rfl,⟨by omega,by rw [hs];(try dsimp only);omega,by subst hz hr;(try simp only [List.set_set]);exact jD _ _ _ _ _ _ hy⟩,by omega⟩
 ·replace c0:=nq c0
  have hkx:k=x.length:=by omega
  rw [hkx,List.take_length] at hz
  rw [hkx,iE] at hr
  refine ⟨?_,?_,trivial⟩
  ·first | (rw [hz];rfl) | (rw [hr];rfl) | (rw [hz,hS])
  ·first | (rw [hz];rfl) | (rw [hr];rfl) | (rw [hz,hS])
abbrev iY (x:List aG) (m:Int):List AV × List (Nat × Rs) × AV × List (Nat × Rs):=([.own 0,vI m],[(0,.arr 121 4 true (x.map aA))],vI (m+((eH x:Nat):Int)),[(0,.arr 121 4 true ((dI m x).map aA))])
abbrev sQ (x:List aG) (m:Int):Prop:=mW Tryz.prog 161 (iY x m).1 (iY x m).2.1 (iY x m).2.2.1 (iY x m).2.2.2
theorem aEX (x:List aG) (m:Int) (h0:0≤m) (hm:m+5*((cT x:Nat):Int)≤4611686018427387904):sQ x m:=by
 refine qD bR aT Tryz.func161 (by kernel_rfl) (by kernel_rfl) (.loop (Nat × Int × (List aG)) (Q3 Nat Int (List aG)) [1,5,6,7,8,9,10,11,12,13,14,15,16,17,18,19,20,21,22,23,24,25,26,27,28,29,30,31,32,33,34,35,36,37,38,39,40] [0,3807] (fun yy0=>[(5,vI (yy0.1:Int)),(1,vI yy0.2.1)]) (fun yy0=>[(0,some (.arr 121 4 true (yy0.2.2.map aA)))]) (fun yy0=>yy0.1≤x.length∧yy0.2.1=m+((bB cI (x.take yy0.1):Nat):Int)∧yy0.2.2=dA gJ cI m x yy0.1) (fun yy0=>x.length - yy0.1) (fun yy0=> .len yy0.2.2.length<| .br (.call (.p none (.str (aU yy0.2.1))) []<| .len yy0.2.2.length<| .setm aG aA yy0.2.2 (fun s4_6=>(⟨aU yy0.2.1,s4_6.arity,s4_6.rowCount,s4_6.groups⟩:aG)) (fun s4_6=> .len ((yy0.2.2.set yy0.1 (⟨aU yy0.2.1,s4_6.arity,s4_6.rowCount,s4_6.groups⟩:aG)).length)<| .setm aG aA (yy0.2.2.set yy0.1 (⟨aU yy0.2.1,s4_6.arity,s4_6.rowCount,s4_6.groups⟩:aG)) (fun s6_5=>(⟨s6_5.name,yy0.2.1+(1:Int),s6_5.rowCount,s6_5.groups⟩:aG)) (fun s6_5=> .len (((yy0.2.2.set yy0.1 (⟨aU yy0.2.1,s4_6.arity,s4_6.rowCount,s4_6.groups⟩:aG)).set yy0.1 (⟨s6_5.name,yy0.2.1+(1:Int),s6_5.rowCount,s6_5.groups⟩:aG)).length)<| .setm aG aA ((yy0.2.2.set yy0.1 (⟨aU yy0.2.1,s4_6.arity,s4_6.rowCount,s4_6.groups⟩:aG)).set yy0.1 (⟨s6_5.name,yy0.2.1+(1:Int),s6_5.rowCount,s6_5.groups⟩:aG)) (fun s8_5=>(⟨s8_5.name,s8_5.arity,(yy0.2.1+(1:Int))+(1:Int),s8_5.groups⟩:aG)) (fun s8_5=> .split 10 0 yy0.1 3 3807 aG aA (((yy0.2.2.set yy0.1 (⟨aU yy0.2.1,s4_6.arity,s4_6.rowCount,s4_6.groups⟩:aG)).set yy0.1 (⟨s6_5.name,yy0.2.1+(1:Int),s6_5.rowCount,s6_5.groups⟩:aG)).set yy0.1 (⟨s8_5.name,s8_5.arity,(yy0.2.1+(1:Int))+(1:Int),s8_5.groups⟩:aG)) (fun b3807=> .len ((((yy0.2.2.set yy0.1 (⟨aU yy0.2.1,s4_6.arity,s4_6.rowCount,s4_6.groups⟩:aG)).set yy0.1 (⟨s6_5.name,yy0.2.1+(1:Int),s6_5.rowCount,s6_5.groups⟩:aG)).set yy0.1 (⟨s8_5.name,s8_5.arity,(yy0.2.1+(1:Int))+(1:Int),s8_5.groups⟩:aG)).length)<| kD (iX b3807.groups (((yy0.2.1+(1:Int))+(1:Int))+(1:Int))) [(0,3807)]<| .join 3 0 3807 aG aA (((yy0.2.2.set yy0.1 (⟨aU yy0.2.1,s4_6.arity,s4_6.rowCount,s4_6.groups⟩:aG)).set yy0.1 (⟨s6_5.name,yy0.2.1+(1:Int),s6_5.rowCount,s6_5.groups⟩:aG)).set yy0.1 (⟨s8_5.name,s8_5.arity,(yy0.2.1+(1:Int))+(1:Int),s8_5.groups⟩:aG)) (fun a3807=>(⟨a3807.name,a3807.arity,a3807.rowCount,dB (((yy0.2.1+(1:Int))+(1:Int))+(1:Int)) b3807.groups⟩:aG)) (fun a3807=> .back [(0,0)])))))) (.fin [(0,0)]))) (p:=(∃(k:Nat) (z:Int) (r:List aG),(0:Int)=(k:Int)∧m=z∧x.map aA=r.map aA∧k≤x.length∧z=m+((bB cI (x.take k):Nat):Int)∧r=dA gJ cI m x k)∧ ∀(k:Nat) (z:Int) (r:List aG),(k≤x.length∧z=m+((bB cI (x.take k):Nat):Int)∧r=dA gJ cI m x k)→Lm aA r∧(((decide ((k:Int)<((r.length:Nat):Int)))=true→iB z∧(0≤(k:Int)∧Lm aA r∧(k:Int)<((r.length:Nat):Int)∧(r.map aA=r.map aA∧k<r.length∧ ∀s4_6,r[k]? =some s4_6→0+1≤(aA s4_6).length∧(aA s4_6).take 0++((aA (⟨aU z,s4_6.arity,s4_6.rowCount,s4_6.groups⟩:aG)).drop 0).take 1++(aA s4_6).drop (0+1)=aA (⟨aU z,s4_6.arity,s4_6.rowCount,s4_6.groups⟩:aG)∧(aU z)=((⟨aU z,s4_6.arity,s4_6.rowCount,s4_6.groups⟩:aG).name)∧(dO (z+(1:Int))∧(0≤(k:Int)∧Lm aA (r.set k (⟨aU z,s4_6.arity,s4_6.rowCount,s4_6.groups⟩:aG))∧(k:Int)<(((r.set k (⟨aU z,s4_6.arity,s4_6.rowCount,s4_6.groups⟩:aG)).length:Nat):Int)∧((r.set k (⟨aU z,s4_6.arity,s4_6.rowCount,s4_6.groups⟩:aG)).map aA=(r.set k (⟨aU z,s4_6.arity,s4_6.rowCount,s4_6.groups⟩:aG)).map aA∧k<(r.set k (⟨aU z,s4_6.arity,s4_6.rowCount,s4_6.groups⟩:aG)).length∧ ∀s6_5,(r.set k (⟨aU z,s4_6.arity,s4_6.rowCount,s4_6.groups⟩:aG))[k]? =some s6_5→1+1≤(aA s6_5).length∧(aA s6_5).take 1++((aA (⟨s6_5.name,z+(1:Int),s6_5.rowCount,s6_5.groups⟩:aG)).drop 1).take 1++(aA s6_5).drop (1+1)=aA (⟨s6_5.name,z+(1:Int),s6_5.rowCount,s6_5.groups⟩:aG)∧(z+(1:Int))=((⟨s6_5.name,z+(1:Int),s6_5.rowCount,s6_5.groups⟩:aG).arity)∧(dO ((z+(1:Int))+(1:Int))∧(0≤(k:Int)∧Lm aA ((r.set k (⟨aU z,s4_6.arity,s4_6.rowCount,s4_6.groups⟩:aG)).set k (⟨s6_5.name,z+(1:Int),s6_5.rowCount,s6_5.groups⟩:aG))∧(k:Int)<((((r.set k (⟨aU z,s4_6.arity,s4_6.rowCount,s4_6.groups⟩:aG)).set k (⟨s6_5.name,z+(1:Int),s6_5.rowCount,s6_5.groups⟩:aG)).length:Nat):Int)∧(((r.set k (⟨aU z,s4_6.arity,s4_6.rowCount,s4_6.groups⟩:aG)).set k (⟨s6_5.name,z+(1:Int),s6_5.rowCount,s6_5.groups⟩:aG)).map aA=((r.set k (⟨aU z,s4_6.arity,s4_6.rowCount,s4_6.groups⟩:aG)).set k (⟨s6_5.name,z+(1:Int),s6_5.rowCount,s6_5.groups⟩:aG)).map aA∧k<((r.set k (⟨aU z,s4_6.arity,s4_6.rowCount,s4_6.groups⟩:aG)).set k (⟨s6_5.name,z+(1:Int),s6_5.rowCount,s6_5.groups⟩:aG)).length∧ ∀s8_5,((r.set k (⟨aU z,s4_6.arity,s4_6.rowCount,s4_6.groups⟩:aG)).set k (⟨s6_5.name,z+(1:Int),s6_5.rowCount,s6_5.groups⟩:aG))[k]? =some s8_5→2+1≤(aA s8_5).length∧(aA s8_5).take 2++((aA (⟨s8_5.name,s8_5.arity,(z+(1:Int))+(1:Int),s8_5.groups⟩:aG)).drop 2).take 1++(aA s8_5).drop (2+1)=aA (⟨s8_5.name,s8_5.arity,(z+(1:Int))+(1:Int),s8_5.groups⟩:aG)∧((z+(1:Int))+(1:Int))=((⟨s8_5.name,s8_5.arity,(z+(1:Int))+(1:Int),s8_5.groups⟩:aG).rowCount)∧(dO (((z+(1:Int))+(1:Int))+(1:Int))∧((((r.set k (⟨aU z,s4_6.arity,s4_6.rowCount,s4_6.groups⟩:aG)).set k (⟨s6_5.name,z+(1:Int),s6_5.rowCount,s6_5.groups⟩:aG)).set k (⟨s8_5.name,s8_5.arity,(z+(1:Int))+(1:Int),s8_5.groups⟩:aG)).map aA=(((r.set k (⟨aU z,s4_6.arity,s4_6.rowCount,s4_6.groups⟩:aG)).set k (⟨s6_5.name,z+(1:Int),s6_5.rowCount,s6_5.groups⟩:aG)).set k (⟨s8_5.name,s8_5.arity,(z+(1:Int))+(1:Int),s8_5.groups⟩:aG)).map aA∧k<(((r.set k (⟨aU z,s4_6.arity,s4_6.rowCount,s4_6.groups⟩:aG)).set k (⟨s6_5.name,z+(1:Int),s6_5.rowCount,s6_5.groups⟩:aG)).set k (⟨s8_5.name,s8_5.arity,(z+(1:Int))+(1:Int),s8_5.groups⟩:aG)).length∧ ∀b3807,(((r.set k (⟨aU z,s4_6.arity,s4_6.rowCount,s4_6.groups⟩:aG)).set k (⟨s6_5.name,z+(1:Int),s6_5.rowCount,s6_5.groups⟩:aG)).set k (⟨s8_5.name,s8_5.arity,(z+(1:Int))+(1:Int),s8_5.groups⟩:aG))[k]? =some b3807→0≤(k:Int)∧Lm aA (((r.set k (⟨aU z,s4_6.arity,s4_6.rowCount,s4_6.groups⟩:aG)).set k (⟨s6_5.name,z+(1:Int),s6_5.rowCount,s6_5.groups⟩:aG)).set k (⟨s8_5.name,s8_5.arity,(z+(1:Int))+(1:Int),s8_5.groups⟩:aG))∧(k:Int)<(((((r.set k (⟨aU z,s4_6.arity,s4_6.rowCount,s4_6.groups⟩:aG)).set k (⟨s6_5.name,z+(1:Int),s6_5.rowCount,s6_5.groups⟩:aG)).set k (⟨s8_5.name,s8_5.arity,(z+(1:Int))+(1:Int),s8_5.groups⟩:aG)).length:Nat):Int)∧(k=k∧(sP b3807.groups (((z+(1:Int))+(1:Int))+(1:Int))∧(((z+(1:Int))+(1:Int))+(1:Int))=(((z+(1:Int))+(1:Int))+(1:Int))∧b3807.groups.map aC=b3807.groups.map aC∧((((r.set k (⟨aU z,s4_6.arity,s4_6.rowCount,s4_6.groups⟩:aG)).set k (⟨s6_5.name,z+(1:Int),s6_5.rowCount,s6_5.groups⟩:aG)).set k (⟨s8_5.name,s8_5.arity,(z+(1:Int))+(1:Int),s8_5.groups⟩:aG)).map aA=(((r.set k (⟨aU z,s4_6.arity,s4_6.rowCount,s4_6.groups⟩:aG)).set k (⟨s6_5.name,z+(1:Int),s6_5.rowCount,s6_5.groups⟩:aG)).set k (⟨s8_5.name,s8_5.arity,(z+(1:Int))+(1:Int),s8_5.groups⟩:aG)).map aA∧k<(((r.set k (⟨aU z,s4_6.arity,s4_6.rowCount,s4_6.groups⟩:aG)).set k (⟨s6_5.name,z+(1:Int),s6_5.rowCount,s6_5.groups⟩:aG)).set k (⟨s8_5.name,s8_5.arity,(z+(1:Int))+(1:Int),s8_5.groups⟩:aG)).length∧ ∀a3807,(((r.set k (⟨aU z,s4_6.arity,s4_6.rowCount,s4_6.groups⟩:aG)).set k (⟨s6_5.name,z+(1:Int),s6_5.rowCount,s6_5.groups⟩:aG)).set k (⟨s8_5.name,s8_5.arity,(z+(1:Int))+(1:Int),s8_5.groups⟩:aG))[k]? =some a3807→((aA a3807).take 3++ .sl 218 3 ((dB (((z+(1:Int))+(1:Int))+(1:Int)) b3807.groups).map aC)::(aA a3807).drop (3+1)=aA (⟨a3807.name,a3807.arity,a3807.rowCount,dB (((z+(1:Int))+(1:Int))+(1:Int)) b3807.groups⟩:aG))∧dO ((k:Int)+(1:Int))∧ ∃(k' :Nat) (z' :Int) (r' :List aG),((k:Int)+(1:Int))=(k' :Int)∧((((z+(1:Int))+(1:Int))+(1:Int))+((eG b3807.groups:Nat):Int))=z' ∧((((r.set k (⟨aU z,s4_6.arity,s4_6.rowCount,s4_6.groups⟩:aG)).set k (⟨s6_5.name,z+(1:Int),s6_5.rowCount,s6_5.groups⟩:aG)).set k (⟨s8_5.name,s8_5.arity,(z+(1:Int))+(1:Int),s8_5.groups⟩:aG)).set k (⟨a3807.name,a3807.arity,a3807.rowCount,dB (((z+(1:Int))+(1:Int))+(1:Int)) b3807.groups⟩:aG)).map aA=r'.map aA∧(k' ≤x.length∧z' =m+((bB cI (x.take k'):Nat):Int)∧r' =dA gJ cI m x k')∧x.length - k' <x.length - k))))))))))))))∧((decide ((k:Int)<((r.length:Nat):Int)))=false→z=(m+((eH x:Nat):Int))∧r.map aA=(dI m x).map aA∧True))) (by kernel_rfl) ?_
 have hS:eH x=bB cI x:=rfl
 have hC:cT x=x.length+bB bC x:=rfl
 refine ⟨⟨0,m,x,rfl,rfl,rfl,Nat.zero_le _,by simp [bB],(iD _ _ _ _).symm⟩,fun k z r ⟨hk,hz,hr⟩=>?_⟩
 have hrl:r.length=x.length:=by rw [hr];exact jB _ _ _ _ _ hk
 refine ⟨List.length_map _,fun c0=>?_,fun c0=>?_⟩
 ·replace c0:=yq c0
  obtain ⟨y,hy⟩:=cE (l:=x) (k:=k) (by omega)
  have hry:r[k]? =some y:=by rw [hr,jC _ _ _ _ _ (by omega)];exact hy
  have hs:=bX cI hy
  have hle:=dX cI x (k+1)
  have hA:bB cI (x.take k)≤5*(k+bB bC (x.take k)):=aBq oQ x k hk
  have hB:=bX bC hy
  have hD:=dX bC x (k+1)
  have hF:bC y=ByteArray.size y.name+cS y.groups:=rfl
  have hle5:=jQ x
  have hE:cI y=1+1+1+eG y.groups:=rfl
  have hy_groups:=jP y.groups
  refine ⟨mM _ (by omega),by omega,List.length_map _,by first | omega | (simp only [List.length_set];omega),rfl,by first | omega | (simp only [List.length_set];omega),fun s4_6 hs4_6=>?_⟩
  obtain rfl:=(aV hry hs4_6).symm
  refine ⟨Nat.le_of_ble_eq_true rfl,rfl,rfl,⟨by first | omega | (dsimp only;omega),by first | omega | (dsimp only;omega)⟩,by omega,List.length_map _,by first | omega | (simp only [List.length_set];omega),rfl,by first | omega | (simp only [List.length_set];omega),fun s6_5 hs6_5=>?_⟩
  obtain rfl:=iO hs6_5
  refine ⟨Nat.le_of_ble_eq_true rfl,rfl,rfl,⟨by first | omega | (dsimp only;omega),by first | omega | (dsimp only;omega)⟩,by omega,List.length_map _,by first | omega | (simp only [List.length_set];omega),rfl,by first | omega | (simp only [List.length_set];omega),fun s8_5 hs8_5=>?_⟩
  obtain rfl:=iO hs8_5
  refine ⟨Nat.le_of_ble_eq_true rfl,rfl,rfl,⟨by first | omega | (dsimp only;omega),by first | omega | (dsimp only;omega)⟩,rfl,by first | omega | (simp only [List.length_set];omega),fun b3807 hb3807=>?_⟩
  obtain rfl:=iO hb3807
  refine ⟨by omega,List.length_map _,by first | omega | (simp only [List.length_set];omega),rfl,aEW _ _ (by omega) (by first | omega | (dsimp only;omega)),rfl,rfl,rfl,by first | omega | (simp only [List.length_set];omega),fun a3807 ha3807=>⟨rfl,?_⟩⟩
  obtain rfl:=iO ha3807
  refine ⟨⟨by first | omega | (dsimp only;omega),by first | omega | (dsimp only;omega)⟩,?_⟩
  exact ⟨k+1,_,_,rfl,rfl,rfl,⟨by omega,by rw [hs];(try dsimp only);omega,by subst hz hr;(try simp only [List.set_set]);exact jD _ _ _ _ _ _ hy⟩,by omega⟩
 ·replace c0:=nq c0
  have hkx:k=x.length:=by omega
  rw [hkx,List.take_length] at hz
  rw [hkx,iE] at hr
  refine ⟨?_,?_,trivial⟩
  ·first | (rw [hz];rfl) | (rw [hr];rfl) | (rw [hz,hS])
  ·first | (rw [hz];rfl) | (rw [hr];rfl) | (rw [hz,hS])
abbrev kI (x:cA) (m:Int):List AV × List (Nat × Rs) × AV × List (Nat × Rs):=([.agg [vI x.version,.own 0],vI m],[(0,.arr 121 4 true (x.tables.map aA))],vI (m+((bT x:Nat):Int)),[(0,.arr 121 4 true (((jE m x).tables).map aA))])
abbrev xA (x:cA) (m:Int):Prop:=mW Tryz.prog 82 (kI x m).1 (kI x m).2.1 (kI x m).2.2.1 (kI x m).2.2.2
theorem aGp (x:cA) (m:Int) (h0:0≤m) (hm:m+5*((bK x:Nat):Int)≤4611686018427387904):xA x m:=by
 refine qD bR aT Tryz.func82 (by kernel_rfl) (by kernel_rfl) (kD (iY x.tables m) [(0,0)]<| .fin [(0,0)]) (p:=sQ x.tables m∧m=m∧x.tables.map aA=x.tables.map aA∧(m+((eH x.tables:Nat):Int))=(m+((bT x:Nat):Int))∧(dI m x.tables).map aA=((jE m x).tables).map aA∧True) (by kernel_rfl) ?_
 have hS:bT x=eH x.tables:=rfl
 have hC:bK x=cT x.tables:=rfl
 have:=jQ x.tables
 refine ⟨aEX _ _ (by omega) (by first | omega | (dsimp only;omega)),rfl,rfl,?_,?_,trivial⟩
 ·first | rfl | (rw [hS];omega)
 ·first | rfl | (rw [hS];omega)
abbrev iZ (x:List aJ) (m:Int):List AV × List (Nat × Rs) × AV × List (Nat × Rs):=([.own 0,vI m],[(0,.arr 168 3 true (x.map aB))],vI (m+((cN x:Nat):Int)),[(0,.arr 168 3 true ((dS m x).map aB))])
abbrev sR (x:List aJ) (m:Int):Prop:=mW Tryz.prog 83 (iZ x m).1 (iZ x m).2.1 (iZ x m).2.2.1 (iZ x m).2.2.2
theorem aEY (x:List aJ) (m:Int) (h0:0≤m) (hm:m+5*((bH x:Nat):Int)≤4611686018427387904):sR x m:=by
 refine qD bR aT Tryz.func83 (by kernel_rfl) (by kernel_rfl) (.loop (Nat × Int × (List aJ)) (Q3 Nat Int (List aJ)) [1,5,6,7,8,9,10,11,12,13,14,15,16,17,18,19,20,21,22,23,24,25,26,27,28,29,30,31,32,33] [0,2407] (fun yy0=>[(5,vI (yy0.1:Int)),(1,vI yy0.2.1)]) (fun yy0=>[(0,some (.arr 168 3 true (yy0.2.2.map aB)))]) (fun yy0=>yy0.1≤x.length∧yy0.2.1=m+((bB cJ (x.take yy0.1):Nat):Int)∧yy0.2.2=dA iJ cJ m x yy0.1) (fun yy0=>x.length - yy0.1) (fun yy0=> .len yy0.2.2.length<| .br (.call (.p none (.str (aU yy0.2.1))) []<| .len yy0.2.2.length<| .setm aJ aB yy0.2.2 (fun s4_6=>(⟨aU yy0.2.1,s4_6.src,s4_6.dst⟩:aJ)) (fun s4_6=> .split 6 0 yy0.1 1 2407 aJ aB (yy0.2.2.set yy0.1 (⟨aU yy0.2.1,s4_6.src,s4_6.dst⟩:aJ)) (fun b2407=> .len ((yy0.2.2.set yy0.1 (⟨aU yy0.2.1,s4_6.src,s4_6.dst⟩:aJ)).length)<| kD (kR b2407.src (yy0.2.1+(1:Int))) [(0,2407)]<| .join 7 0 2407 aJ aB (yy0.2.2.set yy0.1 (⟨aU yy0.2.1,s4_6.src,s4_6.dst⟩:aJ)) (fun a2407=>(⟨a2407.name,cW (yy0.2.1+(1:Int)) b2407.src,a2407.dst⟩:aJ)) (fun a2407=> .len (((yy0.2.2.set yy0.1 (⟨aU yy0.2.1,s4_6.src,s4_6.dst⟩:aJ)).set yy0.1 (⟨a2407.name,cW (yy0.2.1+(1:Int)) b2407.src,a2407.dst⟩:aJ)).length)<| .setm aJ aB ((yy0.2.2.set yy0.1 (⟨aU yy0.2.1,s4_6.src,s4_6.dst⟩:aJ)).set yy0.1 (⟨a2407.name,cW (yy0.2.1+(1:Int)) b2407.src,a2407.dst⟩:aJ)) (fun s7_5=>(⟨s7_5.name,s7_5.src,(yy0.2.1+(1:Int))+((bS b2407.src:Nat):Int)⟩:aJ)) (fun s7_5=> .back [(0,0)]))))) (.fin [(0,0)]))) (p:=(∃(k:Nat) (z:Int) (r:List aJ),(0:Int)=(k:Int)∧m=z∧x.map aB=r.map aB∧k≤x.length∧z=m+((bB cJ (x.take k):Nat):Int)∧r=dA iJ cJ m x k)∧ ∀(k:Nat) (z:Int) (r:List aJ),(k≤x.length∧z=m+((bB cJ (x.take k):Nat):Int)∧r=dA iJ cJ m x k)→Lm aB r∧(((decide ((k:Int)<((r.length:Nat):Int)))=true→iB z∧(0≤(k:Int)∧Lm aB r∧(k:Int)<((r.length:Nat):Int)∧(r.map aB=r.map aB∧k<r.length∧ ∀s4_6,r[k]? =some s4_6→0+1≤(aB s4_6).length∧(aB s4_6).take 0++((aB (⟨aU z,s4_6.src,s4_6.dst⟩:aJ)).drop 0).take 1++(aB s4_6).drop (0+1)=aB (⟨aU z,s4_6.src,s4_6.dst⟩:aJ)∧(aU z)=((⟨aU z,s4_6.src,s4_6.dst⟩:aJ).name)∧(dO (z+(1:Int))∧((r.set k (⟨aU z,s4_6.src,s4_6.dst⟩:aJ)).map aB=(r.set k (⟨aU z,s4_6.src,s4_6.dst⟩:aJ)).map aB∧k<(r.set k (⟨aU z,s4_6.src,s4_6.dst⟩:aJ)).length∧ ∀b2407,(r.set k (⟨aU z,s4_6.src,s4_6.dst⟩:aJ))[k]? =some b2407→0≤(k:Int)∧Lm aB (r.set k (⟨aU z,s4_6.src,s4_6.dst⟩:aJ))∧(k:Int)<(((r.set k (⟨aU z,s4_6.src,s4_6.dst⟩:aJ)).length:Nat):Int)∧(k=k∧(pN b2407.src (z+(1:Int))∧(z+(1:Int))=(z+(1:Int))∧b2407.src.map intD=b2407.src.map intD∧((r.set k (⟨aU z,s4_6.src,s4_6.dst⟩:aJ)).map aB=(r.set k (⟨aU z,s4_6.src,s4_6.dst⟩:aJ)).map aB∧k<(r.set k (⟨aU z,s4_6.src,s4_6.dst⟩:aJ)).length∧ ∀a2407,(r.set k (⟨aU z,s4_6.src,s4_6.dst⟩:aJ))[k]? =some a2407→((aB a2407).take 1++ .sl 3 1 ((cW (z+(1:Int)) b2407.src).map intD)::(aB a2407).drop (1+1)=aB (⟨a2407.name,cW (z+(1:Int)) b2407.src,a2407.dst⟩:aJ))∧0≤(k:Int)∧Lm aB ((r.set k (⟨aU z,s4_6.src,s4_6.dst⟩:aJ)).set k (⟨a2407.name,cW (z+(1:Int)) b2407.src,a2407.dst⟩:aJ))∧(k:Int)<((((r.set k (⟨aU z,s4_6.src,s4_6.dst⟩:aJ)).set k (⟨a2407.name,cW (z+(1:Int)) b2407.src,a2407.dst⟩:aJ)).length:Nat):Int)∧(((r.set k (⟨aU z,s4_6.src,s4_6.dst⟩:aJ)).set k (⟨a2407.name,cW (z+(1:Int)) b2407.src,a2407.dst⟩:aJ)).map aB=((r.set k (⟨aU z,s4_6.src,s4_6.dst⟩:aJ)).set k (⟨a2407.name,cW (z+(1:Int)) b2407.src,a2407.dst⟩:aJ)).map aB∧k<((r.set k (⟨aU z,s4_6.src,s4_6.dst⟩:aJ)).set k (⟨a2407.name,cW (z+(1:Int)) b2407.src,a2407.dst⟩:aJ)).length∧ ∀s7_5,((r.set k (⟨aU z,s4_6.src,s4_6.dst⟩:aJ)).set k (⟨a2407.name,cW (z+(1:Int)) b2407.src,a2407.dst⟩:aJ))[k]? =some s7_5→2+1≤(aB s7_5).length∧(aB s7_5).take 2++((aB (⟨s7_5.name,s7_5.src,(z+(1:Int))+((bS b2407.src:Nat):Int)⟩:aJ)).drop 2).take 1++(aB s7_5).drop (2+1)=aB (⟨s7_5.name,s7_5.src,(z+(1:Int))+((bS b2407.src:Nat):Int)⟩:aJ)∧((z+(1:Int))+((bS b2407.src:Nat):Int))=((⟨s7_5.name,s7_5.src,(z+(1:Int))+((bS b2407.src:Nat):Int)⟩:aJ).dst)∧dO (((z+(1:Int))+((bS b2407.src:Nat):Int))+(1:Int))∧dO ((k:Int)+(1:Int))∧ ∃(k' :Nat) (z' :Int) (r' :List aJ),((k:Int)+(1:Int))=(k' :Int)∧(((z+(1:Int))+((bS b2407.src:Nat):Int))+(1:Int))=z' ∧(((r.set k (⟨aU z,s4_6.src,s4_6.dst⟩:aJ)).set k (⟨a2407.name,cW (z+(1:Int)) b2407.src,a2407.dst⟩:aJ)).set k (⟨s7_5.name,s7_5.src,(z+(1:Int))+((bS b2407.src:Nat):Int)⟩:aJ)).map aB=r'.map aB∧(k' ≤x.length∧z' =m+((bB cJ (x.take k'):Nat):Int)∧r' =dA iJ cJ m x k')∧x.length - k' <x.length - k)))))))))∧((decide ((k:Int)<((r.length:Nat):Int)))=false→z=(m+((cN x:Nat):Int))∧r.map aB=(dS m x).map aB∧True))) (by kernel_rfl) ?_
 have hS:cN x=bB cJ x:=rfl
 have hC:bH x=x.length+bB bI x:=rfl
 refine ⟨⟨0,m,x,rfl,rfl,rfl,Nat.zero_le _,by simp [bB],(iD _ _ _ _).symm⟩,fun k z r ⟨hk,hz,hr⟩=>?_⟩
 have hrl:r.length=x.length:=by rw [hr];exact jB _ _ _ _ _ hk
 refine ⟨List.length_map _,fun c0=>?_,fun c0=>?_⟩
 ·replace c0:=yq c0
  obtain ⟨y,hy⟩:=cE (l:=x) (k:=k) (by omega)
  have hry:r[k]? =some y:=by rw [hr,jC _ _ _ _ _ (by omega)];exact hy
  have hs:=bX cJ hy
  have hle:=dX cJ x (k+1)
  have hA:bB cJ (x.take k)≤5*(k+bB bI (x.take k)):=aBq oR x k hk
  have hB:=bX bI hy
  have hD:=dX bI x (k+1)
  have hF:bI y=ByteArray.size y.name+bZ y.src:=rfl
  have hle5:=jR x
  have hE:cJ y=1+bS y.src+1:=rfl
  have hy_src:=fU y.src
  refine ⟨mM _ (by omega),by omega,List.length_map _,by first | omega | (simp only [List.length_set];omega),rfl,by first | omega | (simp only [List.length_set];omega),fun s4_6 hs4_6=>?_⟩
  obtain rfl:=(aV hry hs4_6).symm
  refine ⟨Nat.le_of_ble_eq_true rfl,rfl,rfl,⟨by first | omega | (dsimp only;omega),by first | omega | (dsimp only;omega)⟩,rfl,by first | omega | (simp only [List.length_set];omega),fun b2407 hb2407=>?_⟩
  obtain rfl:=iO hb2407
  refine ⟨by omega,List.length_map _,by first | omega | (simp only [List.length_set];omega),rfl,aBG _ _ (by omega) (by first | omega | (dsimp only;omega)),rfl,rfl,rfl,by first | omega | (simp only [List.length_set];omega),fun a2407 ha2407=>⟨rfl,?_⟩⟩
  obtain rfl:=iO ha2407
  refine ⟨by omega,List.length_map _,by first | omega | (simp only [List.length_set];omega),rfl,by first | omega | (simp only [List.length_set];omega),fun s7_5 hs7_5=>?_⟩
  obtain rfl:=iO hs7_5
  refine ⟨Nat.le_of_ble_eq_true rfl,rfl,rfl,⟨by first | omega | (dsimp only;omega),by first | omega | (dsimp only;omega)⟩,⟨by first | omega | (dsimp only;omega),by first | omega | (dsimp only;omega)⟩,?_⟩
  exact ⟨k+1,_,_,rfl,rfl,rfl,⟨by omega,by rw [hs];(try dsimp only);omega,by subst hz hr;(try simp only [List.set_set]);exact jD _ _ _ _ _ _ hy⟩,by omega⟩
 ·replace c0:=nq c0
  have hkx:k=x.length:=by omega
  rw [hkx,List.take_length] at hz
  rw [hkx,iE] at hr
  refine ⟨?_,?_,trivial⟩
  ·first | (rw [hz];rfl) | (rw [hr];rfl) | (rw [hz,hS])
  ·first | (rw [hz];rfl) | (rw [hr];rfl) | (rw [hz,hS])
abbrev jS (x:List aL) (m:Int):List AV × List (Nat × Rs) × AV × List (Nat × Rs):=([.own 0,vI m],[(0,.arr 170 4 true (x.map aE))],vI (m+((eS x:Nat):Int)),[(0,.arr 170 4 true ((dV m x).map aE))])
abbrev uG (x:List aL) (m:Int):Prop:=mW Tryz.prog 84 (jS x m).1 (jS x m).2.1 (jS x m).2.2.1 (jS x m).2.2.2
theorem aEy (x:List aL) (m:Int) (h0:0≤m) (hm:m+5*((cG x:Nat):Int)≤4611686018427387904):uG x m:=by
 refine qD bR aT Tryz.func84 (by kernel_rfl) (by kernel_rfl) (.loop (Nat × Int × (List aL)) (Q3 Nat Int (List aL)) [1,5,6,7,8,9,10,11,12,13,14,15,16,17,18,19,20,21,22,23,24,25,26,27,28,29,30,31,32,33,34,35,36,37,38,39,40,41] [0] (fun yy0=>[(5,vI (yy0.1:Int)),(1,vI yy0.2.1)]) (fun yy0=>[(0,some (.arr 170 4 true (yy0.2.2.map aE)))]) (fun yy0=>yy0.1≤x.length∧yy0.2.1=m+((bB cR (x.take yy0.1):Nat):Int)∧yy0.2.2=dA gO cR m x yy0.1) (fun yy0=>x.length - yy0.1) (fun yy0=> .len yy0.2.2.length<| .br (.call (.p none (.str (aU yy0.2.1))) []<| .len yy0.2.2.length<| .set aL aE yy0.2.2 (fun s4_6=>(⟨aU yy0.2.1,s4_6.column,s4_6.into,s4_6.intoColumn⟩:aL)) (fun s4_6=> .len ((yy0.2.2.set yy0.1 (⟨aU yy0.2.1,s4_6.column,s4_6.into,s4_6.intoColumn⟩:aL)).length)<| .set aL aE (yy0.2.2.set yy0.1 (⟨aU yy0.2.1,s4_6.column,s4_6.into,s4_6.intoColumn⟩:aL)) (fun s6_5=>(⟨s6_5.name,yy0.2.1+(1:Int),s6_5.into,s6_5.intoColumn⟩:aL)) (fun s6_5=> .call (.p none (.str (aU ((yy0.2.1+(1:Int))+(1:Int))))) []<| .len (((yy0.2.2.set yy0.1 (⟨aU yy0.2.1,s4_6.column,s4_6.into,s4_6.intoColumn⟩:aL)).set yy0.1 (⟨s6_5.name,yy0.2.1+(1:Int),s6_5.into,s6_5.intoColumn⟩:aL)).length)<| .set aL aE ((yy0.2.2.set yy0.1 (⟨aU yy0.2.1,s4_6.column,s4_6.into,s4_6.intoColumn⟩:aL)).set yy0.1 (⟨s6_5.name,yy0.2.1+(1:Int),s6_5.into,s6_5.intoColumn⟩:aL)) (fun s8_6=>(⟨s8_6.name,s8_6.column,aU ((yy0.2.1+(1:Int))+(1:Int)),s8_6.intoColumn⟩:aL)) (fun s8_6=> .len ((((yy0.2.2.set yy0.1 (⟨aU yy0.2.1,s4_6.column,s4_6.into,s4_6.intoColumn⟩:aL)).set yy0.1 (⟨s6_5.name,yy0.2.1+(1:Int),s6_5.into,s6_5.intoColumn⟩:aL)).set yy0.1 (⟨s8_6.name,s8_6.column,aU ((yy0.2.1+(1:Int))+(1:Int)),s8_6.intoColumn⟩:aL)).length)<| .set aL aE (((yy0.2.2.set yy0.1 (⟨aU yy0.2.1,s4_6.column,s4_6.into,s4_6.intoColumn⟩:aL)).set yy0.1 (⟨s6_5.name,yy0.2.1+(1:Int),s6_5.into,s6_5.intoColumn⟩:aL)).set yy0.1 (⟨s8_6.name,s8_6.column,aU ((yy0.2.1+(1:Int))+(1:Int)),s8_6.intoColumn⟩:aL)) (fun s10_5=>(⟨s10_5.name,s10_5.column,s10_5.into,((yy0.2.1+(1:Int))+(1:Int))+(1:Int)⟩:aL)) (fun s10_5=> .back [(0,0)]))))) (.fin [(0,0)]))) (p:=(∃(k:Nat) (z:Int) (r:List aL),(0:Int)=(k:Int)∧m=z∧x.map aE=r.map aE∧k≤x.length∧z=m+((bB cR (x.take k):Nat):Int)∧r=dA gO cR m x k)∧ ∀(k:Nat) (z:Int) (r:List aL),(k≤x.length∧z=m+((bB cR (x.take k):Nat):Int)∧r=dA gO cR m x k)→Lm aE r∧(((decide ((k:Int)<((r.length:Nat):Int)))=true→iB z∧(0≤(k:Int)∧Lm aE r∧(k:Int)<((r.length:Nat):Int)∧(r.map aE=r.map aE∧k<r.length∧ ∀s4_6,r[k]? =some s4_6→fG (aE s4_6)=true∧0+1≤(aE s4_6).length∧(aE s4_6).take 0++[.str (aU z)]++(aE s4_6).drop (0+1)=aE (⟨aU z,s4_6.column,s4_6.into,s4_6.intoColumn⟩:aL)∧(dO (z+(1:Int))∧(0≤(k:Int)∧Lm aE (r.set k (⟨aU z,s4_6.column,s4_6.into,s4_6.intoColumn⟩:aL))∧(k:Int)<(((r.set k (⟨aU z,s4_6.column,s4_6.into,s4_6.intoColumn⟩:aL)).length:Nat):Int)∧((r.set k (⟨aU z,s4_6.column,s4_6.into,s4_6.intoColumn⟩:aL)).map aE=(r.set k (⟨aU z,s4_6.column,s4_6.into,s4_6.intoColumn⟩:aL)).map aE∧k<(r.set k (⟨aU z,s4_6.column,s4_6.into,s4_6.intoColumn⟩:aL)).length∧ ∀s6_5,(r.set k (⟨aU z,s4_6.column,s4_6.into,s4_6.intoColumn⟩:aL))[k]? =some s6_5→fG (aE s6_5)=true∧1+1≤(aE s6_5).length∧(aE s6_5).take 1++[.int .i64 (z+(1:Int))]++(aE s6_5).drop (1+1)=aE (⟨s6_5.name,z+(1:Int),s6_5.into,s6_5.intoColumn⟩:aL)∧(dO ((z+(1:Int))+(1:Int))∧(iB ((z+(1:Int))+(1:Int))∧(0≤(k:Int)∧Lm aE ((r.set k (⟨aU z,s4_6.column,s4_6.into,s4_6.intoColumn⟩:aL)).set k (⟨s6_5.name,z+(1:Int),s6_5.into,s6_5.intoColumn⟩:aL))∧(k:Int)<((((r.set k (⟨aU z,s4_6.column,s4_6.into,s4_6.intoColumn⟩:aL)).set k (⟨s6_5.name,z+(1:Int),s6_5.into,s6_5.intoColumn⟩:aL)).length:Nat):Int)∧(((r.set k (⟨aU z,s4_6.column,s4_6.into,s4_6.intoColumn⟩:aL)).set k (⟨s6_5.name,z+(1:Int),s6_5.into,s6_5.intoColumn⟩:aL)).map aE=((r.set k (⟨aU z,s4_6.column,s4_6.into,s4_6.intoColumn⟩:aL)).set k (⟨s6_5.name,z+(1:Int),s6_5.into,s6_5.intoColumn⟩:aL)).map aE∧k<((r.set k (⟨aU z,s4_6.column,s4_6.into,s4_6.intoColumn⟩:aL)).set k (⟨s6_5.name,z+(1:Int),s6_5.into,s6_5.intoColumn⟩:aL)).length∧ ∀s8_6,((r.set k (⟨aU z,s4_6.column,s4_6.into,s4_6.intoColumn⟩:aL)).set k (⟨s6_5.name,z+(1:Int),s6_5.into,s6_5.intoColumn⟩:aL))[k]? =some s8_6→fG (aE s8_6)=true∧2+1≤(aE s8_6).length∧(aE s8_6).take 2++[.str (aU ((z+(1:Int))+(1:Int)))]++(aE s8_6).drop (2+1)=aE (⟨s8_6.name,s8_6.column,aU ((z+(1:Int))+(1:Int)),s8_6.intoColumn⟩:aL)∧(dO (((z+(1:Int))+(1:Int))+(1:Int))∧(0≤(k:Int)∧Lm aE (((r.set k (⟨aU z,s4_6.column,s4_6.into,s4_6.intoColumn⟩:aL)).set k (⟨s6_5.name,z+(1:Int),s6_5.into,s6_5.intoColumn⟩:aL)).set k (⟨s8_6.name,s8_6.column,aU ((z+(1:Int))+(1:Int)),s8_6.intoColumn⟩:aL))∧(k:Int)<(((((r.set k (⟨aU z,s4_6.column,s4_6.into,s4_6.intoColumn⟩:aL)).set k (⟨s6_5.name,z+(1:Int),s6_5.into,s6_5.intoColumn⟩:aL)).set k (⟨s8_6.name,s8_6.column,aU ((z+(1:Int))+(1:Int)),s8_6.intoColumn⟩:aL)).length:Nat):Int)∧((((r.set k (⟨aU z,s4_6.column,s4_6.into,s4_6.intoColumn⟩:aL)).set k (⟨s6_5.name,z+(1:Int),s6_5.into,s6_5.intoColumn⟩:aL)).set k (⟨s8_6.name,s8_6.column,aU ((z+(1:Int))+(1:Int)),s8_6.intoColumn⟩:aL)).map aE=(((r.set k (⟨aU z,s4_6.column,s4_6.into,s4_6.intoColumn⟩:aL)).set k (⟨s6_5.name,z+(1:Int),s6_5.into,s6_5.intoColumn⟩:aL)).set k (⟨s8_6.name,s8_6.column,aU ((z+(1:Int))+(1:Int)),s8_6.intoColumn⟩:aL)).map aE∧k<(((r.set k (⟨aU z,s4_6.column,s4_6.into,s4_6.intoColumn⟩:aL)).set k (⟨s6_5.name,z+(1:Int),s6_5.into,s6_5.intoColumn⟩:aL)).set k (⟨s8_6.name,s8_6.column,aU ((z+(1:Int))+(1:Int)),s8_6.intoColumn⟩:aL)).length∧ ∀s10_5,(((r.set k (⟨aU z,s4_6.column,s4_6.into,s4_6.intoColumn⟩:aL)).set k (⟨s6_5.name,z+(1:Int),s6_5.into,s6_5.intoColumn⟩:aL)).set k (⟨s8_6.name,s8_6.column,aU ((z+(1:Int))+(1:Int)),s8_6.intoColumn⟩:aL))[k]? =some s10_5→fG (aE s10_5)=true∧3+1≤(aE s10_5).length∧(aE s10_5).take 3++[.int .i64 (((z+(1:Int))+(1:Int))+(1:Int))]++(aE s10_5).drop (3+1)=aE (⟨s10_5.name,s10_5.column,s10_5.into,((z+(1:Int))+(1:Int))+(1:Int)⟩:aL)∧dO ((((z+(1:Int))+(1:Int))+(1:Int))+(1:Int))∧dO ((k:Int)+(1:Int))∧ ∃(k' :Nat) (z' :Int) (r' :List aL),((k:Int)+(1:Int))=(k' :Int)∧((((z+(1:Int))+(1:Int))+(1:Int))+(1:Int))=z' ∧((((r.set k (⟨aU z,s4_6.column,s4_6.into,s4_6.intoColumn⟩:aL)).set k (⟨s6_5.name,z+(1:Int),s6_5.into,s6_5.intoColumn⟩:aL)).set k (⟨s8_6.name,s8_6.column,aU ((z+(1:Int))+(1:Int)),s8_6.intoColumn⟩:aL)).set k (⟨s10_5.name,s10_5.column,s10_5.into,((z+(1:Int))+(1:Int))+(1:Int)⟩:aL)).map aE=r'.map aE∧(k' ≤x.length∧z' =m+((bB cR (x.take k'):Nat):Int)∧r' =dA gO cR m x k')∧x.length - k' <x.length - k)))))))))))))∧((decide ((k:Int)<((r.length:Nat):Int)))=false→z=(m+((eS x:Nat):Int))∧r.map aE=(dV m x).map aE∧True))) (by kernel_rfl) ?_
 have hS:eS x=bB cR x:=rfl
 have hC:cG x=x.length+bB bU x:=rfl
 refine ⟨⟨0,m,x,rfl,rfl,rfl,Nat.zero_le _,by simp [bB],(iD _ _ _ _).symm⟩,fun k z r ⟨hk,hz,hr⟩=>?_⟩
 have hrl:r.length=x.length:=by rw [hr];exact jB _ _ _ _ _ hk
 refine ⟨List.length_map _,fun c0=>?_,fun c0=>?_⟩
 ·replace c0:=yq c0
  obtain ⟨y,hy⟩:=cE (l:=x) (k:=k) (by omega)
  have hry:r[k]? =some y:=by rw [hr,jC _ _ _ _ _ (by omega)];exact hy
  have hs:=bX cR hy
  have hle:=dX cR x (k+1)
  have hA:bB cR (x.take k)≤5*(k+bB bU (x.take k)):=aBq qN x k hk
  have hB:=bX bU hy
  have hD:=dX bU x (k+1)
  have hF:bU y=ByteArray.size y.name+ByteArray.size y.into:=rfl
  have hle5:=kH x
  have hE:cR y=1+1+1+1:=rfl
  refine ⟨mM _ (by omega),by omega,List.length_map _,by first | omega | (simp only [List.length_set];omega),rfl,by first | omega | (simp only [List.length_set];omega),fun s4_6 hs4_6=>⟨rfl,Nat.le_of_ble_eq_true rfl,rfl,?_⟩⟩
  obtain rfl:=(aV hry hs4_6).symm
  refine ⟨⟨by first | omega | (dsimp only;omega),by first | omega | (dsimp only;omega)⟩,by omega,List.length_map _,by first | omega | (simp only [List.length_set];omega),rfl,by first | omega | (simp only [List.length_set];omega),fun s6_5 hs6_5=>⟨rfl,Nat.le_of_ble_eq_true rfl,rfl,?_⟩⟩
  obtain rfl:=iO hs6_5
  refine ⟨⟨by first | omega | (dsimp only;omega),by first | omega | (dsimp only;omega)⟩,mM _ (by omega),by omega,List.length_map _,by first | omega | (simp only [List.length_set];omega),rfl,by first | omega | (simp only [List.length_set];omega),fun s8_6 hs8_6=>⟨rfl,Nat.le_of_ble_eq_true rfl,rfl,?_⟩⟩
  obtain rfl:=iO hs8_6
  refine ⟨⟨by first | omega | (dsimp only;omega),by first | omega | (dsimp only;omega)⟩,by omega,List.length_map _,by first | omega | (simp only [List.length_set];omega),rfl,by first | omega | (simp only [List.length_set];omega),fun s10_5 hs10_5=>⟨rfl,Nat.le_of_ble_eq_true rfl,rfl,?_⟩⟩
  obtain rfl:=iO hs10_5
  refine ⟨⟨by first | omega | (dsimp only;omega),by first | omega | (dsimp only;omega)⟩,⟨by first | omega | (dsimp only;omega),by first | omega | (dsimp only;omega)⟩,?_⟩
  exact ⟨k+1,_,_,rfl,rfl,rfl,⟨by omega,by rw [hs];(try dsimp only);omega,by subst hz hr;(try simp only [List.set_set]);exact jD _ _ _ _ _ _ hy⟩,by omega⟩
 ·replace c0:=nq c0
  have hkx:k=x.length:=by omega
  rw [hkx,List.take_length] at hz
  rw [hkx,iE] at hr
  refine ⟨?_,?_,trivial⟩
  ·first | (rw [hz];rfl) | (rw [hr];rfl) | (rw [hz,hS])
  ·first | (rw [hz];rfl) | (rw [hr];rfl) | (rw [hz,hS])
abbrev nI (x:StoreD) (m:Int):List AV × List (Nat × Rs) × AV × List (Nat × Rs):=([.agg [.own 0,vI x.catalogue.version,.own 1,.own 2,.own 3],vI m],[(0,.arr 162 3 true (x.database.tables.map aD)),(1,.arr 121 4 true (x.catalogue.tables.map aA)),(2,.arr 168 3 true (x.dependencies.map aB)),(3,.arr 170 4 true (x.inclusions.map aE))],vI (m+((fQ x:Nat):Int)),[(0,.arr 162 3 true ((((eJ m x).database).tables).map aD)),(1,.arr 121 4 true ((((eJ m x).catalogue).tables).map aA)),(2,.arr 168 3 true (((eJ m x).dependencies).map aB)),(3,.arr 170 4 true (((eJ m x).inclusions).map aE))])
abbrev aAN (x:StoreD) (m:Int):Prop:=mW Tryz.prog 21 (nI x m).1 (nI x m).2.1 (nI x m).2.2.1 (nI x m).2.2.2
theorem aIW (x:StoreD) (m:Int) (h0:0≤m) (hm:m+5*((dQ x:Nat):Int)≤4611686018427387904):aAN x m:=by
 refine qD bR aT Tryz.func21 (by kernel_rfl) (by kernel_rfl) (kD (lD x.database m) [(0,0)]<| kD (kI x.catalogue (m+((bL x.database:Nat):Int))) [(0,1)]<| kD (iZ x.dependencies ((m+((bL x.database:Nat):Int))+((bT x.catalogue:Nat):Int))) [(0,2)]<| kD (jS x.inclusions (((m+((bL x.database:Nat):Int))+((bT x.catalogue:Nat):Int))+((cN x.dependencies:Nat):Int))) [(0,3)]<| .fin [(0,0),(1,1),(2,2),(3,3)]) (p:=yN x.database m∧m=m∧x.database.tables.map aD=x.database.tables.map aD∧xA x.catalogue (m+((bL x.database:Nat):Int))∧x.catalogue.version=x.catalogue.version∧(m+((bL x.database:Nat):Int))=(m+((bL x.database:Nat):Int))∧x.catalogue.tables.map aA=x.catalogue.tables.map aA∧sR x.dependencies ((m+((bL x.database:Nat):Int))+((bT x.catalogue:Nat):Int))∧((m+((bL x.database:Nat):Int))+((bT x.catalogue:Nat):Int))=((m+((bL x.database:Nat):Int))+((bT x.catalogue:Nat):Int))∧x.dependencies.map aB=x.dependencies.map aB∧uG x.inclusions (((m+((bL x.database:Nat):Int))+((bT x.catalogue:Nat):Int))+((cN x.dependencies:Nat):Int))∧(((m+((bL x.database:Nat):Int))+((bT x.catalogue:Nat):Int))+((cN x.dependencies:Nat):Int))=(((m+((bL x.database:Nat):Int))+((bT x.catalogue:Nat):Int))+((cN x.dependencies:Nat):Int))∧x.inclusions.map aE=x.inclusions.map aE∧((((m+((bL x.database:Nat):Int))+((bT x.catalogue:Nat):Int))+((cN x.dependencies:Nat):Int))+((eS x.inclusions:Nat):Int))=(m+((fQ x:Nat):Int))∧((lR m x.database).tables).map aD=(((eJ m x).database).tables).map aD∧((jE (m+((bL x.database:Nat):Int)) x.catalogue).tables).map aA=(((eJ m x).catalogue).tables).map aA∧(dS ((m+((bL x.database:Nat):Int))+((bT x.catalogue:Nat):Int)) x.dependencies).map aB=((eJ m x).dependencies).map aB∧(dV (((m+((bL x.database:Nat):Int))+((bT x.catalogue:Nat):Int))+((cN x.dependencies:Nat):Int)) x.inclusions).map aE=((eJ m x).inclusions).map aE∧True) (by kernel_rfl) ?_
 have hS:fQ x=bL x.database+bT x.catalogue+cN x.dependencies+eS x.inclusions:=rfl
 have hC:dQ x=aW x.database+bK x.catalogue+bH x.dependencies+cG x.inclusions:=rfl
 have:=rV x.database
 have:=qM x.catalogue
 have:=jR x.dependencies
 have:=kH x.inclusions
 refine ⟨aIV _ _ (by omega) (by first | omega | (dsimp only;omega)),rfl,rfl,aGp _ _ (by omega) (by first | omega | (dsimp only;omega)),rfl,rfl,rfl,aEY _ _ (by omega) (by first | omega | (dsimp only;omega)),rfl,rfl,aEy _ _ (by omega) (by first | omega | (dsimp only;omega)),rfl,rfl,?_,?_,?_,?_,?_,trivial⟩
 ·first | rfl | (rw [hS];omega)
 ·first | rfl | (rw [hS];omega)
 ·first | rfl | (rw [hS];omega)
 ·first | rfl | (rw [hS];omega)
 ·first | rfl | (rw [hS];omega)
end Go.Proofs.YtokkjaflmcjlhaaGreat
