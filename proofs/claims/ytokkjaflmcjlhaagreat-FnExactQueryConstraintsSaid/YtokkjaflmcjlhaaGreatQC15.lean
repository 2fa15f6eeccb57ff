/-
  Contracts and plain laws, joined: part 16.
-/
import Derived.Test.YtokkjaflmcjlhaaGreatQC14
namespace Go.Proofs.YtokkjaflmcjlhaaGreat
open Go.ChangeShapes Go.WideShapes Go.ChangeAt Go.RowKit
set_option linter.unusedVariables false
set_option linter.unusedSimpArgs false
set_option maxRecDepth 100000
set_option maxHeartbeats 4000000
abbrev kU (x:List Int) (m:Int):List AV × List (Nat × Rs) × AV × List (Nat × Rs):=([.own 0,vI m],[(0,.arr 3 1 true (x.map intD))],vI (m+((cZ x:Nat):Int)),[(0,.arr 3 1 true ((dK m x).map intD))])
abbrev pT (x:List Int) (m:Int):Prop:=lX Tryz.prog 48 (kU x m).1 (kU x m).2.1 (kU x m).2.2.1 (kU x m).2.2.2
theorem aB8 (x:List Int) (m:Int) (h0:0≤m) (hm:m+5*((bX x:Nat):Int)≤4611686018427387904):pT x m:=by
 refine nA bK aU Tryz.func48 (by kernel_rfl) (by kernel_rfl) (.loop (Nat × Int × (List Int)) (Q3 Nat Int (List Int)) [1,5,6,7,8,9,10,11,12,13,14,15,16,17] [0] (fun yy0=>[(5,vI (yy0.1:Int)),(1,vI yy0.2.1)]) (fun yy0=>[(0,some (.arr 3 1 true (yy0.2.2.map intD)))]) (fun yy0=>yy0.1≤x.length∧yy0.2.1=m+((bN xN (x.take yy0.1):Nat):Int)∧yy0.2.2=cP aOj xN m x yy0.1) (fun yy0=>x.length - yy0.1) (fun yy0=> .len yy0.2.2.length<| .br (.len yy0.2.2.length<| .set Int intD yy0.2.2 (fun s4_4=>yy0.2.1) (fun s4_4=> .back [(0,0)])) (.fin [(0,0)]))) (p:=(∃(k:Nat) (z:Int) (r:List Int),(0:Int)=(k:Int)∧m=z∧x.map intD=r.map intD∧k≤x.length∧z=m+((bN xN (x.take k):Nat):Int)∧r=cP aOj xN m x k)∧ ∀(k:Nat) (z:Int) (r:List Int),(k≤x.length∧z=m+((bN xN (x.take k):Nat):Int)∧r=cP aOj xN m x k)→Lm intD r∧(((decide ((k:Int)<((r.length:Nat):Int)))=true→0≤(k:Int)∧Lm intD r∧(k:Int)<((r.length:Nat):Int)∧(r.map intD=r.map intD∧k<r.length∧ ∀s4_4,r[k]? =some s4_4→eC (intD s4_4)=true∧0+1≤(intD s4_4).length∧(intD s4_4).take 0++[.int .i64 z]++(intD s4_4).drop (0+1)=intD z∧dB (z+(1:Int))∧dB ((k:Int)+(1:Int))∧ ∃(k' :Nat) (z' :Int) (r' :List Int),((k:Int)+(1:Int))=(k' :Int)∧(z+(1:Int))=z' ∧(r.set k z).map intD=r'.map intD∧(k' ≤x.length∧z' =m+((bN xN (x.take k'):Nat):Int)∧r' =cP aOj xN m x k')∧x.length - k' <x.length - k))∧((decide ((k:Int)<((r.length:Nat):Int)))=false→z=(m+((cZ x:Nat):Int))∧r.map intD=(dK m x).map intD∧True))) (by kernel_rfl) ?_
 have hS:cZ x=bN xN x:=rfl
 have hC:bX x=x.length:=rfl
 refine ⟨⟨0,m,x,rfl,rfl,rfl,Nat.zero_le _,by simp [bN],(gK _ _ _ _).symm⟩,fun k z r ⟨hk,hz,hr⟩=>?_⟩
 have hrl:r.length=x.length:=by rw [hr];exact iE _ _ _ _ _ hk
 refine ⟨List.length_map _,fun c0=>?_,fun c0=>?_⟩
 ·replace c0:=yq c0
  obtain ⟨y,hy⟩:=cC (l:=x) (k:=k) (by omega)
  have hry:r[k]? =some y:=by rw [hr,iF _ _ _ _ _ (by omega)];exact hy
  have hs:=cW xN hy
  have hle:=fG xN x (k+1)
  have hA:bN xN (x.take k)≤5*k:=aRM (fun _=>by simp [xN]) x k hk
  have hle5:=jT x
  have hE:xN y=1:=rfl
  refine ⟨by omega,List.length_map _,by first | omega | (simp only [List.length_set];omega),rfl,by first | omega | (simp only [List.length_set];omega),fun s4_4 hs4_4=>⟨rfl,Nat.le_of_ble_eq_true rfl,rfl,?_⟩⟩
  obtain rfl:=(bA hry hs4_4).symm
  refine ⟨⟨by first | omega | (dsimp only;omega),by first | omega | (dsimp only;omega)⟩,⟨by first | omega | (dsimp only;omega),by first | omega | (dsimp only;omega)⟩,?_⟩
  exact ⟨k+1,_,_,rfl,rfl,rfl,⟨by omega,by rw [hs];(try dsimp only);omega,by subst hz hr;(try simp only [List.set_set]);exact iG _ _ _ _ _ _ hy⟩,by omega⟩
 ·replace c0:=nq c0
  have hkx:k=x.length:=by omega
  rw [hkx,List.take_length] at hz
  rw [hkx,gL] at hr
  refine ⟨?_,?_,trivial⟩
  ·first | (rw [hz];rfl) | (rw [hr];rfl) | (rw [hz,hS])
  ·first | (rw [hz];rfl) | (rw [hr];rfl) | (rw [hz,hS])
abbrev nJ (x:List (List Int)) (m:Int):List AV × List (Nat × Rs) × AV × List (Nat × Rs):=([.own 0,vI m],[(0,.arr 32 1 true (x.map aE))],vI (m+((jH x:Nat):Int)),[(0,.arr 32 1 true ((gF m x).map aE))])
abbrev aA6 (x:List (List Int)) (m:Int):Prop:=lX Tryz.prog 239 (nJ x m).1 (nJ x m).2.1 (nJ x m).2.2.1 (nJ x m).2.2.2
theorem aJ2 (x:List (List Int)) (m:Int) (h0:0≤m) (hm:m+5*((cM x:Nat):Int)≤4611686018427387904):aA6 x m:=by
 refine nA bK aU Tryz.func239 (by kernel_rfl) (by kernel_rfl) (.loop (Nat × Int × (List (List Int))) (Q3 Nat Int (List (List Int))) [1,5,6,7,8,9,10,11,12,13,14,15,16,17] [0,1507] (fun yy0=>[(5,vI (yy0.1:Int)),(1,vI yy0.2.1)]) (fun yy0=>[(0,some (.arr 32 1 true (yy0.2.2.map aE)))]) (fun yy0=>yy0.1≤x.length∧yy0.2.1=m+((bN cZ (x.take yy0.1):Nat):Int)∧yy0.2.2=cP dK cZ m x yy0.1) (fun yy0=>x.length - yy0.1) (fun yy0=> .len yy0.2.2.length<| .br (.split 4 0 yy0.1 0 1507 (List Int) aE yy0.2.2 (fun b1507=> .len yy0.2.2.length<| jX (kU b1507 yy0.2.1) [(0,1507)]<| .join 3 0 1507 (List Int) aE yy0.2.2 (fun a1507=>dK yy0.2.1 b1507) (fun a1507=> .back [(0,0)]))) (.fin [(0,0)]))) (p:=(∃(k:Nat) (z:Int) (r:List (List Int)),(0:Int)=(k:Int)∧m=z∧x.map aE=r.map aE∧k≤x.length∧z=m+((bN cZ (x.take k):Nat):Int)∧r=cP dK cZ m x k)∧ ∀(k:Nat) (z:Int) (r:List (List Int)),(k≤x.length∧z=m+((bN cZ (x.take k):Nat):Int)∧r=cP dK cZ m x k)→Lm aE r∧(((decide ((k:Int)<((r.length:Nat):Int)))=true→r.map aE=r.map aE∧k<r.length∧ ∀b1507,r[k]? =some b1507→0≤(k:Int)∧Lm aE r∧(k:Int)<((r.length:Nat):Int)∧(k=k∧(pT b1507 z∧z=z∧b1507.map intD=b1507.map intD∧(r.map aE=r.map aE∧k<r.length∧ ∀a1507,r[k]? =some a1507→((aE a1507).take 0++ .sl 3 1 ((dK z b1507).map intD)::(aE a1507).drop (0+1)=aE (dK z b1507))∧dB ((k:Int)+(1:Int))∧ ∃(k' :Nat) (z' :Int) (r' :List (List Int)),((k:Int)+(1:Int))=(k' :Int)∧(z+((cZ b1507:Nat):Int))=z' ∧(r.set k (dK z b1507)).map aE=r'.map aE∧(k' ≤x.length∧z' =m+((bN cZ (x.take k'):Nat):Int)∧r' =cP dK cZ m x k')∧x.length - k' <x.length - k))))∧((decide ((k:Int)<((r.length:Nat):Int)))=false→z=(m+((jH x:Nat):Int))∧r.map aE=(gF m x).map aE∧True))) (by kernel_rfl) ?_
 have hS:jH x=bN cZ x:=rfl
 have hC:cM x=x.length+bN bX x:=rfl
 refine ⟨⟨0,m,x,rfl,rfl,rfl,Nat.zero_le _,by simp [bN],(gK _ _ _ _).symm⟩,fun k z r ⟨hk,hz,hr⟩=>?_⟩
 have hrl:r.length=x.length:=by rw [hr];exact iE _ _ _ _ _ hk
 refine ⟨List.length_map _,fun c0=>?_,fun c0=>?_⟩
 ·replace c0:=yq c0
  obtain ⟨y,hy⟩:=cC (l:=x) (k:=k) (by omega)
  have hry:r[k]? =some y:=by rw [hr,iF _ _ _ _ _ (by omega)];exact hy
  have hs:=cW cZ hy
  have hle:=fG cZ x (k+1)
  have hA:bN cZ (x.take k)≤5*(k+bN bX (x.take k)):=aK1 (s:=cZ) (c:=bX) (fun y=>by have:=jT y;omega) x k hk
  have hB:=cW bX hy
  have hD:=fG bX x (k+1)
  have hle5:=tA x
  have hy5:=jT y
  refine ⟨rfl,by first | omega | (simp only [List.length_set];omega),fun b1507 hb1507=>?_⟩
  obtain rfl:=(bA hry hb1507).symm
  refine ⟨by omega,List.length_map _,by first | omega | (simp only [List.length_set];omega),rfl,aB8 _ _ (by omega) (by first | omega | (dsimp only;omega)),rfl,rfl,rfl,by first | omega | (simp only [List.length_set];omega),fun a1507 ha1507=>⟨rfl,?_⟩⟩
  obtain rfl:=(bA hry ha1507).symm
  refine ⟨⟨by first | omega | (dsimp only;omega),by first | omega | (dsimp only;omega)⟩,?_⟩
  exact ⟨k+1,_,_,rfl,rfl,rfl,⟨by omega,by rw [hs,hz];unfold cZ;omega,by subst hz hr;(try simp only [List.set_set]);exact iG _ _ _ _ _ _ hy⟩,by omega⟩
 ·replace c0:=nq c0
  have hkx:k=x.length:=by omega
  rw [hkx,List.take_length] at hz
  rw [hkx,gL] at hr
  refine ⟨?_,?_,trivial⟩
  ·first | (rw [hz];rfl) | (rw [hr];rfl) | (rw [hz,hS])
  ·first | (rw [hz];rfl) | (rw [hr];rfl) | (rw [hz,hS])
abbrev oR (x:List aR) (m:Int):List AV × List (Nat × Rs) × AV × List (Nat × Rs):=([.own 0,vI m],[(0,.arr 162 3 true (x.map aP))],vI (m+((uK x:Nat):Int)),[(0,.arr 162 3 true ((aDa m x).map aP))])
abbrev aDC (x:List aR) (m:Int):Prop:=lX Tryz.prog 160 (oR x m).1 (oR x m).2.1 (oR x m).2.2.1 (oR x m).2.2.2
theorem aMc (x:List aR) (m:Int) (h0:0≤m) (hm:m+5*((gO x:Nat):Int)≤4611686018427387904):aDC x m:=by
 refine nA bK aU Tryz.func160 (by kernel_rfl) (by kernel_rfl) (.loop (Nat × Int × (List aR)) (Q3 Nat Int (List aR)) [1,5,6,7,8,9,10,11,12,13,14,15,16,17,18,19,20,21,22,23,24,25,26,27,28,29,30,31,32,33] [0,3107] (fun yy0=>[(5,vI (yy0.1:Int)),(1,vI yy0.2.1)]) (fun yy0=>[(0,some (.arr 162 3 true (yy0.2.2.map aP)))]) (fun yy0=>yy0.1≤x.length∧yy0.2.1=m+((bN iN (x.take yy0.1):Nat):Int)∧yy0.2.2=cP aB7 iN m x yy0.1) (fun yy0=>x.length - yy0.1) (fun yy0=> .len yy0.2.2.length<| .br (.call (.p none (.str (aX yy0.2.1))) []<| .len yy0.2.2.length<| .setm aR aP yy0.2.2 (fun s4_6=>(⟨aX yy0.2.1,s4_6.arity,s4_6.rows⟩:aR)) (fun s4_6=> .len ((yy0.2.2.set yy0.1 (⟨aX yy0.2.1,s4_6.arity,s4_6.rows⟩:aR)).length)<| .setm aR aP (yy0.2.2.set yy0.1 (⟨aX yy0.2.1,s4_6.arity,s4_6.rows⟩:aR)) (fun s6_5=>(⟨s6_5.name,yy0.2.1+(1:Int),s6_5.rows⟩:aR)) (fun s6_5=> .split 8 0 yy0.1 2 3107 aR aP ((yy0.2.2.set yy0.1 (⟨aX yy0.2.1,s4_6.arity,s4_6.rows⟩:aR)).set yy0.1 (⟨s6_5.name,yy0.2.1+(1:Int),s6_5.rows⟩:aR)) (fun b3107=> .len (((yy0.2.2.set yy0.1 (⟨aX yy0.2.1,s4_6.arity,s4_6.rows⟩:aR)).set yy0.1 (⟨s6_5.name,yy0.2.1+(1:Int),s6_5.rows⟩:aR)).length)<| jX (nJ b3107.rows ((yy0.2.1+(1:Int))+(1:Int))) [(0,3107)]<| .join 3 0 3107 aR aP ((yy0.2.2.set yy0.1 (⟨aX yy0.2.1,s4_6.arity,s4_6.rows⟩:aR)).set yy0.1 (⟨s6_5.name,yy0.2.1+(1:Int),s6_5.rows⟩:aR)) (fun a3107=>(⟨a3107.name,a3107.arity,gF ((yy0.2.1+(1:Int))+(1:Int)) b3107.rows⟩:aR)) (fun a3107=> .back [(0,0)]))))) (.fin [(0,0)]))) (p:=(∃(k:Nat) (z:Int) (r:List aR),(0:Int)=(k:Int)∧m=z∧x.map aP=r.map aP∧k≤x.length∧z=m+((bN iN (x.take k):Nat):Int)∧r=cP aB7 iN m x k)∧ ∀(k:Nat) (z:Int) (r:List aR),(k≤x.length∧z=m+((bN iN (x.take k):Nat):Int)∧r=cP aB7 iN m x k)→Lm aP r∧(((decide ((k:Int)<((r.length:Nat):Int)))=true→nI z∧(0≤(k:Int)∧Lm aP r∧(k:Int)<((r.length:Nat):Int)∧(r.map aP=r.map aP∧k<r.length∧ ∀s4_6,r[k]? =some s4_6→0+1≤(aP s4_6).length∧(aP s4_6).take 0++((aP (⟨aX z,s4_6.arity,s4_6.rows⟩:aR)).drop 0).take 1++(aP s4_6).drop (0+1)=aP (⟨aX z,s4_6.arity,s4_6.rows⟩:aR)∧(aX z)=((⟨aX z,s4_6.arity,s4_6.rows⟩:aR).name)∧(dB (z+(1:Int))∧(0≤(k:Int)∧Lm aP (r.set k (⟨aX z,s4_6.arity,s4_6.rows⟩:aR))∧(k:Int)<(((r.set k (⟨aX z,s4_6.arity,s4_6.rows⟩:aR)).length:Nat):Int)∧((r.set k (⟨aX z,s4_6.arity,s4_6.rows⟩:aR)).map aP=(r.set k (⟨aX z,s4_6.arity,s4_6.rows⟩:aR)).map aP∧k<(r.set k (⟨aX z,s4_6.arity,s4_6.rows⟩:aR)).length∧ ∀s6_5,(r.set k (⟨aX z,s4_6.arity,s4_6.rows⟩:aR))[k]? =some s6_5→1+1≤(aP s6_5).length∧(aP s6_5).take 1++((aP (⟨s6_5.name,z+(1:Int),s6_5.rows⟩:aR)).drop 1).take 1++(aP s6_5).drop (1+1)=aP (⟨s6_5.name,z+(1:Int),s6_5.rows⟩:aR)∧(z+(1:Int))=((⟨s6_5.name,z+(1:Int),s6_5.rows⟩:aR).arity)∧(dB ((z+(1:Int))+(1:Int))∧(((r.set k (⟨aX z,s4_6.arity,s4_6.rows⟩:aR)).set k (⟨s6_5.name,z+(1:Int),s6_5.rows⟩:aR)).map aP=((r.set k (⟨aX z,s4_6.arity,s4_6.rows⟩:aR)).set k (⟨s6_5.name,z+(1:Int),s6_5.rows⟩:aR)).map aP∧k<((r.set k (⟨aX z,s4_6.arity,s4_6.rows⟩:aR)).set k (⟨s6_5.name,z+(1:Int),s6_5.rows⟩:aR)).length∧ ∀b3107,((r.set k (⟨aX z,s4_6.arity,s4_6.rows⟩:aR)).set k (⟨s6_5.name,z+(1:Int),s6_5.rows⟩:aR))[k]? =some b3107→0≤(k:Int)∧Lm aP ((r.set k (⟨aX z,s4_6.arity,s4_6.rows⟩:aR)).set k (⟨s6_5.name,z+(1:Int),s6_5.rows⟩:aR))∧(k:Int)<((((r.set k (⟨aX z,s4_6.arity,s4_6.rows⟩:aR)).set k (⟨s6_5.name,z+(1:Int),s6_5.rows⟩:aR)).length:Nat):Int)∧(k=k∧(aA6 b3107.rows ((z+(1:Int))+(1:Int))∧((z+(1:Int))+(1:Int))=((z+(1:Int))+(1:Int))∧b3107.rows.map aE=b3107.rows.map aE∧(((r.set k (⟨aX z,s4_6.arity,s4_6.rows⟩:aR)).set k (⟨s6_5.name,z+(1:Int),s6_5.rows⟩:aR)).map aP=((r.set k (⟨aX z,s4_6.arity,s4_6.rows⟩:aR)).set k (⟨s6_5.name,z+(1:Int),s6_5.rows⟩:aR)).map aP∧k<((r.set k (⟨aX z,s4_6.arity,s4_6.rows⟩:aR)).set k (⟨s6_5.name,z+(1:Int),s6_5.rows⟩:aR)).length∧ ∀a3107,((r.set k (⟨aX z,s4_6.arity,s4_6.rows⟩:aR)).set k (⟨s6_5.name,z+(1:Int),s6_5.rows⟩:aR))[k]? =some a3107→((aP a3107).take 2++ .sl 32 1 ((gF ((z+(1:Int))+(1:Int)) b3107.rows).map aE)::(aP a3107).drop (2+1)=aP (⟨a3107.name,a3107.arity,gF ((z+(1:Int))+(1:Int)) b3107.rows⟩:aR))∧dB ((k:Int)+(1:Int))∧ ∃(k' :Nat) (z' :Int) (r' :List aR),((k:Int)+(1:Int))=(k' :Int)∧(((z+(1:Int))+(1:Int))+((jH b3107.rows:Nat):Int))=z' ∧(((r.set k (⟨aX z,s4_6.arity,s4_6.rows⟩:aR)).set k (⟨s6_5.name,z+(1:Int),s6_5.rows⟩:aR)).set k (⟨a3107.name,a3107.arity,gF ((z+(1:Int))+(1:Int)) b3107.rows⟩:aR)).map aP=r'.map aP∧(k' ≤x.length∧z' =m+((bN iN (x.take k'):Nat):Int)∧r' =cP aB7 iN m x k')∧x.length - k' <x.length - k)))))))))))∧((decide ((k:Int)<((r.length:Nat):Int)))=false→z=(m+((uK x:Nat):Int))∧r.map aP=(aDa m x).map aP∧True))) (by kernel_rfl) ?_
 have hS:uK x=bN iN x:=rfl
 have hC:gO x=x.length+bN eN x:=rfl
 refine ⟨⟨0,m,x,rfl,rfl,rfl,Nat.zero_le _,by simp [bN],(gK _ _ _ _).symm⟩,fun k z r ⟨hk,hz,hr⟩=>?_⟩
 have hrl:r.length=x.length:=by rw [hr];exact iE _ _ _ _ _ hk
 refine ⟨List.length_map _,fun c0=>?_,fun c0=>?_⟩
 ·replace c0:=yq c0
  obtain ⟨y,hy⟩:=cC (l:=x) (k:=k) (by omega)
  have hry:r[k]? =some y:=by rw [hr,iF _ _ _ _ _ (by omega)];exact hy
  have hs:=cW iN hy
  have hle:=fG iN x (k+1)
  have hA:bN iN (x.take k)≤5*(k+bN eN (x.take k)):=aK1 aFU x k hk
  have hB:=cW eN hy
  have hD:=fG eN x (k+1)
  have hF:eN y=ByteArray.size y.name+cM y.rows:=rfl
  have hle5:=aA5 x
  have hE:iN y=1+1+jH y.rows:=rfl
  have hy_rows:=tA y.rows
  refine ⟨yY _ (by omega),by omega,List.length_map _,by first | omega | (simp only [List.length_set];omega),rfl,by first | omega | (simp only [List.length_set];omega),fun s4_6 hs4_6=>?_⟩
  obtain rfl:=(bA hry hs4_6).symm
  refine ⟨Nat.le_of_ble_eq_true rfl,rfl,rfl,⟨by first | omega | (dsimp only;omega),by first | omega | (dsimp only;omega)⟩,by omega,List.length_map _,by first | omega | (simp only [List.length_set];omega),rfl,by first | omega | (simp only [List.length_set];omega),fun s6_5 hs6_5=>?_⟩
  obtain rfl:=iA hs6_5
  refine ⟨Nat.le_of_ble_eq_true rfl,rfl,rfl,⟨by first | omega | (dsimp only;omega),by first | omega | (dsimp only;omega)⟩,rfl,by first | omega | (simp only [List.length_set];omega),fun b3107 hb3107=>?_⟩
  obtain rfl:=iA hb3107
  refine ⟨by omega,List.length_map _,by first | omega | (simp only [List.length_set];omega),rfl,aJ2 _ _ (by omega) (by first | omega | (dsimp only;omega)),rfl,rfl,rfl,by first | omega | (simp only [List.length_set];omega),fun a3107 ha3107=>⟨rfl,?_⟩⟩
  obtain rfl:=iA ha3107
  refine ⟨⟨by first | omega | (dsimp only;omega),by first | omega | (dsimp only;omega)⟩,?_⟩
  exact ⟨k+1,_,_,rfl,rfl,rfl,⟨by omega,by rw [hs];(try dsimp only);omega,by subst hz hr;(try simp only [List.set_set]);exact iG _ _ _ _ _ _ hy⟩,by omega⟩
 ·replace c0:=nq c0
  have hkx:k=x.length:=by omega
  rw [hkx,List.take_length] at hz
  rw [hkx,gL] at hr
  refine ⟨?_,?_,trivial⟩
  ·first | (rw [hz];rfl) | (rw [hr];rfl) | (rw [hz,hS])
  ·first | (rw [hz];rfl) | (rw [hr];rfl) | (rw [hz,hS])
abbrev lE (x:aV) (m:Int):List AV × List (Nat × Rs) × AV × List (Nat × Rs):=([.agg [.own 0],vI m],[(0,.arr 162 3 true (x.tables.map aP))],vI (m+((dE x:Nat):Int)),[(0,.arr 162 3 true (((uL m x).tables).map aP))])
abbrev zL (x:aV) (m:Int):Prop:=lX Tryz.prog 81 (lE x m).1 (lE x m).2.1 (lE x m).2.2.1 (lE x m).2.2.2
theorem aJ3 (x:aV) (m:Int) (h0:0≤m) (hm:m+5*((bF x:Nat):Int)≤4611686018427387904):zL x m:=by
 refine nA bK aU Tryz.func81 (by kernel_rfl) (by kernel_rfl) (jX (oR x.tables m) [(0,0)]<| .fin [(0,0)]) (p:=aDC x.tables m∧m=m∧x.tables.map aP=x.tables.map aP∧(m+((uK x.tables:Nat):Int))=(m+((dE x:Nat):Int))∧(aDa m x.tables).map aP=((uL m x).tables).map aP∧True) (by kernel_rfl) ?_
 have hS:dE x=uK x.tables:=rfl
 have hC:bF x=gO x.tables:=rfl
 have:=aA5 x.tables
 refine ⟨aMc _ _ (by omega) (by first | omega | (dsimp only;omega)),rfl,rfl,?_,?_,trivial⟩
 ·first | rfl | (rw [hS];omega)
 ·first | rfl | (rw [hS];omega)
abbrev iZ (x:List aG) (m:Int):List AV × List (Nat × Rs) × AV × List (Nat × Rs):=([.own 0,vI m],[(0,.arr 218 3 true (x.map aA))],vI (m+((jJ x:Nat):Int)),[(0,.arr 218 3 true ((jI m x).map aA))])
abbrev tB (x:List aG) (m:Int):Prop:=lX Tryz.prog 240 (iZ x m).1 (iZ x m).2.1 (iZ x m).2.2.1 (iZ x m).2.2.2
theorem aFV (x:List aG) (m:Int) (h0:0≤m) (hm:m+5*((cQ x:Nat):Int)≤4611686018427387904):tB x m:=by
 refine nA bK aU Tryz.func240 (by kernel_rfl) (by kernel_rfl) (.loop (Nat × Int × (List aG)) (Q3 Nat Int (List aG)) [1,5,6,7,8,9,10,11,12,13,14,15,16,17,18,19,20,21,22,23,24,25,26,27,28,29,30,31,32] [0,1607,2307,3007] (fun yy0=>[(5,vI (yy0.1:Int)),(1,vI yy0.2.1)]) (fun yy0=>[(0,some (.arr 218 3 true (yy0.2.2.map aA)))]) (fun yy0=>yy0.1≤x.length∧yy0.2.1=m+((bN dS (x.take yy0.1):Nat):Int)∧yy0.2.2=cP mM dS m x yy0.1) (fun yy0=>x.length - yy0.1) (fun yy0=> .len yy0.2.2.length<| .br (.split 4 0 yy0.1 0 1607 aG aA yy0.2.2 (fun b1607=> .len yy0.2.2.length<| jX (kU b1607.columns yy0.2.1) [(0,1607)]<| .join 5 0 1607 aG aA yy0.2.2 (fun a1607=>(⟨dK yy0.2.1 b1607.columns,a1607.values,a1607.counts⟩:aG)) (fun a1607=> .split 5 0 yy0.1 1 2307 aG aA (yy0.2.2.set yy0.1 (⟨dK yy0.2.1 b1607.columns,a1607.values,a1607.counts⟩:aG)) (fun b2307=> .len ((yy0.2.2.set yy0.1 (⟨dK yy0.2.1 b1607.columns,a1607.values,a1607.counts⟩:aG)).length)<| jX (nJ b2307.values (yy0.2.1+((cZ b1607.columns:Nat):Int))) [(0,2307)]<| .join 6 0 2307 aG aA (yy0.2.2.set yy0.1 (⟨dK yy0.2.1 b1607.columns,a1607.values,a1607.counts⟩:aG)) (fun a2307=>(⟨a2307.columns,gF (yy0.2.1+((cZ b1607.columns:Nat):Int)) b2307.values,a2307.counts⟩:aG)) (fun a2307=> .split 6 0 yy0.1 2 3007 aG aA ((yy0.2.2.set yy0.1 (⟨dK yy0.2.1 b1607.columns,a1607.values,a1607.counts⟩:aG)).set yy0.1 (⟨a2307.columns,gF (yy0.2.1+((cZ b1607.columns:Nat):Int)) b2307.values,a2307.counts⟩:aG)) (fun b3007=> .len (((yy0.2.2.set yy0.1 (⟨dK yy0.2.1 b1607.columns,a1607.values,a1607.counts⟩:aG)).set yy0.1 (⟨a2307.columns,gF (yy0.2.1+((cZ b1607.columns:Nat):Int)) b2307.values,a2307.counts⟩:aG)).length)<| jX (kU b3007.counts ((yy0.2.1+((cZ b1607.columns:Nat):Int))+((jH b2307.values:Nat):Int))) [(0,3007)]<| .join 3 0 3007 aG aA ((yy0.2.2.set yy0.1 (⟨dK yy0.2.1 b1607.columns,a1607.values,a1607.counts⟩:aG)).set yy0.1 (⟨a2307.columns,gF (yy0.2.1+((cZ b1607.columns:Nat):Int)) b2307.values,a2307.counts⟩:aG)) (fun a3007=>(⟨a3007.columns,a3007.values,dK ((yy0.2.1+((cZ b1607.columns:Nat):Int))+((jH b2307.values:Nat):Int)) b3007.counts⟩:aG)) (fun a3007=> .back [(0,0)]))))))) (.fin [(0,0)]))) (p:=(∃(k:Nat) (z:Int) (r:List aG),(0:Int)=(k:Int)∧m=z∧x.map aA=r.map aA∧k≤x.length∧z=m+((bN dS (x.take k):Nat):Int)∧r=cP mM dS m x k)∧ ∀(k:Nat) (z:Int) (r:List aG),(k≤x.length∧z=m+((bN dS (x.take k):Nat):Int)∧r=cP mM dS m x k)→Lm aA r∧(((decide ((k:Int)<((r.length:Nat):Int)))=true→r.map aA=r.map aA∧k<r.length∧ ∀b1607,r[k]? =some b1607→0≤(k:Int)∧Lm aA r∧(k:Int)<((r.length:Nat):Int)∧(k=k∧(pT b1607.columns z∧z=z∧b1607.columns.map intD=b1607.columns.map intD∧(r.map aA=r.map aA∧k<r.length∧ ∀a1607,r[k]? =some a1607→((aA a1607).take 0++ .sl 3 1 ((dK z b1607.columns).map intD)::(aA a1607).drop (0+1)=aA (⟨dK z b1607.columns,a1607.values,a1607.counts⟩:aG))∧(r.set k (⟨dK z b1607.columns,a1607.values,a1607.counts⟩:aG)).map aA=(r.set k (⟨dK z b1607.columns,a1607.values,a1607.counts⟩:aG)).map aA∧k<(r.set k (⟨dK z b1607.columns,a1607.values,a1607.counts⟩:aG)).length∧ ∀b2307,(r.set k (⟨dK z b1607.columns,a1607.values,a1607.counts⟩:aG))[k]? =some b2307→0≤(k:Int)∧Lm aA (r.set k (⟨dK z b1607.columns,a1607.values,a1607.counts⟩:aG))∧(k:Int)<(((r.set k (⟨dK z b1607.columns,a1607.values,a1607.counts⟩:aG)).length:Nat):Int)∧(k=k∧(aA6 b2307.values (z+((cZ b1607.columns:Nat):Int))∧(z+((cZ b1607.columns:Nat):Int))=(z+((cZ b1607.columns:Nat):Int))∧b2307.values.map aE=b2307.values.map aE∧((r.set k (⟨dK z b1607.columns,a1607.values,a1607.counts⟩:aG)).map aA=(r.set k (⟨dK z b1607.columns,a1607.values,a1607.counts⟩:aG)).map aA∧k<(r.set k (⟨dK z b1607.columns,a1607.values,a1607.counts⟩:aG)).length∧ ∀a2307,(r.set k (⟨dK z b1607.columns,a1607.values,a1607.counts⟩:aG))[k]? =some a2307→((aA a2307).take 1++ .sl 32 1 ((gF (z+((cZ b1607.columns:Nat):Int)) b2307.values).map aE)::(aA a2307).drop (1+1)=aA (⟨a2307.columns,gF (z+((cZ b1607.columns:Nat):Int)) b2307.values,a2307.counts⟩:aG))∧((r.set k (⟨dK z b1607.columns,a1607.values,a1607.counts⟩:aG)).set k (⟨a2307.columns,gF (z+((cZ b1607.columns:Nat):Int)) b2307.values,a2307.counts⟩:aG)).map aA=((r.set k (⟨dK z b1607.columns,a1607.values,a1607.counts⟩:aG)).set k (⟨a2307.columns,gF (z+((cZ b1607.columns:Nat):Int)) b2307.values,a2307.counts⟩:aG)).map aA∧k<((r.set k (⟨dK z b1607.columns,a1607.values,a1607.counts⟩:aG)).set k (⟨a2307.columns,gF (z+((cZ b1607.columns:Nat):Int)) b2307.values,a2307.counts⟩:aG)).length∧ ∀b3007,((r.set k (⟨dK z b1607.columns,a1607.values,a1607.counts⟩:aG)).set k (⟨a2307.columns,gF (z+((cZ b1607.columns:Nat):Int)) b2307.values,a2307.counts⟩:aG))[k]? =some b3007→0≤(k:Int)∧Lm aA ((r.set k (⟨dK z b1607.columns,a1607.values,a1607.counts⟩:aG)).set k (⟨a2307.columns,gF (z+((cZ b1607.columns:Nat):Int)) b2307.values,a2307.counts⟩:aG))∧(k:Int)<((((r.set k (⟨dK z b1607.columns,a1607.values,a1607.counts⟩:aG)).set k (⟨a2307.columns,gF (z+((cZ b1607.columns:Nat):Int)) b2307.values,a2307.counts⟩:aG)).length:Nat):Int)∧(k=k∧(pT b3007.counts ((z+((cZ b1607.columns:Nat):Int))+((jH b2307.values:Nat):Int))∧((z+((cZ b1607.columns:Nat):Int))+((jH b2307.values:Nat):Int))=((z+((cZ b1607.columns:Nat):Int))+((jH b2307.values:Nat):Int))∧b3007.counts.map intD=b3007.counts.map intD∧(((r.set k (⟨dK z b1607.columns,a1607.values,a1607.counts⟩:aG)).set k (⟨a2307.columns,gF (z+((cZ b1607.columns:Nat):Int)) b2307.values,a2307.counts⟩:aG)).map aA=((r.set k (⟨dK z b1607.columns,a1607.values,a1607.counts⟩:aG)).set k (⟨a2307.columns,gF (z+((cZ b1607.columns:Nat):Int)) b2307.values,a2307.counts⟩:aG)).map aA∧k<((r.set k (⟨dK z b1607.columns,a1607.values,a1607.counts⟩:aG)).set k (⟨a2307.columns,gF (z+((cZ b1607.columns:Nat):Int)) b2307.values,a2307.counts⟩:aG)).length∧ ∀a3007,((r.set k (⟨dK z b1607.columns,a1607.values,a1607.counts⟩:aG)).set k (⟨a2307.columns,gF (z+((cZ b1607.columns:Nat):Int)) b2307.values,a2307.counts⟩:aG))[k]? =some a3007→((aA a3007).take 2++ .sl 3 1 ((dK ((z+((cZ b1607.columns:Nat):Int))+((jH b2307.values:Nat):Int)) b3007.counts).map intD)::(aA a3007).drop (2+1)=aA (⟨a3007.columns,a3007.values,dK ((z+((cZ b1607.columns:Nat):Int))+((jH b2307.values:Nat):Int)) b3007.counts⟩:aG))∧dB ((k:Int)+(1:Int))∧ ∃(k' :Nat) (z' :Int) (r' :List aG),((k:Int)+(1:Int))=(k' :Int)∧(((z+((cZ b1607.columns:Nat):Int))+((jH b2307.values:Nat):Int))+((cZ b3007.counts:Nat):Int))=z' ∧(((r.set k (⟨dK z b1607.columns,a1607.values,a1607.counts⟩:aG)).set k (⟨a2307.columns,gF (z+((cZ b1607.columns:Nat):Int)) b2307.values,a2307.counts⟩:aG)).set k (⟨a3007.columns,a3007.values,dK ((z+((cZ b1607.columns:Nat):Int))+((jH b2307.values:Nat):Int)) b3007.counts⟩:aG)).map aA=r'.map aA∧(k' ≤x.length∧z' =m+((bN dS (x.take k'):Nat):Int)∧r' =cP mM dS m x k')∧x.length - k' <x.length - k))))))))))∧((decide ((k:Int)<((r.length:Nat):Int)))=false→z=(m+((jJ x:Nat):Int))∧r.map aA=(jI m x).map aA∧True))) (by kernel_rfl) ?_
 have hS:jJ x=bN dS x:=rfl
 have hC:cQ x=x.length+bN bH x:=rfl
 refine ⟨⟨0,m,x,rfl,rfl,rfl,Nat.zero_le _,by simp [bN],(gK _ _ _ _).symm⟩,fun k z r ⟨hk,hz,hr⟩=>?_⟩
 have hrl:r.length=x.length:=by rw [hr];exact iE _ _ _ _ _ hk
 refine ⟨List.length_map _,fun c0=>?_,fun c0=>?_⟩
 ·replace c0:=yq c0
  obtain ⟨y,hy⟩:=cC (l:=x) (k:=k) (by omega)
  have hry:r[k]? =some y:=by rw [hr,iF _ _ _ _ _ (by omega)];exact hy
  have hs:=cW dS hy
  have hle:=fG dS x (k+1)
  have hA:bN dS (x.take k)≤5*(k+bN bH (x.take k)):=aK1 uV x k hk
  have hB:=cW bH hy
  have hD:=fG bH x (k+1)
  have hF:bH y=bX y.columns+cM y.values+bX y.counts:=rfl
  have hle5:=oU x
  have hE:dS y=cZ y.columns+jH y.values+cZ y.counts:=rfl
  have hy_columns:=jT y.columns
  have hy_values:=tA y.values
  have hy_counts:=jT y.counts
  refine ⟨rfl,by first | omega | (simp only [List.length_set];omega),fun b1607 hb1607=>?_⟩
  obtain rfl:=(bA hry hb1607).symm
  refine ⟨by omega,List.length_map _,by first | omega | (simp only [List.length_set];omega),rfl,aB8 _ _ (by omega) (by first | omega | (dsimp only;omega)),rfl,rfl,rfl,by first | omega | (simp only [List.length_set];omega),fun a1607 ha1607=>⟨rfl,?_⟩⟩
  obtain rfl:=(bA hry ha1607).symm
  refine ⟨rfl,by first | omega | (simp only [List.length_set];omega),fun b2307 hb2307=>?_⟩
  obtain rfl:=iA hb2307
  refine ⟨by omega,List.length_map _,by first | omega | (simp only [List.length_set];omega),rfl,aJ2 _ _ (by omega) (by first | omega | (dsimp only;omega)),rfl,rfl,rfl,by first | omega | (simp only [List.length_set];omega),fun a2307 ha2307=>⟨rfl,?_⟩⟩
  obtain rfl:=iA ha2307
  refine ⟨rfl,by first | omega | (simp only [List.length_set];omega),fun b3007 hb3007=>?_⟩
  obtain rfl:=iA hb3007
  refine ⟨by omega,List.length_map _,by first | omega | (simp only [List.length_set];omega),rfl,aB8 _ _ (by omega) (by first | omega | (dsimp only;omega)),rfl,rfl,rfl,by first | omega | (simp only [List.length_set];omega),fun a3007 ha3007=>⟨rfl,?_⟩⟩
  obtain rfl:=iA ha3007
  refine ⟨⟨by first | omega | (dsimp only;omega),by first | omega | (dsimp only;omega)⟩,?_⟩
  exact ⟨k+1,_,_,rfl,rfl,rfl,⟨by omega,by rw [hs];(try dsimp only);omega,by subst hz hr;(try simp only [List.set_set]);exact iG _ _ _ _ _ _ hy⟩,by omega⟩
 ·replace c0:=nq c0
  have hkx:k=x.length:=by omega
  rw [hkx,List.take_length] at hz
  rw [hkx,gL] at hr
  refine ⟨?_,?_,trivial⟩
  ·first | (rw [hz];rfl) | (rw [hr];rfl) | (rw [hz,hS])
  ·first | (rw [hz];rfl) | (rw [hr];rfl) | (rw [hz,hS])
abbrev jA (x:List aB) (m:Int):List AV × List (Nat × Rs) × AV × List (Nat × Rs):=([.own 0,vI m],[(0,.arr 121 4 true (x.map aC))],vI (m+((jK x:Nat):Int)),[(0,.arr 121 4 true ((pK m x).map aC))])
abbrev tC (x:List aB) (m:Int):Prop:=lX Tryz.prog 161 (jA x m).1 (jA x m).2.1 (jA x m).2.2.1 (jA x m).2.2.2
theorem aFW (x:List aB) (m:Int) (h0:0≤m) (hm:m+5*((cX x:Nat):Int)≤4611686018427387904):tC x m:=by
 refine nA bK aU Tryz.func161 (by kernel_rfl) (by kernel_rfl) (.loop (Nat × Int × (List aB)) (Q3 Nat Int (List aB)) [1,5,6,7,8,9,10,11,12,13,14,15,16,17,18,19,20,21,22,23,24,25,26,27,28,29,30,31,32,33,34,35,36,37,38,39,40] [0,3807] (fun yy0=>[(5,vI (yy0.1:Int)),(1,vI yy0.2.1)]) (fun yy0=>[(0,some (.arr 121 4 true (yy0.2.2.map aC)))]) (fun yy0=>yy0.1≤x.length∧yy0.2.1=m+((bN dT (x.take yy0.1):Nat):Int)∧yy0.2.2=cP mN dT m x yy0.1) (fun yy0=>x.length - yy0.1) (fun yy0=> .len yy0.2.2.length<| .br (.call (.p none (.str (aX yy0.2.1))) []<| .len yy0.2.2.length<| .setm aB aC yy0.2.2 (fun s4_6=>(⟨aX yy0.2.1,s4_6.arity,s4_6.rowCount,s4_6.groups⟩:aB)) (fun s4_6=> .len ((yy0.2.2.set yy0.1 (⟨aX yy0.2.1,s4_6.arity,s4_6.rowCount,s4_6.groups⟩:aB)).length)<| .setm aB aC (yy0.2.2.set yy0.1 (⟨aX yy0.2.1,s4_6.arity,s4_6.rowCount,s4_6.groups⟩:aB)) (fun s6_5=>(⟨s6_5.name,yy0.2.1+(1:Int),s6_5.rowCount,s6_5.groups⟩:aB)) (fun s6_5=> .len (((yy0.2.2.set yy0.1 (⟨aX yy0.2.1,s4_6.arity,s4_6.rowCount,s4_6.groups⟩:aB)).set yy0.1 (⟨s6_5.name,yy0.2.1+(1:Int),s6_5.rowCount,s6_5.groups⟩:aB)).length)<| .setm aB aC ((yy0.2.2.set yy0.1 (⟨aX yy0.2.1,s4_6.arity,s4_6.rowCount,s4_6.groups⟩:aB)).set yy0.1 (⟨s6_5.name,yy0.2.1+(1:Int),s6_5.rowCount,s6_5.groups⟩:aB)) (fun s8_5=>(⟨s8_5.name,s8_5.arity,(yy0.2.1+(1:Int))+(1:Int),s8_5.groups⟩:aB)) (fun s8_5=> .split 10 0 yy0.1 3 3807 aB aC (((yy0.2.2.set yy0.1 (⟨aX yy0.2.1,s4_6.arity,s4_6.rowCount,s4_6.groups⟩:aB)).set yy0.1 (⟨s6_5.name,yy0.2.1+(1:Int),s6_5.rowCount,s6_5.groups⟩:aB)).set yy0.1 (⟨s8_5.name,s8_5.arity,(yy0.2.1+(1:Int))+(1:Int),s8_5.groups⟩:aB)) (fun b3807=> .len ((((yy0.2.2.set yy0.1 (⟨aX yy0.2.1,s4_6.arity,s4_6.rowCount,s4_6.groups⟩:aB)).set yy0.1 (⟨s6_5.name,yy0.2.1+(1:Int),s6_5.rowCount,s6_5.groups⟩:aB)).set yy0.1 (⟨s8_5.name,s8_5.arity,(yy0.2.1+(1:Int))+(1:Int),s8_5.groups⟩:aB)).length)<| jX (iZ b3807.groups (((yy0.2.1+(1:Int))+(1:Int))+(1:Int))) [(0,3807)]<| .join 3 0 3807 aB aC (((yy0.2.2.set yy0.1 (⟨aX yy0.2.1,s4_6.arity,s4_6.rowCount,s4_6.groups⟩:aB)).set yy0.1 (⟨s6_5.name,yy0.2.1+(1:Int),s6_5.rowCount,s6_5.groups⟩:aB)).set yy0.1 (⟨s8_5.name,s8_5.arity,(yy0.2.1+(1:Int))+(1:Int),s8_5.groups⟩:aB)) (fun a3807=>(⟨a3807.name,a3807.arity,a3807.rowCount,jI (((yy0.2.1+(1:Int))+(1:Int))+(1:Int)) b3807.groups⟩:aB)) (fun a3807=> .back [(0,0)])))))) (.fin [(0,0)]))) (p:=(∃(k:Nat) (z:Int) (r:List aB),(0:Int)=(k:Int)∧m=z∧x.map aC=r.map aC∧k≤x.length∧z=m+((bN dT (x.take k):Nat):Int)∧r=cP mN dT m x k)∧ ∀(k:Nat) (z:Int) (r:List aB),(k≤x.length∧z=m+((bN dT (x.take k):Nat):Int)∧r=cP mN dT m x k)→Lm aC r∧(((decide ((k:Int)<((r.length:Nat):Int)))=true→nI z∧(0≤(k:Int)∧Lm aC r∧(k:Int)<((r.length:Nat):Int)∧(r.map aC=r.map aC∧k<r.length∧ ∀s4_6,r[k]? =some s4_6→0+1≤(aC s4_6).length∧(aC s4_6).take 0++((aC (⟨aX z,s4_6.arity,s4_6.rowCount,s4_6.groups⟩:aB)).drop 0).take 1++(aC s4_6).drop (0+1)=aC (⟨aX z,s4_6.arity,s4_6.rowCount,s4_6.groups⟩:aB)∧(aX z)=((⟨aX z,s4_6.arity,s4_6.rowCount,s4_6.groups⟩:aB).name)∧(dB (z+(1:Int))∧(0≤(k:Int)∧Lm aC (r.set k (⟨aX z,s4_6.arity,s4_6.rowCount,s4_6.groups⟩:aB))∧(k:Int)<(((r.set k (⟨aX z,s4_6.arity,s4_6.rowCount,s4_6.groups⟩:aB)).length:Nat):Int)∧((r.set k (⟨aX z,s4_6.arity,s4_6.rowCount,s4_6.groups⟩:aB)).map aC=(r.set k (⟨aX z,s4_6.arity,s4_6.rowCount,s4_6.groups⟩:aB)).map aC∧k<(r.set k (⟨aX z,s4_6.arity,s4_6.rowCount,s4_6.groups⟩:aB)).length∧ ∀s6_5,(r.set k (⟨aX z,s4_6.arity,s4_6.rowCount,s4_6.groups⟩:aB))[k]? =some s6_5→1+1≤(aC s6_5).length∧(aC s6_5).take 1++((aC (⟨s6_5.name,z+(1:Int),s6_5.rowCount,s6_5.groups⟩:aB)).drop 1).take 1++(aC s6_5).drop (1+1)=aC (⟨s6_5.name,z+(1:Int),s6_5.rowCount,s6_5.groups⟩:aB)∧(z+(1:Int))=((⟨s6_5.name,z+(1:Int),s6_5.rowCount,s6_5.groups⟩:aB).arity)∧(dB ((z+(1:Int))+(1:Int))∧(0≤(k:Int)∧Lm aC ((r.set k (⟨aX z,s4_6.arity,s4_6.rowCount,s4_6.groups⟩:aB)).set k (⟨s6_5.name,z+(1:Int),s6_5.rowCount,s6_5.groups⟩:aB))∧(k:Int)<((((r.set k (⟨aX z,s4_6.arity,s4_6.rowCount,s4_6.groups⟩:aB)).set k (⟨s6_5.name,z+(1:Int),s6_5.rowCount,s6_5.groups⟩:aB)).length:Nat):Int)∧(((r.set k (⟨aX z,s4_6.arity,s4_6.rowCount,s4_6.groups⟩:aB)).set k (⟨s6_5.name,z+(1:Int),s6_5.rowCount,s6_5.groups⟩:aB)).map aC=((r.set k (⟨aX z,s4_6.arity,s4_6.rowCount,s4_6.groups⟩:aB)).set k (⟨s6_5.name,z+(1:Int),s6_5.rowCount,s6_5.groups⟩:aB)).map aC∧k<((r.set k (⟨aX z,s4_6.arity,s4_6.rowCount,s4_6.groups⟩:aB)).set k (⟨s6_5.name,z+(1:Int),s6_5.rowCount,s6_5.groups⟩:aB)).length∧ ∀s8_5,((r.set k (⟨aX z,s4_6.arity,s4_6.rowCount,s4_6.groups⟩:aB)).set k (⟨s6_5.name,z+(1:Int),s6_5.rowCount,s6_5.groups⟩:aB))[k]? =some s8_5→2+1≤(aC s8_5).length∧(aC s8_5).take 2++((aC (⟨s8_5.name,s8_5.arity,(z+(1:Int))+(1:Int),s8_5.groups⟩:aB)).drop 2).take 1++(aC s8_5).drop (2+1)=aC (⟨s8_5.name,s8_5.arity,(z+(1:Int))+(1:Int),s8_5.groups⟩:aB)∧((z+(1:Int))+(1:Int))=((⟨s8_5.name,s8_5.arity,(z+(1:Int))+(1:Int),s8_5.groups⟩:aB).rowCount)∧(dB (((z+(1:Int))+(1:Int))+(1:Int))∧((((r.set k (⟨aX z,s4_6.arity,s4_6.rowCount,s4_6.groups⟩:aB)).set k (⟨s6_5.name,z+(1:Int),s6_5.rowCount,s6_5.groups⟩:aB)).set k (⟨s8_5.name,s8_5.arity,(z+(1:Int))+(1:Int),s8_5.groups⟩:aB)).map aC=(((r.set k (⟨aX z,s4_6.arity,s4_6.rowCount,s4_6.groups⟩:aB)).set k (⟨s6_5.name,z+(1:Int),s6_5.rowCount,s6_5.groups⟩:aB)).set k (⟨s8_5.name,s8_5.arity,(z+(1:Int))+(1:Int),s8_5.groups⟩:aB)).map aC∧k<(((r.set k (⟨aX z,s4_6.arity,s4_6.rowCount,s4_6.groups⟩:aB)).set k (⟨s6_5.name,z+(1:Int),s6_5.rowCount,s6_5.groups⟩:aB)).set k (⟨s8_5.name,s8_5.arity,(z+(1:Int))+(1:Int),s8_5.groups⟩:aB)).length∧ ∀b3807,(((r.set k (⟨aX z,s4_6.arity,s4_6.rowCount,s4_6.groups⟩:aB)).set k (⟨s6_5.name,z+(1:Int),s6_5.rowCount,s6_5.groups⟩:aB)).set k (⟨s8_5.name,s8_5.arity,(z+(1:Int))+(1:Int),s8_5.groups⟩:aB))[k]? =some b3807→0≤(k:Int)∧Lm aC (((r.set k (⟨aX z,s4_6.arity,s4_6.rowCount,s4_6.groups⟩:aB)).set k (⟨s6_5.name,z+(1:Int),s6_5.rowCount,s6_5.groups⟩:aB)).set k (⟨s8_5.name,s8_5.arity,(z+(1:Int))+(1:Int),s8_5.groups⟩:aB))∧(k:Int)<(((((r.set k (⟨aX z,s4_6.arity,s4_6.rowCount,s4_6.groups⟩:aB)).set k (⟨s6_5.name,z+(1:Int),s6_5.rowCount,s6_5.groups⟩:aB)).set k (⟨s8_5.name,s8_5.arity,(z+(1:Int))+(1:Int),s8_5.groups⟩:aB)).length:Nat):Int)∧(k=k∧(tB b3807.groups (((z+(1:Int))+(1:Int))+(1:Int))∧(((z+(1:Int))+(1:Int))+(1:Int))=(((z+(1:Int))+(1:Int))+(1:Int))∧b3807.groups.map aA=b3807.groups.map aA∧((((r.set k (⟨aX z,s4_6.arity,s4_6.rowCount,s4_6.groups⟩:aB)).set k (⟨s6_5.name,z+(1:Int),s6_5.rowCount,s6_5.groups⟩:aB)).set k (⟨s8_5.name,s8_5.arity,(z+(1:Int))+(1:Int),s8_5.groups⟩:aB)).map aC=(((r.set k (⟨aX z,s4_6.arity,s4_6.rowCount,s4_6.groups⟩:aB)).set k (⟨s6_5.name,z+(1:Int),s6_5.rowCount,s6_5.groups⟩:aB)).set k (⟨s8_5.name,s8_5.arity,(z+(1:Int))+(1:Int),s8_5.groups⟩:aB)).map aC∧k<(((r.set k (⟨aX z,s4_6.arity,s4_6.rowCount,s4_6.groups⟩:aB)).set k (⟨s6_5.name,z+(1:Int),s6_5.rowCount,s6_5.groups⟩:aB)).set k (⟨s8_5.name,s8_5.arity,(z+(1:Int))+(1:Int),s8_5.groups⟩:aB)).length∧ ∀a3807,(((r.set k (⟨aX z,s4_6.arity,s4_6.rowCount,s4_6.groups⟩:aB)).set k (⟨s6_5.name,z+(1:Int),s6_5.rowCount,s6_5.groups⟩:aB)).set k (⟨s8_5.name,s8_5.arity,(z+(1:Int))+(1:Int),s8_5.groups⟩:aB))[k]? =some a3807→((aC a3807).take 3++ .sl 218 3 ((jI (((z+(1:Int))+(1:Int))+(1:Int)) b3807.groups).map aA)::(aC a3807).drop (3+1)=aC (⟨a3807.name,a3807.arity,a3807.rowCount,jI (((z+(1:Int))+(1:Int))+(1:Int)) b3807.groups⟩:aB))∧dB ((k:Int)+(1:Int))∧ ∃(k' :Nat) (z' :Int) (r' :List aB),((k:Int)+(1:Int))=(k' :Int)∧((((z+(1:Int))+(1:Int))+(1:Int))+((jJ b3807.groups:Nat):Int))=z' ∧((((r.set k (⟨aX z,s4_6.arity,s4_6.rowCount,s4_6.groups⟩:aB)).set k (⟨s6_5.name,z+(1:Int),s6_5.rowCount,s6_5.groups⟩:aB)).set k (⟨s8_5.name,s8_5.arity,(z+(1:Int))+(1:Int),s8_5.groups⟩:aB)).set k (⟨a3807.name,a3807.arity,a3807.rowCount,jI (((z+(1:Int))+(1:Int))+(1:Int)) b3807.groups⟩:aB)).map aC=r'.map aC∧(k' ≤x.length∧z' =m+((bN dT (x.take k'):Nat):Int)∧r' =cP mN dT m x k')∧x.length - k' <x.length - k))))))))))))))∧((decide ((k:Int)<((r.length:Nat):Int)))=false→z=(m+((jK x:Nat):Int))∧r.map aC=(pK m x).map aC∧True))) (by kernel_rfl) ?_
 have hS:jK x=bN dT x:=rfl
 have hC:cX x=x.length+bN aW x:=rfl
 refine ⟨⟨0,m,x,rfl,rfl,rfl,Nat.zero_le _,by simp [bN],(gK _ _ _ _).symm⟩,fun k z r ⟨hk,hz,hr⟩=>?_⟩
 have hrl:r.length=x.length:=by rw [hr];exact iE _ _ _ _ _ hk
 refine ⟨List.length_map _,fun c0=>?_,fun c0=>?_⟩
 ·replace c0:=yq c0
  obtain ⟨y,hy⟩:=cC (l:=x) (k:=k) (by omega)
  have hry:r[k]? =some y:=by rw [hr,iF _ _ _ _ _ (by omega)];exact hy
  have hs:=cW dT hy
  have hle:=fG dT x (k+1)
  have hA:bN dT (x.take k)≤5*(k+bN aW (x.take k)):=aK1 uW x k hk
  have hB:=cW aW hy
  have hD:=fG aW x (k+1)
  have hF:aW y=ByteArray.size y.name+cQ y.groups:=rfl
  have hle5:=oV x
  have hE:dT y=1+1+1+jJ y.groups:=rfl
  have hy_groups:=oU y.groups
  refine ⟨yY _ (by omega),by omega,List.length_map _,by first | omega | (simp only [List.length_set];omega),rfl,by first | omega | (simp only [List.length_set];omega),fun s4_6 hs4_6=>?_⟩
  obtain rfl:=(bA hry hs4_6).symm
  refine ⟨Nat.le_of_ble_eq_true rfl,rfl,rfl,⟨by first | omega | (dsimp only;omega),by first | omega | (dsimp only;omega)⟩,by omega,List.length_map _,by first | omega | (simp only [List.length_set];omega),rfl,by first | omega | (simp only [List.length_set];omega),fun s6_5 hs6_5=>?_⟩
  obtain rfl:=iA hs6_5
  refine ⟨Nat.le_of_ble_eq_true rfl,rfl,rfl,⟨by first | omega | (dsimp only;omega),by first | omega | (dsimp only;omega)⟩,by omega,List.length_map _,by first | omega | (simp only [List.length_set];omega),rfl,by first | omega | (simp only [List.length_set];omega),fun s8_5 hs8_5=>?_⟩
  obtain rfl:=iA hs8_5
  refine ⟨Nat.le_of_ble_eq_true rfl,rfl,rfl,⟨by first | omega | (dsimp only;omega),by first | omega | (dsimp only;omega)⟩,rfl,by first | omega | (simp only [List.length_set];omega),fun b3807 hb3807=>?_⟩
  obtain rfl:=iA hb3807
  refine ⟨by omega,List.length_map _,by first | omega | (simp only [List.length_set];omega),rfl,aFV _ _ (by omega) (by first | omega | (dsimp only;omega)),rfl,rfl,rfl,by first | omega | (simp only [List.length_set];omega),fun a3807 ha3807=>⟨rfl,?_⟩⟩
  obtain rfl:=iA ha3807
  refine ⟨⟨by first | omega | (dsimp only;omega),by first | omega | (dsimp only;omega)⟩,?_⟩
  exact ⟨k+1,_,_,rfl,rfl,rfl,⟨by omega,by rw [hs];(try dsimp only);omega,by subst hz hr;(try simp only [List.set_set]);exact iG _ _ _ _ _ _ hy⟩,by omega⟩
 ·replace c0:=nq c0
  have hkx:k=x.length:=by omega
  rw [hkx,List.take_length] at hz
  rw [hkx,gL] at hr
  refine ⟨?_,?_,trivial⟩
  ·first | (rw [hz];rfl) | (rw [hr];rfl) | (rw [hz,hS])
  ·first | (rw [hz];rfl) | (rw [hr];rfl) | (rw [hz,hS])
abbrev kN (x:bS) (m:Int):List AV × List (Nat × Rs) × AV × List (Nat × Rs):=([.agg [vI x.version,.own 0],vI m],[(0,.arr 121 4 true (x.tables.map aC))],vI (m+((dO x:Nat):Int)),[(0,.arr 121 4 true (((rU m x).tables).map aC))])
abbrev xQ (x:bS) (m:Int):Prop:=lX Tryz.prog 82 (kN x m).1 (kN x m).2.1 (kN x m).2.2.1 (kN x m).2.2.2
theorem aHt (x:bS) (m:Int) (h0:0≤m) (hm:m+5*((bM x:Nat):Int)≤4611686018427387904):xQ x m:=by
 refine nA bK aU Tryz.func82 (by kernel_rfl) (by kernel_rfl) (jX (jA x.tables m) [(0,0)]<| .fin [(0,0)]) (p:=tC x.tables m∧m=m∧x.tables.map aC=x.tables.map aC∧(m+((jK x.tables:Nat):Int))=(m+((dO x:Nat):Int))∧(pK m x.tables).map aC=((rU m x).tables).map aC∧True) (by kernel_rfl) ?_
 have hS:dO x=jK x.tables:=rfl
 have hC:bM x=cX x.tables:=rfl
 have:=oV x.tables
 refine ⟨aFW _ _ (by omega) (by first | omega | (dsimp only;omega)),rfl,rfl,?_,?_,trivial⟩
 ·first | rfl | (rw [hS];omega)
 ·first | rfl | (rw [hS];omega)
abbrev jB (x:List aN) (m:Int):List AV × List (Nat × Rs) × AV × List (Nat × Rs):=([.own 0,vI m],[(0,.arr 168 3 true (x.map aJ))],vI (m+((eT x:Nat):Int)),[(0,.arr 168 3 true ((pL m x).map aJ))])
abbrev tD (x:List aN) (m:Int):Prop:=lX Tryz.prog 83 (jB x m).1 (jB x m).2.1 (jB x m).2.2.1 (jB x m).2.2.2
theorem aFX (x:List aN) (m:Int) (h0:0≤m) (hm:m+5*((bW x:Nat):Int)≤4611686018427387904):tD x m:=by
 refine nA bK aU Tryz.func83 (by kernel_rfl) (by kernel_rfl) (.loop (Nat × Int × (List aN)) (Q3 Nat Int (List aN)) [1,5,6,7,8,9,10,11,12,13,14,15,16,17,18,19,20,21,22,23,24,25,26,27,28,29,30,31,32,33] [0,2407] (fun yy0=>[(5,vI (yy0.1:Int)),(1,vI yy0.2.1)]) (fun yy0=>[(0,some (.arr 168 3 true (yy0.2.2.map aJ)))]) (fun yy0=>yy0.1≤x.length∧yy0.2.1=m+((bN dU (x.take yy0.1):Nat):Int)∧yy0.2.2=cP mO dU m x yy0.1) (fun yy0=>x.length - yy0.1) (fun yy0=> .len yy0.2.2.length<| .br (.call (.p none (.str (aX yy0.2.1))) []<| .len yy0.2.2.length<| .setm aN aJ yy0.2.2 (fun s4_6=>(⟨aX yy0.2.1,s4_6.src,s4_6.dst⟩:aN)) (fun s4_6=> .split 6 0 yy0.1 1 2407 aN aJ (yy0.2.2.set yy0.1 (⟨aX yy0.2.1,s4_6.src,s4_6.dst⟩:aN)) (fun b2407=> .len ((yy0.2.2.set yy0.1 (⟨aX yy0.2.1,s4_6.src,s4_6.dst⟩:aN)).length)<| jX (kU b2407.src (yy0.2.1+(1:Int))) [(0,2407)]<| .join 7 0 2407 aN aJ (yy0.2.2.set yy0.1 (⟨aX yy0.2.1,s4_6.src,s4_6.dst⟩:aN)) (fun a2407=>(⟨a2407.name,dK (yy0.2.1+(1:Int)) b2407.src,a2407.dst⟩:aN)) (fun a2407=> .len (((yy0.2.2.set yy0.1 (⟨aX yy0.2.1,s4_6.src,s4_6.dst⟩:aN)).set yy0.1 (⟨a2407.name,dK (yy0.2.1+(1:Int)) b2407.src,a2407.dst⟩:aN)).length)<| .setm aN aJ ((yy0.2.2.set yy0.1 (⟨aX yy0.2.1,s4_6.src,s4_6.dst⟩:aN)).set yy0.1 (⟨a2407.name,dK (yy0.2.1+(1:Int)) b2407.src,a2407.dst⟩:aN)) (fun s7_5=>(⟨s7_5.name,s7_5.src,(yy0.2.1+(1:Int))+((cZ b2407.src:Nat):Int)⟩:aN)) (fun s7_5=> .back [(0,0)]))))) (.fin [(0,0)]))) (p:=(∃(k:Nat) (z:Int) (r:List aN),(0:Int)=(k:Int)∧m=z∧x.map aJ=r.map aJ∧k≤x.length∧z=m+((bN dU (x.take k):Nat):Int)∧r=cP mO dU m x k)∧ ∀(k:Nat) (z:Int) (r:List aN),(k≤x.length∧z=m+((bN dU (x.take k):Nat):Int)∧r=cP mO dU m x k)→Lm aJ r∧(((decide ((k:Int)<((r.length:Nat):Int)))=true→nI z∧(0≤(k:Int)∧Lm aJ r∧(k:Int)<((r.length:Nat):Int)∧(r.map aJ=r.map aJ∧k<r.length∧ ∀s4_6,r[k]? =some s4_6→0+1≤(aJ s4_6).length∧(aJ s4_6).take 0++((aJ (⟨aX z,s4_6.src,s4_6.dst⟩:aN)).drop 0).take 1++(aJ s4_6).drop (0+1)=aJ (⟨aX z,s4_6.src,s4_6.dst⟩:aN)∧(aX z)=((⟨aX z,s4_6.src,s4_6.dst⟩:aN).name)∧(dB (z+(1:Int))∧((r.set k (⟨aX z,s4_6.src,s4_6.dst⟩:aN)).map aJ=(r.set k (⟨aX z,s4_6.src,s4_6.dst⟩:aN)).map aJ∧k<(r.set k (⟨aX z,s4_6.src,s4_6.dst⟩:aN)).length∧ ∀b2407,(r.set k (⟨aX z,s4_6.src,s4_6.dst⟩:aN))[k]? =some b2407→0≤(k:Int)∧Lm aJ (r.set k (⟨aX z,s4_6.src,s4_6.dst⟩:aN))∧(k:Int)<(((r.set k (⟨aX z,s4_6.src,s4_6.dst⟩:aN)).length:Nat):Int)∧(k=k∧(pT b2407.src (z+(1:Int))∧(z+(1:Int))=(z+(1:Int))∧b2407.src.map intD=b2407.src.map intD∧((r.set k (⟨aX z,s4_6.src,s4_6.dst⟩:aN)).map aJ=(r.set k (⟨aX z,s4_6.src,s4_6.dst⟩:aN)).map aJ∧k<(r.set k (⟨aX z,s4_6.src,s4_6.dst⟩:aN)).length∧ ∀a2407,(r.set k (⟨aX z,s4_6.src,s4_6.dst⟩:aN))[k]? =some a2407→((aJ a2407).take 1++ .sl 3 1 ((dK (z+(1:Int)) b2407.src).map intD)::(aJ a2407).drop (1+1)=aJ (⟨a2407.name,dK (z+(1:Int)) b2407.src,a2407.dst⟩:aN))∧0≤(k:Int)∧Lm aJ ((r.set k (⟨aX z,s4_6.src,s4_6.dst⟩:aN)).set k (⟨a2407.name,dK (z+(1:Int)) b2407.src,a2407.dst⟩:aN))∧(k:Int)<((((r.set k (⟨aX z,s4_6.src,s4_6.dst⟩:aN)).set k (⟨a2407.name,dK (z+(1:Int)) b2407.src,a2407.dst⟩:aN)).length:Nat):Int)∧(((r.set k (⟨aX z,s4_6.src,s4_6.dst⟩:aN)).set k (⟨a2407.name,dK (z+(1:Int)) b2407.src,a2407.dst⟩:aN)).map aJ=((r.set k (⟨aX z,s4_6.src,s4_6.dst⟩:aN)).set k (⟨a2407.name,dK (z+(1:Int)) b2407.src,a2407.dst⟩:aN)).map aJ∧k<((r.set k (⟨aX z,s4_6.src,s4_6.dst⟩:aN)).set k (⟨a2407.name,dK (z+(1:Int)) b2407.src,a2407.dst⟩:aN)).length∧ ∀s7_5,((r.set k (⟨aX z,s4_6.src,s4_6.dst⟩:aN)).set k (⟨a2407.name,dK (z+(1:Int)) b2407.src,a2407.dst⟩:aN))[k]? =some s7_5→2+1≤(aJ s7_5).length∧(aJ s7_5).take 2++((aJ (⟨s7_5.name,s7_5.src,(z+(1:Int))+((cZ b2407.src:Nat):Int)⟩:aN)).drop 2).take 1++(aJ s7_5).drop (2+1)=aJ (⟨s7_5.name,s7_5.src,(z+(1:Int))+((cZ b2407.src:Nat):Int)⟩:aN)∧((z+(1:Int))+((cZ b2407.src:Nat):Int))=((⟨s7_5.name,s7_5.src,(z+(1:Int))+((cZ b2407.src:Nat):Int)⟩:aN).dst)∧dB (((z+(1:Int))+((cZ b2407.src:Nat):Int))+(1:Int))∧dB ((k:Int)+(1:Int))∧ ∃(k' :Nat) (z' :Int) (r' :List aN),((k:Int)+(1:Int))=(k' :Int)∧(((z+(1:Int))+((cZ b2407.src:Nat):Int))+(1:Int))=z' ∧(((r.set k (⟨aX z,s4_6.src,s4_6.dst⟩:aN)).set k (⟨a2407.name,dK (z+(1:Int)) b2407.src,a2407.dst⟩:aN)).set k (⟨s7_5.name,s7_5.src,(z+(1:Int))+((cZ b2407.src:Nat):Int)⟩:aN)).map aJ=r'.map aJ∧(k' ≤x.length∧z' =m+((bN dU (x.take k'):Nat):Int)∧r' =cP mO dU m x k')∧x.length - k' <x.length - k)))))))))∧((decide ((k:Int)<((r.length:Nat):Int)))=false→z=(m+((eT x:Nat):Int))∧r.map aJ=(pL m x).map aJ∧True))) (by kernel_rfl) ?_
 have hS:eT x=bN dU x:=rfl
 have hC:bW x=x.length+bN bY x:=rfl
 refine ⟨⟨0,m,x,rfl,rfl,rfl,Nat.zero_le _,by simp [bN],(gK _ _ _ _).symm⟩,fun k z r ⟨hk,hz,hr⟩=>?_⟩
 have hrl:r.length=x.length:=by rw [hr];exact iE _ _ _ _ _ hk
 refine ⟨List.length_map _,fun c0=>?_,fun c0=>?_⟩
 ·replace c0:=yq c0
  obtain ⟨y,hy⟩:=cC (l:=x) (k:=k) (by omega)
  have hry:r[k]? =some y:=by rw [hr,iF _ _ _ _ _ (by omega)];exact hy
  have hs:=cW dU hy
  have hle:=fG dU x (k+1)
  have hA:bN dU (x.take k)≤5*(k+bN bY (x.take k)):=aK1 uX x k hk
  have hB:=cW bY hy
  have hD:=fG bY x (k+1)
  have hF:bY y=ByteArray.size y.name+bX y.src:=rfl
  have hle5:=oW x
  have hE:dU y=1+cZ y.src+1:=rfl
  have hy_src:=jT y.src
  refine ⟨yY _ (by omega),by omega,List.length_map _,by first | omega | (simp only [List.length_set];omega),rfl,by first | omega | (simp only [List.length_set];omega),fun s4_6 hs4_6=>?_⟩
  obtain rfl:=(bA hry hs4_6).symm
  refine ⟨Nat.le_of_ble_eq_true rfl,rfl,rfl,⟨by first | omega | (dsimp only;omega),by first | omega | (dsimp only;omega)⟩,rfl,by first | omega | (simp only [List.length_set];omega),fun b2407 hb2407=>?_⟩
  obtain rfl:=iA hb2407
  refine ⟨by omega,List.length_map _,by first | omega | (simp only [List.length_set];omega),rfl,aB8 _ _ (by omega) (by first | omega | (dsimp only;omega)),rfl,rfl,rfl,by first | omega | (simp only [List.length_set];omega),fun a2407 ha2407=>⟨rfl,?_⟩⟩
  obtain rfl:=iA ha2407
  refine ⟨by omega,List.length_map _,by first | omega | (simp only [List.length_set];omega),rfl,by first | omega | (simp only [List.length_set];omega),fun s7_5 hs7_5=>?_⟩
  obtain rfl:=iA hs7_5
  refine ⟨Nat.le_of_ble_eq_true rfl,rfl,rfl,⟨by first | omega | (dsimp only;omega),by first | omega | (dsimp only;omega)⟩,⟨by first | omega | (dsimp only;omega),by first | omega | (dsimp only;omega)⟩,?_⟩
  exact ⟨k+1,_,_,rfl,rfl,rfl,⟨by omega,by rw [hs];(try dsimp only);omega,by subst hz hr;(try simp only [List.set_set]);exact iG _ _ _ _ _ _ hy⟩,by omega⟩
 ·replace c0:=nq c0
  have hkx:k=x.length:=by omega
  rw [hkx,List.take_length] at hz
  rw [hkx,gL] at hr
  refine ⟨?_,?_,trivial⟩
  ·first | (rw [hz];rfl) | (rw [hr];rfl) | (rw [hz,hS])
  ·first | (rw [hz];rfl) | (rw [hr];rfl) | (rw [hz,hS])
abbrev jU (x:List aL) (m:Int):List AV × List (Nat × Rs) × AV × List (Nat × Rs):=([.own 0,vI m],[(0,.arr 170 4 true (x.map aM))],vI (m+((kM x:Nat):Int)),[(0,.arr 170 4 true ((rV m x).map aM))])
abbrev uY (x:List aL) (m:Int):Prop:=lX Tryz.prog 84 (jU x m).1 (jU x m).2.1 (jU x m).2.2.1 (jU x m).2.2.2
theorem aGA (x:List aL) (m:Int) (h0:0≤m) (hm:m+5*((cV x:Nat):Int)≤4611686018427387904):uY x m:=by
 refine nA bK aU Tryz.func84 (by kernel_rfl) (by kernel_rfl) (.loop (Nat × Int × (List aL)) (Q3 Nat Int (List aL)) [1,5,6,7,8,9,10,11,12,13,14,15,16,17,18,19,20,21,22,23,24,25,26,27,28,29,30,31,32,33,34,35,36,37,38,39,40,41] [0] (fun yy0=>[(5,vI (yy0.1:Int)),(1,vI yy0.2.1)]) (fun yy0=>[(0,some (.arr 170 4 true (yy0.2.2.map aM)))]) (fun yy0=>yy0.1≤x.length∧yy0.2.1=m+((bN dY (x.take yy0.1):Nat):Int)∧yy0.2.2=cP oQ dY m x yy0.1) (fun yy0=>x.length - yy0.1) (fun yy0=> .len yy0.2.2.length<| .br (.call (.p none (.str (aX yy0.2.1))) []<| .len yy0.2.2.length<| .set aL aM yy0.2.2 (fun s4_6=>(⟨aX yy0.2.1,s4_6.column,s4_6.into,s4_6.intoColumn⟩:aL)) (fun s4_6=> .len ((yy0.2.2.set yy0.1 (⟨aX yy0.2.1,s4_6.column,s4_6.into,s4_6.intoColumn⟩:aL)).length)<| .set aL aM (yy0.2.2.set yy0.1 (⟨aX yy0.2.1,s4_6.column,s4_6.into,s4_6.intoColumn⟩:aL)) (fun s6_5=>(⟨s6_5.name,yy0.2.1+(1:Int),s6_5.into,s6_5.intoColumn⟩:aL)) (fun s6_5=> .call (.p none (.str (aX ((yy0.2.1+(1:Int))+(1:Int))))) []<| .len (((yy0.2.2.set yy0.1 (⟨aX yy0.2.1,s4_6.column,s4_6.into,s4_6.intoColumn⟩:aL)).set yy0.1 (⟨s6_5.name,yy0.2.1+(1:Int),s6_5.into,s6_5.intoColumn⟩:aL)).length)<| .set aL aM ((yy0.2.2.set yy0.1 (⟨aX yy0.2.1,s4_6.column,s4_6.into,s4_6.intoColumn⟩:aL)).set yy0.1 (⟨s6_5.name,yy0.2.1+(1:Int),s6_5.into,s6_5.intoColumn⟩:aL)) (fun s8_6=>(⟨s8_6.name,s8_6.column,aX ((yy0.2.1+(1:Int))+(1:Int)),s8_6.intoColumn⟩:aL)) (fun s8_6=> .len ((((yy0.2.2.set yy0.1 (⟨aX yy0.2.1,s4_6.column,s4_6.into,s4_6.intoColumn⟩:aL)).set yy0.1 (⟨s6_5.name,yy0.2.1+(1:Int),s6_5.into,s6_5.intoColumn⟩:aL)).set yy0.1 (⟨s8_6.name,s8_6.column,aX ((yy0.2.1+(1:Int))+(1:Int)),s8_6.intoColumn⟩:aL)).length)<| .set aL aM (((yy0.2.2.set yy0.1 (⟨aX yy0.2.1,s4_6.column,s4_6.into,s4_6.intoColumn⟩:aL)).set yy0.1 (⟨s6_5.name,yy0.2.1+(1:Int),s6_5.into,s6_5.intoColumn⟩:aL)).set yy0.1 (⟨s8_6.name,s8_6.column,aX ((yy0.2.1+(1:Int))+(1:Int)),s8_6.intoColumn⟩:aL)) (fun s10_5=>(⟨s10_5.name,s10_5.column,s10_5.into,((yy0.2.1+(1:Int))+(1:Int))+(1:Int)⟩:aL)) (fun s10_5=> .back [(0,0)]))))) (.fin [(0,0)]))) (p:=(∃(k:Nat) (z:Int) (r:List aL),(0:Int)=(k:Int)∧m=z∧x.map aM=r.map aM∧k≤x.length∧z=m+((bN dY (x.take k):Nat):Int)∧r=cP oQ dY m x k)∧ ∀(k:Nat) (z:Int) (r:List aL),(k≤x.length∧z=m+((bN dY (x.take k):Nat):Int)∧r=cP oQ dY m x k)→Lm aM r∧(((decide ((k:Int)<((r.length:Nat):Int)))=true→nI z∧(0≤(k:Int)∧Lm aM r∧(k:Int)<((r.length:Nat):Int)∧(r.map aM=r.map aM∧k<r.length∧ ∀s4_6,r[k]? =some s4_6→eC (aM s4_6)=true∧0+1≤(aM s4_6).length∧(aM s4_6).take 0++[.str (aX z)]++(aM s4_6).drop (0+1)=aM (⟨aX z,s4_6.column,s4_6.into,s4_6.intoColumn⟩:aL)∧(dB (z+(1:Int))∧(0≤(k:Int)∧Lm aM (r.set k (⟨aX z,s4_6.column,s4_6.into,s4_6.intoColumn⟩:aL))∧(k:Int)<(((r.set k (⟨aX z,s4_6.column,s4_6.into,s4_6.intoColumn⟩:aL)).length:Nat):Int)∧((r.set k (⟨aX z,s4_6.column,s4_6.into,s4_6.intoColumn⟩:aL)).map aM=(r.set k (⟨aX z,s4_6.column,s4_6.into,s4_6.intoColumn⟩:aL)).map aM∧k<(r.set k (⟨aX z,s4_6.column,s4_6.into,s4_6.intoColumn⟩:aL)).length∧ ∀s6_5,(r.set k (⟨aX z,s4_6.column,s4_6.into,s4_6.intoColumn⟩:aL))[k]? =some s6_5→eC (aM s6_5)=true∧1+1≤(aM s6_5).length∧(aM s6_5).take 1++[.int .i64 (z+(1:Int))]++(aM s6_5).drop (1+1)=aM (⟨s6_5.name,z+(1:Int),s6_5.into,s6_5.intoColumn⟩:aL)∧(dB ((z+(1:Int))+(1:Int))∧(nI ((z+(1:Int))+(1:Int))∧(0≤(k:Int)∧Lm aM ((r.set k (⟨aX z,s4_6.column,s4_6.into,s4_6.intoColumn⟩:aL)).set k (⟨s6_5.name,z+(1:Int),s6_5.into,s6_5.intoColumn⟩:aL))∧(k:Int)<((((r.set k (⟨aX z,s4_6.column,s4_6.into,s4_6.intoColumn⟩:aL)).set k (⟨s6_5.name,z+(1:Int),s6_5.into,s6_5.intoColumn⟩:aL)).length:Nat):Int)∧(((r.set k (⟨aX z,s4_6.column,s4_6.into,s4_6.intoColumn⟩:aL)).set k (⟨s6_5.name,z+(1:Int),s6_5.into,s6_5.intoColumn⟩:aL)).map aM=((r.set k (⟨aX z,s4_6.column,s4_6.into,s4_6.intoColumn⟩:aL)).set k (⟨s6_5.name,z+(1:Int),s6_5.into,s6_5.intoColumn⟩:aL)).map aM∧k<((r.set k (⟨aX z,s4_6.column,s4_6.into,s4_6.intoColumn⟩:aL)).set k (⟨s6_5.name,z+(1:Int),s6_5.into,s6_5.intoColumn⟩:aL)).length∧ ∀s8_6,((r.set k (⟨aX z,s4_6.column,s4_6.into,s4_6.intoColumn⟩:aL)).set k (⟨s6_5.name,z+(1:Int),s6_5.into,s6_5.intoColumn⟩:aL))[k]? =some s8_6→eC (aM s8_6)=true∧2+1≤(aM s8_6).length∧(aM s8_6).take 2++[.str (aX ((z+(1:Int))+(1:Int)))]++(aM s8_6).drop (2+1)=aM (⟨s8_6.name,s8_6.column,aX ((z+(1:Int))+(1:Int)),s8_6.intoColumn⟩:aL)∧(dB (((z+(1:Int))+(1:Int))+(1:Int))∧(0≤(k:Int)∧Lm aM (((r.set k (⟨aX z,s4_6.column,s4_6.into,s4_6.intoColumn⟩:aL)).set k (⟨s6_5.name,z+(1:Int),s6_5.into,s6_5.intoColumn⟩:aL)).set k (⟨s8_6.name,s8_6.column,aX ((z+(1:Int))+(1:Int)),s8_6.intoColumn⟩:aL))∧(k:Int)<(((((r.set k (⟨aX z,s4_6.column,s4_6.into,s4_6.intoColumn⟩:aL)).set k (⟨s6_5.name,z+(1:Int),s6_5.into,s6_5.intoColumn⟩:aL)).set k (⟨s8_6.name,s8_6.column,aX ((z+(1:Int))+(1:Int)),s8_6.intoColumn⟩:aL)).length:Nat):Int)∧((((r.set k (⟨aX z,s4_6.column,s4_6.into,s4_6.intoColumn⟩:aL)).set k (⟨s6_5.name,z+(1:Int),s6_5.into,s6_5.intoColumn⟩:aL)).set k (⟨s8_6.name,s8_6.column,aX ((z+(1:Int))+(1:Int)),s8_6.intoColumn⟩:aL)).map aM=(((r.set k (⟨aX z,s4_6.column,s4_6.into,s4_6.intoColumn⟩:aL)).set k (⟨s6_5.name,z+(1:Int),s6_5.into,s6_5.intoColumn⟩:aL)).set k (⟨s8_6.name,s8_6.column,aX ((z+(1:Int))+(1:Int)),s8_6.intoColumn⟩:aL)).map aM∧k<(((r.set k (⟨aX z,s4_6.column,s4_6.into,s4_6.intoColumn⟩:aL)).set k (⟨s6_5.name,z+(1:Int),s6_5.into,s6_5.intoColumn⟩:aL)).set k (⟨s8_6.name,s8_6.column,aX ((z+(1:Int))+(1:Int)),s8_6.intoColumn⟩:aL)).length∧ ∀s10_5,(((r.set k (⟨aX z,s4_6.column,s4_6.into,s4_6.intoColumn⟩:aL)).set k (⟨s6_5.name,z+(1:Int),s6_5.into,s6_5.intoColumn⟩:aL)).set k (⟨s8_6.name,s8_6.column,aX ((z+(1:Int))+(1:Int)),s8_6.intoColumn⟩:aL))[k]? =some s10_5→eC (aM s10_5)=true∧3+1≤(aM s10_5).length∧(aM s10_5).take 3++[.int .i64 (((z+(1:Int))+(1:Int))+(1:Int))]++(aM s10_5).drop (3+1)=aM (⟨s10_5.name,s10_5.column,s10_5.into,((z+(1:Int))+(1:Int))+(1:Int)⟩:aL)∧dB ((((z+(1:Int))+(1:Int))+(1:Int))+(1:Int))∧dB ((k:Int)+(1:Int))∧ ∃(k' :Nat) (z' :Int) (r' :List aL),((k:Int)+(1:Int))=(k' :Int)∧((((z+(1:Int))+(1:Int))+(1:Int))+(1:Int))=z' ∧((((r.set k (⟨aX z,s4_6.column,s4_6.into,s4_6.intoColumn⟩:aL)).set k (⟨s6_5.name,z+(1:Int),s6_5.into,s6_5.intoColumn⟩:aL)).set k (⟨s8_6.name,s8_6.column,aX ((z+(1:Int))+(1:Int)),s8_6.intoColumn⟩:aL)).set k (⟨s10_5.name,s10_5.column,s10_5.into,((z+(1:Int))+(1:Int))+(1:Int)⟩:aL)).map aM=r'.map aM∧(k' ≤x.length∧z' =m+((bN dY (x.take k'):Nat):Int)∧r' =cP oQ dY m x k')∧x.length - k' <x.length - k)))))))))))))∧((decide ((k:Int)<((r.length:Nat):Int)))=false→z=(m+((kM x:Nat):Int))∧r.map aM=(rV m x).map aM∧True))) (by kernel_rfl) ?_
 have hS:kM x=bN dY x:=rfl
 have hC:cV x=x.length+bN cH x:=rfl
 refine ⟨⟨0,m,x,rfl,rfl,rfl,Nat.zero_le _,by simp [bN],(gK _ _ _ _).symm⟩,fun k z r ⟨hk,hz,hr⟩=>?_⟩
 have hrl:r.length=x.length:=by rw [hr];exact iE _ _ _ _ _ hk
 refine ⟨List.length_map _,fun c0=>?_,fun c0=>?_⟩
 ·replace c0:=yq c0
  obtain ⟨y,hy⟩:=cC (l:=x) (k:=k) (by omega)
  have hry:r[k]? =some y:=by rw [hr,iF _ _ _ _ _ (by omega)];exact hy
  have hs:=cW dY hy
  have hle:=fG dY x (k+1)
  have hA:bN dY (x.take k)≤5*(k+bN cH (x.take k)):=aK1 xP x k hk
  have hB:=cW cH hy
  have hD:=fG cH x (k+1)
  have hF:cH y=ByteArray.size y.name+ByteArray.size y.into:=rfl
  have hle5:=qS x
  have hE:dY y=1+1+1+1:=rfl
  refine ⟨yY _ (by omega),by omega,List.length_map _,by first | omega | (simp only [List.length_set];omega),rfl,by first | omega | (simp only [List.length_set];omega),fun s4_6 hs4_6=>⟨rfl,Nat.le_of_ble_eq_true rfl,rfl,?_⟩⟩
  obtain rfl:=(bA hry hs4_6).symm
  refine ⟨⟨by first | omega | (dsimp only;omega),by first | omega | (dsimp only;omega)⟩,by omega,List.length_map _,by first | omega | (simp only [List.length_set];omega),rfl,by first | omega | (simp only [List.length_set];omega),fun s6_5 hs6_5=>⟨rfl,Nat.le_of_ble_eq_true rfl,rfl,?_⟩⟩
  obtain rfl:=iA hs6_5
  refine ⟨⟨by first | omega | (dsimp only;omega),by first | omega | (dsimp only;omega)⟩,yY _ (by omega),by omega,List.length_map _,by first | omega | (simp only [List.length_set];omega),rfl,by first | omega | (simp only [List.length_set];omega),fun s8_6 hs8_6=>⟨rfl,Nat.le_of_ble_eq_true rfl,rfl,?_⟩⟩
  obtain rfl:=iA hs8_6
  refine ⟨⟨by first | omega | (dsimp only;omega),by first | omega | (dsimp only;omega)⟩,by omega,List.length_map _,by first | omega | (simp only [List.length_set];omega),rfl,by first | omega | (simp only [List.length_set];omega),fun s10_5 hs10_5=>⟨rfl,Nat.le_of_ble_eq_true rfl,rfl,?_⟩⟩
  obtain rfl:=iA hs10_5
  refine ⟨⟨by first | omega | (dsimp only;omega),by first | omega | (dsimp only;omega)⟩,⟨by first | omega | (dsimp only;omega),by first | omega | (dsimp only;omega)⟩,?_⟩
  exact ⟨k+1,_,_,rfl,rfl,rfl,⟨by omega,by rw [hs];(try dsimp only);omega,by subst hz hr;(try simp only [List.set_set]);exact iG _ _ _ _ _ _ hy⟩,by omega⟩
 ·replace c0:=nq c0
  have hkx:k=x.length:=by omega
  rw [hkx,List.take_length] at hz
  rw [hkx,gL] at hr
  refine ⟨?_,?_,trivial⟩
  ·first | (rw [hz];rfl) | (rw [hr];rfl) | (rw [hz,hS])
  ·first | (rw [hz];rfl) | (rw [hr];rfl) | (rw [hz,hS])
abbrev qT (x:StoreD) (m:Int):List AV × List (Nat × Rs) × AV × List (Nat × Rs):=([.agg [.own 0,vI x.catalogue.version,.own 1,.own 2,.own 3],vI m],[(0,.arr 162 3 true (x.database.tables.map aP)),(1,.arr 121 4 true (x.catalogue.tables.map aC)),(2,.arr 168 3 true (x.dependencies.map aJ)),(3,.arr 170 4 true (x.inclusions.map aM))],vI (m+((nT x:Nat):Int)),[(0,.arr 162 3 true ((((rW m x).database).tables).map aP)),(1,.arr 121 4 true ((((rW m x).catalogue).tables).map aC)),(2,.arr 168 3 true (((rW m x).dependencies).map aJ)),(3,.arr 170 4 true (((rW m x).inclusions).map aM))])
abbrev aFY (x:StoreD) (m:Int):Prop:=lX Tryz.prog 21 (qT x m).1 (qT x m).2.1 (qT x m).2.2.1 (qT x m).2.2.2
theorem aOk (x:StoreD) (m:Int) (h0:0≤m) (hm:m+5*((eD x:Nat):Int)≤4611686018427387904):aFY x m:=by
 refine nA bK aU Tryz.func21 (by kernel_rfl) (by kernel_rfl) (jX (lE x.database m) [(0,0)]<| jX (kN x.catalogue (m+((dE x.database:Nat):Int))) [(0,1)]<| jX (jB x.dependencies ((m+((dE x.database:Nat):Int))+((dO x.catalogue:Nat):Int))) [(0,2)]<| jX (jU x.inclusions (((m+((dE x.database:Nat):Int))+((dO x.catalogue:Nat):Int))+((eT x.dependencies:Nat):Int))) [(0,3)]<| .fin [(0,0),(1,1),(2,2),(3,3)]) (p:=zL x.database m∧m=m∧x.database.tables.map aP=x.database.tables.map aP∧xQ x.catalogue (m+((dE x.database:Nat):Int))∧x.catalogue.version=x.catalogue.version∧(m+((dE x.database:Nat):Int))=(m+((dE x.database:Nat):Int))∧x.catalogue.tables.map aC=x.catalogue.tables.map aC∧tD x.dependencies ((m+((dE x.database:Nat):Int))+((dO x.catalogue:Nat):Int))∧((m+((dE x.database:Nat):Int))+((dO x.catalogue:Nat):Int))=((m+((dE x.database:Nat):Int))+((dO x.catalogue:Nat):Int))∧x.dependencies.map aJ=x.dependencies.map aJ∧uY x.inclusions (((m+((dE x.database:Nat):Int))+((dO x.catalogue:Nat):Int))+((eT x.dependencies:Nat):Int))∧(((m+((dE x.database:Nat):Int))+((dO x.catalogue:Nat):Int))+((eT x.dependencies:Nat):Int))=(((m+((dE x.database:Nat):Int))+((dO x.catalogue:Nat):Int))+((eT x.dependencies:Nat):Int))∧x.inclusions.map aM=x.inclusions.map aM∧((((m+((dE x.database:Nat):Int))+((dO x.catalogue:Nat):Int))+((eT x.dependencies:Nat):Int))+((kM x.inclusions:Nat):Int))=(m+((nT x:Nat):Int))∧((uL m x.database).tables).map aP=(((rW m x).database).tables).map aP∧((rU (m+((dE x.database:Nat):Int)) x.catalogue).tables).map aC=(((rW m x).catalogue).tables).map aC∧(pL ((m+((dE x.database:Nat):Int))+((dO x.catalogue:Nat):Int)) x.dependencies).map aJ=((rW m x).dependencies).map aJ∧(rV (((m+((dE x.database:Nat):Int))+((dO x.catalogue:Nat):Int))+((eT x.dependencies:Nat):Int)) x.inclusions).map aM=((rW m x).inclusions).map aM∧True) (by kernel_rfl) ?_
 have hS:nT x=dE x.database+dO x.catalogue+eT x.dependencies+kM x.inclusions:=rfl
 have hC:eD x=bF x.database+bM x.catalogue+bW x.dependencies+cV x.inclusions:=rfl
 have:=zK x.database
 have:=xO x.catalogue
 have:=oW x.dependencies
 have:=qS x.inclusions
 refine ⟨aJ3 _ _ (by omega) (by first | omega | (dsimp only;omega)),rfl,rfl,aHt _ _ (by omega) (by first | omega | (dsimp only;omega)),rfl,rfl,rfl,aFX _ _ (by omega) (by first | omega | (dsimp only;omega)),rfl,rfl,aGA _ _ (by omega) (by first | omega | (dsimp only;omega)),rfl,rfl,?_,?_,?_,?_,?_,trivial⟩
 ·first | rfl | (rw [hS];omega)
 ·first | rfl | (rw [hS];omega)
 ·first | rfl | (rw [hS];omega)
 ·first | rfl | (rw [hS];omega)
 ·first | rfl | (rw [hS];omega)
end Go.Proofs.YtokkjaflmcjlhaaGreat
