/-
  Contracts and plain laws, joined: part 22.
-/
import Derived.Test.YtokkjaflmcjlhaaGreatQD20
namespace Go.Proofs.YtokkjaflmcjlhaaGreat
open Go.ChangeShapes Go.WideShapes Go.ChangeAt Go.RowKit
set_option linter.unusedVariables false
set_option linter.unusedSimpArgs false
set_option maxRecDepth 100000
set_option maxHeartbeats 4000000
abbrev jR (x:List Int) (m:Int):List AV × List (Nat × Rs) × AV × List (Nat × Rs):=([.own 0,vI m],[(0,.arr 3 1 true (x.map intD))],vI (m+((bX x:Nat):Int)),[(0,.arr 3 1 true ((cM m x).map intD))])
abbrev mR (x:List Int) (m:Int):Prop:=lT Tryz.prog 48 (jR x m).1 (jR x m).2.1 (jR x m).2.2.1 (jR x m).2.2.2
theorem wA (x:List Int) (m:Int) (h0:0≤m) (hm:m+5*((bZ x:Nat):Int)≤4611686018427387904):mR x m:=by
 refine mZ bF aS Tryz.func48 (by kernel_rfl) (by kernel_rfl) (.loop (Nat × Int × (List Int)) (Q3 Nat Int (List Int)) [1,5,6,7,8,9,10,11,12,13,14,15,16,17] [0] (fun yy0=>[(5,vI (yy0.1:Int)),(1,vI yy0.2.1)]) (fun yy0=>[(0,some (.arr 3 1 true (yy0.2.2.map intD)))]) (fun yy0=>yy0.1≤x.length∧yy0.2.1=m+((bO oK (x.take yy0.1):Nat):Int)∧yy0.2.2=cV aLs oK m x yy0.1) (fun yy0=>x.length - yy0.1) (fun yy0=> .len yy0.2.2.length<| .br (.len yy0.2.2.length<| .set Int intD yy0.2.2 (fun s4_4=>yy0.2.1) (fun s4_4=> .back [(0,0)])) (.fin [(0,0)]))) (p:=(∃(k:Nat) (z:Int) (r:List Int),(0:Int)=(k:Int)∧m=z∧x.map intD=r.map intD∧k≤x.length∧z=m+((bO oK (x.take k):Nat):Int)∧r=cV aLs oK m x k)∧ ∀(k:Nat) (z:Int) (r:List Int),(k≤x.length∧z=m+((bO oK (x.take k):Nat):Int)∧r=cV aLs oK m x k)→Lm intD r∧(((decide ((k:Int)<((r.length:Nat):Int)))=true→0≤(k:Int)∧Lm intD r∧(k:Int)<((r.length:Nat):Int)∧(r.map intD=r.map intD∧k<r.length∧ ∀s4_4,r[k]? =some s4_4→eK (intD s4_4)=true∧0+1≤(intD s4_4).length∧(intD s4_4).take 0++[.int .i64 z]++(intD s4_4).drop (0+1)=intD z∧cG (z+(1:Int))∧cG ((k:Int)+(1:Int))∧ ∃(k' :Nat) (z' :Int) (r' :List Int),((k:Int)+(1:Int))=(k' :Int)∧(z+(1:Int))=z' ∧(r.set k z).map intD=r'.map intD∧(k' ≤x.length∧z' =m+((bO oK (x.take k'):Nat):Int)∧r' =cV aLs oK m x k')∧x.length - k' <x.length - k))∧((decide ((k:Int)<((r.length:Nat):Int)))=false→z=(m+((bX x:Nat):Int))∧r.map intD=(cM m x).map intD∧True))) (by kernel_rfl) ?_
 have hS:bX x=bO oK x:=rfl
 have hC:bZ x=x.length:=rfl
 refine ⟨⟨0,m,x,rfl,rfl,rfl,Nat.zero_le _,by simp [bO],(iT _ _ _ _).symm⟩,fun k z r ⟨hk,hz,hr⟩=>?_⟩
 have hrl:r.length=x.length:=by rw [hr];exact jX _ _ _ _ _ hk
 refine ⟨List.length_map _,fun c0=>?_,fun c0=>?_⟩
 ·replace c0:=yq c0
  obtain ⟨y,hy⟩:=bY (l:=x) (k:=k) (by omega)
  have hry:r[k]? =some y:=by rw [hr,jY _ _ _ _ _ (by omega)];exact hy
  have hs:=cW oK hy
  have hle:=fN oK x (k+1)
  have hA:bO oK (x.take k)≤5*k:=aTh (fun _=>by simp [oK]) x k hk
  have hle5:=iM x
  have hE:oK y=1:=rfl
  refine ⟨by omega,List.length_map _,by first | omega | (simp only [List.length_set];omega),rfl,by first | omega | (simp only [List.length_set];omega),fun s4_4 hs4_4=>⟨rfl,Nat.le_of_ble_eq_true rfl,rfl,?_⟩⟩
  obtain rfl:=(aX hry hs4_4).symm
  refine ⟨⟨by first | omega | (dsimp only;omega),by first | omega | (dsimp only;omega)⟩,⟨by first | omega | (dsimp only;omega),by first | omega | (dsimp only;omega)⟩,?_⟩
  exact ⟨k+1,_,_,rfl,rfl,rfl,⟨by omega,by rw [hs];(try dsimp only);omega,by subst hz hr;(try simp only [List.set_set]);exact jZ _ _ _ _ _ _ hy⟩,by omega⟩
 ·replace c0:=nq c0
  have hkx:k=x.length:=by omega
  rw [hkx,List.take_length] at hz
  rw [hkx,iU] at hr
  refine ⟨?_,?_,trivial⟩
  ·first | (rw [hz];rfl) | (rw [hr];rfl) | (rw [hz,hS])
  ·first | (rw [hz];rfl) | (rw [hr];rfl) | (rw [hz,hS])
abbrev oM (x:List (List Int)) (m:Int):List AV × List (Nat × Rs) × AV × List (Nat × Rs):=([.own 0,vI m],[(0,.arr 32 1 true (x.map aF))],vI (m+((kF x:Nat):Int)),[(0,.arr 32 1 true ((gS m x).map aF))])
abbrev aBV (x:List (List Int)) (m:Int):Prop:=lT Tryz.prog 239 (oM x m).1 (oM x m).2.1 (oM x m).2.2.1 (oM x m).2.2.2
theorem aKm (x:List (List Int)) (m:Int) (h0:0≤m) (hm:m+5*((cI x:Nat):Int)≤4611686018427387904):aBV x m:=by
 refine mZ bF aS Tryz.func239 (by kernel_rfl) (by kernel_rfl) (.loop (Nat × Int × (List (List Int))) (Q3 Nat Int (List (List Int))) [1,5,6,7,8,9,10,11,12,13,14,15,16,17] [0,1507] (fun yy0=>[(5,vI (yy0.1:Int)),(1,vI yy0.2.1)]) (fun yy0=>[(0,some (.arr 32 1 true (yy0.2.2.map aF)))]) (fun yy0=>yy0.1≤x.length∧yy0.2.1=m+((bO bX (x.take yy0.1):Nat):Int)∧yy0.2.2=cV cM bX m x yy0.1) (fun yy0=>x.length - yy0.1) (fun yy0=> .len yy0.2.2.length<| .br (.split 4 0 yy0.1 0 1507 (List Int) aF yy0.2.2 (fun b1507=> .len yy0.2.2.length<| jE (jR b1507 yy0.2.1) [(0,1507)]<| .join 3 0 1507 (List Int) aF yy0.2.2 (fun a1507=>cM yy0.2.1 b1507) (fun a1507=> .back [(0,0)]))) (.fin [(0,0)]))) (p:=(∃(k:Nat) (z:Int) (r:List (List Int)),(0:Int)=(k:Int)∧m=z∧x.map aF=r.map aF∧k≤x.length∧z=m+((bO bX (x.take k):Nat):Int)∧r=cV cM bX m x k)∧ ∀(k:Nat) (z:Int) (r:List (List Int)),(k≤x.length∧z=m+((bO bX (x.take k):Nat):Int)∧r=cV cM bX m x k)→Lm aF r∧(((decide ((k:Int)<((r.length:Nat):Int)))=true→r.map aF=r.map aF∧k<r.length∧ ∀b1507,r[k]? =some b1507→0≤(k:Int)∧Lm aF r∧(k:Int)<((r.length:Nat):Int)∧(k=k∧(mR b1507 z∧z=z∧b1507.map intD=b1507.map intD∧(r.map aF=r.map aF∧k<r.length∧ ∀a1507,r[k]? =some a1507→((aF a1507).take 0++ .sl 3 1 ((cM z b1507).map intD)::(aF a1507).drop (0+1)=aF (cM z b1507))∧cG ((k:Int)+(1:Int))∧ ∃(k' :Nat) (z' :Int) (r' :List (List Int)),((k:Int)+(1:Int))=(k' :Int)∧(z+((bX b1507:Nat):Int))=z' ∧(r.set k (cM z b1507)).map aF=r'.map aF∧(k' ≤x.length∧z' =m+((bO bX (x.take k'):Nat):Int)∧r' =cV cM bX m x k')∧x.length - k' <x.length - k))))∧((decide ((k:Int)<((r.length:Nat):Int)))=false→z=(m+((kF x:Nat):Int))∧r.map aF=(gS m x).map aF∧True))) (by kernel_rfl) ?_
 have hS:kF x=bO bX x:=rfl
 have hC:cI x=x.length+bO bZ x:=rfl
 refine ⟨⟨0,m,x,rfl,rfl,rfl,Nat.zero_le _,by simp [bO],(iT _ _ _ _).symm⟩,fun k z r ⟨hk,hz,hr⟩=>?_⟩
 have hrl:r.length=x.length:=by rw [hr];exact jX _ _ _ _ _ hk
 refine ⟨List.length_map _,fun c0=>?_,fun c0=>?_⟩
 ·replace c0:=yq c0
  obtain ⟨y,hy⟩:=bY (l:=x) (k:=k) (by omega)
  have hry:r[k]? =some y:=by rw [hr,jY _ _ _ _ _ (by omega)];exact hy
  have hs:=cW bX hy
  have hle:=fN bX x (k+1)
  have hA:bO bX (x.take k)≤5*(k+bO bZ (x.take k)):=aLt (s:=bX) (c:=bZ) (fun y=>by have:=iM y;omega) x k hk
  have hB:=cW bZ hy
  have hD:=fN bZ x (k+1)
  have hle5:=uK x
  have hy5:=iM y
  refine ⟨rfl,by first | omega | (simp only [List.length_set];omega),fun b1507 hb1507=>?_⟩
  obtain rfl:=(aX hry hb1507).symm
  refine ⟨by omega,List.length_map _,by first | omega | (simp only [List.length_set];omega),rfl,wA _ _ (by omega) (by first | omega | (dsimp only;omega)),rfl,rfl,rfl,by first | omega | (simp only [List.length_set];omega),fun a1507 ha1507=>⟨rfl,?_⟩⟩
  obtain rfl:=(aX hry ha1507).symm
  refine ⟨⟨by first | omega | (dsimp only;omega),by first | omega | (dsimp only;omega)⟩,?_⟩
  exact ⟨k+1,_,_,rfl,rfl,rfl,⟨by omega,by rw [hs,hz];unfold bX;omega,by subst hz hr;(try simp only [List.set_set]);exact jZ _ _ _ _ _ _ hy⟩,by omega⟩
 ·replace c0:=nq c0
  have hkx:k=x.length:=by omega
  rw [hkx,List.take_length] at hz
  rw [hkx,iU] at hr
  refine ⟨?_,?_,trivial⟩
  ·first | (rw [hz];rfl) | (rw [hr];rfl) | (rw [hz,hS])
  ·first | (rw [hz];rfl) | (rw [hr];rfl) | (rw [hz,hS])
abbrev pO (x:List aR) (m:Int):List AV × List (Nat × Rs) × AV × List (Nat × Rs):=([.own 0,vI m],[(0,.arr 162 3 true (x.map aL))],vI (m+((vY x:Nat):Int)),[(0,.arr 162 3 true ((aE7 m x).map aL))])
abbrev aEA (x:List aR) (m:Int):Prop:=lT Tryz.prog 160 (pO x m).1 (pO x m).2.1 (pO x m).2.2.1 (pO x m).2.2.2
theorem aOO (x:List aR) (m:Int) (h0:0≤m) (hm:m+5*((hJ x:Nat):Int)≤4611686018427387904):aEA x m:=by
 refine mZ bF aS Tryz.func160 (by kernel_rfl) (by kernel_rfl) (.loop (Nat × Int × (List aR)) (Q3 Nat Int (List aR)) [1,5,6,7,8,9,10,11,12,13,14,15,16,17,18,19,20,21,22,23,24,25,26,27,28,29,30,31,32,33] [0,3107] (fun yy0=>[(5,vI (yy0.1:Int)),(1,vI yy0.2.1)]) (fun yy0=>[(0,some (.arr 162 3 true (yy0.2.2.map aL)))]) (fun yy0=>yy0.1≤x.length∧yy0.2.1=m+((bO jA (x.take yy0.1):Nat):Int)∧yy0.2.2=cV aC7 jA m x yy0.1) (fun yy0=>x.length - yy0.1) (fun yy0=> .len yy0.2.2.length<| .br (.call (.p none (.str (aW yy0.2.1))) []<| .len yy0.2.2.length<| .setm aR aL yy0.2.2 (fun s4_6=>(⟨aW yy0.2.1,s4_6.arity,s4_6.rows⟩:aR)) (fun s4_6=> .len ((yy0.2.2.set yy0.1 (⟨aW yy0.2.1,s4_6.arity,s4_6.rows⟩:aR)).length)<| .setm aR aL (yy0.2.2.set yy0.1 (⟨aW yy0.2.1,s4_6.arity,s4_6.rows⟩:aR)) (fun s6_5=>(⟨s6_5.name,yy0.2.1+(1:Int),s6_5.rows⟩:aR)) (fun s6_5=> .split 8 0 yy0.1 2 3107 aR aL ((yy0.2.2.set yy0.1 (⟨aW yy0.2.1,s4_6.arity,s4_6.rows⟩:aR)).set yy0.1 (⟨s6_5.name,yy0.2.1+(1:Int),s6_5.rows⟩:aR)) (fun b3107=> .len (((yy0.2.2.set yy0.1 (⟨aW yy0.2.1,s4_6.arity,s4_6.rows⟩:aR)).set yy0.1 (⟨s6_5.name,yy0.2.1+(1:Int),s6_5.rows⟩:aR)).length)<| jE (oM b3107.rows ((yy0.2.1+(1:Int))+(1:Int))) [(0,3107)]<| .join 3 0 3107 aR aL ((yy0.2.2.set yy0.1 (⟨aW yy0.2.1,s4_6.arity,s4_6.rows⟩:aR)).set yy0.1 (⟨s6_5.name,yy0.2.1+(1:Int),s6_5.rows⟩:aR)) (fun a3107=>(⟨a3107.name,a3107.arity,gS ((yy0.2.1+(1:Int))+(1:Int)) b3107.rows⟩:aR)) (fun a3107=> .back [(0,0)]))))) (.fin [(0,0)]))) (p:=(∃(k:Nat) (z:Int) (r:List aR),(0:Int)=(k:Int)∧m=z∧x.map aL=r.map aL∧k≤x.length∧z=m+((bO jA (x.take k):Nat):Int)∧r=cV aC7 jA m x k)∧ ∀(k:Nat) (z:Int) (r:List aR),(k≤x.length∧z=m+((bO jA (x.take k):Nat):Int)∧r=cV aC7 jA m x k)→Lm aL r∧(((decide ((k:Int)<((r.length:Nat):Int)))=true→oL z∧(0≤(k:Int)∧Lm aL r∧(k:Int)<((r.length:Nat):Int)∧(r.map aL=r.map aL∧k<r.length∧ ∀s4_6,r[k]? =some s4_6→0+1≤(aL s4_6).length∧(aL s4_6).take 0++((aL (⟨aW z,s4_6.arity,s4_6.rows⟩:aR)).drop 0).take 1++(aL s4_6).drop (0+1)=aL (⟨aW z,s4_6.arity,s4_6.rows⟩:aR)∧(aW z)=((⟨aW z,s4_6.arity,s4_6.rows⟩:aR).name)∧(cG (z+(1:Int))∧(0≤(k:Int)∧Lm aL (r.set k (⟨aW z,s4_6.arity,s4_6.rows⟩:aR))∧(k:Int)<(((r.set k (⟨aW z,s4_6.arity,s4_6.rows⟩:aR)).length:Nat):Int)∧((r.set k (⟨aW z,s4_6.arity,s4_6.rows⟩:aR)).map aL=(r.set k (⟨aW z,s4_6.arity,s4_6.rows⟩:aR)).map aL∧k<(r.set k (⟨aW z,s4_6.arity,s4_6.rows⟩:aR)).length∧ ∀s6_5,(r.set k (⟨aW z,s4_6.arity,s4_6.rows⟩:aR))[k]? =some s6_5→1+1≤(aL s6_5).length∧(aL s6_5).take 1++((aL (⟨s6_5.name,z+(1:Int),s6_5.rows⟩:aR)).drop 1).take 1++(aL s6_5).drop (1+1)=aL (⟨s6_5.name,z+(1:Int),s6_5.rows⟩:aR)∧(z+(1:Int))=((⟨s6_5.name,z+(1:Int),s6_5.rows⟩:aR).arity)∧(cG ((z+(1:Int))+(1:Int))∧(((r.set k (⟨aW z,s4_6.arity,s4_6.rows⟩:aR)).set k (⟨s6_5.name,z+(1:Int),s6_5.rows⟩:aR)).map aL=((r.set k (⟨aW z,s4_6.arity,s4_6.rows⟩:aR)).set k (⟨s6_5.name,z+(1:Int),s6_5.rows⟩:aR)).map aL∧k<((r.set k (⟨aW z,s4_6.arity,s4_6.rows⟩:aR)).set k (⟨s6_5.name,z+(1:Int),s6_5.rows⟩:aR)).length∧ ∀b3107,((r.set k (⟨aW z,s4_6.arity,s4_6.rows⟩:aR)).set k (⟨s6_5.name,z+(1:Int),s6_5.rows⟩:aR))[k]? =some b3107→0≤(k:Int)∧Lm aL ((r.set k (⟨aW z,s4_6.arity,s4_6.rows⟩:aR)).set k (⟨s6_5.name,z+(1:Int),s6_5.rows⟩:aR))∧(k:Int)<((((r.set k (⟨aW z,s4_6.arity,s4_6.rows⟩:aR)).set k (⟨s6_5.name,z+(1:Int),s6_5.rows⟩:aR)).length:Nat):Int)∧(k=k∧(aBV b3107.rows ((z+(1:Int))+(1:Int))∧((z+(1:Int))+(1:Int))=((z+(1:Int))+(1:Int))∧b3107.rows.map aF=b3107.rows.map aF∧(((r.set k (⟨aW z,s4_6.arity,s4_6.rows⟩:aR)).set k (⟨s6_5.name,z+(1:Int),s6_5.rows⟩:aR)).map aL=((r.set k (⟨aW z,s4_6.arity,s4_6.rows⟩:aR)).set k (⟨s6_5.name,z+(1:Int),s6_5.rows⟩:aR)).map aL∧k<((r.set k (⟨aW z,s4_6.arity,s4_6.rows⟩:aR)).set k (⟨s6_5.name,z+(1:Int),s6_5.rows⟩:aR)).length∧ ∀a3107,((r.set k (⟨aW z,s4_6.arity,s4_6.rows⟩:aR)).set k (⟨s6_5.name,z+(1:Int),s6_5.rows⟩:aR))[k]? =some a3107→((aL a3107).take 2++ .sl 32 1 ((gS ((z+(1:Int))+(1:Int)) b3107.rows).map aF)::(aL a3107).drop (2+1)=aL (⟨a3107.name,a3107.arity,gS ((z+(1:Int))+(1:Int)) b3107.rows⟩:aR))∧cG ((k:Int)+(1:Int))∧ ∃(k' :Nat) (z' :Int) (r' :List aR),((k:Int)+(1:Int))=(k' :Int)∧(((z+(1:Int))+(1:Int))+((kF b3107.rows:Nat):Int))=z' ∧(((r.set k (⟨aW z,s4_6.arity,s4_6.rows⟩:aR)).set k (⟨s6_5.name,z+(1:Int),s6_5.rows⟩:aR)).set k (⟨a3107.name,a3107.arity,gS ((z+(1:Int))+(1:Int)) b3107.rows⟩:aR)).map aL=r'.map aL∧(k' ≤x.length∧z' =m+((bO jA (x.take k'):Nat):Int)∧r' =cV aC7 jA m x k')∧x.length - k' <x.length - k)))))))))))∧((decide ((k:Int)<((r.length:Nat):Int)))=false→z=(m+((vY x:Nat):Int))∧r.map aL=(aE7 m x).map aL∧True))) (by kernel_rfl) ?_
 have hS:vY x=bO jA x:=rfl
 have hC:hJ x=x.length+bO eQ x:=rfl
 refine ⟨⟨0,m,x,rfl,rfl,rfl,Nat.zero_le _,by simp [bO],(iT _ _ _ _).symm⟩,fun k z r ⟨hk,hz,hr⟩=>?_⟩
 have hrl:r.length=x.length:=by rw [hr];exact jX _ _ _ _ _ hk
 refine ⟨List.length_map _,fun c0=>?_,fun c0=>?_⟩
 ·replace c0:=yq c0
  obtain ⟨y,hy⟩:=bY (l:=x) (k:=k) (by omega)
  have hry:r[k]? =some y:=by rw [hr,jY _ _ _ _ _ (by omega)];exact hy
  have hs:=cW jA hy
  have hle:=fN jA x (k+1)
  have hA:bO jA (x.take k)≤5*(k+bO eQ (x.take k)):=aLt aG8 x k hk
  have hB:=cW eQ hy
  have hD:=fN eQ x (k+1)
  have hF:eQ y=ByteArray.size y.name+cI y.rows:=rfl
  have hle5:=aBU x
  have hE:jA y=1+1+kF y.rows:=rfl
  have hy_rows:=uK y.rows
  refine ⟨aAY _ (by omega),by omega,List.length_map _,by first | omega | (simp only [List.length_set];omega),rfl,by first | omega | (simp only [List.length_set];omega),fun s4_6 hs4_6=>?_⟩
  obtain rfl:=(aX hry hs4_6).symm
  refine ⟨Nat.le_of_ble_eq_true rfl,rfl,rfl,⟨by first | omega | (dsimp only;omega),by first | omega | (dsimp only;omega)⟩,by omega,List.length_map _,by first | omega | (simp only [List.length_set];omega),rfl,by first | omega | (simp only [List.length_set];omega),fun s6_5 hs6_5=>?_⟩
  obtain rfl:=jK hs6_5
  refine ⟨Nat.le_of_ble_eq_true rfl,rfl,rfl,⟨by first | omega | (dsimp only;omega),by first | omega | (dsimp only;omega)⟩,rfl,by first | omega | (simp only [List.length_set];omega),fun b3107 hb3107=>?_⟩
  obtain rfl:=jK hb3107
  refine ⟨by omega,List.length_map _,by first | omega | (simp only [List.length_set];omega),rfl,aKm _ _ (by omega) (by first | omega | (dsimp only;omega)),rfl,rfl,rfl,by first | omega | (simp only [List.length_set];omega),fun a3107 ha3107=>⟨rfl,?_⟩⟩
  obtain rfl:=jK ha3107
  refine ⟨⟨by first | omega | (dsimp only;omega),by first | omega | (dsimp only;omega)⟩,?_⟩
  exact ⟨k+1,_,_,rfl,rfl,rfl,⟨by omega,by rw [hs];(try dsimp only);omega,by subst hz hr;(try simp only [List.set_set]);exact jZ _ _ _ _ _ _ hy⟩,by omega⟩
 ·replace c0:=nq c0
  have hkx:k=x.length:=by omega
  rw [hkx,List.take_length] at hz
  rw [hkx,iU] at hr
  refine ⟨?_,?_,trivial⟩
  ·first | (rw [hz];rfl) | (rw [hr];rfl) | (rw [hz,hS])
  ·first | (rw [hz];rfl) | (rw [hr];rfl) | (rw [hz,hS])
abbrev lZ (x:aT) (m:Int):List AV × List (Nat × Rs) × AV × List (Nat × Rs):=([.agg [.own 0],vI m],[(0,.arr 162 3 true (x.tables.map aL))],vI (m+((dC x:Nat):Int)),[(0,.arr 162 3 true (((vZ m x).tables).map aL))])
abbrev aAf (x:aT) (m:Int):Prop:=lT Tryz.prog 81 (lZ x m).1 (lZ x m).2.1 (lZ x m).2.2.1 (lZ x m).2.2.2
theorem aKn (x:aT) (m:Int) (h0:0≤m) (hm:m+5*((bD x:Nat):Int)≤4611686018427387904):aAf x m:=by
 refine mZ bF aS Tryz.func81 (by kernel_rfl) (by kernel_rfl) (jE (pO x.tables m) [(0,0)]<| .fin [(0,0)]) (p:=aEA x.tables m∧m=m∧x.tables.map aL=x.tables.map aL∧(m+((vY x.tables:Nat):Int))=(m+((dC x:Nat):Int))∧(aE7 m x.tables).map aL=((vZ m x).tables).map aL∧True) (by kernel_rfl) ?_
 have hS:dC x=vY x.tables:=rfl
 have hC:bD x=hJ x.tables:=rfl
 have:=aBU x.tables
 refine ⟨aOO _ _ (by omega) (by first | omega | (dsimp only;omega)),rfl,rfl,?_,?_,trivial⟩
 ·first | rfl | (rw [hS];omega)
 ·first | rfl | (rw [hS];omega)
abbrev jS (x:List aH) (m:Int):List AV × List (Nat × Rs) × AV × List (Nat × Rs):=([.own 0,vI m],[(0,.arr 218 3 true (x.map aB))],vI (m+((kH x:Nat):Int)),[(0,.arr 218 3 true ((kG m x).map aB))])
abbrev uL (x:List aH) (m:Int):Prop:=lT Tryz.prog 240 (jS x m).1 (jS x m).2.1 (jS x m).2.2.1 (jS x m).2.2.2
theorem aGa (x:List aH) (m:Int) (h0:0≤m) (hm:m+5*((cR x:Nat):Int)≤4611686018427387904):uL x m:=by
 refine mZ bF aS Tryz.func240 (by kernel_rfl) (by kernel_rfl) (.loop (Nat × Int × (List aH)) (Q3 Nat Int (List aH)) [1,5,6,7,8,9,10,11,12,13,14,15,16,17,18,19,20,21,22,23,24,25,26,27,28,29,30,31,32] [0,1607,2307,3007] (fun yy0=>[(5,vI (yy0.1:Int)),(1,vI yy0.2.1)]) (fun yy0=>[(0,some (.arr 218 3 true (yy0.2.2.map aB)))]) (fun yy0=>yy0.1≤x.length∧yy0.2.1=m+((bO dT (x.take yy0.1):Nat):Int)∧yy0.2.2=cV nI dT m x yy0.1) (fun yy0=>x.length - yy0.1) (fun yy0=> .len yy0.2.2.length<| .br (.split 4 0 yy0.1 0 1607 aH aB yy0.2.2 (fun b1607=> .len yy0.2.2.length<| jE (jR b1607.columns yy0.2.1) [(0,1607)]<| .join 5 0 1607 aH aB yy0.2.2 (fun a1607=>(⟨cM yy0.2.1 b1607.columns,a1607.values,a1607.counts⟩:aH)) (fun a1607=> .split 5 0 yy0.1 1 2307 aH aB (yy0.2.2.set yy0.1 (⟨cM yy0.2.1 b1607.columns,a1607.values,a1607.counts⟩:aH)) (fun b2307=> .len ((yy0.2.2.set yy0.1 (⟨cM yy0.2.1 b1607.columns,a1607.values,a1607.counts⟩:aH)).length)<| jE (oM b2307.values (yy0.2.1+((bX b1607.columns:Nat):Int))) [(0,2307)]<| .join 6 0 2307 aH aB (yy0.2.2.set yy0.1 (⟨cM yy0.2.1 b1607.columns,a1607.values,a1607.counts⟩:aH)) (fun a2307=>(⟨a2307.columns,gS (yy0.2.1+((bX b1607.columns:Nat):Int)) b2307.values,a2307.counts⟩:aH)) (fun a2307=> .split 6 0 yy0.1 2 3007 aH aB ((yy0.2.2.set yy0.1 (⟨cM yy0.2.1 b1607.columns,a1607.values,a1607.counts⟩:aH)).set yy0.1 (⟨a2307.columns,gS (yy0.2.1+((bX b1607.columns:Nat):Int)) b2307.values,a2307.counts⟩:aH)) (fun b3007=> .len (((yy0.2.2.set yy0.1 (⟨cM yy0.2.1 b1607.columns,a1607.values,a1607.counts⟩:aH)).set yy0.1 (⟨a2307.columns,gS (yy0.2.1+((bX b1607.columns:Nat):Int)) b2307.values,a2307.counts⟩:aH)).length)<| jE (jR b3007.counts ((yy0.2.1+((bX b1607.columns:Nat):Int))+((kF b2307.values:Nat):Int))) [(0,3007)]<| .join 3 0 3007 aH aB ((yy0.2.2.set yy0.1 (⟨cM yy0.2.1 b1607.columns,a1607.values,a1607.counts⟩:aH)).set yy0.1 (⟨a2307.columns,gS (yy0.2.1+((bX b1607.columns:Nat):Int)) b2307.values,a2307.counts⟩:aH)) (fun a3007=>(⟨a3007.columns,a3007.values,cM ((yy0.2.1+((bX b1607.columns:Nat):Int))+((kF b2307.values:Nat):Int)) b3007.counts⟩:aH)) (fun a3007=> .back [(0,0)]))))))) (.fin [(0,0)]))) (p:=(∃(k:Nat) (z:Int) (r:List aH),(0:Int)=(k:Int)∧m=z∧x.map aB=r.map aB∧k≤x.length∧z=m+((bO dT (x.take k):Nat):Int)∧r=cV nI dT m x k)∧ ∀(k:Nat) (z:Int) (r:List aH),(k≤x.length∧z=m+((bO dT (x.take k):Nat):Int)∧r=cV nI dT m x k)→Lm aB r∧(((decide ((k:Int)<((r.length:Nat):Int)))=true→r.map aB=r.map aB∧k<r.length∧ ∀b1607,r[k]? =some b1607→0≤(k:Int)∧Lm aB r∧(k:Int)<((r.length:Nat):Int)∧(k=k∧(mR b1607.columns z∧z=z∧b1607.columns.map intD=b1607.columns.map intD∧(r.map aB=r.map aB∧k<r.length∧ ∀a1607,r[k]? =some a1607→((aB a1607).take 0++ .sl 3 1 ((cM z b1607.columns).map intD)::(aB a1607).drop (0+1)=aB (⟨cM z b1607.columns,a1607.values,a1607.counts⟩:aH))∧(r.set k (⟨cM z b1607.columns,a1607.values,a1607.counts⟩:aH)).map aB=(r.set k (⟨cM z b1607.columns,a1607.values,a1607.counts⟩:aH)).map aB∧k<(r.set k (⟨cM z b1607.columns,a1607.values,a1607.counts⟩:aH)).length∧ ∀b2307,(r.set k (⟨cM z b1607.columns,a1607.values,a1607.counts⟩:aH))[k]? =some b2307→0≤(k:Int)∧Lm aB (r.set k (⟨cM z b1607.columns,a1607.values,a1607.counts⟩:aH))∧(k:Int)<(((r.set k (⟨cM z b1607.columns,a1607.values,a1607.counts⟩:aH)).length:Nat):Int)∧(k=k∧(aBV b2307.values (z+((bX b1607.columns:Nat):Int))∧(z+((bX b1607.columns:Nat):Int))=(z+((bX b1607.columns:Nat):Int))∧b2307.values.map aF=b2307.values.map aF∧((r.set k (⟨cM z b1607.columns,a1607.values,a1607.counts⟩:aH)).map aB=(r.set k (⟨cM z b1607.columns,a1607.values,a1607.counts⟩:aH)).map aB∧k<(r.set k (⟨cM z b1607.columns,a1607.values,a1607.counts⟩:aH)).length∧ ∀a2307,(r.set k (⟨cM z b1607.columns,a1607.values,a1607.counts⟩:aH))[k]? =some a2307→((aB a2307).take 1++ .sl 32 1 ((gS (z+((bX b1607.columns:Nat):Int)) b2307.values).map aF)::(aB a2307).drop (1+1)=aB (⟨a2307.columns,gS (z+((bX b1607.columns:Nat):Int)) b2307.values,a2307.counts⟩:aH))∧((r.set k (⟨cM z b1607.columns,a1607.values,a1607.counts⟩:aH)).set k (⟨a2307.columns,gS (z+((bX b1607.columns:Nat):Int)) b2307.values,a2307.counts⟩:aH)).map aB=((r.set k (⟨cM z b1607.columns,a1607.values,a1607.counts⟩:aH)).set k (⟨a2307.columns,gS (z+((bX b1607.columns:Nat):Int)) b2307.values,a2307.counts⟩:aH)).map aB∧k<((r.set k (⟨cM z b1607.columns,a1607.values,a1607.counts⟩:aH)).set k (⟨a2307.columns,gS (z+((bX b1607.columns:Nat):Int)) b2307.values,a2307.counts⟩:aH)).length∧ ∀b3007,((r.set k (⟨cM z b1607.columns,a1607.values,a1607.counts⟩:aH)).set k (⟨a2307.columns,gS (z+((bX b1607.columns:Nat):Int)) b2307.values,a2307.counts⟩:aH))[k]? =some b3007→0≤(k:Int)∧Lm aB ((r.set k (⟨cM z b1607.columns,a1607.values,a1607.counts⟩:aH)).set k (⟨a2307.columns,gS (z+((bX b1607.columns:Nat):Int)) b2307.values,a2307.counts⟩:aH))∧(k:Int)<((((r.set k (⟨cM z b1607.columns,a1607.values,a1607.counts⟩:aH)).set k (⟨a2307.columns,gS (z+((bX b1607.columns:Nat):Int)) b2307.values,a2307.counts⟩:aH)).length:Nat):Int)∧(k=k∧(mR b3007.counts ((z+((bX b1607.columns:Nat):Int))+((kF b2307.values:Nat):Int))∧((z+((bX b1607.columns:Nat):Int))+((kF b2307.values:Nat):Int))=((z+((bX b1607.columns:Nat):Int))+((kF b2307.values:Nat):Int))∧b3007.counts.map intD=b3007.counts.map intD∧(((r.set k (⟨cM z b1607.columns,a1607.values,a1607.counts⟩:aH)).set k (⟨a2307.columns,gS (z+((bX b1607.columns:Nat):Int)) b2307.values,a2307.counts⟩:aH)).map aB=((r.set k (⟨cM z b1607.columns,a1607.values,a1607.counts⟩:aH)).set k (⟨a2307.columns,gS (z+((bX b1607.columns:Nat):Int)) b2307.values,a2307.counts⟩:aH)).map aB∧k<((r.set k (⟨cM z b1607.columns,a1607.values,a1607.counts⟩:aH)).set k (⟨a2307.columns,gS (z+((bX b1607.columns:Nat):Int)) b2307.values,a2307.counts⟩:aH)).length∧ ∀a3007,((r.set k (⟨cM z b1607.columns,a1607.values,a1607.counts⟩:aH)).set k (⟨a2307.columns,gS (z+((bX b1607.columns:Nat):Int)) b2307.values,a2307.counts⟩:aH))[k]? =some a3007→((aB a3007).take 2++ .sl 3 1 ((cM ((z+((bX b1607.columns:Nat):Int))+((kF b2307.values:Nat):Int)) b3007.counts).map intD)::(aB a3007).drop (2+1)=aB (⟨a3007.columns,a3007.values,cM ((z+((bX b1607.columns:Nat):Int))+((kF b2307.values:Nat):Int)) b3007.counts⟩:aH))∧cG ((k:Int)+(1:Int))∧ ∃(k' :Nat) (z' :Int) (r' :List aH),((k:Int)+(1:Int))=(k' :Int)∧(((z+((bX b1607.columns:Nat):Int))+((kF b2307.values:Nat):Int))+((bX b3007.counts:Nat):Int))=z' ∧(((r.set k (⟨cM z b1607.columns,a1607.values,a1607.counts⟩:aH)).set k (⟨a2307.columns,gS (z+((bX b1607.columns:Nat):Int)) b2307.values,a2307.counts⟩:aH)).set k (⟨a3007.columns,a3007.values,cM ((z+((bX b1607.columns:Nat):Int))+((kF b2307.values:Nat):Int)) b3007.counts⟩:aH)).map aB=r'.map aB∧(k' ≤x.length∧z' =m+((bO dT (x.take k'):Nat):Int)∧r' =cV nI dT m x k')∧x.length - k' <x.length - k))))))))))∧((decide ((k:Int)<((r.length:Nat):Int)))=false→z=(m+((kH x:Nat):Int))∧r.map aB=(kG m x).map aB∧True))) (by kernel_rfl) ?_
 have hS:kH x=bO dT x:=rfl
 have hC:cR x=x.length+bO bH x:=rfl
 refine ⟨⟨0,m,x,rfl,rfl,rfl,Nat.zero_le _,by simp [bO],(iT _ _ _ _).symm⟩,fun k z r ⟨hk,hz,hr⟩=>?_⟩
 have hrl:r.length=x.length:=by rw [hr];exact jX _ _ _ _ _ hk
 refine ⟨List.length_map _,fun c0=>?_,fun c0=>?_⟩
 ·replace c0:=yq c0
  obtain ⟨y,hy⟩:=bY (l:=x) (k:=k) (by omega)
  have hry:r[k]? =some y:=by rw [hr,jY _ _ _ _ _ (by omega)];exact hy
  have hs:=cW dT hy
  have hle:=fN dT x (k+1)
  have hA:bO dT (x.take k)≤5*(k+bO bH (x.take k)):=aLt wX x k hk
  have hB:=cW bH hy
  have hD:=fN bH x (k+1)
  have hF:bH y=bZ y.columns+cI y.values+bZ y.counts:=rfl
  have hle5:=pY x
  have hE:dT y=bX y.columns+kF y.values+bX y.counts:=rfl
  have hy_columns:=iM y.columns
  have hy_values:=uK y.values
  have hy_counts:=iM y.counts
  refine ⟨rfl,by first | omega | (simp only [List.length_set];omega),fun b1607 hb1607=>?_⟩
  obtain rfl:=(aX hry hb1607).symm
  refine ⟨by omega,List.length_map _,by first | omega | (simp only [List.length_set];omega),rfl,wA _ _ (by omega) (by first | omega | (dsimp only;omega)),rfl,rfl,rfl,by first | omega | (simp only [List.length_set];omega),fun a1607 ha1607=>⟨rfl,?_⟩⟩
  obtain rfl:=(aX hry ha1607).symm
  refine ⟨rfl,by first | omega | (simp only [List.length_set];omega),fun b2307 hb2307=>?_⟩
  obtain rfl:=jK hb2307
  refine ⟨by omega,List.length_map _,by first | omega | (simp only [List.length_set];omega),rfl,aKm _ _ (by omega) (by first | omega | (dsimp only;omega)),rfl,rfl,rfl,by first | omega | (simp only [List.length_set];omega),fun a2307 ha2307=>⟨rfl,?_⟩⟩
  obtain rfl:=jK ha2307
  refine ⟨rfl,by first | omega | (simp only [List.length_set];omega),fun b3007 hb3007=>?_⟩
  obtain rfl:=jK hb3007
  refine ⟨by omega,List.length_map _,by first | omega | (simp only [List.length_set];omega),rfl,wA _ _ (by omega) (by first | omega | (dsimp only;omega)),rfl,rfl,rfl,by first | omega | (simp only [List.length_set];omega),fun a3007 ha3007=>⟨rfl,?_⟩⟩
  obtain rfl:=jK ha3007
  refine ⟨⟨by first | omega | (dsimp only;omega),by first | omega | (dsimp only;omega)⟩,?_⟩
  exact ⟨k+1,_,_,rfl,rfl,rfl,⟨by omega,by rw [hs];(try dsimp only);omega,by subst hz hr;(try simp only [List.set_set]);exact jZ _ _ _ _ _ _ hy⟩,by omega⟩
 ·replace c0:=nq c0
  have hkx:k=x.length:=by omega
  rw [hkx,List.take_length] at hz
  rw [hkx,iU] at hr
  refine ⟨?_,?_,trivial⟩
  ·first | (rw [hz];rfl) | (rw [hr];rfl) | (rw [hz,hS])
  ·first | (rw [hz];rfl) | (rw [hr];rfl) | (rw [hz,hS])
abbrev jT (x:List aC) (m:Int):List AV × List (Nat × Rs) × AV × List (Nat × Rs):=([.own 0,vI m],[(0,.arr 121 4 true (x.map aA))],vI (m+((kI x:Nat):Int)),[(0,.arr 121 4 true ((qN m x).map aA))])
abbrev uM (x:List aC) (m:Int):Prop:=lT Tryz.prog 161 (jT x m).1 (jT x m).2.1 (jT x m).2.2.1 (jT x m).2.2.2
theorem aGb (x:List aC) (m:Int) (h0:0≤m) (hm:m+5*((dE x:Nat):Int)≤4611686018427387904):uM x m:=by
 refine mZ bF aS Tryz.func161 (by kernel_rfl) (by kernel_rfl) (.loop (Nat × Int × (List aC)) (Q3 Nat Int (List aC)) [1,5,6,7,8,9,10,11,12,13,14,15,16,17,18,19,20,21,22,23,24,25,26,27,28,29,30,31,32,33,34,35,36,37,38,39,40] [0,3807] (fun yy0=>[(5,vI (yy0.1:Int)),(1,vI yy0.2.1)]) (fun yy0=>[(0,some (.arr 121 4 true (yy0.2.2.map aA)))]) (fun yy0=>yy0.1≤x.length∧yy0.2.1=m+((bO dU (x.take yy0.1):Nat):Int)∧yy0.2.2=cV nJ dU m x yy0.1) (fun yy0=>x.length - yy0.1) (fun yy0=> .len yy0.2.2.length<| .br (.call (.p none (.str (aW yy0.2.1))) []<| .len yy0.2.2.length<| .setm aC aA yy0.2.2 (fun s4_6=>(⟨aW yy0.2.1,s4_6.arity,s4_6.rowCount,s4_6.groups⟩:aC)) (fun s4_6=> .len ((yy0.2.2.set yy0.1 (⟨aW yy0.2.1,s4_6.arity,s4_6.rowCount,s4_6.groups⟩:aC)).length)<| .setm aC aA (yy0.2.2.set yy0.1 (⟨aW yy0.2.1,s4_6.arity,s4_6.rowCount,s4_6.groups⟩:aC)) (fun s6_5=>(⟨s6_5.name,yy0.2.1+(1:Int),s6_5.rowCount,s6_5.groups⟩:aC)) (fun s6_5=> .len (((yy0.2.2.set yy0.1 (⟨aW yy0.2.1,s4_6.arity,s4_6.rowCount,s4_6.groups⟩:aC)).set yy0.1 (⟨s6_5.name,yy0.2.1+(1:Int),s6_5.rowCount,s6_5.groups⟩:aC)).length)<| .setm aC aA ((yy0.2.2.set yy0.1 (⟨aW yy0.2.1,s4_6.arity,s4_6.rowCount,s4_6.groups⟩:aC)).set yy0.1 (⟨s6_5.name,yy0.2.1+(1:Int),s6_5.rowCount,s6_5.groups⟩:aC)) (fun s8_5=>(⟨s8_5.name,s8_5.arity,(yy0.2.1+(1:Int))+(1:Int),s8_5.groups⟩:aC)) (fun s8_5=> .split 10 0 yy0.1 3 3807 aC aA (((yy0.2.2.set yy0.1 (⟨aW yy0.2.1,s4_6.arity,s4_6.rowCount,s4_6.groups⟩:aC)).set yy0.1 (⟨s6_5.name,yy0.2.1+(1:Int),s6_5.rowCount,s6_5.groups⟩:aC)).set yy0.1 (⟨s8_5.name,s8_5.arity,(yy0.2.1+(1:Int))+(1:Int),s8_5.groups⟩:aC)) (fun b3807=> .len ((((yy0.2.2.set yy0.1 (⟨aW yy0.2.1,s4_6.arity,s4_6.rowCount,s4_6.groups⟩:aC)).set yy0.1 (⟨s6_5.name,yy0.2.1+(1:Int),s6_5.rowCount,s6_5.groups⟩:aC)).set yy0.1 (⟨s8_5.name,s8_5.arity,(yy0.2.1+(1:Int))+(1:Int),s8_5.groups⟩:aC)).length)<| jE (jS b3807.groups (((yy0.2.1+(1:Int))+(1:Int))+(1:Int))) [(0,3807)]<| .join 3 0 3807 aC aA (((yy0.2.2.set yy0.1 (⟨aW yy0.2.1,s4_6.arity,s4_6.rowCount,s4_6.groups⟩:aC)).set yy0.1 (⟨s6_5.name,yy0.2.1+(1:Int),s6_5.rowCount,s6_5.groups⟩:aC)).set yy0.1 (⟨s8_5.name,s8_5.arity,(yy0.2.1+(1:Int))+(1:Int),s8_5.groups⟩:aC)) (fun a3807=>(⟨a3807.name,a3807.arity,a3807.rowCount,kG (((yy0.2.1+(1:Int))+(1:Int))+(1:Int)) b3807.groups⟩:aC)) (fun a3807=> .back [(0,0)])))))) (.fin [(0,0)]))) (p:=(∃(k:Nat) (z:Int) (r:List aC),(0:Int)=(k:Int)∧m=z∧x.map aA=r.map aA∧k≤x.length∧z=m+((bO dU (x.take k):Nat):Int)∧r=cV nJ dU m x k)∧ ∀(k:Nat) (z:Int) (r:List aC),(k≤x.length∧z=m+((bO dU (x.take k):Nat):Int)∧r=cV nJ dU m x k)→Lm aA r∧(((decide ((k:Int)<((r.length:Nat):Int)))=true→oL z∧(0≤(k:Int)∧Lm aA r∧(k:Int)<((r.length:Nat):Int)∧(r.map aA=r.map aA∧k<r.length∧ ∀s4_6,r[k]? =some s4_6→0+1≤(aA s4_6).length∧(aA s4_6).take 0++((aA (⟨aW z,s4_6.arity,s4_6.rowCount,s4_6.groups⟩:aC)).drop 0).take 1++(aA s4_6).drop (0+1)=aA (⟨aW z,s4_6.arity,s4_6.rowCount,s4_6.groups⟩:aC)∧(aW z)=((⟨aW z,s4_6.arity,s4_6.rowCount,s4_6.groups⟩:aC).name)∧(cG (z+(1:Int))∧(0≤(k:Int)∧Lm aA (r.set k (⟨aW z,s4_6.arity,s4_6.rowCount,s4_6.groups⟩:aC))∧(k:Int)<(((r.set k (⟨aW z,s4_6.arity,s4_6.rowCount,s4_6.groups⟩:aC)).length:Nat):Int)∧((r.set k (⟨aW z,s4_6.arity,s4_6.rowCount,s4_6.groups⟩:aC)).map aA=(r.set k (⟨aW z,s4_6.arity,s4_6.rowCount,s4_6.groups⟩:aC)).map aA∧k<(r.set k (⟨aW z,s4_6.arity,s4_6.rowCount,s4_6.groups⟩:aC)).length∧ ∀s6_5,(r.set k (⟨aW z,s4_6.arity,s4_6.rowCount,s4_6.groups⟩:aC))[k]? =some s6_5→1+1≤(aA s6_5).length∧(aA s6_5).take 1++((aA (⟨s6_5.name,z+(1:Int),s6_5.rowCount,s6_5.groups⟩:aC)).drop 1).take 1++(aA s6_5).drop (1+1)=aA (⟨s6_5.name,z+(1:Int),s6_5.rowCount,s6_5.groups⟩:aC)∧(z+(1:Int))=((⟨s6_5.name,z+(1:Int),s6_5.rowCount,s6_5.groups⟩:aC).arity)∧(cG ((z+(1:Int))+(1:Int))∧(0≤(k:Int)∧Lm aA ((r.set k (⟨aW z,s4_6.arity,s4_6.rowCount,s4_6.groups⟩:aC)).set k (⟨s6_5.name,z+(1:Int),s6_5.rowCount,s6_5.groups⟩:aC))∧(k:Int)<((((r.set k (⟨aW z,s4_6.arity,s4_6.rowCount,s4_6.groups⟩:aC)).set k (⟨s6_5.name,z+(1:Int),s6_5.rowCount,s6_5.groups⟩:aC)).length:Nat):Int)∧(((r.set k (⟨aW z,s4_6.arity,s4_6.rowCount,s4_6.groups⟩:aC)).set k (⟨s6_5.name,z+(1:Int),s6_5.rowCount,s6_5.groups⟩:aC)).map aA=((r.set k (⟨aW z,s4_6.arity,s4_6.rowCount,s4_6.groups⟩:aC)).set k (⟨s6_5.name,z+(1:Int),s6_5.rowCount,s6_5.groups⟩:aC)).map aA∧k<((r.set k (⟨aW z,s4_6.arity,s4_6.rowCount,s4_6.groups⟩:aC)).set k (⟨s6_5.name,z+(1:Int),s6_5.rowCount,s6_5.groups⟩:aC)).length∧ ∀s8_5,((r.set k (⟨aW z,s4_6.arity,s4_6.rowCount,s4_6.groups⟩:aC)).set k (⟨s6_5.name,z+(1:Int),s6_5.rowCount,s6_5.groups⟩:aC))[k]? =some s8_5→2+1≤(aA s8_5).length∧(aA s8_5).take 2++((aA (⟨s8_5.name,s8_5.arity,(z+(1:Int))+(1:Int),s8_5.groups⟩:aC)).drop 2).take 1++(aA s8_5).drop (2+1)=aA (⟨s8_5.name,s8_5.arity,(z+(1:Int))+(1:Int),s8_5.groups⟩:aC)∧((z+(1:Int))+(1:Int))=((⟨s8_5.name,s8_5.arity,(z+(1:Int))+(1:Int),s8_5.groups⟩:aC).rowCount)∧(cG (((z+(1:Int))+(1:Int))+(1:Int))∧((((r.set k (⟨aW z,s4_6.arity,s4_6.rowCount,s4_6.groups⟩:aC)).set k (⟨s6_5.name,z+(1:Int),s6_5.rowCount,s6_5.groups⟩:aC)).set k (⟨s8_5.name,s8_5.arity,(z+(1:Int))+(1:Int),s8_5.groups⟩:aC)).map aA=(((r.set k (⟨aW z,s4_6.arity,s4_6.rowCount,s4_6.groups⟩:aC)).set k (⟨s6_5.name,z+(1:Int),s6_5.rowCount,s6_5.groups⟩:aC)).set k (⟨s8_5.name,s8_5.arity,(z+(1:Int))+(1:Int),s8_5.groups⟩:aC)).map aA∧k<(((r.set k (⟨aW z,s4_6.arity,s4_6.rowCount,s4_6.groups⟩:aC)).set k (⟨s6_5.name,z+(1:Int),s6_5.rowCount,s6_5.groups⟩:aC)).set k (⟨s8_5.name,s8_5.arity,(z+(1:Int))+(1:Int),s8_5.groups⟩:aC)).length∧ ∀b3807,(((r.set k (⟨aW z,s4_6.arity,s4_6.rowCount,s4_6.groups⟩:aC)).set k (⟨s6_5.name,z+(1:Int),s6_5.rowCount,s6_5.groups⟩:aC)).set k (⟨s8_5.name,s8_5.arity,(z+(1:Int))+(1:Int),s8_5.groups⟩:aC))[k]? =some b3807→0≤(k:Int)∧Lm aA (((r.set k (⟨aW z,s4_6.arity,s4_6.rowCount,s4_6.groups⟩:aC)).set k (⟨s6_5.name,z+(1:Int),s6_5.rowCount,s6_5.groups⟩:aC)).set k (⟨s8_5.name,s8_5.arity,(z+(1:Int))+(1:Int),s8_5.groups⟩:aC))∧(k:Int)<(((((r.set k (⟨aW z,s4_6.arity,s4_6.rowCount,s4_6.groups⟩:aC)).set k (⟨s6_5.name,z+(1:Int),s6_5.rowCount,s6_5.groups⟩:aC)).set k (⟨s8_5.name,s8_5.arity,(z+(1:Int))+(1:Int),s8_5.groups⟩:aC)).length:Nat):Int)∧(k=k∧(uL b3807.groups (((z+(1:Int))+(1:Int))+(1:Int))∧(((z+(1:Int))+(1:Int))+(1:Int))=(((z+(1:Int))+(1:Int))+(1:Int))∧b3807.groups.map aB=b3807.groups.map aB∧((((r.set k (⟨aW z,s4_6.arity,s4_6.rowCount,s4_6.groups⟩:aC)).set k (⟨s6_5.name,z+(1:Int),s6_5.rowCount,s6_5.groups⟩:aC)).set k (⟨s8_5.name,s8_5.arity,(z+(1:Int))+(1:Int),s8_5.groups⟩:aC)).map aA=(((r.set k (⟨aW z,s4_6.arity,s4_6.rowCount,s4_6.groups⟩:aC)).set k (⟨s6_5.name,z+(1:Int),s6_5.rowCount,s6_5.groups⟩:aC)).set k (⟨s8_5.name,s8_5.arity,(z+(1:Int))+(1:Int),s8_5.groups⟩:aC)).map aA∧k<(((r.set k (⟨aW z,s4_6.arity,s4_6.rowCount,s4_6.groups⟩:aC)).set k (⟨s6_5.name,z+(1:Int),s6_5.rowCount,s6_5.groups⟩:aC)).set k (⟨s8_5.name,s8_5.arity,(z+(1:Int))+(1:Int),s8_5.groups⟩:aC)).length∧ ∀a3807,(((r.set k (⟨aW z,s4_6.arity,s4_6.rowCount,s4_6.groups⟩:aC)).set k (⟨s6_5.name,z+(1:Int),s6_5.rowCount,s6_5.groups⟩:aC)).set k (⟨s8_5.name,s8_5.arity,(z+(1:Int))+(1:Int),s8_5.groups⟩:aC))[k]? =some a3807→((aA a3807).take 3++ .sl 218 3 ((kG (((z+(1:Int))+(1:Int))+(1:Int)) b3807.groups).map aB)::(aA a3807).drop (3+1)=aA (⟨a3807.name,a3807.arity,a3807.rowCount,kG (((z+(1:Int))+(1:Int))+(1:Int)) b3807.groups⟩:aC))∧cG ((k:Int)+(1:Int))∧ ∃(k' :Nat) (z' :Int) (r' :List aC),((k:Int)+(1:Int))=(k' :Int)∧((((z+(1:Int))+(1:Int))+(1:Int))+((kH b3807.groups:Nat):Int))=z' ∧((((r.set k (⟨aW z,s4_6.arity,s4_6.rowCount,s4_6.groups⟩:aC)).set k (⟨s6_5.name,z+(1:Int),s6_5.rowCount,s6_5.groups⟩:aC)).set k (⟨s8_5.name,s8_5.arity,(z+(1:Int))+(1:Int),s8_5.groups⟩:aC)).set k (⟨a3807.name,a3807.arity,a3807.rowCount,kG (((z+(1:Int))+(1:Int))+(1:Int)) b3807.groups⟩:aC)).map aA=r'.map aA∧(k' ≤x.length∧z' =m+((bO dU (x.take k'):Nat):Int)∧r' =cV nJ dU m x k')∧x.length - k' <x.length - k))))))))))))))∧((decide ((k:Int)<((r.length:Nat):Int)))=false→z=(m+((kI x:Nat):Int))∧r.map aA=(qN m x).map aA∧True))) (by kernel_rfl) ?_
 have hS:kI x=bO dU x:=rfl
 have hC:dE x=x.length+bO bA x:=rfl
 refine ⟨⟨0,m,x,rfl,rfl,rfl,Nat.zero_le _,by simp [bO],(iT _ _ _ _).symm⟩,fun k z r ⟨hk,hz,hr⟩=>?_⟩
 have hrl:r.length=x.length:=by rw [hr];exact jX _ _ _ _ _ hk
 refine ⟨List.length_map _,fun c0=>?_,fun c0=>?_⟩
 ·replace c0:=yq c0
  obtain ⟨y,hy⟩:=bY (l:=x) (k:=k) (by omega)
  have hry:r[k]? =some y:=by rw [hr,jY _ _ _ _ _ (by omega)];exact hy
  have hs:=cW dU hy
  have hle:=fN dU x (k+1)
  have hA:bO dU (x.take k)≤5*(k+bO bA (x.take k)):=aLt wY x k hk
  have hB:=cW bA hy
  have hD:=fN bA x (k+1)
  have hF:bA y=ByteArray.size y.name+cR y.groups:=rfl
  have hle5:=pZ x
  have hE:dU y=1+1+1+kH y.groups:=rfl
  have hy_groups:=pY y.groups
  refine ⟨aAY _ (by omega),by omega,List.length_map _,by first | omega | (simp only [List.length_set];omega),rfl,by first | omega | (simp only [List.length_set];omega),fun s4_6 hs4_6=>?_⟩
  obtain rfl:=(aX hry hs4_6).symm
  refine ⟨Nat.le_of_ble_eq_true rfl,rfl,rfl,⟨by first | omega | (dsimp only;omega),by first | omega | (dsimp only;omega)⟩,by omega,List.length_map _,by first | omega | (simp only [List.length_set];omega),rfl,by first | omega | (simp only [List.length_set];omega),fun s6_5 hs6_5=>?_⟩
  obtain rfl:=jK hs6_5
  refine ⟨Nat.le_of_ble_eq_true rfl,rfl,rfl,⟨by first | omega | (dsimp only;omega),by first | omega | (dsimp only;omega)⟩,by omega,List.length_map _,by first | omega | (simp only [List.length_set];omega),rfl,by first | omega | (simp only [List.length_set];omega),fun s8_5 hs8_5=>?_⟩
  obtain rfl:=jK hs8_5
  refine ⟨Nat.le_of_ble_eq_true rfl,rfl,rfl,⟨by first | omega | (dsimp only;omega),by first | omega | (dsimp only;omega)⟩,rfl,by first | omega | (simp only [List.length_set];omega),fun b3807 hb3807=>?_⟩
  obtain rfl:=jK hb3807
  refine ⟨by omega,List.length_map _,by first | omega | (simp only [List.length_set];omega),rfl,aGa _ _ (by omega) (by first | omega | (dsimp only;omega)),rfl,rfl,rfl,by first | omega | (simp only [List.length_set];omega),fun a3807 ha3807=>⟨rfl,?_⟩⟩
  obtain rfl:=jK ha3807
  refine ⟨⟨by first | omega | (dsimp only;omega),by first | omega | (dsimp only;omega)⟩,?_⟩
  exact ⟨k+1,_,_,rfl,rfl,rfl,⟨by omega,by rw [hs];(try dsimp only);omega,by subst hz hr;(try simp only [List.set_set]);exact jZ _ _ _ _ _ _ hy⟩,by omega⟩
 ·replace c0:=nq c0
  have hkx:k=x.length:=by omega
  rw [hkx,List.take_length] at hz
  rw [hkx,iU] at hr
  refine ⟨?_,?_,trivial⟩
  ·first | (rw [hz];rfl) | (rw [hr];rfl) | (rw [hz,hS])
  ·first | (rw [hz];rfl) | (rw [hr];rfl) | (rw [hz,hS])
abbrev lL (x:bS) (m:Int):List AV × List (Nat × Rs) × AV × List (Nat × Rs):=([.agg [vI x.version,.own 0],vI m],[(0,.arr 121 4 true (x.tables.map aA))],vI (m+((dQ x:Nat):Int)),[(0,.arr 121 4 true (((sW m x).tables).map aA))])
abbrev zU (x:bS) (m:Int):Prop:=lT Tryz.prog 82 (lL x m).1 (lL x m).2.1 (lL x m).2.2.1 (lL x m).2.2.2
theorem aJL (x:bS) (m:Int) (h0:0≤m) (hm:m+5*((bL x:Nat):Int)≤4611686018427387904):zU x m:=by
 refine mZ bF aS Tryz.func82 (by kernel_rfl) (by kernel_rfl) (jE (jT x.tables m) [(0,0)]<| .fin [(0,0)]) (p:=uM x.tables m∧m=m∧x.tables.map aA=x.tables.map aA∧(m+((kI x.tables:Nat):Int))=(m+((dQ x:Nat):Int))∧(qN m x.tables).map aA=((sW m x).tables).map aA∧True) (by kernel_rfl) ?_
 have hS:dQ x=kI x.tables:=rfl
 have hC:bL x=dE x.tables:=rfl
 have:=pZ x.tables
 refine ⟨aGb _ _ (by omega) (by first | omega | (dsimp only;omega)),rfl,rfl,?_,?_,trivial⟩
 ·first | rfl | (rw [hS];omega)
 ·first | rfl | (rw [hS];omega)
abbrev jU (x:List aM) (m:Int):List AV × List (Nat × Rs) × AV × List (Nat × Rs):=([.own 0,vI m],[(0,.arr 168 3 true (x.map aD))],vI (m+((eW x:Nat):Int)),[(0,.arr 168 3 true ((qO m x).map aD))])
abbrev uN (x:List aM) (m:Int):Prop:=lT Tryz.prog 83 (jU x m).1 (jU x m).2.1 (jU x m).2.2.1 (jU x m).2.2.2
theorem aGc (x:List aM) (m:Int) (h0:0≤m) (hm:m+5*((bU x:Nat):Int)≤4611686018427387904):uN x m:=by
 refine mZ bF aS Tryz.func83 (by kernel_rfl) (by kernel_rfl) (.loop (Nat × Int × (List aM)) (Q3 Nat Int (List aM)) [1,5,6,7,8,9,10,11,12,13,14,15,16,17,18,19,20,21,22,23,24,25,26,27,28,29,30,31,32,33] [0,2407] (fun yy0=>[(5,vI (yy0.1:Int)),(1,vI yy0.2.1)]) (fun yy0=>[(0,some (.arr 168 3 true (yy0.2.2.map aD)))]) (fun yy0=>yy0.1≤x.length∧yy0.2.1=m+((bO dV (x.take yy0.1):Nat):Int)∧yy0.2.2=cV nK dV m x yy0.1) (fun yy0=>x.length - yy0.1) (fun yy0=> .len yy0.2.2.length<| .br (.call (.p none (.str (aW yy0.2.1))) []<| .len yy0.2.2.length<| .setm aM aD yy0.2.2 (fun s4_6=>(⟨aW yy0.2.1,s4_6.src,s4_6.dst⟩:aM)) (fun s4_6=> .split 6 0 yy0.1 1 2407 aM aD (yy0.2.2.set yy0.1 (⟨aW yy0.2.1,s4_6.src,s4_6.dst⟩:aM)) (fun b2407=> .len ((yy0.2.2.set yy0.1 (⟨aW yy0.2.1,s4_6.src,s4_6.dst⟩:aM)).length)<| jE (jR b2407.src (yy0.2.1+(1:Int))) [(0,2407)]<| .join 7 0 2407 aM aD (yy0.2.2.set yy0.1 (⟨aW yy0.2.1,s4_6.src,s4_6.dst⟩:aM)) (fun a2407=>(⟨a2407.name,cM (yy0.2.1+(1:Int)) b2407.src,a2407.dst⟩:aM)) (fun a2407=> .len (((yy0.2.2.set yy0.1 (⟨aW yy0.2.1,s4_6.src,s4_6.dst⟩:aM)).set yy0.1 (⟨a2407.name,cM (yy0.2.1+(1:Int)) b2407.src,a2407.dst⟩:aM)).length)<| .setm aM aD ((yy0.2.2.set yy0.1 (⟨aW yy0.2.1,s4_6.src,s4_6.dst⟩:aM)).set yy0.1 (⟨a2407.name,cM (yy0.2.1+(1:Int)) b2407.src,a2407.dst⟩:aM)) (fun s7_5=>(⟨s7_5.name,s7_5.src,(yy0.2.1+(1:Int))+((bX b2407.src:Nat):Int)⟩:aM)) (fun s7_5=> .back [(0,0)]))))) (.fin [(0,0)]))) (p:=(∃(k:Nat) (z:Int) (r:List aM),(0:Int)=(k:Int)∧m=z∧x.map aD=r.map aD∧k≤x.length∧z=m+((bO dV (x.take k):Nat):Int)∧r=cV nK dV m x k)∧ ∀(k:Nat) (z:Int) (r:List aM),(k≤x.length∧z=m+((bO dV (x.take k):Nat):Int)∧r=cV nK dV m x k)→Lm aD r∧(((decide ((k:Int)<((r.length:Nat):Int)))=true→oL z∧(0≤(k:Int)∧Lm aD r∧(k:Int)<((r.length:Nat):Int)∧(r.map aD=r.map aD∧k<r.length∧ ∀s4_6,r[k]? =some s4_6→0+1≤(aD s4_6).length∧(aD s4_6).take 0++((aD (⟨aW z,s4_6.src,s4_6.dst⟩:aM)).drop 0).take 1++(aD s4_6).drop (0+1)=aD (⟨aW z,s4_6.src,s4_6.dst⟩:aM)∧(aW z)=((⟨aW z,s4_6.src,s4_6.dst⟩:aM).name)∧(cG (z+(1:Int))∧((r.set k (⟨aW z,s4_6.src,s4_6.dst⟩:aM)).map aD=(r.set k (⟨aW z,s4_6.src,s4_6.dst⟩:aM)).map aD∧k<(r.set k (⟨aW z,s4_6.src,s4_6.dst⟩:aM)).length∧ ∀b2407,(r.set k (⟨aW z,s4_6.src,s4_6.dst⟩:aM))[k]? =some b2407→0≤(k:Int)∧Lm aD (r.set k (⟨aW z,s4_6.src,s4_6.dst⟩:aM))∧(k:Int)<(((r.set k (⟨aW z,s4_6.src,s4_6.dst⟩:aM)).length:Nat):Int)∧(k=k∧(mR b2407.src (z+(1:Int))∧(z+(1:Int))=(z+(1:Int))∧b2407.src.map intD=b2407.src.map intD∧((r.set k (⟨aW z,s4_6.src,s4_6.dst⟩:aM)).map aD=(r.set k (⟨aW z,s4_6.src,s4_6.dst⟩:aM)).map aD∧k<(r.set k (⟨aW z,s4_6.src,s4_6.dst⟩:aM)).length∧ ∀a2407,(r.set k (⟨aW z,s4_6.src,s4_6.dst⟩:aM))[k]? =some a2407→((aD a2407).take 1++ .sl 3 1 ((cM (z+(1:Int)) b2407.src).map intD)::(aD a2407).drop (1+1)=aD (⟨a2407.name,cM (z+(1:Int)) b2407.src,a2407.dst⟩:aM))∧0≤(k:Int)∧Lm aD ((r.set k (⟨aW z,s4_6.src,s4_6.dst⟩:aM)).set k (⟨a2407.name,cM (z+(1:Int)) b2407.src,a2407.dst⟩:aM))∧(k:Int)<((((r.set k (⟨aW z,s4_6.src,s4_6.dst⟩:aM)).set k (⟨a2407.name,cM (z+(1:Int)) b2407.src,a2407.dst⟩:aM)).length:Nat):Int)∧(((r.set k (⟨aW z,s4_6.src,s4_6.dst⟩:aM)).set k (⟨a2407.name,cM (z+(1:Int)) b2407.src,a2407.dst⟩:aM)).map aD=((r.set k (⟨aW z,s4_6.src,s4_6.dst⟩:aM)).set k (⟨a2407.name,cM (z+(1:Int)) b2407.src,a2407.dst⟩:aM)).map aD∧k<((r.set k (⟨aW z,s4_6.src,s4_6.dst⟩:aM)).set k (⟨a2407.name,cM (z+(1:Int)) b2407.src,a2407.dst⟩:aM)).length∧ ∀s7_5,((r.set k (⟨aW z,s4_6.src,s4_6.dst⟩:aM)).set k (⟨a2407.name,cM (z+(1:Int)) b2407.src,a2407.dst⟩:aM))[k]? =some s7_5→2+1≤(aD s7_5).length∧(aD s7_5).take 2++((aD (⟨s7_5.name,s7_5.src,(z+(1:Int))+((bX b2407.src:Nat):Int)⟩:aM)).drop 2).take 1++(aD s7_5).drop (2+1)=aD (⟨s7_5.name,s7_5.src,(z+(1:Int))+((bX b2407.src:Nat):Int)⟩:aM)∧((z+(1:Int))+((bX b2407.src:Nat):Int))=((⟨s7_5.name,s7_5.src,(z+(1:Int))+((bX b2407.src:Nat):Int)⟩:aM).dst)∧cG (((z+(1:Int))+((bX b2407.src:Nat):Int))+(1:Int))∧cG ((k:Int)+(1:Int))∧ ∃(k' :Nat) (z' :Int) (r' :List aM),((k:Int)+(1:Int))=(k' :Int)∧(((z+(1:Int))+((bX b2407.src:Nat):Int))+(1:Int))=z' ∧(((r.set k (⟨aW z,s4_6.src,s4_6.dst⟩:aM)).set k (⟨a2407.name,cM (z+(1:Int)) b2407.src,a2407.dst⟩:aM)).set k (⟨s7_5.name,s7_5.src,(z+(1:Int))+((bX b2407.src:Nat):Int)⟩:aM)).map aD=r'.map aD∧(k' ≤x.length∧z' =m+((bO dV (x.take k'):Nat):Int)∧r' =cV nK dV m x k')∧x.length - k' <x.length - k)))))))))∧((decide ((k:Int)<((r.length:Nat):Int)))=false→z=(m+((eW x:Nat):Int))∧r.map aD=(qO m x).map aD∧True))) (by kernel_rfl) ?_
 have hS:eW x=bO dV x:=rfl
 have hC:bU x=x.length+bO bV x:=rfl
 refine ⟨⟨0,m,x,rfl,rfl,rfl,Nat.zero_le _,by simp [bO],(iT _ _ _ _).symm⟩,fun k z r ⟨hk,hz,hr⟩=>?_⟩
 have hrl:r.length=x.length:=by rw [hr];exact jX _ _ _ _ _ hk
 refine ⟨List.length_map _,fun c0=>?_,fun c0=>?_⟩
 ·replace c0:=yq c0
  obtain ⟨y,hy⟩:=bY (l:=x) (k:=k) (by omega)
  have hry:r[k]? =some y:=by rw [hr,jY _ _ _ _ _ (by omega)];exact hy
  have hs:=cW dV hy
  have hle:=fN dV x (k+1)
  have hA:bO dV (x.take k)≤5*(k+bO bV (x.take k)):=aLt wZ x k hk
  have hB:=cW bV hy
  have hD:=fN bV x (k+1)
  have hF:bV y=ByteArray.size y.name+bZ y.src:=rfl
  have hle5:=qA x
  have hE:dV y=1+bX y.src+1:=rfl
  have hy_src:=iM y.src
  refine ⟨aAY _ (by omega),by omega,List.length_map _,by first | omega | (simp only [List.length_set];omega),rfl,by first | omega | (simp only [List.length_set];omega),fun s4_6 hs4_6=>?_⟩
  obtain rfl:=(aX hry hs4_6).symm
  refine ⟨Nat.le_of_ble_eq_true rfl,rfl,rfl,⟨by first | omega | (dsimp only;omega),by first | omega | (dsimp only;omega)⟩,rfl,by first | omega | (simp only [List.length_set];omega),fun b2407 hb2407=>?_⟩
  obtain rfl:=jK hb2407
  refine ⟨by omega,List.length_map _,by first | omega | (simp only [List.length_set];omega),rfl,wA _ _ (by omega) (by first | omega | (dsimp only;omega)),rfl,rfl,rfl,by first | omega | (simp only [List.length_set];omega),fun a2407 ha2407=>⟨rfl,?_⟩⟩
  obtain rfl:=jK ha2407
  refine ⟨by omega,List.length_map _,by first | omega | (simp only [List.length_set];omega),rfl,by first | omega | (simp only [List.length_set];omega),fun s7_5 hs7_5=>?_⟩
  obtain rfl:=jK hs7_5
  refine ⟨Nat.le_of_ble_eq_true rfl,rfl,rfl,⟨by first | omega | (dsimp only;omega),by first | omega | (dsimp only;omega)⟩,⟨by first | omega | (dsimp only;omega),by first | omega | (dsimp only;omega)⟩,?_⟩
  exact ⟨k+1,_,_,rfl,rfl,rfl,⟨by omega,by rw [hs];(try dsimp only);omega,by subst hz hr;(try simp only [List.set_set]);exact jZ _ _ _ _ _ _ hy⟩,by omega⟩
 ·replace c0:=nq c0
  have hkx:k=x.length:=by omega
  rw [hkx,List.take_length] at hz
  rw [hkx,iU] at hr
  refine ⟨?_,?_,trivial⟩
  ·first | (rw [hz];rfl) | (rw [hr];rfl) | (rw [hz,hS])
  ·first | (rw [hz];rfl) | (rw [hr];rfl) | (rw [hz,hS])
abbrev kP (x:List aG) (m:Int):List AV × List (Nat × Rs) × AV × List (Nat × Rs):=([.own 0,vI m],[(0,.arr 170 4 true (x.map aE))],vI (m+((lK x:Nat):Int)),[(0,.arr 170 4 true ((sX m x).map aE))])
abbrev xA (x:List aG) (m:Int):Prop:=lT Tryz.prog 84 (kP x m).1 (kP x m).2.1 (kP x m).2.2.1 (kP x m).2.2.2
theorem aHM (x:List aG) (m:Int) (h0:0≤m) (hm:m+5*((cT x:Nat):Int)≤4611686018427387904):xA x m:=by
 refine mZ bF aS Tryz.func84 (by kernel_rfl) (by kernel_rfl) (.loop (Nat × Int × (List aG)) (Q3 Nat Int (List aG)) [1,5,6,7,8,9,10,11,12,13,14,15,16,17,18,19,20,21,22,23,24,25,26,27,28,29,30,31,32,33,34,35,36,37,38,39,40,41] [0] (fun yy0=>[(5,vI (yy0.1:Int)),(1,vI yy0.2.1)]) (fun yy0=>[(0,some (.arr 170 4 true (yy0.2.2.map aE)))]) (fun yy0=>yy0.1≤x.length∧yy0.2.1=m+((bO eC (x.take yy0.1):Nat):Int)∧yy0.2.2=cV pN eC m x yy0.1) (fun yy0=>x.length - yy0.1) (fun yy0=> .len yy0.2.2.length<| .br (.call (.p none (.str (aW yy0.2.1))) []<| .len yy0.2.2.length<| .set aG aE yy0.2.2 (fun s4_6=>(⟨aW yy0.2.1,s4_6.column,s4_6.into,s4_6.intoColumn⟩:aG)) (fun s4_6=> .len ((yy0.2.2.set yy0.1 (⟨aW yy0.2.1,s4_6.column,s4_6.into,s4_6.intoColumn⟩:aG)).length)<| .set aG aE (yy0.2.2.set yy0.1 (⟨aW yy0.2.1,s4_6.column,s4_6.into,s4_6.intoColumn⟩:aG)) (fun s6_5=>(⟨s6_5.name,yy0.2.1+(1:Int),s6_5.into,s6_5.intoColumn⟩:aG)) (fun s6_5=> .call (.p none (.str (aW ((yy0.2.1+(1:Int))+(1:Int))))) []<| .len (((yy0.2.2.set yy0.1 (⟨aW yy0.2.1,s4_6.column,s4_6.into,s4_6.intoColumn⟩:aG)).set yy0.1 (⟨s6_5.name,yy0.2.1+(1:Int),s6_5.into,s6_5.intoColumn⟩:aG)).length)<| .set aG aE ((yy0.2.2.set yy0.1 (⟨aW yy0.2.1,s4_6.column,s4_6.into,s4_6.intoColumn⟩:aG)).set yy0.1 (⟨s6_5.name,yy0.2.1+(1:Int),s6_5.into,s6_5.intoColumn⟩:aG)) (fun s8_6=>(⟨s8_6.name,s8_6.column,aW ((yy0.2.1+(1:Int))+(1:Int)),s8_6.intoColumn⟩:aG)) (fun s8_6=> .len ((((yy0.2.2.set yy0.1 (⟨aW yy0.2.1,s4_6.column,s4_6.into,s4_6.intoColumn⟩:aG)).set yy0.1 (⟨s6_5.name,yy0.2.1+(1:Int),s6_5.into,s6_5.intoColumn⟩:aG)).set yy0.1 (⟨s8_6.name,s8_6.column,aW ((yy0.2.1+(1:Int))+(1:Int)),s8_6.intoColumn⟩:aG)).length)<| .set aG aE (((yy0.2.2.set yy0.1 (⟨aW yy0.2.1,s4_6.column,s4_6.into,s4_6.intoColumn⟩:aG)).set yy0.1 (⟨s6_5.name,yy0.2.1+(1:Int),s6_5.into,s6_5.intoColumn⟩:aG)).set yy0.1 (⟨s8_6.name,s8_6.column,aW ((yy0.2.1+(1:Int))+(1:Int)),s8_6.intoColumn⟩:aG)) (fun s10_5=>(⟨s10_5.name,s10_5.column,s10_5.into,((yy0.2.1+(1:Int))+(1:Int))+(1:Int)⟩:aG)) (fun s10_5=> .back [(0,0)]))))) (.fin [(0,0)]))) (p:=(∃(k:Nat) (z:Int) (r:List aG),(0:Int)=(k:Int)∧m=z∧x.map aE=r.map aE∧k≤x.length∧z=m+((bO eC (x.take k):Nat):Int)∧r=cV pN eC m x k)∧ ∀(k:Nat) (z:Int) (r:List aG),(k≤x.length∧z=m+((bO eC (x.take k):Nat):Int)∧r=cV pN eC m x k)→Lm aE r∧(((decide ((k:Int)<((r.length:Nat):Int)))=true→oL z∧(0≤(k:Int)∧Lm aE r∧(k:Int)<((r.length:Nat):Int)∧(r.map aE=r.map aE∧k<r.length∧ ∀s4_6,r[k]? =some s4_6→eK (aE s4_6)=true∧0+1≤(aE s4_6).length∧(aE s4_6).take 0++[.str (aW z)]++(aE s4_6).drop (0+1)=aE (⟨aW z,s4_6.column,s4_6.into,s4_6.intoColumn⟩:aG)∧(cG (z+(1:Int))∧(0≤(k:Int)∧Lm aE (r.set k (⟨aW z,s4_6.column,s4_6.into,s4_6.intoColumn⟩:aG))∧(k:Int)<(((r.set k (⟨aW z,s4_6.column,s4_6.into,s4_6.intoColumn⟩:aG)).length:Nat):Int)∧((r.set k (⟨aW z,s4_6.column,s4_6.into,s4_6.intoColumn⟩:aG)).map aE=(r.set k (⟨aW z,s4_6.column,s4_6.into,s4_6.intoColumn⟩:aG)).map aE∧k<(r.set k (⟨aW z,s4_6.column,s4_6.into,s4_6.intoColumn⟩:aG)).length∧ ∀s6_5,(r.set k (⟨aW z,s4_6.column,s4_6.into,s4_6.intoColumn⟩:aG))[k]? =some s6_5→eK (aE s6_5)=true∧1+1≤(aE s6_5).length∧(aE s6_5).take 1++[.int .i64 (z+(1:Int))]++(aE s6_5).drop (1+1)=aE (⟨s6_5.name,z+(1:Int),s6_5.into,s6_5.intoColumn⟩:aG)∧(cG ((z+(1:Int))+(1:Int))∧(oL ((z+(1:Int))+(1:Int))∧(0≤(k:Int)∧Lm aE ((r.set k (⟨aW z,s4_6.column,s4_6.into,s4_6.intoColumn⟩:aG)).set k (⟨s6_5.name,z+(1:Int),s6_5.into,s6_5.intoColumn⟩:aG))∧(k:Int)<((((r.set k (⟨aW z,s4_6.column,s4_6.into,s4_6.intoColumn⟩:aG)).set k (⟨s6_5.name,z+(1:Int),s6_5.into,s6_5.intoColumn⟩:aG)).length:Nat):Int)∧(((r.set k (⟨aW z,s4_6.column,s4_6.into,s4_6.intoColumn⟩:aG)).set k (⟨s6_5.name,z+(1:Int),s6_5.into,s6_5.intoColumn⟩:aG)).map aE=((r.set k (⟨aW z,s4_6.column,s4_6.into,s4_6.intoColumn⟩:aG)).set k (⟨s6_5.name,z+(1:Int),s6_5.into,s6_5.intoColumn⟩:aG)).map aE∧k<((r.set k (⟨aW z,s4_6.column,s4_6.into,s4_6.intoColumn⟩:aG)).set k (⟨s6_5.name,z+(1:Int),s6_5.into,s6_5.intoColumn⟩:aG)).length∧ ∀s8_6,((r.set k (⟨aW z,s4_6.column,s4_6.into,s4_6.intoColumn⟩:aG)).set k (⟨s6_5.name,z+(1:Int),s6_5.into,s6_5.intoColumn⟩:aG))[k]? =some s8_6→eK (aE s8_6)=true∧2+1≤(aE s8_6).length∧(aE s8_6).take 2++[.str (aW ((z+(1:Int))+(1:Int)))]++(aE s8_6).drop (2+1)=aE (⟨s8_6.name,s8_6.column,aW ((z+(1:Int))+(1:Int)),s8_6.intoColumn⟩:aG)∧(cG (((z+(1:Int))+(1:Int))+(1:Int))∧(0≤(k:Int)∧Lm aE (((r.set k (⟨aW z,s4_6.column,s4_6.into,s4_6.intoColumn⟩:aG)).set k (⟨s6_5.name,z+(1:Int),s6_5.into,s6_5.intoColumn⟩:aG)).set k (⟨s8_6.name,s8_6.column,aW ((z+(1:Int))+(1:Int)),s8_6.intoColumn⟩:aG))∧(k:Int)<(((((r.set k (⟨aW z,s4_6.column,s4_6.into,s4_6.intoColumn⟩:aG)).set k (⟨s6_5.name,z+(1:Int),s6_5.into,s6_5.intoColumn⟩:aG)).set k (⟨s8_6.name,s8_6.column,aW ((z+(1:Int))+(1:Int)),s8_6.intoColumn⟩:aG)).length:Nat):Int)∧((((r.set k (⟨aW z,s4_6.column,s4_6.into,s4_6.intoColumn⟩:aG)).set k (⟨s6_5.name,z+(1:Int),s6_5.into,s6_5.intoColumn⟩:aG)).set k (⟨s8_6.name,s8_6.column,aW ((z+(1:Int))+(1:Int)),s8_6.intoColumn⟩:aG)).map aE=(((r.set k (⟨aW z,s4_6.column,s4_6.into,s4_6.intoColumn⟩:aG)).set k (⟨s6_5.name,z+(1:Int),s6_5.into,s6_5.intoColumn⟩:aG)).set k (⟨s8_6.name,s8_6.column,aW ((z+(1:Int))+(1:Int)),s8_6.intoColumn⟩:aG)).map aE∧k<(((r.set k (⟨aW z,s4_6.column,s4_6.into,s4_6.intoColumn⟩:aG)).set k (⟨s6_5.name,z+(1:Int),s6_5.into,s6_5.intoColumn⟩:aG)).set k (⟨s8_6.name,s8_6.column,aW ((z+(1:Int))+(1:Int)),s8_6.intoColumn⟩:aG)).length∧ ∀s10_5,(((r.set k (⟨aW z,s4_6.column,s4_6.into,s4_6.intoColumn⟩:aG)).set k (⟨s6_5.name,z+(1:Int),s6_5.into,s6_5.intoColumn⟩:aG)).set k (⟨s8_6.name,s8_6.column,aW ((z+(1:Int))+(1:Int)),s8_6.intoColumn⟩:aG))[k]? =some s10_5→eK (aE s10_5)=true∧3+1≤(aE s10_5).length∧(aE s10_5).take 3++[.int .i64 (((z+(1:Int))+(1:Int))+(1:Int))]++(aE s10_5).drop (3+1)=aE (⟨s10_5.name,s10_5.column,s10_5.into,((z+(1:Int))+(1:Int))+(1:Int)⟩:aG)∧cG ((((z+(1:Int))+(1:Int))+(1:Int))+(1:Int))∧cG ((k:Int)+(1:Int))∧ ∃(k' :Nat) (z' :Int) (r' :List aG),((k:Int)+(1:Int))=(k' :Int)∧((((z+(1:Int))+(1:Int))+(1:Int))+(1:Int))=z' ∧((((r.set k (⟨aW z,s4_6.column,s4_6.into,s4_6.intoColumn⟩:aG)).set k (⟨s6_5.name,z+(1:Int),s6_5.into,s6_5.intoColumn⟩:aG)).set k (⟨s8_6.name,s8_6.column,aW ((z+(1:Int))+(1:Int)),s8_6.intoColumn⟩:aG)).set k (⟨s10_5.name,s10_5.column,s10_5.into,((z+(1:Int))+(1:Int))+(1:Int)⟩:aG)).map aE=r'.map aE∧(k' ≤x.length∧z' =m+((bO eC (x.take k'):Nat):Int)∧r' =cV pN eC m x k')∧x.length - k' <x.length - k)))))))))))))∧((decide ((k:Int)<((r.length:Nat):Int)))=false→z=(m+((lK x:Nat):Int))∧r.map aE=(sX m x).map aE∧True))) (by kernel_rfl) ?_
 have hS:lK x=bO eC x:=rfl
 have hC:cT x=x.length+bO cF x:=rfl
 refine ⟨⟨0,m,x,rfl,rfl,rfl,Nat.zero_le _,by simp [bO],(iT _ _ _ _).symm⟩,fun k z r ⟨hk,hz,hr⟩=>?_⟩
 have hrl:r.length=x.length:=by rw [hr];exact jX _ _ _ _ _ hk
 refine ⟨List.length_map _,fun c0=>?_,fun c0=>?_⟩
 ·replace c0:=yq c0
  obtain ⟨y,hy⟩:=bY (l:=x) (k:=k) (by omega)
  have hry:r[k]? =some y:=by rw [hr,jY _ _ _ _ _ (by omega)];exact hy
  have hs:=cW eC hy
  have hle:=fN eC x (k+1)
  have hA:bO eC (x.take k)≤5*(k+bO cF (x.take k)):=aLt zT x k hk
  have hB:=cW cF hy
  have hD:=fN cF x (k+1)
  have hF:cF y=ByteArray.size y.name+ByteArray.size y.into:=rfl
  have hle5:=sA x
  have hE:eC y=1+1+1+1:=rfl
  refine ⟨aAY _ (by omega),by omega,List.length_map _,by first | omega | (simp only [List.length_set];omega),rfl,by first | omega | (simp only [List.length_set];omega),fun s4_6 hs4_6=>⟨rfl,Nat.le_of_ble_eq_true rfl,rfl,?_⟩⟩
  obtain rfl:=(aX hry hs4_6).symm
  refine ⟨⟨by first | omega | (dsimp only;omega),by first | omega | (dsimp only;omega)⟩,by omega,List.length_map _,by first | omega | (simp only [List.length_set];omega),rfl,by first | omega | (simp only [List.length_set];omega),fun s6_5 hs6_5=>⟨rfl,Nat.le_of_ble_eq_true rfl,rfl,?_⟩⟩
  obtain rfl:=jK hs6_5
  refine ⟨⟨by first | omega | (dsimp only;omega),by first | omega | (dsimp only;omega)⟩,aAY _ (by omega),by omega,List.length_map _,by first | omega | (simp only [List.length_set];omega),rfl,by first | omega | (simp only [List.length_set];omega),fun s8_6 hs8_6=>⟨rfl,Nat.le_of_ble_eq_true rfl,rfl,?_⟩⟩
  obtain rfl:=jK hs8_6
  refine ⟨⟨by first | omega | (dsimp only;omega),by first | omega | (dsimp only;omega)⟩,by omega,List.length_map _,by first | omega | (simp only [List.length_set];omega),rfl,by first | omega | (simp only [List.length_set];omega),fun s10_5 hs10_5=>⟨rfl,Nat.le_of_ble_eq_true rfl,rfl,?_⟩⟩
  obtain rfl:=jK hs10_5
  refine ⟨⟨by first | omega | (dsimp only;omega),by first | omega | (dsimp only;omega)⟩,⟨by first | omega | (dsimp only;omega),by first | omega | (dsimp only;omega)⟩,?_⟩
  exact ⟨k+1,_,_,rfl,rfl,rfl,⟨by omega,by rw [hs];(try dsimp only);omega,by subst hz hr;(try simp only [List.set_set]);exact jZ _ _ _ _ _ _ hy⟩,by omega⟩
 ·replace c0:=nq c0
  have hkx:k=x.length:=by omega
  rw [hkx,List.take_length] at hz
  rw [hkx,iU] at hr
  refine ⟨?_,?_,trivial⟩
  ·first | (rw [hz];rfl) | (rw [hr];rfl) | (rw [hz,hS])
  ·first | (rw [hz];rfl) | (rw [hr];rfl) | (rw [hz,hS])
abbrev oN (x:StoreD) (m:Int):List AV × List (Nat × Rs) × AV × List (Nat × Rs):=([.agg [.own 0,vI x.catalogue.version,.own 1,.own 2,.own 3],vI m],[(0,.arr 162 3 true (x.database.tables.map aL)),(1,.arr 121 4 true (x.catalogue.tables.map aA)),(2,.arr 168 3 true (x.dependencies.map aD)),(3,.arr 170 4 true (x.inclusions.map aE))],vI (m+((kJ x:Nat):Int)),[(0,.arr 162 3 true ((((sY m x).database).tables).map aL)),(1,.arr 121 4 true ((((sY m x).catalogue).tables).map aA)),(2,.arr 168 3 true (((sY m x).dependencies).map aD)),(3,.arr 170 4 true (((sY m x).inclusions).map aE))])
abbrev aBW (x:StoreD) (m:Int):Prop:=lT Tryz.prog 21 (oN x m).1 (oN x m).2.1 (oN x m).2.2.1 (oN x m).2.2.2
theorem aKo (x:StoreD) (m:Int) (h0:0≤m) (hm:m+5*((cJ x:Nat):Int)≤4611686018427387904):aBW x m:=by
 refine mZ bF aS Tryz.func21 (by kernel_rfl) (by kernel_rfl) (jE (lZ x.database m) [(0,0)]<| jE (lL x.catalogue (m+((dC x.database:Nat):Int))) [(0,1)]<| jE (jU x.dependencies ((m+((dC x.database:Nat):Int))+((dQ x.catalogue:Nat):Int))) [(0,2)]<| jE (kP x.inclusions (((m+((dC x.database:Nat):Int))+((dQ x.catalogue:Nat):Int))+((eW x.dependencies:Nat):Int))) [(0,3)]<| .fin [(0,0),(1,1),(2,2),(3,3)]) (p:=aAf x.database m∧m=m∧x.database.tables.map aL=x.database.tables.map aL∧zU x.catalogue (m+((dC x.database:Nat):Int))∧x.catalogue.version=x.catalogue.version∧(m+((dC x.database:Nat):Int))=(m+((dC x.database:Nat):Int))∧x.catalogue.tables.map aA=x.catalogue.tables.map aA∧uN x.dependencies ((m+((dC x.database:Nat):Int))+((dQ x.catalogue:Nat):Int))∧((m+((dC x.database:Nat):Int))+((dQ x.catalogue:Nat):Int))=((m+((dC x.database:Nat):Int))+((dQ x.catalogue:Nat):Int))∧x.dependencies.map aD=x.dependencies.map aD∧xA x.inclusions (((m+((dC x.database:Nat):Int))+((dQ x.catalogue:Nat):Int))+((eW x.dependencies:Nat):Int))∧(((m+((dC x.database:Nat):Int))+((dQ x.catalogue:Nat):Int))+((eW x.dependencies:Nat):Int))=(((m+((dC x.database:Nat):Int))+((dQ x.catalogue:Nat):Int))+((eW x.dependencies:Nat):Int))∧x.inclusions.map aE=x.inclusions.map aE∧((((m+((dC x.database:Nat):Int))+((dQ x.catalogue:Nat):Int))+((eW x.dependencies:Nat):Int))+((lK x.inclusions:Nat):Int))=(m+((kJ x:Nat):Int))∧((vZ m x.database).tables).map aL=(((sY m x).database).tables).map aL∧((sW (m+((dC x.database:Nat):Int)) x.catalogue).tables).map aA=(((sY m x).catalogue).tables).map aA∧(qO ((m+((dC x.database:Nat):Int))+((dQ x.catalogue:Nat):Int)) x.dependencies).map aD=((sY m x).dependencies).map aD∧(sX (((m+((dC x.database:Nat):Int))+((dQ x.catalogue:Nat):Int))+((eW x.dependencies:Nat):Int)) x.inclusions).map aE=((sY m x).inclusions).map aE∧True) (by kernel_rfl) ?_
 have hS:kJ x=dC x.database+dQ x.catalogue+eW x.dependencies+lK x.inclusions:=rfl
 have hC:cJ x=bD x.database+bL x.catalogue+bU x.dependencies+cT x.inclusions:=rfl
 have:=aAe x.database
 have:=zS x.catalogue
 have:=qA x.dependencies
 have:=sA x.inclusions
 refine ⟨aKn _ _ (by omega) (by first | omega | (dsimp only;omega)),rfl,rfl,aJL _ _ (by omega) (by first | omega | (dsimp only;omega)),rfl,rfl,rfl,aGc _ _ (by omega) (by first | omega | (dsimp only;omega)),rfl,rfl,aHM _ _ (by omega) (by first | omega | (dsimp only;omega)),rfl,rfl,?_,?_,?_,?_,?_,trivial⟩
 ·first | rfl | (rw [hS];omega)
 ·first | rfl | (rw [hS];omega)
 ·first | rfl | (rw [hS];omega)
 ·first | rfl | (rw [hS];omega)
 ·first | rfl | (rw [hS];omega)
end Go.Proofs.YtokkjaflmcjlhaaGreat
