/-
  Contracts and plain laws, joined: part 19.
-/
import Derived.Test.YtdfebigfnjfgpaaGreatQP17
namespace Go.Proofs.YtdfebigfnjfgpaaGreat
open Go.ChangeShapes Go.WideShapes Go.ChangeAt Go.RowKit
set_option linter.unusedVariables false
set_option linter.unusedSimpArgs false
set_option maxRecDepth 100000
set_option maxHeartbeats 4000000
abbrev lM (x:List Int) (m:Int):List AV × List (Nat × Rs) × AV × List (Nat × Rs):=([.own 0,vI m],[(0,.arr 3 1 true (x.map intD))],vI (m+((cT x:Nat):Int)),[(0,.arr 3 1 true ((dF m x).map intD))])
abbrev pL (x:List Int) (m:Int):Prop:=nA Tryz.prog 20 (lM x m).1 (lM x m).2.1 (lM x m).2.2.1 (lM x m).2.2.2
theorem aBA (x:List Int) (m:Int) (h0:0≤m) (hm:m+5*((bS x:Nat):Int)≤4611686018427387904):pL x m:=by
 refine oA bG aR Tryz.func20 (by kernel_rfl) (by kernel_rfl) (.loop (Nat × Int × (List Int)) (Q3 Nat Int (List Int)) [1,5,6,7,8,9,10,11,12,13,14,15,16,17] [0] (fun yy0=>[(5,vI (yy0.1:Int)),(1,vI yy0.2.1)]) (fun yy0=>[(0,some (.arr 3 1 true (yy0.2.2.map intD)))]) (fun yy0=>yy0.1≤x.length∧yy0.2.1=m+((bR pJ (x.take yy0.1):Nat):Int)∧yy0.2.2=dC aNZ pJ m x yy0.1) (fun yy0=>x.length - yy0.1) (fun yy0=> .len yy0.2.2.length<| .br (.len yy0.2.2.length<| .set Int intD yy0.2.2 (fun s4_4=>yy0.2.1) (fun s4_4=> .back [(0,0)])) (.fin [(0,0)]))) (p:=(∃(k:Nat) (z:Int) (r:List Int),(0:Int)=(k:Int)∧m=z∧x.map intD=r.map intD∧k≤x.length∧z=m+((bR pJ (x.take k):Nat):Int)∧r=dC aNZ pJ m x k)∧ ∀(k:Nat) (z:Int) (r:List Int),(k≤x.length∧z=m+((bR pJ (x.take k):Nat):Int)∧r=dC aNZ pJ m x k)→Lm intD r∧(((decide ((k:Int)<((r.length:Nat):Int)))=true→0≤(k:Int)∧Lm intD r∧(k:Int)<((r.length:Nat):Int)∧(r.map intD=r.map intD∧k<r.length∧ ∀s4_4,r[k]? =some s4_4→dT (intD s4_4)=true∧0+1≤(intD s4_4).length∧(intD s4_4).take 0++[.int .i64 z]++(intD s4_4).drop (0+1)=intD z∧cC (z+(1:Int))∧cC ((k:Int)+(1:Int))∧ ∃(k' :Nat) (z' :Int) (r' :List Int),((k:Int)+(1:Int))=(k' :Int)∧(z+(1:Int))=z' ∧(r.set k z).map intD=r'.map intD∧(k' ≤x.length∧z' =m+((bR pJ (x.take k'):Nat):Int)∧r' =dC aNZ pJ m x k')∧x.length - k' <x.length - k))∧((decide ((k:Int)<((r.length:Nat):Int)))=false→z=(m+((cT x:Nat):Int))∧r.map intD=(dF m x).map intD∧True))) (by kernel_rfl) ?_
 have hS:cT x=bR pJ x:=rfl
 have hC:bS x=x.length:=rfl
 refine ⟨⟨0,m,x,rfl,rfl,rfl,Nat.zero_le _,by simp [bR],(iO _ _ _ _).symm⟩,fun k z r ⟨hk,hz,hr⟩=>?_⟩
 have hrl:r.length=x.length:=by rw [hr];exact jM _ _ _ _ _ hk
 refine ⟨List.length_map _,fun c0=>?_,fun c0=>?_⟩
 ·replace c0:=yq c0
  obtain ⟨y,hy⟩:=cK (l:=x) (k:=k) (by omega)
  have hry:r[k]? =some y:=by rw [hr,jN _ _ _ _ _ (by omega)];exact hy
  have hs:=dJ pJ hy
  have hle:=gD pJ x (k+1)
  have hA:bR pJ (x.take k)≤5*k:=aUx (fun _=>by simp [pJ]) x k hk
  have hle5:=jU x
  have hE:pJ y=1:=rfl
  refine ⟨by omega,List.length_map _,by first | omega | (simp only [List.length_set];omega),rfl,by first | omega | (simp only [List.length_set];omega),fun s4_4 hs4_4=>⟨rfl,Nat.le_of_ble_eq_true rfl,rfl,?_⟩⟩
  obtain rfl:=(aY hry hs4_4).symm
  refine ⟨⟨by first | omega | (dsimp only;omega),by first | omega | (dsimp only;omega)⟩,⟨by first | omega | (dsimp only;omega),by first | omega | (dsimp only;omega)⟩,?_⟩
  exact ⟨k+1,_,_,rfl,rfl,rfl,⟨by omega,by rw [hs];(try dsimp only);omega,by subst hz hr;(try simp only [List.set_set]);exact jO _ _ _ _ _ _ hy⟩,by omega⟩
 ·replace c0:=nq c0
  have hkx:k=x.length:=by omega
  rw [hkx,List.take_length] at hz
  rw [hkx,iP] at hr
  refine ⟨?_,?_,trivial⟩
  ·first | (rw [hz];rfl) | (rw [hr];rfl) | (rw [hz,hS])
  ·first | (rw [hz];rfl) | (rw [hr];rfl) | (rw [hz,hS])
abbrev pM (x:List (List Int)) (m:Int):List AV × List (Nat × Rs) × AV × List (Nat × Rs):=([.own 0,vI m],[(0,.arr 39 1 true (x.map aC))],vI (m+((kY x:Nat):Int)),[(0,.arr 39 1 true ((iI m x).map aC))])
abbrev aCE (x:List (List Int)) (m:Int):Prop:=nA Tryz.prog 124 (pM x m).1 (pM x m).2.1 (pM x m).2.2.1 (pM x m).2.2.2
theorem aMR (x:List (List Int)) (m:Int) (h0:0≤m) (hm:m+5*((cM x:Nat):Int)≤4611686018427387904):aCE x m:=by
 refine oA bG aR Tryz.func124 (by kernel_rfl) (by kernel_rfl) (.loop (Nat × Int × (List (List Int))) (Q3 Nat Int (List (List Int))) [1,5,6,7,8,9,10,11,12,13,14,15,16,17] [0,1507] (fun yy0=>[(5,vI (yy0.1:Int)),(1,vI yy0.2.1)]) (fun yy0=>[(0,some (.arr 39 1 true (yy0.2.2.map aC)))]) (fun yy0=>yy0.1≤x.length∧yy0.2.1=m+((bR cT (x.take yy0.1):Nat):Int)∧yy0.2.2=dC dF cT m x yy0.1) (fun yy0=>x.length - yy0.1) (fun yy0=> .len yy0.2.2.length<| .br (.split 4 0 yy0.1 0 1507 (List Int) aC yy0.2.2 (fun b1507=> .len yy0.2.2.length<| kA (lM b1507 yy0.2.1) [(0,1507)]<| .join 3 0 1507 (List Int) aC yy0.2.2 (fun a1507=>dF yy0.2.1 b1507) (fun a1507=> .back [(0,0)]))) (.fin [(0,0)]))) (p:=(∃(k:Nat) (z:Int) (r:List (List Int)),(0:Int)=(k:Int)∧m=z∧x.map aC=r.map aC∧k≤x.length∧z=m+((bR cT (x.take k):Nat):Int)∧r=dC dF cT m x k)∧ ∀(k:Nat) (z:Int) (r:List (List Int)),(k≤x.length∧z=m+((bR cT (x.take k):Nat):Int)∧r=dC dF cT m x k)→Lm aC r∧(((decide ((k:Int)<((r.length:Nat):Int)))=true→r.map aC=r.map aC∧k<r.length∧ ∀b1507,r[k]? =some b1507→0≤(k:Int)∧Lm aC r∧(k:Int)<((r.length:Nat):Int)∧(k=k∧(pL b1507 z∧z=z∧b1507.map intD=b1507.map intD∧(r.map aC=r.map aC∧k<r.length∧ ∀a1507,r[k]? =some a1507→((aC a1507).take 0++ .sl 3 1 ((dF z b1507).map intD)::(aC a1507).drop (0+1)=aC (dF z b1507))∧cC ((k:Int)+(1:Int))∧ ∃(k' :Nat) (z' :Int) (r' :List (List Int)),((k:Int)+(1:Int))=(k' :Int)∧(z+((cT b1507:Nat):Int))=z' ∧(r.set k (dF z b1507)).map aC=r'.map aC∧(k' ≤x.length∧z' =m+((bR cT (x.take k'):Nat):Int)∧r' =dC dF cT m x k')∧x.length - k' <x.length - k))))∧((decide ((k:Int)<((r.length:Nat):Int)))=false→z=(m+((kY x:Nat):Int))∧r.map aC=(iI m x).map aC∧True))) (by kernel_rfl) ?_
 have hS:kY x=bR cT x:=rfl
 have hC:cM x=x.length+bR bS x:=rfl
 refine ⟨⟨0,m,x,rfl,rfl,rfl,Nat.zero_le _,by simp [bR],(iO _ _ _ _).symm⟩,fun k z r ⟨hk,hz,hr⟩=>?_⟩
 have hrl:r.length=x.length:=by rw [hr];exact jM _ _ _ _ _ hk
 refine ⟨List.length_map _,fun c0=>?_,fun c0=>?_⟩
 ·replace c0:=yq c0
  obtain ⟨y,hy⟩:=cK (l:=x) (k:=k) (by omega)
  have hry:r[k]? =some y:=by rw [hr,jN _ _ _ _ _ (by omega)];exact hy
  have hs:=dJ cT hy
  have hle:=gD cT x (k+1)
  have hA:bR cT (x.take k)≤5*(k+bR bS (x.take k)):=aN0 (s:=cT) (c:=bS) (fun y=>by have:=jU y;omega) x k hk
  have hB:=dJ bS hy
  have hD:=gD bS x (k+1)
  have hle5:=vM x
  have hy5:=jU y
  refine ⟨rfl,by first | omega | (simp only [List.length_set];omega),fun b1507 hb1507=>?_⟩
  obtain rfl:=(aY hry hb1507).symm
  refine ⟨by omega,List.length_map _,by first | omega | (simp only [List.length_set];omega),rfl,aBA _ _ (by omega) (by first | omega | (dsimp only;omega)),rfl,rfl,rfl,by first | omega | (simp only [List.length_set];omega),fun a1507 ha1507=>⟨rfl,?_⟩⟩
  obtain rfl:=(aY hry ha1507).symm
  refine ⟨⟨by first | omega | (dsimp only;omega),by first | omega | (dsimp only;omega)⟩,?_⟩
  exact ⟨k+1,_,_,rfl,rfl,rfl,⟨by omega,by rw [hs,hz];unfold cT;omega,by subst hz hr;(try simp only [List.set_set]);exact jO _ _ _ _ _ _ hy⟩,by omega⟩
 ·replace c0:=nq c0
  have hkx:k=x.length:=by omega
  rw [hkx,List.take_length] at hz
  rw [hkx,iP] at hr
  refine ⟨?_,?_,trivial⟩
  ·first | (rw [hz];rfl) | (rw [hr];rfl) | (rw [hz,hS])
  ·first | (rw [hz];rfl) | (rw [hr];rfl) | (rw [hz,hS])
abbrev qU (x:List aS) (m:Int):List AV × List (Nat × Rs) × AV × List (Nat × Rs):=([.own 0,vI m],[(0,.arr 167 3 true (x.map aP))],vI (m+((wY x:Nat):Int)),[(0,.arr 167 3 true ((aFc m x).map aP))])
abbrev aEu (x:List aS) (m:Int):Prop:=nA Tryz.prog 88 (qU x m).1 (qU x m).2.1 (qU x m).2.2.1 (qU x m).2.2.2
theorem aPq (x:List aS) (m:Int) (h0:0≤m) (hm:m+5*((iQ x:Nat):Int)≤4611686018427387904):aEu x m:=by
 refine oA bG aR Tryz.func88 (by kernel_rfl) (by kernel_rfl) (.loop (Nat × Int × (List aS)) (Q3 Nat Int (List aS)) [1,5,6,7,8,9,10,11,12,13,14,15,16,17,18,19,20,21,22,23,24,25,26,27,28,29,30,31,32,33] [0,3107] (fun yy0=>[(5,vI (yy0.1:Int)),(1,vI yy0.2.1)]) (fun yy0=>[(0,some (.arr 167 3 true (yy0.2.2.map aP)))]) (fun yy0=>yy0.1≤x.length∧yy0.2.1=m+((bR jV (x.take yy0.1):Nat):Int)∧yy0.2.2=dC aDN jV m x yy0.1) (fun yy0=>x.length - yy0.1) (fun yy0=> .len yy0.2.2.length<| .br (.call (.p none (.str (bB yy0.2.1))) []<| .len yy0.2.2.length<| .setm aS aP yy0.2.2 (fun s4_6=>(⟨bB yy0.2.1,s4_6.arity,s4_6.rows⟩:aS)) (fun s4_6=> .len ((yy0.2.2.set yy0.1 (⟨bB yy0.2.1,s4_6.arity,s4_6.rows⟩:aS)).length)<| .setm aS aP (yy0.2.2.set yy0.1 (⟨bB yy0.2.1,s4_6.arity,s4_6.rows⟩:aS)) (fun s6_5=>(⟨s6_5.name,yy0.2.1+(1:Int),s6_5.rows⟩:aS)) (fun s6_5=> .split 8 0 yy0.1 2 3107 aS aP ((yy0.2.2.set yy0.1 (⟨bB yy0.2.1,s4_6.arity,s4_6.rows⟩:aS)).set yy0.1 (⟨s6_5.name,yy0.2.1+(1:Int),s6_5.rows⟩:aS)) (fun b3107=> .len (((yy0.2.2.set yy0.1 (⟨bB yy0.2.1,s4_6.arity,s4_6.rows⟩:aS)).set yy0.1 (⟨s6_5.name,yy0.2.1+(1:Int),s6_5.rows⟩:aS)).length)<| kA (pM b3107.rows ((yy0.2.1+(1:Int))+(1:Int))) [(0,3107)]<| .join 3 0 3107 aS aP ((yy0.2.2.set yy0.1 (⟨bB yy0.2.1,s4_6.arity,s4_6.rows⟩:aS)).set yy0.1 (⟨s6_5.name,yy0.2.1+(1:Int),s6_5.rows⟩:aS)) (fun a3107=>(⟨a3107.name,a3107.arity,iI ((yy0.2.1+(1:Int))+(1:Int)) b3107.rows⟩:aS)) (fun a3107=> .back [(0,0)]))))) (.fin [(0,0)]))) (p:=(∃(k:Nat) (z:Int) (r:List aS),(0:Int)=(k:Int)∧m=z∧x.map aP=r.map aP∧k≤x.length∧z=m+((bR jV (x.take k):Nat):Int)∧r=dC aDN jV m x k)∧ ∀(k:Nat) (z:Int) (r:List aS),(k≤x.length∧z=m+((bR jV (x.take k):Nat):Int)∧r=dC aDN jV m x k)→Lm aP r∧(((decide ((k:Int)<((r.length:Nat):Int)))=true→pK z∧(0≤(k:Int)∧Lm aP r∧(k:Int)<((r.length:Nat):Int)∧(r.map aP=r.map aP∧k<r.length∧ ∀s4_6,r[k]? =some s4_6→0+1≤(aP s4_6).length∧(aP s4_6).take 0++((aP (⟨bB z,s4_6.arity,s4_6.rows⟩:aS)).drop 0).take 1++(aP s4_6).drop (0+1)=aP (⟨bB z,s4_6.arity,s4_6.rows⟩:aS)∧(bB z)=((⟨bB z,s4_6.arity,s4_6.rows⟩:aS).name)∧(cC (z+(1:Int))∧(0≤(k:Int)∧Lm aP (r.set k (⟨bB z,s4_6.arity,s4_6.rows⟩:aS))∧(k:Int)<(((r.set k (⟨bB z,s4_6.arity,s4_6.rows⟩:aS)).length:Nat):Int)∧((r.set k (⟨bB z,s4_6.arity,s4_6.rows⟩:aS)).map aP=(r.set k (⟨bB z,s4_6.arity,s4_6.rows⟩:aS)).map aP∧k<(r.set k (⟨bB z,s4_6.arity,s4_6.rows⟩:aS)).length∧ ∀s6_5,(r.set k (⟨bB z,s4_6.arity,s4_6.rows⟩:aS))[k]? =some s6_5→1+1≤(aP s6_5).length∧(aP s6_5).take 1++((aP (⟨s6_5.name,z+(1:Int),s6_5.rows⟩:aS)).drop 1).take 1++(aP s6_5).drop (1+1)=aP (⟨s6_5.name,z+(1:Int),s6_5.rows⟩:aS)∧(z+(1:Int))=((⟨s6_5.name,z+(1:Int),s6_5.rows⟩:aS).arity)∧(cC ((z+(1:Int))+(1:Int))∧(((r.set k (⟨bB z,s4_6.arity,s4_6.rows⟩:aS)).set k (⟨s6_5.name,z+(1:Int),s6_5.rows⟩:aS)).map aP=((r.set k (⟨bB z,s4_6.arity,s4_6.rows⟩:aS)).set k (⟨s6_5.name,z+(1:Int),s6_5.rows⟩:aS)).map aP∧k<((r.set k (⟨bB z,s4_6.arity,s4_6.rows⟩:aS)).set k (⟨s6_5.name,z+(1:Int),s6_5.rows⟩:aS)).length∧ ∀b3107,((r.set k (⟨bB z,s4_6.arity,s4_6.rows⟩:aS)).set k (⟨s6_5.name,z+(1:Int),s6_5.rows⟩:aS))[k]? =some b3107→0≤(k:Int)∧Lm aP ((r.set k (⟨bB z,s4_6.arity,s4_6.rows⟩:aS)).set k (⟨s6_5.name,z+(1:Int),s6_5.rows⟩:aS))∧(k:Int)<((((r.set k (⟨bB z,s4_6.arity,s4_6.rows⟩:aS)).set k (⟨s6_5.name,z+(1:Int),s6_5.rows⟩:aS)).length:Nat):Int)∧(k=k∧(aCE b3107.rows ((z+(1:Int))+(1:Int))∧((z+(1:Int))+(1:Int))=((z+(1:Int))+(1:Int))∧b3107.rows.map aC=b3107.rows.map aC∧(((r.set k (⟨bB z,s4_6.arity,s4_6.rows⟩:aS)).set k (⟨s6_5.name,z+(1:Int),s6_5.rows⟩:aS)).map aP=((r.set k (⟨bB z,s4_6.arity,s4_6.rows⟩:aS)).set k (⟨s6_5.name,z+(1:Int),s6_5.rows⟩:aS)).map aP∧k<((r.set k (⟨bB z,s4_6.arity,s4_6.rows⟩:aS)).set k (⟨s6_5.name,z+(1:Int),s6_5.rows⟩:aS)).length∧ ∀a3107,((r.set k (⟨bB z,s4_6.arity,s4_6.rows⟩:aS)).set k (⟨s6_5.name,z+(1:Int),s6_5.rows⟩:aS))[k]? =some a3107→((aP a3107).take 2++ .sl 39 1 ((iI ((z+(1:Int))+(1:Int)) b3107.rows).map aC)::(aP a3107).drop (2+1)=aP (⟨a3107.name,a3107.arity,iI ((z+(1:Int))+(1:Int)) b3107.rows⟩:aS))∧cC ((k:Int)+(1:Int))∧ ∃(k' :Nat) (z' :Int) (r' :List aS),((k:Int)+(1:Int))=(k' :Int)∧(((z+(1:Int))+(1:Int))+((kY b3107.rows:Nat):Int))=z' ∧(((r.set k (⟨bB z,s4_6.arity,s4_6.rows⟩:aS)).set k (⟨s6_5.name,z+(1:Int),s6_5.rows⟩:aS)).set k (⟨a3107.name,a3107.arity,iI ((z+(1:Int))+(1:Int)) b3107.rows⟩:aS)).map aP=r'.map aP∧(k' ≤x.length∧z' =m+((bR jV (x.take k'):Nat):Int)∧r' =dC aDN jV m x k')∧x.length - k' <x.length - k)))))))))))∧((decide ((k:Int)<((r.length:Nat):Int)))=false→z=(m+((wY x:Nat):Int))∧r.map aP=(aFc m x).map aP∧True))) (by kernel_rfl) ?_
 have hS:wY x=bR jV x:=rfl
 have hC:iQ x=x.length+bR fE x:=rfl
 refine ⟨⟨0,m,x,rfl,rfl,rfl,Nat.zero_le _,by simp [bR],(iO _ _ _ _).symm⟩,fun k z r ⟨hk,hz,hr⟩=>?_⟩
 have hrl:r.length=x.length:=by rw [hr];exact jM _ _ _ _ _ hk
 refine ⟨List.length_map _,fun c0=>?_,fun c0=>?_⟩
 ·replace c0:=yq c0
  obtain ⟨y,hy⟩:=cK (l:=x) (k:=k) (by omega)
  have hry:r[k]? =some y:=by rw [hr,jN _ _ _ _ _ (by omega)];exact hy
  have hs:=dJ jV hy
  have hle:=gD jV x (k+1)
  have hA:bR jV (x.take k)≤5*(k+bR fE (x.take k)):=aN0 aH9 x k hk
  have hB:=dJ fE hy
  have hD:=gD fE x (k+1)
  have hF:fE y=ByteArray.size y.name+cM y.rows:=rfl
  have hle5:=aCC x
  have hE:jV y=1+1+kY y.rows:=rfl
  have hy_rows:=vM y.rows
  refine ⟨aAz _ (by omega),by omega,List.length_map _,by first | omega | (simp only [List.length_set];omega),rfl,by first | omega | (simp only [List.length_set];omega),fun s4_6 hs4_6=>?_⟩
  obtain rfl:=(aY hry hs4_6).symm
  refine ⟨Nat.le_of_ble_eq_true rfl,rfl,rfl,⟨by first | omega | (dsimp only;omega),by first | omega | (dsimp only;omega)⟩,by omega,List.length_map _,by first | omega | (simp only [List.length_set];omega),rfl,by first | omega | (simp only [List.length_set];omega),fun s6_5 hs6_5=>?_⟩
  obtain rfl:=kC hs6_5
  refine ⟨Nat.le_of_ble_eq_true rfl,rfl,rfl,⟨by first | omega | (dsimp only;omega),by first | omega | (dsimp only;omega)⟩,rfl,by first | omega | (simp only [List.length_set];omega),fun b3107 hb3107=>?_⟩
  obtain rfl:=kC hb3107
  refine ⟨by omega,List.length_map _,by first | omega | (simp only [List.length_set];omega),rfl,aMR _ _ (by omega) (by first | omega | (dsimp only;omega)),rfl,rfl,rfl,by first | omega | (simp only [List.length_set];omega),fun a3107 ha3107=>⟨rfl,?_⟩⟩
  obtain rfl:=kC ha3107
  refine ⟨⟨by first | omega | (dsimp only;omega),by first | omega | (dsimp only;omega)⟩,?_⟩
  exact ⟨k+1,_,_,rfl,rfl,rfl,⟨by omega,by rw [hs];(try dsimp only);omega,by subst hz hr;(try simp only [List.set_set]);exact jO _ _ _ _ _ _ hy⟩,by omega⟩
 ·replace c0:=nq c0
  have hkx:k=x.length:=by omega
  rw [hkx,List.take_length] at hz
  rw [hkx,iP] at hr
  refine ⟨?_,?_,trivial⟩
  ·first | (rw [hz];rfl) | (rw [hr];rfl) | (rw [hz,hS])
  ·first | (rw [hz];rfl) | (rw [hr];rfl) | (rw [hz,hS])
abbrev mU (x:aV) (m:Int):List AV × List (Nat × Rs) × AV × List (Nat × Rs):=([.agg [.own 0],vI m],[(0,.arr 167 3 true (x.tables.map aP))],vI (m+((dO x:Nat):Int)),[(0,.arr 167 3 true (((wZ m x).tables).map aP))])
abbrev aBO (x:aV) (m:Int):Prop:=nA Tryz.prog 47 (mU x m).1 (mU x m).2.1 (mU x m).2.2.1 (mU x m).2.2.2
theorem aMS (x:aV) (m:Int) (h0:0≤m) (hm:m+5*((bH x:Nat):Int)≤4611686018427387904):aBO x m:=by
 refine oA bG aR Tryz.func47 (by kernel_rfl) (by kernel_rfl) (kA (qU x.tables m) [(0,0)]<| .fin [(0,0)]) (p:=aEu x.tables m∧m=m∧x.tables.map aP=x.tables.map aP∧(m+((wY x.tables:Nat):Int))=(m+((dO x:Nat):Int))∧(aFc m x.tables).map aP=((wZ m x).tables).map aP∧True) (by kernel_rfl) ?_
 have hS:dO x=wY x.tables:=rfl
 have hC:bH x=iQ x.tables:=rfl
 have:=aCC x.tables
 refine ⟨aPq _ _ (by omega) (by first | omega | (dsimp only;omega)),rfl,rfl,?_,?_,trivial⟩
 ·first | rfl | (rw [hS];omega)
 ·first | rfl | (rw [hS];omega)
abbrev sZ (x:List bZ) (m:Int):List AV × List (Nat × Rs) × AV × List (Nat × Rs):=([.own 0,vI m],[(0,.arr 135 2 true (x.map aZ))],vI (m+((aCD x:Nat):Int)),[(0,.arr 135 2 true ((aK8 m x).map aZ))])
abbrev aHc (x:List bZ) (m:Int):Prop:=nA Tryz.prog 51 (sZ x m).1 (sZ x m).2.1 (sZ x m).2.2.1 (sZ x m).2.2.2
theorem aSN (x:List bZ) (m:Int) (h0:0≤m) (hm:m+5*((jA x:Nat):Int)≤4611686018427387904):aHc x m:=by
 refine oA bG aR Tryz.func51 (by kernel_rfl) (by kernel_rfl) (.loop (Nat × Int × (List bZ)) (Q3 Nat Int (List bZ)) [1,5,6,7,8,9,10,11,12,13,14,15,16,17,18,19,20,21,22,23,24,25,26] [0,2407] (fun yy0=>[(5,vI (yy0.1:Int)),(1,vI yy0.2.1)]) (fun yy0=>[(0,some (.arr 135 2 true (yy0.2.2.map aZ)))]) (fun yy0=>yy0.1≤x.length∧yy0.2.1=m+((bR mB (x.take yy0.1):Nat):Int)∧yy0.2.2=dC aHa mB m x yy0.1) (fun yy0=>x.length - yy0.1) (fun yy0=> .len yy0.2.2.length<| .br (.call (.p none (.str (bB yy0.2.1))) []<| .len yy0.2.2.length<| .setm bZ aZ yy0.2.2 (fun s4_6=>(⟨bB yy0.2.1,s4_6.vars⟩:bZ)) (fun s4_6=> .split 6 0 yy0.1 1 2407 bZ aZ (yy0.2.2.set yy0.1 (⟨bB yy0.2.1,s4_6.vars⟩:bZ)) (fun b2407=> .len ((yy0.2.2.set yy0.1 (⟨bB yy0.2.1,s4_6.vars⟩:bZ)).length)<| kA (lM b2407.vars (yy0.2.1+(1:Int))) [(0,2407)]<| .join 3 0 2407 bZ aZ (yy0.2.2.set yy0.1 (⟨bB yy0.2.1,s4_6.vars⟩:bZ)) (fun a2407=>(⟨a2407.name,dF (yy0.2.1+(1:Int)) b2407.vars⟩:bZ)) (fun a2407=> .back [(0,0)])))) (.fin [(0,0)]))) (p:=(∃(k:Nat) (z:Int) (r:List bZ),(0:Int)=(k:Int)∧m=z∧x.map aZ=r.map aZ∧k≤x.length∧z=m+((bR mB (x.take k):Nat):Int)∧r=dC aHa mB m x k)∧ ∀(k:Nat) (z:Int) (r:List bZ),(k≤x.length∧z=m+((bR mB (x.take k):Nat):Int)∧r=dC aHa mB m x k)→Lm aZ r∧(((decide ((k:Int)<((r.length:Nat):Int)))=true→pK z∧(0≤(k:Int)∧Lm aZ r∧(k:Int)<((r.length:Nat):Int)∧(r.map aZ=r.map aZ∧k<r.length∧ ∀s4_6,r[k]? =some s4_6→0+1≤(aZ s4_6).length∧(aZ s4_6).take 0++((aZ (⟨bB z,s4_6.vars⟩:bZ)).drop 0).take 1++(aZ s4_6).drop (0+1)=aZ (⟨bB z,s4_6.vars⟩:bZ)∧(bB z)=((⟨bB z,s4_6.vars⟩:bZ).name)∧(cC (z+(1:Int))∧((r.set k (⟨bB z,s4_6.vars⟩:bZ)).map aZ=(r.set k (⟨bB z,s4_6.vars⟩:bZ)).map aZ∧k<(r.set k (⟨bB z,s4_6.vars⟩:bZ)).length∧ ∀b2407,(r.set k (⟨bB z,s4_6.vars⟩:bZ))[k]? =some b2407→0≤(k:Int)∧Lm aZ (r.set k (⟨bB z,s4_6.vars⟩:bZ))∧(k:Int)<(((r.set k (⟨bB z,s4_6.vars⟩:bZ)).length:Nat):Int)∧(k=k∧(pL b2407.vars (z+(1:Int))∧(z+(1:Int))=(z+(1:Int))∧b2407.vars.map intD=b2407.vars.map intD∧((r.set k (⟨bB z,s4_6.vars⟩:bZ)).map aZ=(r.set k (⟨bB z,s4_6.vars⟩:bZ)).map aZ∧k<(r.set k (⟨bB z,s4_6.vars⟩:bZ)).length∧ ∀a2407,(r.set k (⟨bB z,s4_6.vars⟩:bZ))[k]? =some a2407→((aZ a2407).take 1++ .sl 3 1 ((dF (z+(1:Int)) b2407.vars).map intD)::(aZ a2407).drop (1+1)=aZ (⟨a2407.name,dF (z+(1:Int)) b2407.vars⟩:bZ))∧cC ((k:Int)+(1:Int))∧ ∃(k' :Nat) (z' :Int) (r' :List bZ),((k:Int)+(1:Int))=(k' :Int)∧((z+(1:Int))+((cT b2407.vars:Nat):Int))=z' ∧((r.set k (⟨bB z,s4_6.vars⟩:bZ)).set k (⟨a2407.name,dF (z+(1:Int)) b2407.vars⟩:bZ)).map aZ=r'.map aZ∧(k' ≤x.length∧z' =m+((bR mB (x.take k'):Nat):Int)∧r' =dC aHa mB m x k')∧x.length - k' <x.length - k))))))))∧((decide ((k:Int)<((r.length:Nat):Int)))=false→z=(m+((aCD x:Nat):Int))∧r.map aZ=(aK8 m x).map aZ∧True))) (by kernel_rfl) ?_
 have hS:aCD x=bR mB x:=rfl
 have hC:jA x=x.length+bR hZ x:=rfl
 refine ⟨⟨0,m,x,rfl,rfl,rfl,Nat.zero_le _,by simp [bR],(iO _ _ _ _).symm⟩,fun k z r ⟨hk,hz,hr⟩=>?_⟩
 have hrl:r.length=x.length:=by rw [hr];exact jM _ _ _ _ _ hk
 refine ⟨List.length_map _,fun c0=>?_,fun c0=>?_⟩
 ·replace c0:=yq c0
  obtain ⟨y,hy⟩:=cK (l:=x) (k:=k) (by omega)
  have hry:r[k]? =some y:=by rw [hr,jN _ _ _ _ _ (by omega)];exact hy
  have hs:=dJ mB hy
  have hle:=gD mB x (k+1)
  have hA:bR mB (x.take k)≤5*(k+bR hZ (x.take k)):=aN0 aJj x k hk
  have hB:=dJ hZ hy
  have hD:=gD hZ x (k+1)
  have hF:hZ y=ByteArray.size y.name+bS y.vars:=rfl
  have hle5:=aEB x
  have hE:mB y=1+cT y.vars:=rfl
  have hy_vars:=jU y.vars
  refine ⟨aAz _ (by omega),by omega,List.length_map _,by first | omega | (simp only [List.length_set];omega),rfl,by first | omega | (simp only [List.length_set];omega),fun s4_6 hs4_6=>?_⟩
  obtain rfl:=(aY hry hs4_6).symm
  refine ⟨Nat.le_of_ble_eq_true rfl,rfl,rfl,⟨by first | omega | (dsimp only;omega),by first | omega | (dsimp only;omega)⟩,rfl,by first | omega | (simp only [List.length_set];omega),fun b2407 hb2407=>?_⟩
  obtain rfl:=kC hb2407
  refine ⟨by omega,List.length_map _,by first | omega | (simp only [List.length_set];omega),rfl,aBA _ _ (by omega) (by first | omega | (dsimp only;omega)),rfl,rfl,rfl,by first | omega | (simp only [List.length_set];omega),fun a2407 ha2407=>⟨rfl,?_⟩⟩
  obtain rfl:=kC ha2407
  refine ⟨⟨by first | omega | (dsimp only;omega),by first | omega | (dsimp only;omega)⟩,?_⟩
  exact ⟨k+1,_,_,rfl,rfl,rfl,⟨by omega,by rw [hs];(try dsimp only);omega,by subst hz hr;(try simp only [List.set_set]);exact jO _ _ _ _ _ _ hy⟩,by omega⟩
 ·replace c0:=nq c0
  have hkx:k=x.length:=by omega
  rw [hkx,List.take_length] at hz
  rw [hkx,iP] at hr
  refine ⟨?_,?_,trivial⟩
  ·first | (rw [hz];rfl) | (rw [hr];rfl) | (rw [hz,hS])
  ·first | (rw [hz];rfl) | (rw [hr];rfl) | (rw [hz,hS])
abbrev tA (x:QueryD) (m:Int):List AV × List (Nat × Rs) × AV × List (Nat × Rs):=([.agg [vI x.variableCount,.own 0],vI m],[(0,.arr 135 2 true (x.atoms.map aZ))],vI (m+((pW x:Nat):Int)),[(0,.arr 135 2 true (((aOW m x).atoms).map aZ))])
abbrev aHd (x:QueryD) (m:Int):Prop:=nA Tryz.prog 18 (tA x m).1 (tA x m).2.1 (tA x m).2.2.1 (tA x m).2.2.2
theorem aSO (x:QueryD) (m:Int) (h0:0≤m) (hm:m+5*((gF x:Nat):Int)≤4611686018427387904):aHd x m:=by
 refine oA bG aR Tryz.func18 (by kernel_rfl) (by kernel_rfl) (kA (sZ x.atoms m) [(0,0)]<| .fin [(0,0)]) (p:=aHc x.atoms m∧m=m∧x.atoms.map aZ=x.atoms.map aZ∧(m+((aCD x.atoms:Nat):Int))=(m+((pW x:Nat):Int))∧(aK8 m x.atoms).map aZ=((aOW m x).atoms).map aZ∧True) (by kernel_rfl) ?_
 have hS:pW x=aCD x.atoms:=rfl
 have hC:gF x=jA x.atoms:=rfl
 have:=aEB x.atoms
 refine ⟨aSN _ _ (by omega) (by first | omega | (dsimp only;omega)),rfl,rfl,?_,?_,trivial⟩
 ·first | rfl | (rw [hS];omega)
 ·first | rfl | (rw [hS];omega)
abbrev kN (x:List aG) (m:Int):List AV × List (Nat × Rs) × AV × List (Nat × Rs):=([.own 0,vI m],[(0,.arr 203 3 true (x.map aA))],vI (m+((lA x:Nat):Int)),[(0,.arr 203 3 true ((kZ m x).map aA))])
abbrev vN (x:List aG) (m:Int):Prop:=nA Tryz.prog 125 (kN x m).1 (kN x m).2.1 (kN x m).2.2.1 (kN x m).2.2.2
theorem aHe (x:List aG) (m:Int) (h0:0≤m) (hm:m+5*((dD x:Nat):Int)≤4611686018427387904):vN x m:=by
 refine oA bG aR Tryz.func125 (by kernel_rfl) (by kernel_rfl) (.loop (Nat × Int × (List aG)) (Q3 Nat Int (List aG)) [1,5,6,7,8,9,10,11,12,13,14,15,16,17,18,19,20,21,22,23,24,25,26,27,28,29,30,31,32] [0,1607,2307,3007] (fun yy0=>[(5,vI (yy0.1:Int)),(1,vI yy0.2.1)]) (fun yy0=>[(0,some (.arr 203 3 true (yy0.2.2.map aA)))]) (fun yy0=>yy0.1≤x.length∧yy0.2.1=m+((bR eG (x.take yy0.1):Nat):Int)∧yy0.2.2=dC oK eG m x yy0.1) (fun yy0=>x.length - yy0.1) (fun yy0=> .len yy0.2.2.length<| .br (.split 4 0 yy0.1 0 1607 aG aA yy0.2.2 (fun b1607=> .len yy0.2.2.length<| kA (lM b1607.columns yy0.2.1) [(0,1607)]<| .join 5 0 1607 aG aA yy0.2.2 (fun a1607=>(⟨dF yy0.2.1 b1607.columns,a1607.values,a1607.counts⟩:aG)) (fun a1607=> .split 5 0 yy0.1 1 2307 aG aA (yy0.2.2.set yy0.1 (⟨dF yy0.2.1 b1607.columns,a1607.values,a1607.counts⟩:aG)) (fun b2307=> .len ((yy0.2.2.set yy0.1 (⟨dF yy0.2.1 b1607.columns,a1607.values,a1607.counts⟩:aG)).length)<| kA (pM b2307.values (yy0.2.1+((cT b1607.columns:Nat):Int))) [(0,2307)]<| .join 6 0 2307 aG aA (yy0.2.2.set yy0.1 (⟨dF yy0.2.1 b1607.columns,a1607.values,a1607.counts⟩:aG)) (fun a2307=>(⟨a2307.columns,iI (yy0.2.1+((cT b1607.columns:Nat):Int)) b2307.values,a2307.counts⟩:aG)) (fun a2307=> .split 6 0 yy0.1 2 3007 aG aA ((yy0.2.2.set yy0.1 (⟨dF yy0.2.1 b1607.columns,a1607.values,a1607.counts⟩:aG)).set yy0.1 (⟨a2307.columns,iI (yy0.2.1+((cT b1607.columns:Nat):Int)) b2307.values,a2307.counts⟩:aG)) (fun b3007=> .len (((yy0.2.2.set yy0.1 (⟨dF yy0.2.1 b1607.columns,a1607.values,a1607.counts⟩:aG)).set yy0.1 (⟨a2307.columns,iI (yy0.2.1+((cT b1607.columns:Nat):Int)) b2307.values,a2307.counts⟩:aG)).length)<| kA (lM b3007.counts ((yy0.2.1+((cT b1607.columns:Nat):Int))+((kY b2307.values:Nat):Int))) [(0,3007)]<| .join 3 0 3007 aG aA ((yy0.2.2.set yy0.1 (⟨dF yy0.2.1 b1607.columns,a1607.values,a1607.counts⟩:aG)).set yy0.1 (⟨a2307.columns,iI (yy0.2.1+((cT b1607.columns:Nat):Int)) b2307.values,a2307.counts⟩:aG)) (fun a3007=>(⟨a3007.columns,a3007.values,dF ((yy0.2.1+((cT b1607.columns:Nat):Int))+((kY b2307.values:Nat):Int)) b3007.counts⟩:aG)) (fun a3007=> .back [(0,0)]))))))) (.fin [(0,0)]))) (p:=(∃(k:Nat) (z:Int) (r:List aG),(0:Int)=(k:Int)∧m=z∧x.map aA=r.map aA∧k≤x.length∧z=m+((bR eG (x.take k):Nat):Int)∧r=dC oK eG m x k)∧ ∀(k:Nat) (z:Int) (r:List aG),(k≤x.length∧z=m+((bR eG (x.take k):Nat):Int)∧r=dC oK eG m x k)→Lm aA r∧(((decide ((k:Int)<((r.length:Nat):Int)))=true→r.map aA=r.map aA∧k<r.length∧ ∀b1607,r[k]? =some b1607→0≤(k:Int)∧Lm aA r∧(k:Int)<((r.length:Nat):Int)∧(k=k∧(pL b1607.columns z∧z=z∧b1607.columns.map intD=b1607.columns.map intD∧(r.map aA=r.map aA∧k<r.length∧ ∀a1607,r[k]? =some a1607→((aA a1607).take 0++ .sl 3 1 ((dF z b1607.columns).map intD)::(aA a1607).drop (0+1)=aA (⟨dF z b1607.columns,a1607.values,a1607.counts⟩:aG))∧(r.set k (⟨dF z b1607.columns,a1607.values,a1607.counts⟩:aG)).map aA=(r.set k (⟨dF z b1607.columns,a1607.values,a1607.counts⟩:aG)).map aA∧k<(r.set k (⟨dF z b1607.columns,a1607.values,a1607.counts⟩:aG)).length∧ ∀b2307,(r.set k (⟨dF z b1607.columns,a1607.values,a1607.counts⟩:aG))[k]? =some b2307→0≤(k:Int)∧Lm aA (r.set k (⟨dF z b1607.columns,a1607.values,a1607.counts⟩:aG))∧(k:Int)<(((r.set k (⟨dF z b1607.columns,a1607.values,a1607.counts⟩:aG)).length:Nat):Int)∧(k=k∧(aCE b2307.values (z+((cT b1607.columns:Nat):Int))∧(z+((cT b1607.columns:Nat):Int))=(z+((cT b1607.columns:Nat):Int))∧b2307.values.map aC=b2307.values.map aC∧((r.set k (⟨dF z b1607.columns,a1607.values,a1607.counts⟩:aG)).map aA=(r.set k (⟨dF z b1607.columns,a1607.values,a1607.counts⟩:aG)).map aA∧k<(r.set k (⟨dF z b1607.columns,a1607.values,a1607.counts⟩:aG)).length∧ ∀a2307,(r.set k (⟨dF z b1607.columns,a1607.values,a1607.counts⟩:aG))[k]? =some a2307→((aA a2307).take 1++ .sl 39 1 ((iI (z+((cT b1607.columns:Nat):Int)) b2307.values).map aC)::(aA a2307).drop (1+1)=aA (⟨a2307.columns,iI (z+((cT b1607.columns:Nat):Int)) b2307.values,a2307.counts⟩:aG))∧((r.set k (⟨dF z b1607.columns,a1607.values,a1607.counts⟩:aG)).set k (⟨a2307.columns,iI (z+((cT b1607.columns:Nat):Int)) b2307.values,a2307.counts⟩:aG)).map aA=((r.set k (⟨dF z b1607.columns,a1607.values,a1607.counts⟩:aG)).set k (⟨a2307.columns,iI (z+((cT b1607.columns:Nat):Int)) b2307.values,a2307.counts⟩:aG)).map aA∧k<((r.set k (⟨dF z b1607.columns,a1607.values,a1607.counts⟩:aG)).set k (⟨a2307.columns,iI (z+((cT b1607.columns:Nat):Int)) b2307.values,a2307.counts⟩:aG)).length∧ ∀b3007,((r.set k (⟨dF z b1607.columns,a1607.values,a1607.counts⟩:aG)).set k (⟨a2307.columns,iI (z+((cT b1607.columns:Nat):Int)) b2307.values,a2307.counts⟩:aG))[k]? =some b3007→0≤(k:Int)∧Lm aA ((r.set k (⟨dF z b1607.columns,a1607.values,a1607.counts⟩:aG)).set k (⟨a2307.columns,iI (z+((cT b1607.columns:Nat):Int)) b2307.values,a2307.counts⟩:aG))∧(k:Int)<((((r.set k (⟨dF z b1607.columns,a1607.values,a1607.counts⟩:aG)).set k (⟨a2307.columns,iI (z+((cT b1607.columns:Nat):Int)) b2307.values,a2307.counts⟩:aG)).length:Nat):Int)∧(k=k∧(pL b3007.counts ((z+((cT b1607.columns:Nat):Int))+((kY b2307.values:Nat):Int))∧((z+((cT b1607.columns:Nat):Int))+((kY b2307.values:Nat):Int))=((z+((cT b1607.columns:Nat):Int))+((kY b2307.values:Nat):Int))∧b3007.counts.map intD=b3007.counts.map intD∧(((r.set k (⟨dF z b1607.columns,a1607.values,a1607.counts⟩:aG)).set k (⟨a2307.columns,iI (z+((cT b1607.columns:Nat):Int)) b2307.values,a2307.counts⟩:aG)).map aA=((r.set k (⟨dF z b1607.columns,a1607.values,a1607.counts⟩:aG)).set k (⟨a2307.columns,iI (z+((cT b1607.columns:Nat):Int)) b2307.values,a2307.counts⟩:aG)).map aA∧k<((r.set k (⟨dF z b1607.columns,a1607.values,a1607.counts⟩:aG)).set k (⟨a2307.columns,iI (z+((cT b1607.columns:Nat):Int)) b2307.values,a2307.counts⟩:aG)).length∧ ∀a3007,((r.set k (⟨dF z b1607.columns,a1607.values,a1607.counts⟩:aG)).set k (⟨a2307.columns,iI (z+((cT b1607.columns:Nat):Int)) b2307.values,a2307.counts⟩:aG))[k]? =some a3007→((aA a3007).take 2++ .sl 3 1 ((dF ((z+((cT b1607.columns:Nat):Int))+((kY b2307.values:Nat):Int)) b3007.counts).map intD)::(aA a3007).drop (2+1)=aA (⟨a3007.columns,a3007.values,dF ((z+((cT b1607.columns:Nat):Int))+((kY b2307.values:Nat):Int)) b3007.counts⟩:aG))∧cC ((k:Int)+(1:Int))∧ ∃(k' :Nat) (z' :Int) (r' :List aG),((k:Int)+(1:Int))=(k' :Int)∧(((z+((cT b1607.columns:Nat):Int))+((kY b2307.values:Nat):Int))+((cT b3007.counts:Nat):Int))=z' ∧(((r.set k (⟨dF z b1607.columns,a1607.values,a1607.counts⟩:aG)).set k (⟨a2307.columns,iI (z+((cT b1607.columns:Nat):Int)) b2307.values,a2307.counts⟩:aG)).set k (⟨a3007.columns,a3007.values,dF ((z+((cT b1607.columns:Nat):Int))+((kY b2307.values:Nat):Int)) b3007.counts⟩:aG)).map aA=r'.map aA∧(k' ≤x.length∧z' =m+((bR eG (x.take k'):Nat):Int)∧r' =dC oK eG m x k')∧x.length - k' <x.length - k))))))))))∧((decide ((k:Int)<((r.length:Nat):Int)))=false→z=(m+((lA x:Nat):Int))∧r.map aA=(kZ m x).map aA∧True))) (by kernel_rfl) ?_
 have hS:lA x=bR eG x:=rfl
 have hC:dD x=x.length+bR bN x:=rfl
 refine ⟨⟨0,m,x,rfl,rfl,rfl,Nat.zero_le _,by simp [bR],(iO _ _ _ _).symm⟩,fun k z r ⟨hk,hz,hr⟩=>?_⟩
 have hrl:r.length=x.length:=by rw [hr];exact jM _ _ _ _ _ hk
 refine ⟨List.length_map _,fun c0=>?_,fun c0=>?_⟩
 ·replace c0:=yq c0
  obtain ⟨y,hy⟩:=cK (l:=x) (k:=k) (by omega)
  have hry:r[k]? =some y:=by rw [hr,jN _ _ _ _ _ (by omega)];exact hy
  have hs:=dJ eG hy
  have hle:=gD eG x (k+1)
  have hA:bR eG (x.take k)≤5*(k+bR bN (x.take k)):=aN0 xO x k hk
  have hB:=dJ bN hy
  have hD:=gD bN x (k+1)
  have hF:bN y=bS y.columns+cM y.values+bS y.counts:=rfl
  have hle5:=qX x
  have hE:eG y=cT y.columns+kY y.values+cT y.counts:=rfl
  have hy_columns:=jU y.columns
  have hy_values:=vM y.values
  have hy_counts:=jU y.counts
  refine ⟨rfl,by first | omega | (simp only [List.length_set];omega),fun b1607 hb1607=>?_⟩
  obtain rfl:=(aY hry hb1607).symm
  refine ⟨by omega,List.length_map _,by first | omega | (simp only [List.length_set];omega),rfl,aBA _ _ (by omega) (by first | omega | (dsimp only;omega)),rfl,rfl,rfl,by first | omega | (simp only [List.length_set];omega),fun a1607 ha1607=>⟨rfl,?_⟩⟩
  obtain rfl:=(aY hry ha1607).symm
  refine ⟨rfl,by first | omega | (simp only [List.length_set];omega),fun b2307 hb2307=>?_⟩
  obtain rfl:=kC hb2307
  refine ⟨by omega,List.length_map _,by first | omega | (simp only [List.length_set];omega),rfl,aMR _ _ (by omega) (by first | omega | (dsimp only;omega)),rfl,rfl,rfl,by first | omega | (simp only [List.length_set];omega),fun a2307 ha2307=>⟨rfl,?_⟩⟩
  obtain rfl:=kC ha2307
  refine ⟨rfl,by first | omega | (simp only [List.length_set];omega),fun b3007 hb3007=>?_⟩
  obtain rfl:=kC hb3007
  refine ⟨by omega,List.length_map _,by first | omega | (simp only [List.length_set];omega),rfl,aBA _ _ (by omega) (by first | omega | (dsimp only;omega)),rfl,rfl,rfl,by first | omega | (simp only [List.length_set];omega),fun a3007 ha3007=>⟨rfl,?_⟩⟩
  obtain rfl:=kC ha3007
  refine ⟨⟨by first | omega | (dsimp only;omega),by first | omega | (dsimp only;omega)⟩,?_⟩
  exact ⟨k+1,_,_,rfl,rfl,rfl,⟨by omega,by rw [hs];(try dsimp only);omega,by subst hz hr;(try simp only [List.set_set]);exact jO _ _ _ _ _ _ hy⟩,by omega⟩
 ·replace c0:=nq c0
  have hkx:k=x.length:=by omega
  rw [hkx,List.take_length] at hz
  rw [hkx,iP] at hr
  refine ⟨?_,?_,trivial⟩
  ·first | (rw [hz];rfl) | (rw [hr];rfl) | (rw [hz,hS])
  ·first | (rw [hz];rfl) | (rw [hr];rfl) | (rw [hz,hS])
abbrev kO (x:List aB) (m:Int):List AV × List (Nat × Rs) × AV × List (Nat × Rs):=([.own 0,vI m],[(0,.arr 161 4 true (x.map aD))],vI (m+((lB x:Nat):Int)),[(0,.arr 161 4 true ((rM m x).map aD))])
abbrev vO (x:List aB) (m:Int):Prop:=nA Tryz.prog 89 (kO x m).1 (kO x m).2.1 (kO x m).2.2.1 (kO x m).2.2.2
theorem aHf (x:List aB) (m:Int) (h0:0≤m) (hm:m+5*((dK x:Nat):Int)≤4611686018427387904):vO x m:=by
 refine oA bG aR Tryz.func89 (by kernel_rfl) (by kernel_rfl) (.loop (Nat × Int × (List aB)) (Q3 Nat Int (List aB)) [1,5,6,7,8,9,10,11,12,13,14,15,16,17,18,19,20,21,22,23,24,25,26,27,28,29,30,31,32,33,34,35,36,37,38,39,40] [0,3807] (fun yy0=>[(5,vI (yy0.1:Int)),(1,vI yy0.2.1)]) (fun yy0=>[(0,some (.arr 161 4 true (yy0.2.2.map aD)))]) (fun yy0=>yy0.1≤x.length∧yy0.2.1=m+((bR eH (x.take yy0.1):Nat):Int)∧yy0.2.2=dC oL eH m x yy0.1) (fun yy0=>x.length - yy0.1) (fun yy0=> .len yy0.2.2.length<| .br (.call (.p none (.str (bB yy0.2.1))) []<| .len yy0.2.2.length<| .setm aB aD yy0.2.2 (fun s4_6=>(⟨bB yy0.2.1,s4_6.arity,s4_6.rowCount,s4_6.groups⟩:aB)) (fun s4_6=> .len ((yy0.2.2.set yy0.1 (⟨bB yy0.2.1,s4_6.arity,s4_6.rowCount,s4_6.groups⟩:aB)).length)<| .setm aB aD (yy0.2.2.set yy0.1 (⟨bB yy0.2.1,s4_6.arity,s4_6.rowCount,s4_6.groups⟩:aB)) (fun s6_5=>(⟨s6_5.name,yy0.2.1+(1:Int),s6_5.rowCount,s6_5.groups⟩:aB)) (fun s6_5=> .len (((yy0.2.2.set yy0.1 (⟨bB yy0.2.1,s4_6.arity,s4_6.rowCount,s4_6.groups⟩:aB)).set yy0.1 (⟨s6_5.name,yy0.2.1+(1:Int),s6_5.rowCount,s6_5.groups⟩:aB)).length)<| .setm aB aD ((yy0.2.2.set yy0.1 (⟨bB yy0.2.1,s4_6.arity,s4_6.rowCount,s4_6.groups⟩:aB)).set yy0.1 (⟨s6_5.name,yy0.2.1+(1:Int),s6_5.rowCount,s6_5.groups⟩:aB)) (fun s8_5=>(⟨s8_5.name,s8_5.arity,(yy0.2.1+(1:Int))+(1:Int),s8_5.groups⟩:aB)) (fun s8_5=> .split 10 0 yy0.1 3 3807 aB aD (((yy0.2.2.set yy0.1 (⟨bB yy0.2.1,s4_6.arity,s4_6.rowCount,s4_6.groups⟩:aB)).set yy0.1 (⟨s6_5.name,yy0.2.1+(1:Int),s6_5.rowCount,s6_5.groups⟩:aB)).set yy0.1 (⟨s8_5.name,s8_5.arity,(yy0.2.1+(1:Int))+(1:Int),s8_5.groups⟩:aB)) (fun b3807=> .len ((((yy0.2.2.set yy0.1 (⟨bB yy0.2.1,s4_6.arity,s4_6.rowCount,s4_6.groups⟩:aB)).set yy0.1 (⟨s6_5.name,yy0.2.1+(1:Int),s6_5.rowCount,s6_5.groups⟩:aB)).set yy0.1 (⟨s8_5.name,s8_5.arity,(yy0.2.1+(1:Int))+(1:Int),s8_5.groups⟩:aB)).length)<| kA (kN b3807.groups (((yy0.2.1+(1:Int))+(1:Int))+(1:Int))) [(0,3807)]<| .join 3 0 3807 aB aD (((yy0.2.2.set yy0.1 (⟨bB yy0.2.1,s4_6.arity,s4_6.rowCount,s4_6.groups⟩:aB)).set yy0.1 (⟨s6_5.name,yy0.2.1+(1:Int),s6_5.rowCount,s6_5.groups⟩:aB)).set yy0.1 (⟨s8_5.name,s8_5.arity,(yy0.2.1+(1:Int))+(1:Int),s8_5.groups⟩:aB)) (fun a3807=>(⟨a3807.name,a3807.arity,a3807.rowCount,kZ (((yy0.2.1+(1:Int))+(1:Int))+(1:Int)) b3807.groups⟩:aB)) (fun a3807=> .back [(0,0)])))))) (.fin [(0,0)]))) (p:=(∃(k:Nat) (z:Int) (r:List aB),(0:Int)=(k:Int)∧m=z∧x.map aD=r.map aD∧k≤x.length∧z=m+((bR eH (x.take k):Nat):Int)∧r=dC oL eH m x k)∧ ∀(k:Nat) (z:Int) (r:List aB),(k≤x.length∧z=m+((bR eH (x.take k):Nat):Int)∧r=dC oL eH m x k)→Lm aD r∧(((decide ((k:Int)<((r.length:Nat):Int)))=true→pK z∧(0≤(k:Int)∧Lm aD r∧(k:Int)<((r.length:Nat):Int)∧(r.map aD=r.map aD∧k<r.length∧ ∀s4_6,r[k]? =some s4_6→0+1≤(aD s4_6).length∧(aD s4_6).take 0++((aD (⟨bB z,s4_6.arity,s4_6.rowCount,s4_6.groups⟩:aB)).drop 0).take 1++(aD s4_6).drop (0+1)=aD (⟨bB z,s4_6.arity,s4_6.rowCount,s4_6.groups⟩:aB)∧(bB z)=((⟨bB z,s4_6.arity,s4_6.rowCount,s4_6.groups⟩:aB).name)∧(cC (z+(1:Int))∧(0≤(k:Int)∧Lm aD (r.set k (⟨bB z,s4_6.arity,s4_6.rowCount,s4_6.groups⟩:aB))∧(k:Int)<(((r.set k (⟨bB z,s4_6.arity,s4_6.rowCount,s4_6.groups⟩:aB)).length:Nat):Int)∧((r.set k (⟨bB z,s4_6.arity,s4_6.rowCount,s4_6.groups⟩:aB)).map aD=(r.set k (⟨bB z,s4_6.arity,s4_6.rowCount,s4_6.groups⟩:aB)).map aD∧k<(r.set k (⟨bB z,s4_6.arity,s4_6.rowCount,s4_6.groups⟩:aB)).length∧ ∀s6_5,(r.set k (⟨bB z,s4_6.arity,s4_6.rowCount,s4_6.groups⟩:aB))[k]? =some s6_5→1+1≤(aD s6_5).length∧(aD s6_5).take 1++((aD (⟨s6_5.name,z+(1:Int),s6_5.rowCount,s6_5.groups⟩:aB)).drop 1).take 1++(aD s6_5).drop (1+1)=aD (⟨s6_5.name,z+(1:Int),s6_5.rowCount,s6_5.groups⟩:aB)∧(z+(1:Int))=((⟨s6_5.name,z+(1:Int),s6_5.rowCount,s6_5.groups⟩:aB).arity)∧(cC ((z+(1:Int))+(1:Int))∧(0≤(k:Int)∧Lm aD ((r.set k (⟨bB z,s4_6.arity,s4_6.rowCount,s4_6.groups⟩:aB)).set k (⟨s6_5.name,z+(1:Int),s6_5.rowCount,s6_5.groups⟩:aB))∧(k:Int)<((((r.set k (⟨bB z,s4_6.arity,s4_6.rowCount,s4_6.groups⟩:aB)).set k (⟨s6_5.name,z+(1:Int),s6_5.rowCount,s6_5.groups⟩:aB)).length:Nat):Int)∧(((r.set k (⟨bB z,s4_6.arity,s4_6.rowCount,s4_6.groups⟩:aB)).set k (⟨s6_5.name,z+(1:Int),s6_5.rowCount,s6_5.groups⟩:aB)).map aD=((r.set k (⟨bB z,s4_6.arity,s4_6.rowCount,s4_6.groups⟩:aB)).set k (⟨s6_5.name,z+(1:Int),s6_5.rowCount,s6_5.groups⟩:aB)).map aD∧k<((r.set k (⟨bB z,s4_6.arity,s4_6.rowCount,s4_6.groups⟩:aB)).set k (⟨s6_5.name,z+(1:Int),s6_5.rowCount,s6_5.groups⟩:aB)).length∧ ∀s8_5,((r.set k (⟨bB z,s4_6.arity,s4_6.rowCount,s4_6.groups⟩:aB)).set k (⟨s6_5.name,z+(1:Int),s6_5.rowCount,s6_5.groups⟩:aB))[k]? =some s8_5→2+1≤(aD s8_5).length∧(aD s8_5).take 2++((aD (⟨s8_5.name,s8_5.arity,(z+(1:Int))+(1:Int),s8_5.groups⟩:aB)).drop 2).take 1++(aD s8_5).drop (2+1)=aD (⟨s8_5.name,s8_5.arity,(z+(1:Int))+(1:Int),s8_5.groups⟩:aB)∧((z+(1:Int))+(1:Int))=((⟨s8_5.name,s8_5.arity,(z+(1:Int))+(1:Int),s8_5.groups⟩:aB).rowCount)∧(cC (((z+(1:Int))+(1:Int))+(1:Int))∧((((r.set k (⟨bB z,s4_6.arity,s4_6.rowCount,s4_6.groups⟩:aB)).set k (⟨s6_5.name,z+(1:Int),s6_5.rowCount,s6_5.groups⟩:aB)).set k (⟨s8_5.name,s8_5.arity,(z+(1:Int))+(1:Int),s8_5.groups⟩:aB)).map aD=(((r.set k (⟨bB z,s4_6.arity,s4_6.rowCount,s4_6.groups⟩:aB)).set k (⟨s6_5.name,z+(1:Int),s6_5.rowCount,s6_5.groups⟩:aB)).set k (⟨s8_5.name,s8_5.arity,(z+(1:Int))+(1:Int),s8_5.groups⟩:aB)).map aD∧k<(((r.set k (⟨bB z,s4_6.arity,s4_6.rowCount,s4_6.groups⟩:aB)).set k (⟨s6_5.name,z+(1:Int),s6_5.rowCount,s6_5.groups⟩:aB)).set k (⟨s8_5.name,s8_5.arity,(z+(1:Int))+(1:Int),s8_5.groups⟩:aB)).length∧ ∀b3807,(((r.set k (⟨bB z,s4_6.arity,s4_6.rowCount,s4_6.groups⟩:aB)).set k (⟨s6_5.name,z+(1:Int),s6_5.rowCount,s6_5.groups⟩:aB)).set k (⟨s8_5.name,s8_5.arity,(z+(1:Int))+(1:Int),s8_5.groups⟩:aB))[k]? =some b3807→0≤(k:Int)∧Lm aD (((r.set k (⟨bB z,s4_6.arity,s4_6.rowCount,s4_6.groups⟩:aB)).set k (⟨s6_5.name,z+(1:Int),s6_5.rowCount,s6_5.groups⟩:aB)).set k (⟨s8_5.name,s8_5.arity,(z+(1:Int))+(1:Int),s8_5.groups⟩:aB))∧(k:Int)<(((((r.set k (⟨bB z,s4_6.arity,s4_6.rowCount,s4_6.groups⟩:aB)).set k (⟨s6_5.name,z+(1:Int),s6_5.rowCount,s6_5.groups⟩:aB)).set k (⟨s8_5.name,s8_5.arity,(z+(1:Int))+(1:Int),s8_5.groups⟩:aB)).length:Nat):Int)∧(k=k∧(vN b3807.groups (((z+(1:Int))+(1:Int))+(1:Int))∧(((z+(1:Int))+(1:Int))+(1:Int))=(((z+(1:Int))+(1:Int))+(1:Int))∧b3807.groups.map aA=b3807.groups.map aA∧((((r.set k (⟨bB z,s4_6.arity,s4_6.rowCount,s4_6.groups⟩:aB)).set k (⟨s6_5.name,z+(1:Int),s6_5.rowCount,s6_5.groups⟩:aB)).set k (⟨s8_5.name,s8_5.arity,(z+(1:Int))+(1:Int),s8_5.groups⟩:aB)).map aD=(((r.set k (⟨bB z,s4_6.arity,s4_6.rowCount,s4_6.groups⟩:aB)).set k (⟨s6_5.name,z+(1:Int),s6_5.rowCount,s6_5.groups⟩:aB)).set k (⟨s8_5.name,s8_5.arity,(z+(1:Int))+(1:Int),s8_5.groups⟩:aB)).map aD∧k<(((r.set k (⟨bB z,s4_6.arity,s4_6.rowCount,s4_6.groups⟩:aB)).set k (⟨s6_5.name,z+(1:Int),s6_5.rowCount,s6_5.groups⟩:aB)).set k (⟨s8_5.name,s8_5.arity,(z+(1:Int))+(1:Int),s8_5.groups⟩:aB)).length∧ ∀a3807,(((r.set k (⟨bB z,s4_6.arity,s4_6.rowCount,s4_6.groups⟩:aB)).set k (⟨s6_5.name,z+(1:Int),s6_5.rowCount,s6_5.groups⟩:aB)).set k (⟨s8_5.name,s8_5.arity,(z+(1:Int))+(1:Int),s8_5.groups⟩:aB))[k]? =some a3807→((aD a3807).take 3++ .sl 203 3 ((kZ (((z+(1:Int))+(1:Int))+(1:Int)) b3807.groups).map aA)::(aD a3807).drop (3+1)=aD (⟨a3807.name,a3807.arity,a3807.rowCount,kZ (((z+(1:Int))+(1:Int))+(1:Int)) b3807.groups⟩:aB))∧cC ((k:Int)+(1:Int))∧ ∃(k' :Nat) (z' :Int) (r' :List aB),((k:Int)+(1:Int))=(k' :Int)∧((((z+(1:Int))+(1:Int))+(1:Int))+((lA b3807.groups:Nat):Int))=z' ∧((((r.set k (⟨bB z,s4_6.arity,s4_6.rowCount,s4_6.groups⟩:aB)).set k (⟨s6_5.name,z+(1:Int),s6_5.rowCount,s6_5.groups⟩:aB)).set k (⟨s8_5.name,s8_5.arity,(z+(1:Int))+(1:Int),s8_5.groups⟩:aB)).set k (⟨a3807.name,a3807.arity,a3807.rowCount,kZ (((z+(1:Int))+(1:Int))+(1:Int)) b3807.groups⟩:aB)).map aD=r'.map aD∧(k' ≤x.length∧z' =m+((bR eH (x.take k'):Nat):Int)∧r' =dC oL eH m x k')∧x.length - k' <x.length - k))))))))))))))∧((decide ((k:Int)<((r.length:Nat):Int)))=false→z=(m+((lB x:Nat):Int))∧r.map aD=(rM m x).map aD∧True))) (by kernel_rfl) ?_
 have hS:lB x=bR eH x:=rfl
 have hC:dK x=x.length+bR bA x:=rfl
 refine ⟨⟨0,m,x,rfl,rfl,rfl,Nat.zero_le _,by simp [bR],(iO _ _ _ _).symm⟩,fun k z r ⟨hk,hz,hr⟩=>?_⟩
 have hrl:r.length=x.length:=by rw [hr];exact jM _ _ _ _ _ hk
 refine ⟨List.length_map _,fun c0=>?_,fun c0=>?_⟩
 ·replace c0:=yq c0
  obtain ⟨y,hy⟩:=cK (l:=x) (k:=k) (by omega)
  have hry:r[k]? =some y:=by rw [hr,jN _ _ _ _ _ (by omega)];exact hy
  have hs:=dJ eH hy
  have hle:=gD eH x (k+1)
  have hA:bR eH (x.take k)≤5*(k+bR bA (x.take k)):=aN0 xP x k hk
  have hB:=dJ bA hy
  have hD:=gD bA x (k+1)
  have hF:bA y=ByteArray.size y.name+dD y.groups:=rfl
  have hle5:=qY x
  have hE:eH y=1+1+1+lA y.groups:=rfl
  have hy_groups:=qX y.groups
  refine ⟨aAz _ (by omega),by omega,List.length_map _,by first | omega | (simp only [List.length_set];omega),rfl,by first | omega | (simp only [List.length_set];omega),fun s4_6 hs4_6=>?_⟩
  obtain rfl:=(aY hry hs4_6).symm
  refine ⟨Nat.le_of_ble_eq_true rfl,rfl,rfl,⟨by first | omega | (dsimp only;omega),by first | omega | (dsimp only;omega)⟩,by omega,List.length_map _,by first | omega | (simp only [List.length_set];omega),rfl,by first | omega | (simp only [List.length_set];omega),fun s6_5 hs6_5=>?_⟩
  obtain rfl:=kC hs6_5
  refine ⟨Nat.le_of_ble_eq_true rfl,rfl,rfl,⟨by first | omega | (dsimp only;omega),by first | omega | (dsimp only;omega)⟩,by omega,List.length_map _,by first | omega | (simp only [List.length_set];omega),rfl,by first | omega | (simp only [List.length_set];omega),fun s8_5 hs8_5=>?_⟩
  obtain rfl:=kC hs8_5
  refine ⟨Nat.le_of_ble_eq_true rfl,rfl,rfl,⟨by first | omega | (dsimp only;omega),by first | omega | (dsimp only;omega)⟩,rfl,by first | omega | (simp only [List.length_set];omega),fun b3807 hb3807=>?_⟩
  obtain rfl:=kC hb3807
  refine ⟨by omega,List.length_map _,by first | omega | (simp only [List.length_set];omega),rfl,aHe _ _ (by omega) (by first | omega | (dsimp only;omega)),rfl,rfl,rfl,by first | omega | (simp only [List.length_set];omega),fun a3807 ha3807=>⟨rfl,?_⟩⟩
  obtain rfl:=kC ha3807
  refine ⟨⟨by first | omega | (dsimp only;omega),by first | omega | (dsimp only;omega)⟩,?_⟩
  exact ⟨k+1,_,_,rfl,rfl,rfl,⟨by omega,by rw [hs];(try dsimp only);omega,by subst hz hr;(try simp only [List.set_set]);exact jO _ _ _ _ _ _ hy⟩,by omega⟩
 ·replace c0:=nq c0
  have hkx:k=x.length:=by omega
  rw [hkx,List.take_length] at hz
  rw [hkx,iP] at hr
  refine ⟨?_,?_,trivial⟩
  ·first | (rw [hz];rfl) | (rw [hr];rfl) | (rw [hz,hS])
  ·first | (rw [hz];rfl) | (rw [hr];rfl) | (rw [hz,hS])
abbrev mD (x:cD) (m:Int):List AV × List (Nat × Rs) × AV × List (Nat × Rs):=([.agg [vI x.version,.own 0],vI m],[(0,.arr 161 4 true (x.tables.map aD))],vI (m+((eC x:Nat):Int)),[(0,.arr 161 4 true (((uC m x).tables).map aD))])
abbrev aAN (x:cD) (m:Int):Prop:=nA Tryz.prog 48 (mD x m).1 (mD x m).2.1 (mD x m).2.2.1 (mD x m).2.2.2
theorem aK9 (x:cD) (m:Int) (h0:0≤m) (hm:m+5*((bO x:Nat):Int)≤4611686018427387904):aAN x m:=by
 refine oA bG aR Tryz.func48 (by kernel_rfl) (by kernel_rfl) (kA (kO x.tables m) [(0,0)]<| .fin [(0,0)]) (p:=vO x.tables m∧m=m∧x.tables.map aD=x.tables.map aD∧(m+((lB x.tables:Nat):Int))=(m+((eC x:Nat):Int))∧(rM m x.tables).map aD=((uC m x).tables).map aD∧True) (by kernel_rfl) ?_
 have hS:eC x=lB x.tables:=rfl
 have hC:bO x=dK x.tables:=rfl
 have:=qY x.tables
 refine ⟨aHf _ _ (by omega) (by first | omega | (dsimp only;omega)),rfl,rfl,?_,?_,trivial⟩
 ·first | rfl | (rw [hS];omega)
 ·first | rfl | (rw [hS];omega)
abbrev kP (x:List aN) (m:Int):List AV × List (Nat × Rs) × AV × List (Nat × Rs):=([.own 0,vI m],[(0,.arr 131 3 true (x.map aJ))],vI (m+((fQ x:Nat):Int)),[(0,.arr 131 3 true ((rN m x).map aJ))])
abbrev vP (x:List aN) (m:Int):Prop:=nA Tryz.prog 49 (kP x m).1 (kP x m).2.1 (kP x m).2.2.1 (kP x m).2.2.2
theorem aHg (x:List aN) (m:Int) (h0:0≤m) (hm:m+5*((bY x:Nat):Int)≤4611686018427387904):vP x m:=by
 refine oA bG aR Tryz.func49 (by kernel_rfl) (by kernel_rfl) (.loop (Nat × Int × (List aN)) (Q3 Nat Int (List aN)) [1,5,6,7,8,9,10,11,12,13,14,15,16,17,18,19,20,21,22,23,24,25,26,27,28,29,30,31,32,33] [0,2407] (fun yy0=>[(5,vI (yy0.1:Int)),(1,vI yy0.2.1)]) (fun yy0=>[(0,some (.arr 131 3 true (yy0.2.2.map aJ)))]) (fun yy0=>yy0.1≤x.length∧yy0.2.1=m+((bR eI (x.take yy0.1):Nat):Int)∧yy0.2.2=dC oM eI m x yy0.1) (fun yy0=>x.length - yy0.1) (fun yy0=> .len yy0.2.2.length<| .br (.call (.p none (.str (bB yy0.2.1))) []<| .len yy0.2.2.length<| .setm aN aJ yy0.2.2 (fun s4_6=>(⟨bB yy0.2.1,s4_6.src,s4_6.dst⟩:aN)) (fun s4_6=> .split 6 0 yy0.1 1 2407 aN aJ (yy0.2.2.set yy0.1 (⟨bB yy0.2.1,s4_6.src,s4_6.dst⟩:aN)) (fun b2407=> .len ((yy0.2.2.set yy0.1 (⟨bB yy0.2.1,s4_6.src,s4_6.dst⟩:aN)).length)<| kA (lM b2407.src (yy0.2.1+(1:Int))) [(0,2407)]<| .join 7 0 2407 aN aJ (yy0.2.2.set yy0.1 (⟨bB yy0.2.1,s4_6.src,s4_6.dst⟩:aN)) (fun a2407=>(⟨a2407.name,dF (yy0.2.1+(1:Int)) b2407.src,a2407.dst⟩:aN)) (fun a2407=> .len (((yy0.2.2.set yy0.1 (⟨bB yy0.2.1,s4_6.src,s4_6.dst⟩:aN)).set yy0.1 (⟨a2407.name,dF (yy0.2.1+(1:Int)) b2407.src,a2407.dst⟩:aN)).length)<| .setm aN aJ ((yy0.2.2.set yy0.1 (⟨bB yy0.2.1,s4_6.src,s4_6.dst⟩:aN)).set yy0.1 (⟨a2407.name,dF (yy0.2.1+(1:Int)) b2407.src,a2407.dst⟩:aN)) (fun s7_5=>(⟨s7_5.name,s7_5.src,(yy0.2.1+(1:Int))+((cT b2407.src:Nat):Int)⟩:aN)) (fun s7_5=> .back [(0,0)]))))) (.fin [(0,0)]))) (p:=(∃(k:Nat) (z:Int) (r:List aN),(0:Int)=(k:Int)∧m=z∧x.map aJ=r.map aJ∧k≤x.length∧z=m+((bR eI (x.take k):Nat):Int)∧r=dC oM eI m x k)∧ ∀(k:Nat) (z:Int) (r:List aN),(k≤x.length∧z=m+((bR eI (x.take k):Nat):Int)∧r=dC oM eI m x k)→Lm aJ r∧(((decide ((k:Int)<((r.length:Nat):Int)))=true→pK z∧(0≤(k:Int)∧Lm aJ r∧(k:Int)<((r.length:Nat):Int)∧(r.map aJ=r.map aJ∧k<r.length∧ ∀s4_6,r[k]? =some s4_6→0+1≤(aJ s4_6).length∧(aJ s4_6).take 0++((aJ (⟨bB z,s4_6.src,s4_6.dst⟩:aN)).drop 0).take 1++(aJ s4_6).drop (0+1)=aJ (⟨bB z,s4_6.src,s4_6.dst⟩:aN)∧(bB z)=((⟨bB z,s4_6.src,s4_6.dst⟩:aN).name)∧(cC (z+(1:Int))∧((r.set k (⟨bB z,s4_6.src,s4_6.dst⟩:aN)).map aJ=(r.set k (⟨bB z,s4_6.src,s4_6.dst⟩:aN)).map aJ∧k<(r.set k (⟨bB z,s4_6.src,s4_6.dst⟩:aN)).length∧ ∀b2407,(r.set k (⟨bB z,s4_6.src,s4_6.dst⟩:aN))[k]? =some b2407→0≤(k:Int)∧Lm aJ (r.set k (⟨bB z,s4_6.src,s4_6.dst⟩:aN))∧(k:Int)<(((r.set k (⟨bB z,s4_6.src,s4_6.dst⟩:aN)).length:Nat):Int)∧(k=k∧(pL b2407.src (z+(1:Int))∧(z+(1:Int))=(z+(1:Int))∧b2407.src.map intD=b2407.src.map intD∧((r.set k (⟨bB z,s4_6.src,s4_6.dst⟩:aN)).map aJ=(r.set k (⟨bB z,s4_6.src,s4_6.dst⟩:aN)).map aJ∧k<(r.set k (⟨bB z,s4_6.src,s4_6.dst⟩:aN)).length∧ ∀a2407,(r.set k (⟨bB z,s4_6.src,s4_6.dst⟩:aN))[k]? =some a2407→((aJ a2407).take 1++ .sl 3 1 ((dF (z+(1:Int)) b2407.src).map intD)::(aJ a2407).drop (1+1)=aJ (⟨a2407.name,dF (z+(1:Int)) b2407.src,a2407.dst⟩:aN))∧0≤(k:Int)∧Lm aJ ((r.set k (⟨bB z,s4_6.src,s4_6.dst⟩:aN)).set k (⟨a2407.name,dF (z+(1:Int)) b2407.src,a2407.dst⟩:aN))∧(k:Int)<((((r.set k (⟨bB z,s4_6.src,s4_6.dst⟩:aN)).set k (⟨a2407.name,dF (z+(1:Int)) b2407.src,a2407.dst⟩:aN)).length:Nat):Int)∧(((r.set k (⟨bB z,s4_6.src,s4_6.dst⟩:aN)).set k (⟨a2407.name,dF (z+(1:Int)) b2407.src,a2407.dst⟩:aN)).map aJ=((r.set k (⟨bB z,s4_6.src,s4_6.dst⟩:aN)).set k (⟨a2407.name,dF (z+(1:Int)) b2407.src,a2407.dst⟩:aN)).map aJ∧k<((r.set k (⟨bB z,s4_6.src,s4_6.dst⟩:aN)).set k (⟨a2407.name,dF (z+(1:Int)) b2407.src,a2407.dst⟩:aN)).length∧ ∀s7_5,((r.set k (⟨bB z,s4_6.src,s4_6.dst⟩:aN)).set k (⟨a2407.name,dF (z+(1:Int)) b2407.src,a2407.dst⟩:aN))[k]? =some s7_5→2+1≤(aJ s7_5).length∧(aJ s7_5).take 2++((aJ (⟨s7_5.name,s7_5.src,(z+(1:Int))+((cT b2407.src:Nat):Int)⟩:aN)).drop 2).take 1++(aJ s7_5).drop (2+1)=aJ (⟨s7_5.name,s7_5.src,(z+(1:Int))+((cT b2407.src:Nat):Int)⟩:aN)∧((z+(1:Int))+((cT b2407.src:Nat):Int))=((⟨s7_5.name,s7_5.src,(z+(1:Int))+((cT b2407.src:Nat):Int)⟩:aN).dst)∧cC (((z+(1:Int))+((cT b2407.src:Nat):Int))+(1:Int))∧cC ((k:Int)+(1:Int))∧ ∃(k' :Nat) (z' :Int) (r' :List aN),((k:Int)+(1:Int))=(k' :Int)∧(((z+(1:Int))+((cT b2407.src:Nat):Int))+(1:Int))=z' ∧(((r.set k (⟨bB z,s4_6.src,s4_6.dst⟩:aN)).set k (⟨a2407.name,dF (z+(1:Int)) b2407.src,a2407.dst⟩:aN)).set k (⟨s7_5.name,s7_5.src,(z+(1:Int))+((cT b2407.src:Nat):Int)⟩:aN)).map aJ=r'.map aJ∧(k' ≤x.length∧z' =m+((bR eI (x.take k'):Nat):Int)∧r' =dC oM eI m x k')∧x.length - k' <x.length - k)))))))))∧((decide ((k:Int)<((r.length:Nat):Int)))=false→z=(m+((fQ x:Nat):Int))∧r.map aJ=(rN m x).map aJ∧True))) (by kernel_rfl) ?_
 have hS:fQ x=bR eI x:=rfl
 have hC:bY x=x.length+bR cI x:=rfl
 refine ⟨⟨0,m,x,rfl,rfl,rfl,Nat.zero_le _,by simp [bR],(iO _ _ _ _).symm⟩,fun k z r ⟨hk,hz,hr⟩=>?_⟩
 have hrl:r.length=x.length:=by rw [hr];exact jM _ _ _ _ _ hk
 refine ⟨List.length_map _,fun c0=>?_,fun c0=>?_⟩
 ·replace c0:=yq c0
  obtain ⟨y,hy⟩:=cK (l:=x) (k:=k) (by omega)
  have hry:r[k]? =some y:=by rw [hr,jN _ _ _ _ _ (by omega)];exact hy
  have hs:=dJ eI hy
  have hle:=gD eI x (k+1)
  have hA:bR eI (x.take k)≤5*(k+bR cI (x.take k)):=aN0 xQ x k hk
  have hB:=dJ cI hy
  have hD:=gD cI x (k+1)
  have hF:cI y=ByteArray.size y.name+bS y.src:=rfl
  have hle5:=qZ x
  have hE:eI y=1+cT y.src+1:=rfl
  have hy_src:=jU y.src
  refine ⟨aAz _ (by omega),by omega,List.length_map _,by first | omega | (simp only [List.length_set];omega),rfl,by first | omega | (simp only [List.length_set];omega),fun s4_6 hs4_6=>?_⟩
  obtain rfl:=(aY hry hs4_6).symm
  refine ⟨Nat.le_of_ble_eq_true rfl,rfl,rfl,⟨by first | omega | (dsimp only;omega),by first | omega | (dsimp only;omega)⟩,rfl,by first | omega | (simp only [List.length_set];omega),fun b2407 hb2407=>?_⟩
  obtain rfl:=kC hb2407
  refine ⟨by omega,List.length_map _,by first | omega | (simp only [List.length_set];omega),rfl,aBA _ _ (by omega) (by first | omega | (dsimp only;omega)),rfl,rfl,rfl,by first | omega | (simp only [List.length_set];omega),fun a2407 ha2407=>⟨rfl,?_⟩⟩
  obtain rfl:=kC ha2407
  refine ⟨by omega,List.length_map _,by first | omega | (simp only [List.length_set];omega),rfl,by first | omega | (simp only [List.length_set];omega),fun s7_5 hs7_5=>?_⟩
  obtain rfl:=kC hs7_5
  refine ⟨Nat.le_of_ble_eq_true rfl,rfl,rfl,⟨by first | omega | (dsimp only;omega),by first | omega | (dsimp only;omega)⟩,⟨by first | omega | (dsimp only;omega),by first | omega | (dsimp only;omega)⟩,?_⟩
  exact ⟨k+1,_,_,rfl,rfl,rfl,⟨by omega,by rw [hs];(try dsimp only);omega,by subst hz hr;(try simp only [List.set_set]);exact jO _ _ _ _ _ _ hy⟩,by omega⟩
 ·replace c0:=nq c0
  have hkx:k=x.length:=by omega
  rw [hkx,List.take_length] at hz
  rw [hkx,iP] at hr
  refine ⟨?_,?_,trivial⟩
  ·first | (rw [hz];rfl) | (rw [hr];rfl) | (rw [hz,hS])
  ·first | (rw [hz];rfl) | (rw [hr];rfl) | (rw [hz,hS])
abbrev lJ (x:List aL) (m:Int):List AV × List (Nat × Rs) × AV × List (Nat × Rs):=([.own 0,vI m],[(0,.arr 133 4 true (x.map aM))],vI (m+((mC x:Nat):Int)),[(0,.arr 133 4 true ((uD m x).map aM))])
abbrev xR (x:List aL) (m:Int):Prop:=nA Tryz.prog 50 (lJ x m).1 (lJ x m).2.1 (lJ x m).2.2.1 (lJ x m).2.2.2
theorem aI2 (x:List aL) (m:Int) (h0:0≤m) (hm:m+5*((cR x:Nat):Int)≤4611686018427387904):xR x m:=by
 refine oA bG aR Tryz.func50 (by kernel_rfl) (by kernel_rfl) (.loop (Nat × Int × (List aL)) (Q3 Nat Int (List aL)) [1,5,6,7,8,9,10,11,12,13,14,15,16,17,18,19,20,21,22,23,24,25,26,27,28,29,30,31,32,33,34,35,36,37,38,39,40,41] [0] (fun yy0=>[(5,vI (yy0.1:Int)),(1,vI yy0.2.1)]) (fun yy0=>[(0,some (.arr 133 4 true (yy0.2.2.map aM)))]) (fun yy0=>yy0.1≤x.length∧yy0.2.1=m+((bR eO (x.take yy0.1):Nat):Int)∧yy0.2.2=dC qT eO m x yy0.1) (fun yy0=>x.length - yy0.1) (fun yy0=> .len yy0.2.2.length<| .br (.call (.p none (.str (bB yy0.2.1))) []<| .len yy0.2.2.length<| .set aL aM yy0.2.2 (fun s4_6=>(⟨bB yy0.2.1,s4_6.column,s4_6.into,s4_6.intoColumn⟩:aL)) (fun s4_6=> .len ((yy0.2.2.set yy0.1 (⟨bB yy0.2.1,s4_6.column,s4_6.into,s4_6.intoColumn⟩:aL)).length)<| .set aL aM (yy0.2.2.set yy0.1 (⟨bB yy0.2.1,s4_6.column,s4_6.into,s4_6.intoColumn⟩:aL)) (fun s6_5=>(⟨s6_5.name,yy0.2.1+(1:Int),s6_5.into,s6_5.intoColumn⟩:aL)) (fun s6_5=> .call (.p none (.str (bB ((yy0.2.1+(1:Int))+(1:Int))))) []<| .len (((yy0.2.2.set yy0.1 (⟨bB yy0.2.1,s4_6.column,s4_6.into,s4_6.intoColumn⟩:aL)).set yy0.1 (⟨s6_5.name,yy0.2.1+(1:Int),s6_5.into,s6_5.intoColumn⟩:aL)).length)<| .set aL aM ((yy0.2.2.set yy0.1 (⟨bB yy0.2.1,s4_6.column,s4_6.into,s4_6.intoColumn⟩:aL)).set yy0.1 (⟨s6_5.name,yy0.2.1+(1:Int),s6_5.into,s6_5.intoColumn⟩:aL)) (fun s8_6=>(⟨s8_6.name,s8_6.column,bB ((yy0.2.1+(1:Int))+(1:Int)),s8_6.intoColumn⟩:aL)) (fun s8_6=> .len ((((yy0.2.2.set yy0.1 (⟨bB yy0.2.1,s4_6.column,s4_6.into,s4_6.intoColumn⟩:aL)).set yy0.1 (⟨s6_5.name,yy0.2.1+(1:Int),s6_5.into,s6_5.intoColumn⟩:aL)).set yy0.1 (⟨s8_6.name,s8_6.column,bB ((yy0.2.1+(1:Int))+(1:Int)),s8_6.intoColumn⟩:aL)).length)<| .set aL aM (((yy0.2.2.set yy0.1 (⟨bB yy0.2.1,s4_6.column,s4_6.into,s4_6.intoColumn⟩:aL)).set yy0.1 (⟨s6_5.name,yy0.2.1+(1:Int),s6_5.into,s6_5.intoColumn⟩:aL)).set yy0.1 (⟨s8_6.name,s8_6.column,bB ((yy0.2.1+(1:Int))+(1:Int)),s8_6.intoColumn⟩:aL)) (fun s10_5=>(⟨s10_5.name,s10_5.column,s10_5.into,((yy0.2.1+(1:Int))+(1:Int))+(1:Int)⟩:aL)) (fun s10_5=> .back [(0,0)]))))) (.fin [(0,0)]))) (p:=(∃(k:Nat) (z:Int) (r:List aL),(0:Int)=(k:Int)∧m=z∧x.map aM=r.map aM∧k≤x.length∧z=m+((bR eO (x.take k):Nat):Int)∧r=dC qT eO m x k)∧ ∀(k:Nat) (z:Int) (r:List aL),(k≤x.length∧z=m+((bR eO (x.take k):Nat):Int)∧r=dC qT eO m x k)→Lm aM r∧(((decide ((k:Int)<((r.length:Nat):Int)))=true→pK z∧(0≤(k:Int)∧Lm aM r∧(k:Int)<((r.length:Nat):Int)∧(r.map aM=r.map aM∧k<r.length∧ ∀s4_6,r[k]? =some s4_6→dT (aM s4_6)=true∧0+1≤(aM s4_6).length∧(aM s4_6).take 0++[.str (bB z)]++(aM s4_6).drop (0+1)=aM (⟨bB z,s4_6.column,s4_6.into,s4_6.intoColumn⟩:aL)∧(cC (z+(1:Int))∧(0≤(k:Int)∧Lm aM (r.set k (⟨bB z,s4_6.column,s4_6.into,s4_6.intoColumn⟩:aL))∧(k:Int)<(((r.set k (⟨bB z,s4_6.column,s4_6.into,s4_6.intoColumn⟩:aL)).length:Nat):Int)∧((r.set k (⟨bB z,s4_6.column,s4_6.into,s4_6.intoColumn⟩:aL)).map aM=(r.set k (⟨bB z,s4_6.column,s4_6.into,s4_6.intoColumn⟩:aL)).map aM∧k<(r.set k (⟨bB z,s4_6.column,s4_6.into,s4_6.intoColumn⟩:aL)).length∧ ∀s6_5,(r.set k (⟨bB z,s4_6.column,s4_6.into,s4_6.intoColumn⟩:aL))[k]? =some s6_5→dT (aM s6_5)=true∧1+1≤(aM s6_5).length∧(aM s6_5).take 1++[.int .i64 (z+(1:Int))]++(aM s6_5).drop (1+1)=aM (⟨s6_5.name,z+(1:Int),s6_5.into,s6_5.intoColumn⟩:aL)∧(cC ((z+(1:Int))+(1:Int))∧(pK ((z+(1:Int))+(1:Int))∧(0≤(k:Int)∧Lm aM ((r.set k (⟨bB z,s4_6.column,s4_6.into,s4_6.intoColumn⟩:aL)).set k (⟨s6_5.name,z+(1:Int),s6_5.into,s6_5.intoColumn⟩:aL))∧(k:Int)<((((r.set k (⟨bB z,s4_6.column,s4_6.into,s4_6.intoColumn⟩:aL)).set k (⟨s6_5.name,z+(1:Int),s6_5.into,s6_5.intoColumn⟩:aL)).length:Nat):Int)∧(((r.set k (⟨bB z,s4_6.column,s4_6.into,s4_6.intoColumn⟩:aL)).set k (⟨s6_5.name,z+(1:Int),s6_5.into,s6_5.intoColumn⟩:aL)).map aM=((r.set k (⟨bB z,s4_6.column,s4_6.into,s4_6.intoColumn⟩:aL)).set k (⟨s6_5.name,z+(1:Int),s6_5.into,s6_5.intoColumn⟩:aL)).map aM∧k<((r.set k (⟨bB z,s4_6.column,s4_6.into,s4_6.intoColumn⟩:aL)).set k (⟨s6_5.name,z+(1:Int),s6_5.into,s6_5.intoColumn⟩:aL)).length∧ ∀s8_6,((r.set k (⟨bB z,s4_6.column,s4_6.into,s4_6.intoColumn⟩:aL)).set k (⟨s6_5.name,z+(1:Int),s6_5.into,s6_5.intoColumn⟩:aL))[k]? =some s8_6→dT (aM s8_6)=true∧2+1≤(aM s8_6).length∧(aM s8_6).take 2++[.str (bB ((z+(1:Int))+(1:Int)))]++(aM s8_6).drop (2+1)=aM (⟨s8_6.name,s8_6.column,bB ((z+(1:Int))+(1:Int)),s8_6.intoColumn⟩:aL)∧(cC (((z+(1:Int))+(1:Int))+(1:Int))∧(0≤(k:Int)∧Lm aM (((r.set k (⟨bB z,s4_6.column,s4_6.into,s4_6.intoColumn⟩:aL)).set k (⟨s6_5.name,z+(1:Int),s6_5.into,s6_5.intoColumn⟩:aL)).set k (⟨s8_6.name,s8_6.column,bB ((z+(1:Int))+(1:Int)),s8_6.intoColumn⟩:aL))∧(k:Int)<(((((r.set k (⟨bB z,s4_6.column,s4_6.into,s4_6.intoColumn⟩:aL)).set k (⟨s6_5.name,z+(1:Int),s6_5.into,s6_5.intoColumn⟩:aL)).set k (⟨s8_6.name,s8_6.column,bB ((z+(1:Int))+(1:Int)),s8_6.intoColumn⟩:aL)).length:Nat):Int)∧((((r.set k (⟨bB z,s4_6.column,s4_6.into,s4_6.intoColumn⟩:aL)).set k (⟨s6_5.name,z+(1:Int),s6_5.into,s6_5.intoColumn⟩:aL)).set k (⟨s8_6.name,s8_6.column,bB ((z+(1:Int))+(1:Int)),s8_6.intoColumn⟩:aL)).map aM=(((r.set k (⟨bB z,s4_6.column,s4_6.into,s4_6.intoColumn⟩:aL)).set k (⟨s6_5.name,z+(1:Int),s6_5.into,s6_5.intoColumn⟩:aL)).set k (⟨s8_6.name,s8_6.column,bB ((z+(1:Int))+(1:Int)),s8_6.intoColumn⟩:aL)).map aM∧k<(((r.set k (⟨bB z,s4_6.column,s4_6.into,s4_6.intoColumn⟩:aL)).set k (⟨s6_5.name,z+(1:Int),s6_5.into,s6_5.intoColumn⟩:aL)).set k (⟨s8_6.name,s8_6.column,bB ((z+(1:Int))+(1:Int)),s8_6.intoColumn⟩:aL)).length∧ ∀s10_5,(((r.set k (⟨bB z,s4_6.column,s4_6.into,s4_6.intoColumn⟩:aL)).set k (⟨s6_5.name,z+(1:Int),s6_5.into,s6_5.intoColumn⟩:aL)).set k (⟨s8_6.name,s8_6.column,bB ((z+(1:Int))+(1:Int)),s8_6.intoColumn⟩:aL))[k]? =some s10_5→dT (aM s10_5)=true∧3+1≤(aM s10_5).length∧(aM s10_5).take 3++[.int .i64 (((z+(1:Int))+(1:Int))+(1:Int))]++(aM s10_5).drop (3+1)=aM (⟨s10_5.name,s10_5.column,s10_5.into,((z+(1:Int))+(1:Int))+(1:Int)⟩:aL)∧cC ((((z+(1:Int))+(1:Int))+(1:Int))+(1:Int))∧cC ((k:Int)+(1:Int))∧ ∃(k' :Nat) (z' :Int) (r' :List aL),((k:Int)+(1:Int))=(k' :Int)∧((((z+(1:Int))+(1:Int))+(1:Int))+(1:Int))=z' ∧((((r.set k (⟨bB z,s4_6.column,s4_6.into,s4_6.intoColumn⟩:aL)).set k (⟨s6_5.name,z+(1:Int),s6_5.into,s6_5.intoColumn⟩:aL)).set k (⟨s8_6.name,s8_6.column,bB ((z+(1:Int))+(1:Int)),s8_6.intoColumn⟩:aL)).set k (⟨s10_5.name,s10_5.column,s10_5.into,((z+(1:Int))+(1:Int))+(1:Int)⟩:aL)).map aM=r'.map aM∧(k' ≤x.length∧z' =m+((bR eO (x.take k'):Nat):Int)∧r' =dC qT eO m x k')∧x.length - k' <x.length - k)))))))))))))∧((decide ((k:Int)<((r.length:Nat):Int)))=false→z=(m+((mC x:Nat):Int))∧r.map aM=(uD m x).map aM∧True))) (by kernel_rfl) ?_
 have hS:mC x=bR eO x:=rfl
 have hC:cR x=x.length+bR cU x:=rfl
 refine ⟨⟨0,m,x,rfl,rfl,rfl,Nat.zero_le _,by simp [bR],(iO _ _ _ _).symm⟩,fun k z r ⟨hk,hz,hr⟩=>?_⟩
 have hrl:r.length=x.length:=by rw [hr];exact jM _ _ _ _ _ hk
 refine ⟨List.length_map _,fun c0=>?_,fun c0=>?_⟩
 ·replace c0:=yq c0
  obtain ⟨y,hy⟩:=cK (l:=x) (k:=k) (by omega)
  have hry:r[k]? =some y:=by rw [hr,jN _ _ _ _ _ (by omega)];exact hy
  have hs:=dJ eO hy
  have hle:=gD eO x (k+1)
  have hA:bR eO (x.take k)≤5*(k+bR cU (x.take k)):=aN0 aAM x k hk
  have hB:=dJ cU hy
  have hD:=gD cU x (k+1)
  have hF:cU y=ByteArray.size y.name+ByteArray.size y.into:=rfl
  have hle5:=sW x
  have hE:eO y=1+1+1+1:=rfl
  refine ⟨aAz _ (by omega),by omega,List.length_map _,by first | omega | (simp only [List.length_set];omega),rfl,by first | omega | (simp only [List.length_set];omega),fun s4_6 hs4_6=>⟨rfl,Nat.le_of_ble_eq_true rfl,rfl,?_⟩⟩
  obtain rfl:=(aY hry hs4_6).symm
  refine ⟨⟨by first | omega | (dsimp only;omega),by first | omega | (dsimp only;omega)⟩,by omega,List.length_map _,by first | omega | (simp only [List.length_set];omega),rfl,by first | omega | (simp only [List.length_set];omega),fun s6_5 hs6_5=>⟨rfl,Nat.le_of_ble_eq_true rfl,rfl,?_⟩⟩
  obtain rfl:=kC hs6_5
  refine ⟨⟨by first | omega | (dsimp only;omega),by first | omega | (dsimp only;omega)⟩,aAz _ (by omega),by omega,List.length_map _,by first | omega | (simp only [List.length_set];omega),rfl,by first | omega | (simp only [List.length_set];omega),fun s8_6 hs8_6=>⟨rfl,Nat.le_of_ble_eq_true rfl,rfl,?_⟩⟩
  obtain rfl:=kC hs8_6
  refine ⟨⟨by first | omega | (dsimp only;omega),by first | omega | (dsimp only;omega)⟩,by omega,List.length_map _,by first | omega | (simp only [List.length_set];omega),rfl,by first | omega | (simp only [List.length_set];omega),fun s10_5 hs10_5=>⟨rfl,Nat.le_of_ble_eq_true rfl,rfl,?_⟩⟩
  obtain rfl:=kC hs10_5
  refine ⟨⟨by first | omega | (dsimp only;omega),by first | omega | (dsimp only;omega)⟩,⟨by first | omega | (dsimp only;omega),by first | omega | (dsimp only;omega)⟩,?_⟩
  exact ⟨k+1,_,_,rfl,rfl,rfl,⟨by omega,by rw [hs];(try dsimp only);omega,by subst hz hr;(try simp only [List.set_set]);exact jO _ _ _ _ _ _ hy⟩,by omega⟩
 ·replace c0:=nq c0
  have hkx:k=x.length:=by omega
  rw [hkx,List.take_length] at hz
  rw [hkx,iP] at hr
  refine ⟨?_,?_,trivial⟩
  ·first | (rw [hz];rfl) | (rw [hr];rfl) | (rw [hz,hS])
  ·first | (rw [hz];rfl) | (rw [hr];rfl) | (rw [hz,hS])
abbrev tB (x:StoreD) (m:Int):List AV × List (Nat × Rs) × AV × List (Nat × Rs):=([.agg [.own 0,vI x.catalogue.version,.own 1,.own 2,.own 3],vI m],[(0,.arr 167 3 true (x.database.tables.map aP)),(1,.arr 161 4 true (x.catalogue.tables.map aD)),(2,.arr 131 3 true (x.dependencies.map aJ)),(3,.arr 133 4 true (x.inclusions.map aM))],vI (m+((lV x:Nat):Int)),[(0,.arr 167 3 true ((((uE m x).database).tables).map aP)),(1,.arr 161 4 true ((((uE m x).catalogue).tables).map aD)),(2,.arr 131 3 true (((uE m x).dependencies).map aJ)),(3,.arr 133 4 true (((uE m x).inclusions).map aM))])
abbrev aHh (x:StoreD) (m:Int):Prop:=nA Tryz.prog 17 (tB x m).1 (tB x m).2.1 (tB x m).2.2.1 (tB x m).2.2.2
theorem aSP (x:StoreD) (m:Int) (h0:0≤m) (hm:m+5*((dU x:Nat):Int)≤4611686018427387904):aHh x m:=by
 refine oA bG aR Tryz.func17 (by kernel_rfl) (by kernel_rfl) (kA (mU x.database m) [(0,0)]<| kA (mD x.catalogue (m+((dO x.database:Nat):Int))) [(0,1)]<| kA (kP x.dependencies ((m+((dO x.database:Nat):Int))+((eC x.catalogue:Nat):Int))) [(0,2)]<| kA (lJ x.inclusions (((m+((dO x.database:Nat):Int))+((eC x.catalogue:Nat):Int))+((fQ x.dependencies:Nat):Int))) [(0,3)]<| .fin [(0,0),(1,1),(2,2),(3,3)]) (p:=aBO x.database m∧m=m∧x.database.tables.map aP=x.database.tables.map aP∧aAN x.catalogue (m+((dO x.database:Nat):Int))∧x.catalogue.version=x.catalogue.version∧(m+((dO x.database:Nat):Int))=(m+((dO x.database:Nat):Int))∧x.catalogue.tables.map aD=x.catalogue.tables.map aD∧vP x.dependencies ((m+((dO x.database:Nat):Int))+((eC x.catalogue:Nat):Int))∧((m+((dO x.database:Nat):Int))+((eC x.catalogue:Nat):Int))=((m+((dO x.database:Nat):Int))+((eC x.catalogue:Nat):Int))∧x.dependencies.map aJ=x.dependencies.map aJ∧xR x.inclusions (((m+((dO x.database:Nat):Int))+((eC x.catalogue:Nat):Int))+((fQ x.dependencies:Nat):Int))∧(((m+((dO x.database:Nat):Int))+((eC x.catalogue:Nat):Int))+((fQ x.dependencies:Nat):Int))=(((m+((dO x.database:Nat):Int))+((eC x.catalogue:Nat):Int))+((fQ x.dependencies:Nat):Int))∧x.inclusions.map aM=x.inclusions.map aM∧((((m+((dO x.database:Nat):Int))+((eC x.catalogue:Nat):Int))+((fQ x.dependencies:Nat):Int))+((mC x.inclusions:Nat):Int))=(m+((lV x:Nat):Int))∧((wZ m x.database).tables).map aP=(((uE m x).database).tables).map aP∧((uC (m+((dO x.database:Nat):Int)) x.catalogue).tables).map aD=(((uE m x).catalogue).tables).map aD∧(rN ((m+((dO x.database:Nat):Int))+((eC x.catalogue:Nat):Int)) x.dependencies).map aJ=((uE m x).dependencies).map aJ∧(uD (((m+((dO x.database:Nat):Int))+((eC x.catalogue:Nat):Int))+((fQ x.dependencies:Nat):Int)) x.inclusions).map aM=((uE m x).inclusions).map aM∧True) (by kernel_rfl) ?_
 have hS:lV x=dO x.database+eC x.catalogue+fQ x.dependencies+mC x.inclusions:=rfl
 have hC:dU x=bH x.database+bO x.catalogue+bY x.dependencies+cR x.inclusions:=rfl
 have:=aBL x.database
 have:=aAL x.catalogue
 have:=qZ x.dependencies
 have:=sW x.inclusions
 refine ⟨aMS _ _ (by omega) (by first | omega | (dsimp only;omega)),rfl,rfl,aK9 _ _ (by omega) (by first | omega | (dsimp only;omega)),rfl,rfl,rfl,aHg _ _ (by omega) (by first | omega | (dsimp only;omega)),rfl,rfl,aI2 _ _ (by omega) (by first | omega | (dsimp only;omega)),rfl,rfl,?_,?_,?_,?_,?_,trivial⟩
 ·first | rfl | (rw [hS];omega)
 ·first | rfl | (rw [hS];omega)
 ·first | rfl | (rw [hS];omega)
 ·first | rfl | (rw [hS];omega)
 ·first | rfl | (rw [hS];omega)
abbrev mE (x:List RationalD) (m:Int):List AV × List (Nat × Rs) × AV × List (Nat × Rs):=([.own 0,vI m],[(0,.arr 70 2 true (x.map aW))],vI (m+((sY x:Nat):Int)),[(0,.arr 70 2 true ((aHb m x).map aW))])
abbrev aAO (x:List RationalD) (m:Int):Prop:=nA Tryz.prog 19 (mE x m).1 (mE x m).2.1 (mE x m).2.2.1 (mE x m).2.2.2
theorem aKa (x:List RationalD) (m:Int) (h0:0≤m) (hm:m+5*((gK x:Nat):Int)≤4611686018427387904):aAO x m:=by
 refine oA bG aR Tryz.func19 (by kernel_rfl) (by kernel_rfl) (.loop (Nat × Int × (List RationalD)) (Q3 Nat Int (List RationalD)) [1,5,6,7,8,9,10,11,12,13,14,15,16,17,18,19,20,21,22,23,24,25] [0] (fun yy0=>[(5,vI (yy0.1:Int)),(1,vI yy0.2.1)]) (fun yy0=>[(0,some (.arr 70 2 true (yy0.2.2.map aW)))]) (fun yy0=>yy0.1≤x.length∧yy0.2.1=m+((bR fJ (x.take yy0.1):Nat):Int)∧yy0.2.2=dC sX fJ m x yy0.1) (fun yy0=>x.length - yy0.1) (fun yy0=> .len yy0.2.2.length<| .br (.len yy0.2.2.length<| .set RationalD aW yy0.2.2 (fun s4_5=>(⟨yy0.2.1,s4_5.den⟩:RationalD)) (fun s4_5=> .len ((yy0.2.2.set yy0.1 (⟨yy0.2.1,s4_5.den⟩:RationalD)).length)<| .set RationalD aW (yy0.2.2.set yy0.1 (⟨yy0.2.1,s4_5.den⟩:RationalD)) (fun s6_5=>(⟨s6_5.num,yy0.2.1+(1:Int)⟩:RationalD)) (fun s6_5=> .back [(0,0)]))) (.fin [(0,0)]))) (p:=(∃(k:Nat) (z:Int) (r:List RationalD),(0:Int)=(k:Int)∧m=z∧x.map aW=r.map aW∧k≤x.length∧z=m+((bR fJ (x.take k):Nat):Int)∧r=dC sX fJ m x k)∧ ∀(k:Nat) (z:Int) (r:List RationalD),(k≤x.length∧z=m+((bR fJ (x.take k):Nat):Int)∧r=dC sX fJ m x k)→Lm aW r∧(((decide ((k:Int)<((r.length:Nat):Int)))=true→0≤(k:Int)∧Lm aW r∧(k:Int)<((r.length:Nat):Int)∧(r.map aW=r.map aW∧k<r.length∧ ∀s4_5,r[k]? =some s4_5→dT (aW s4_5)=true∧0+1≤(aW s4_5).length∧(aW s4_5).take 0++[.int .i64 z]++(aW s4_5).drop (0+1)=aW (⟨z,s4_5.den⟩:RationalD)∧(cC (z+(1:Int))∧(0≤(k:Int)∧Lm aW (r.set k (⟨z,s4_5.den⟩:RationalD))∧(k:Int)<(((r.set k (⟨z,s4_5.den⟩:RationalD)).length:Nat):Int)∧((r.set k (⟨z,s4_5.den⟩:RationalD)).map aW=(r.set k (⟨z,s4_5.den⟩:RationalD)).map aW∧k<(r.set k (⟨z,s4_5.den⟩:RationalD)).length∧ ∀s6_5,(r.set k (⟨z,s4_5.den⟩:RationalD))[k]? =some s6_5→dT (aW s6_5)=true∧1+1≤(aW s6_5).length∧(aW s6_5).take 1++[.int .i64 (z+(1:Int))]++(aW s6_5).drop (1+1)=aW (⟨s6_5.num,z+(1:Int)⟩:RationalD)∧cC ((z+(1:Int))+(1:Int))∧cC ((k:Int)+(1:Int))∧ ∃(k' :Nat) (z' :Int) (r' :List RationalD),((k:Int)+(1:Int))=(k' :Int)∧((z+(1:Int))+(1:Int))=z' ∧((r.set k (⟨z,s4_5.den⟩:RationalD)).set k (⟨s6_5.num,z+(1:Int)⟩:RationalD)).map aW=r'.map aW∧(k' ≤x.length∧z' =m+((bR fJ (x.take k'):Nat):Int)∧r' =dC sX fJ m x k')∧x.length - k' <x.length - k)))))∧((decide ((k:Int)<((r.length:Nat):Int)))=false→z=(m+((sY x:Nat):Int))∧r.map aW=(aHb m x).map aW∧True))) (by kernel_rfl) ?_
 have hS:sY x=bR fJ x:=rfl
 have hC:gK x=x.length:=rfl
 refine ⟨⟨0,m,x,rfl,rfl,rfl,Nat.zero_le _,by simp [bR],(iO _ _ _ _).symm⟩,fun k z r ⟨hk,hz,hr⟩=>?_⟩
 have hrl:r.length=x.length:=by rw [hr];exact jM _ _ _ _ _ hk
 refine ⟨List.length_map _,fun c0=>?_,fun c0=>?_⟩
 ·replace c0:=yq c0
  obtain ⟨y,hy⟩:=cK (l:=x) (k:=k) (by omega)
  have hry:r[k]? =some y:=by rw [hr,jN _ _ _ _ _ (by omega)];exact hy
  have hs:=dJ fJ hy
  have hle:=gD fJ x (k+1)
  have hA:bR fJ (x.take k)≤5*k:=aUx (fun y=>by have:=aBM y;simpa [aAh] using this) x k hk
  have hle5:=aBN x
  have hE:fJ y=1+1:=rfl
  refine ⟨by omega,List.length_map _,by first | omega | (simp only [List.length_set];omega),rfl,by first | omega | (simp only [List.length_set];omega),fun s4_5 hs4_5=>⟨rfl,Nat.le_of_ble_eq_true rfl,rfl,?_⟩⟩
  obtain rfl:=(aY hry hs4_5).symm
  refine ⟨⟨by first | omega | (dsimp only;omega),by first | omega | (dsimp only;omega)⟩,by omega,List.length_map _,by first | omega | (simp only [List.length_set];omega),rfl,by first | omega | (simp only [List.length_set];omega),fun s6_5 hs6_5=>⟨rfl,Nat.le_of_ble_eq_true rfl,rfl,?_⟩⟩
  obtain rfl:=kC hs6_5
  refine ⟨⟨by first | omega | (dsimp only;omega),by first | omega | (dsimp only;omega)⟩,⟨by first | omega | (dsimp only;omega),by first | omega | (dsimp only;omega)⟩,?_⟩
  exact ⟨k+1,_,_,rfl,rfl,rfl,⟨by omega,by rw [hs];(try dsimp only);omega,by subst hz hr;(try simp only [List.set_set]);exact jO _ _ _ _ _ _ hy⟩,by omega⟩
 ·replace c0:=nq c0
  have hkx:k=x.length:=by omega
  rw [hkx,List.take_length] at hz
  rw [hkx,iP] at hr
  refine ⟨?_,?_,trivial⟩
  ·first | (rw [hz];rfl) | (rw [hr];rfl) | (rw [hz,hS])
  ·first | (rw [hz];rfl) | (rw [hr];rfl) | (rw [hz,hS])
end Go.Proofs.YtdfebigfnjfgpaaGreat
