/-
  Contracts and plain laws, joined: part 18.
-/
import Derived.Test.YtlidmoeecphbmaaGreatez15
import Derived.Test.YtlidmoeecphbmaaGreatez16
import Derived.Test.YtlidmoeecphbmaaGreatez14
import Derived.Test.YtlidmoeecphbmaaGreatez8
namespace Go.Proofs.YtlidmoeecphbmaaGreat
open Go.ChangeShapes Go.WideShapes Go.ChangeAt Go.RowKit
set_option linter.unusedVariables false
set_option linter.unusedSimpArgs false
set_option maxRecDepth 100000
set_option maxHeartbeats 4000000
abbrev aCD (l:List aI)(n:Int):AV × List (Nat × Rs):=(.tup [.agg [.own 0,.own 1,.own 2],vB ((dP l n).2)],[(0,.arr 3 1 true ((dP l n).1.objective.map intD)),(1,.arr 91 1 true ((dP l n).1.rows.map aC)),(2,.arr 3 1 true ((dP l n).1.limits.map intD))])
abbrev aIB (l:List aI)(n:Int):Prop:=Cn 92 [.one (.sl 192 3 (l.map aE)),.one (.int .i64 n)] (aCD l n).1 (aCD l n).2
theorem aVQ (l:List aI)(n:Int)(hl:l.length<=1048576)(hf:oJ l):aIB l n:=by
 refine cq Tryz.func92 (.call (vB (decide (1<=n/\n<=4))) []<| .br (.fin []) (bI (nD n ([((1:Int)*2^(Int.toNat n)) - 1]:List Int) ([]:List Int))<| bI (aAC n)<| .len ((dK n).length)<| .mk ((dK n).length) [.int .i64 (0:Int)] ((List.replicate ((dK n).length) (0:Int)).map intD)<| .loop (Nat × (List (List Int)) × (List Int)) (Q3 Nat (List (List Int)) (List Int)) ([8,22,23,25,27]++rg 29 60++rg 90 29) [700,2200,2700,9800,10400,10500,10600,10700,11600,11700] (fun yy0=>[(8,vI (yy0.1:Int))]) (fun yy0=>[(700,some (.box 94 [.own 2000,.own 2200,.own 2700])),(2200,some (.arr 91 1 true (yy0.2.1.map aC))),(2700,some (.arr 3 1 true (yy0.2.2.map intD)))]) (fun yy0=>yy0.1<=l.length/\yy0.2.1=dK n++(l.take yy0.1).map (nR n)/\yy0.2.2=List.replicate (dK n).length 0++(l.take yy0.1).map (·.bits)/\(l.take yy0.1).all (okC n)=true) (fun yy0=>l.length - yy0.1) (fun yy0=> .len l.length<| .br (.elem _ aE l (fun e37=> .call (vB (decide (1<=e37.dst/\e37.dst<=(((1:Int)*2^(Int.toNat n)) - 1)))) []<| .br (.fin []) (.elem _ aE l (fun e46=> .call (vB (decide (0<=e46.src/\e46.src<=(((1:Int)*2^(Int.toNat n)) - 1)))) []<| .lit<| .lit<| .br (.fin []) (.elem _ aE l (fun e56=> .elem _ aE l (fun e61=> .elem _ aE l (fun e67=> .lit<| .lit<| .lit<| .lit<| .br (.fin []) (.elem _ aE l (fun e75=> .elem _ aE l (fun e80=> .lit<| .lit<| .lit<| .lit<| .br (.fin []) (.lit<| .lit<| .br (.fin []) (.elem _ aE l (fun e95=> .elem _ aE l (fun e101=>bI (nD n ([e95.dst]:List Int) ([e101.src]:List Int))<| .appx (List Int) aC yy0.2.1 (eJ (dG n) ([e95.dst]:List Int) ([e101.src]:List Int))<| .elem _ aE l (fun e113=> .app Int intD yy0.2.2 ([e113.bits]:List Int)<| .back [(700,700),(2200,10700),(2700,11700)])))))))))))))))) (.call (vB (cS (⟨eJ (dG n) ([((1:Int)*2^(Int.toNat n)) - 1]:List Int) ([]:List Int),yy0.2.1,yy0.2.2⟩:bV))) []<| .br (.fin []) (.fin [(0,2000),(1,2200),(2,2700)]))))) (p:=Lx (l.map aE)<| fB n (1:Int) (4:Int)/\Nb (1<=n/\n<=4) ((false)=((dP l n).2)/\[]=(dP l n).1.objective.map intD/\[]=(dP l n).1.rows.map aC/\[]=(dP l n).1.limits.map intD/\True) ((0<=n/\n<=64)/\(bJ ((1:Int)*2^(Int.toNat n))/\(bJ (((1:Int)*2^(Int.toNat n)) - 1)/\(pY n ([((1:Int)*2^(Int.toNat n)) - 1]:List Int) ([]:List Int)/\(aEw n/\(Lm aC (dK n)/\((((dK n).length:Nat):Int)=(((dK n).length:Nat):Int)/\(((dK n).length:Nat):Int)=(((dK n).length:Nat):Int)/\8*((dK n).length)<=281474976710656/\((dK n).length)<=9223372036854775807/\List.replicate ((dK n).length) [.int .i64 (0:Int)]=(List.replicate ((dK n).length) (0:Int)).map intD/\((∃(k:Nat) (R:List (List Int)) (M:List Int),0=(k:Int)/\(dK n).map aC=R.map aC/\(List.replicate ((dK n).length) (0:Int)).map intD=M.map intD/\k<=l.length/\R=dK n++(l.take k).map (nR n)/\M=List.replicate (dK n).length 0++(l.take k).map (·.bits)/\(l.take k).all (okC n)=true)/\ ∀(k:Nat) (R:List (List Int)) (M:List Int),(k<=l.length/\R=dK n++(l.take k).map (nR n)/\M=List.replicate (dK n).length 0++(l.take k).map (·.bits)/\(l.take k).all (okC n)=true)->Lm aE l/\Br ((k:Int)<(l.length:Int)) (0<=(k:Int)/\Em aE l k fun e37=>fB e37.dst (1:Int) (((1:Int)*2^(Int.toNat n)) - 1)/\Nb (1<=e37.dst/\e37.dst<=(((1:Int)*2^(Int.toNat n)) - 1)) ((false)=((dP l n).2)/\[]=(dP l n).1.objective.map intD/\[]=(dP l n).1.rows.map aC/\[]=(dP l n).1.limits.map intD/\True) (0<=(k:Int)/\Em aE l k fun e46=>fB e46.src (0:Int) (((1:Int)*2^(Int.toNat n)) - 1)/\Nb (0<=e46.src/\e46.src<=(((1:Int)*2^(Int.toNat n)) - 1)) ((false)=((dP l n).2)/\[]=(dP l n).1.objective.map intD/\[]=(dP l n).1.rows.map aC/\[]=(dP l n).1.limits.map intD/\True) (0<=(k:Int)/\Em aE l k fun e56=>0<=(k:Int)/\Em aE l k fun e61=>0<=(k:Int)/\Em aE l k fun e67=>Nb ((cH .and .i64 e56.src e61.dst)=e67.src) ((false)=((dP l n).2)/\[]=(dP l n).1.objective.map intD/\[]=(dP l n).1.rows.map aC/\[]=(dP l n).1.limits.map intD/\True) (0<=(k:Int)/\Em aE l k fun e75=>0<=(k:Int)/\Em aE l k fun e80=>Br (e75.src=e80.dst) ((false)=((dP l n).2)/\[]=(dP l n).1.objective.map intD/\[]=(dP l n).1.rows.map aC/\[]=(dP l n).1.limits.map intD/\True) (Br (64<=(k:Int)) ((false)=((dP l n).2)/\[]=(dP l n).1.objective.map intD/\[]=(dP l n).1.rows.map aC/\[]=(dP l n).1.limits.map intD/\True) (0<=(k:Int)/\Em aE l k fun e95=>0<=(k:Int)/\Em aE l k fun e101=>pY n ([e95.dst]:List Int) ([e101.src]:List Int)/\R.map aC=R.map aC/\(eJ (dG n) ([e95.dst]:List Int) ([e101.src]:List Int)).map intD=(eJ (dG n) ([e95.dst]:List Int) ([e101.src]:List Int)).map intD/\(R.length+1)*24<=140737488355328/\0<=(k:Int)/\Em aE l k fun e113=>Ap intD M ([e113.bits]:List Int) 8 (bJ ((k:Int)+1)/\ ∃(k' :Nat) (R' :List (List Int)) (M' :List Int),((k:Int)+1)=(k' :Int)/\(R++[eJ (dG n) ([e95.dst]:List Int) ([e101.src]:List Int)]).map aC=R'.map aC/\(M++[e113.bits]).map intD=M'.map intD/\(k' <=l.length/\R' =dK n++(l.take k').map (nR n)/\M' =List.replicate (dK n).length 0++(l.take k').map (·.bits)/\(l.take k').all (okC n)=true)/\l.length - k' <l.length - k))))))) (aAE (⟨eJ (dG n) ([((1:Int)*2^(Int.toNat n)) - 1]:List Int) ([]:List Int),R,M⟩:bV)/\Nr (cS (⟨eJ (dG n) ([((1:Int)*2^(Int.toNat n)) - 1]:List Int) ([]:List Int),R,M⟩:bV)) ((false)=((dP l n).2)/\[]=(dP l n).1.objective.map intD/\[]=(dP l n).1.rows.map aC/\[]=(dP l n).1.limits.map intD/\True) ((true)=((dP l n).2)/\(eJ (dG n) ([((1:Int)*2^(Int.toNat n)) - 1]:List Int) ([]:List Int)).map intD=(dP l n).1.objective.map intD/\R.map aC=(dP l n).1.rows.map aC/\M.map intD=(dP l n).1.limits.map intD/\True))))))))))) (by kernel_rfl) ?_;refine lx fun n0=>?_;refine⟨iT _ _ _,dn (fun c0=>?_) fun c0=>?_⟩
 ·apply et4<;>((rw[aVF (by omega)]<;>rfl))
 ·obtain⟨b1,b2,b3⟩:=aAr (n:=n) (by omega);have hal:dG n=1*2^n.toNat - 1:=rfl;have hel:=aKi n;refine⟨⟨by omega,by omega⟩,by exact fM (by omega),by exact⟨by omega,by omega⟩,aAs _ ([((1:Int)*2^(Int.toNat n)) - 1]:List Int) ([]:List Int) (by omega) (by exact aP5 (by omega)) (by exact aZx) (by simp) (by simp),aSV _,aAq _,rfl,rfl,by omega,by omega,by (rw[aTC];done),⟨0,dK n,List.replicate ((dK n).length) (0:Int),rfl,rfl,rfl,aBn _,by simp,by simp,rfl⟩,fun k R M ⟨hk,hR,hM,ha⟩=>?_⟩;refine⟨aAq _,dd (fun c1=>?_) fun c1=>?_⟩
  ·refine⟨by omega,rfl,by omega,fun e37 h37=>?_⟩;have hk2:=h37;have hfc:=hf _ (aCX h37);have hfs:e37.src<=9223372036854775807:=hfc.1.2;have hfd:e37.dst<=9223372036854775807:=hfc.2.1.2;refine⟨iT _ _ _,dn (fun g43=>?_) fun g43=>?_⟩
   ·have hbad:okC n e37=false\/64<=k:=by by_cases hq:64<=k;(exact .inr hq);(refine .inl (wJ ?_);rintro⟨q1,q2,q3,q4⟩;have:=aBw (a:=e37.src) (c:=e37.dst) q2 (by omega) (by omega) (by omega);omega)
    apply et4<;>((rcases hbad with hbad | hbad;(rw[wK hk2 hbad]<;>rfl);(rw[uJ (by have:=(aHE.1 hk2).1;omega)]<;>rfl)))
   ·refine⟨by omega,rfl,by omega,fun e46 h46=>?_⟩;obtain rfl:=(aX hk2 h46).symm;refine⟨iT _ _ _,dn (fun g53=>?_) fun g53=>?_⟩
    ·have hbad:okC n e37=false\/64<=k:=by by_cases hq:64<=k;(exact .inr hq);(refine .inl (wJ ?_);rintro⟨q1,q2,q3,q4⟩;have:=aBw (a:=e37.src) (c:=e37.dst) q2 (by omega) (by omega) (by omega);omega)
     apply et4<;>((rcases hbad with hbad | hbad;(rw[wK hk2 hbad]<;>rfl);(rw[uJ (by have:=(aHE.1 hk2).1;omega)]<;>rfl)))
    ·refine⟨by omega,rfl,by omega,fun e56 h56=>?_⟩;obtain rfl:=(aX hk2 h56).symm;refine⟨by omega,rfl,by omega,fun e61 h61=>?_⟩;obtain rfl:=(aX hk2 h61).symm;refine⟨by omega,rfl,by omega,fun e67 h67=>?_⟩;obtain rfl:=(aX hk2 h67).symm;refine dn (fun g72=>?_) fun g72=>?_
     ·have hbad:okC n e37=false\/64<=k:=by by_cases hq:64<=k;(exact .inr hq);(refine .inl (wJ ?_);rintro⟨q1,q2,q3,q4⟩;have:=aBw (a:=e37.src) (c:=e37.dst) q2 (by omega) (by omega) (by omega);omega)
      apply et4<;>((rcases hbad with hbad | hbad;(rw[wK hk2 hbad]<;>rfl);(rw[uJ (by have:=(aHE.1 hk2).1;omega)]<;>rfl)))
     ·refine⟨by omega,rfl,by omega,fun e75 h75=>?_⟩;obtain rfl:=(aX hk2 h75).symm;refine⟨by omega,rfl,by omega,fun e80 h80=>?_⟩;obtain rfl:=(aX hk2 h80).symm;refine dd (fun g85=>?_) fun g85=>?_
      ·have hbad:okC n e37=false\/64<=k:=by by_cases hq:64<=k;(exact .inr hq);(refine .inl (wJ ?_);rintro⟨q1,q2,q3,q4⟩;have:=aBw (a:=e37.src) (c:=e37.dst) q2 (by omega) (by omega) (by omega);omega)
       apply et4<;>((rcases hbad with hbad | hbad;(rw[wK hk2 hbad]<;>rfl);(rw[uJ (by have:=(aHE.1 hk2).1;omega)]<;>rfl)))
      ·refine dd (fun c2=>?_) fun c2=>?_
       ·have hbad:okC n e37=false\/64<=k:=by by_cases hq:64<=k;(exact .inr hq);(refine .inl (wJ ?_);rintro⟨q1,q2,q3,q4⟩;have:=aBw (a:=e37.src) (c:=e37.dst) q2 (by omega) (by omega) (by omega);omega)
        apply et4<;>((rcases hbad with hbad | hbad;(rw[wK hk2 hbad]<;>rfl);(rw[uJ (by have:=(aHE.1 hk2).1;omega)]<;>rfl)))
       ·have hle:=aBw (a:=e37.src) (c:=e37.dst) (by omega) (by omega) (by omega) (by omega);refine⟨by omega,rfl,by omega,fun e95 h95=>?_⟩;have q95:=aX hk2 h95;have r95:e95.src=e37.src/\e95.dst=e37.dst/\e95.bits=e37.bits:=by rw[q95];exact⟨rfl,rfl,rfl⟩
        refine⟨by omega,rfl,by omega,fun e101 h101=>?_⟩;have q101:=aX hk2 h101;have r101:e101.src=e37.src/\e101.dst=e37.dst/\e101.bits=e37.bits:=by rw[q101];exact⟨rfl,rfl,rfl⟩
        refine⟨aAs _ ([e95.dst]:List Int) ([e101.src]:List Int) (by omega) (by exact aP5 (by omega)) (by exact aP5 (by omega)) (by simp) (by simp),rfl,rfl,by (simp[hR,hM];omega),by omega,rfl,by omega,fun e113 h113=>?_⟩;have q113:=aX hk2 h113;have r113:e113.src=e37.src/\e113.dst=e37.dst/\e113.bits=e37.bits:=by rw[q113];exact⟨rfl,rfl,rfl⟩
        refine ap ?_ (fun _=>rfl) (by (simp[hR,hM];omega));refine⟨by exact⟨by omega,by omega⟩,?_⟩;exact⟨k+1,_,_,rfl,rfl,rfl,⟨by omega,by rw[hR,bR hk2,aLt,aNG,r95.2.1,r101.1];rfl,by rw[hM,bR hk2,aLt,aNG,r113.2.2];rfl,cL hk2 ha (aP7 ⟨by omega,by omega,by omega,by omega⟩)⟩,by omega⟩
  ·have hkl:k=l.length:=by omega
   subst hkl;rw[aTG] at hR hM ha;refine⟨aKh (⟨eJ (dG n) ([((1:Int)*2^(Int.toNat n)) - 1]:List Int) ([]:List Int),R,M⟩:bV),dm (fun c3=>?_) fun c3=>?_⟩
   ·have hfin:dP l n=(nL,false):=aP8 (by rw[<-c3,xL,hR,hM]);apply et4<;>((rw[hfin]<;>rfl))
   ·have hfin:dP l n=(xL n l,true):=aNu (by omega) ha (by rw[<-c3,xL,hR,hM]);apply et4<;>(first|(rw[hfin]<;>rfl)|(rw[hfin,xL,hR]<;>rfl)|(rw[hfin,xL,hM]<;>rfl))
theorem aXM (s:StoreD)(q:QueryD)(m:Int): ∀r∈(gC s q m).1.rows,r.length<=1048576:=by
 intro r hr;have h1:=aPe s q m;have e1:yO (gC s q m).1=cE (gC s q m).1.objective+cR (gC s q m).1.rows+cE (gC s q m).1.limits:=rfl;obtain⟨k,hk⟩:=List.getElem?_of_mem hr;have h2:=aAe hk;have e:cE r=r.length:=rfl;omega
abbrev aAH (s:StoreD)(q:QueryD)(m:Int):AV × List (Nat × Rs):=(.tup [.agg [.own 0,.own 1,.own 2],.own 3,vB ((gC s q m).2)],[(0,.arr 3 1 true ((gC s q m).1.objective.map intD)),(1,.arr 91 1 true ((gC s q m).1.rows.map aC)),(2,.arr 3 1 true ((gC s q m).1.limits.map intD)),(3,.arr 192 3 true ((dU s q m).map aE))])
abbrev aFD (s:StoreD)(q:QueryD)(m:Int):Prop:=Cn 47 [.agg [.sl 142 3 (s.database.tables.map aS),.int .i64 s.catalogue.version,.sl 88 4 (s.catalogue.tables.map aF),.sl 121 3 (s.dependencies.map aN),.sl 123 4 (s.inclusions.map aQ)],.agg [.int .i64 q.variableCount,.sl 125 2 (q.atoms.map bF)],.one (.int .i64 m)] (aAH s q m).1 (aAH s q m).2
theorem aSY (s:StoreD)(q:QueryD)(m:Int)(hc:dD s<=1048576)(hcq:fR q<=1048576):aFD s q m:=by
 refine cq Tryz.func47 (bI (wE s q m)<| .len ((dU s q m).length)<| .br (.fin []) (bI (zT q m)<| bI (aBt (dU s q m) (eA q m))<| .len ((eA q m).length)<| bI (aCC ((dU s q m).map (mC (eA q m))) (((eA q m).length:Nat):Int))<| .fin [(0,3000),(1,3001),(2,3002),(3,1600)])) (p:=Lx (s.database.tables.map aS)<| Lx (s.catalogue.tables.map aF)<| Lx (s.dependencies.map aN)<| Lx (s.inclusions.map aQ)<| Lx (q.atoms.map bF)<| aDM s q m/\Lm aE (dU s q m)/\Br ((((dU s q m).length:Nat):Int)=0) ((false)=((gC s q m).2)/\[]=(gC s q m).1.objective.map intD/\[]=(gC s q m).1.rows.map aC/\[]=(gC s q m).1.limits.map intD/\[]=(dU s q m).map aE/\True) (aEq q m/\aHl (dU s q m) (eA q m)/\Lm intD (eA q m)/\aIA ((dU s q m).map (mC (eA q m))) (((eA q m).length:Nat):Int)/\((dP ((dU s q m).map (mC (eA q m))) (((eA q m).length:Nat):Int)).2)=((gC s q m).2)/\(((dP ((dU s q m).map (mC (eA q m))) (((eA q m).length:Nat):Int)).1).objective).map intD=(gC s q m).1.objective.map intD/\(((dP ((dU s q m).map (mC (eA q m))) (((eA q m).length:Nat):Int)).1).rows).map aC=(gC s q m).1.rows.map aC/\(((dP ((dU s q m).map (mC (eA q m))) (((eA q m).length:Nat):Int)).1).limits).map intD=(gC s q m).1.limits.map intD/\(dU s q m).map aE=(dU s q m).map aE/\True)) (by kernel_rfl) ?_;refine lx fun n0=>lx fun n1=>lx fun n2=>lx fun n3=>lx fun n4=>?_;have hS:dD s=bL s.database+bQ s.catalogue+bT s.dependencies+cF s.inclusions:=rfl;have hI:=cX s.inclusions;have hQ:fR q=jB q.atoms:=rfl;have hql:=aKa s q m;have hff:=aNz (s:=s) (q:=q) (m:=m) (eA q m);have hq28:((dU s q m).map (mC (eA q m))).length<=28:=by rw[aAq];exact hql
 refine⟨aP2 s q m (by omega) (by omega),aAq _,dd (fun c0=>?_) fun c0=>?_⟩
 ·apply et5<;>(first|(rw[aQl (by omega)]<;>rfl)|(rw[aKD (show (dU s q m).length=0 by omega)];rfl))
 ·refine⟨aSN _ m,aUz _ _ (by omega),aAq _,aVP ((dU s q m).map (mC (eA q m))) (((eA q m).length:Nat):Int) (by omega) (by assumption),?_,?_,?_,?_,rfl,trivial⟩<;>((rw[aOA (by omega)]<;>rfl))
abbrev aAI (s:StoreD)(q:QueryD)(m:Int):AV × List (Nat × Rs):=(.tup [.agg [.own 0,.own 1,.own 2],vB ((gC s q m).2)],[(0,.arr 3 1 true ((gC s q m).1.objective.map intD)),(1,.arr 91 1 true ((gC s q m).1.rows.map aC)),(2,.arr 3 1 true ((gC s q m).1.limits.map intD))])
abbrev aFE (s:StoreD)(q:QueryD)(m:Int):Prop:=Cn 45 [.agg [.sl 142 3 (s.database.tables.map aS),.int .i64 s.catalogue.version,.sl 88 4 (s.catalogue.tables.map aF),.sl 121 3 (s.dependencies.map aN),.sl 123 4 (s.inclusions.map aQ)],.agg [.int .i64 q.variableCount,.sl 125 2 (q.atoms.map bF)],.one (.int .i64 m)] (aAI s q m).1 (aAI s q m).2
theorem aSZ (s:StoreD)(q:QueryD)(m:Int)(hc:dD s<=1048576)(hcq:fR q<=1048576):aFE s q m:=by
 refine cq Tryz.func45 (bI (wF s q m)<| .len ((dU s q m).length)<| .br (.fin []) (bI (zU q m)<| bI (aBu (dU s q m) (eA q m))<| .len ((eA q m).length)<| bI (aCD ((dU s q m).map (mC (eA q m))) (((eA q m).length:Nat):Int))<| .fin [(0,2900),(1,2901),(2,2902)])) (p:=Lx (s.database.tables.map aS)<| Lx (s.catalogue.tables.map aF)<| Lx (s.dependencies.map aN)<| Lx (s.inclusions.map aQ)<| Lx (q.atoms.map bF)<| aDN s q m/\Lm aE (dU s q m)/\Br ((((dU s q m).length:Nat):Int)=0) ((false)=((gC s q m).2)/\[]=(gC s q m).1.objective.map intD/\[]=(gC s q m).1.rows.map aC/\[]=(gC s q m).1.limits.map intD/\True) (aEr q m/\aHm (dU s q m) (eA q m)/\Lm intD (eA q m)/\aIB ((dU s q m).map (mC (eA q m))) (((eA q m).length:Nat):Int)/\((dP ((dU s q m).map (mC (eA q m))) (((eA q m).length:Nat):Int)).2)=((gC s q m).2)/\(((dP ((dU s q m).map (mC (eA q m))) (((eA q m).length:Nat):Int)).1).objective).map intD=(gC s q m).1.objective.map intD/\(((dP ((dU s q m).map (mC (eA q m))) (((eA q m).length:Nat):Int)).1).rows).map aC=(gC s q m).1.rows.map aC/\(((dP ((dU s q m).map (mC (eA q m))) (((eA q m).length:Nat):Int)).1).limits).map intD=(gC s q m).1.limits.map intD/\True)) (by kernel_rfl) ?_;refine lx fun n0=>lx fun n1=>lx fun n2=>lx fun n3=>lx fun n4=>?_;have hS:dD s=bL s.database+bQ s.catalogue+bT s.dependencies+cF s.inclusions:=rfl;have hI:=cX s.inclusions;have hQ:fR q=jB q.atoms:=rfl;have hql:=aKa s q m;have hff:=aNz (s:=s) (q:=q) (m:=m) (eA q m);have hq28:((dU s q m).map (mC (eA q m))).length<=28:=by rw[aAq];exact hql
 refine⟨aP3 s q m (by omega) (by omega),aAq _,dd (fun c0=>?_) fun c0=>?_⟩
 ·apply et4<;>((rw[aQl (by omega)]<;>rfl))
 ·refine⟨aSO _ m,aVA _ _ (by omega),aAq _,aVQ ((dU s q m).map (mC (eA q m))) (((eA q m).length:Nat):Int) (by omega) (by assumption),?_,?_,?_,?_,trivial⟩<;>((rw[aOA (by omega)]<;>rfl))
abbrev aAu (n:Int):Prop:=Cn 161 [.one (.int .i64 n)] (.agg [vI ((aP n).num),vI ((aP n).den)]) []
theorem aMC (n:Int):aAu n:=by
 refine cq Tryz.func161 (.fin []) (p:=n=((aP n).num)/\1=((aP n).den)/\True) (by kernel_rfl) ?_;apply et2<;>(rfl)
abbrev kA (n:Int):Prop:=Cn 96 [.one (.int .i64 n)] (.agg [vI ((aP n).num),vI ((aP n).den)]) []
theorem pE (n:Int):kA n:=by
 refine cq Tryz.func96 (.fin []) (p:=n=((aP n).num)/\1=((aP n).den)/\True) (by kernel_rfl) ?_;apply et2<;>(rfl)
def dV (r:aB):aB:=⟨-r.num,r.den⟩
def aF0:aB:=⟨1,1⟩
def aJO:aB:=⟨0,1⟩
def bX (a b c:aB):aB × Bool:=if b.num=0\/c.num=0 then (a,true) else ((nV a (dQ b c).1).1,(dQ b c).2&&(nV a (dQ b c).1).2)
theorem aOB (n d:Int):Int.gcd (-n) d=Int.gcd n d:=by simp[Int.gcd]
theorem aPf (n d:Int):bO (-n) d=(-(bO n d).1,(bO n d).2.1,(bO n d).2.2):=by
 rcases Int.lt_trichotomy d 0 with h | h | h
 ·rw[aAF h,aAF h,aOB (-n),Int.neg_tdiv,sA];split<;>rfl
 ·subst h;rw[mN,mN];rfl
 rw[tL h,tL h,aOB,Int.neg_tdiv,sA];split<;>rfl
theorem aCE (n d:Int):bO (-n) (-d)=bO n d:=by
 rcases Int.lt_trichotomy d 0 with h | h | h
 ·rw[aAF h,tL (show 0< -d by omega)]
 ·subst h;rw[Int.neg_zero,mN,mN]
 rw[tL h,aAF (show -d<0 by omega),Int.neg_neg,Int.neg_neg]
theorem aVR {n d:Int}(h:(bO n d).2.2=true):cJ (bO n d).1 (bO n d).2.1=true:=by
 rcases Int.lt_trichotomy d 0 with q | q | q
 ·rw[aAF q] at*;split at h
  ·rename_i hv;rw[if_pos hv];exact hv
  cases h
 ·subst q;rw[mN] at h;cases h
 rw[tL q] at*;split at h
 ·rename_i hv;rw[if_pos hv];exact hv
 cases h
theorem aS0 {n d:Int}(h:(bO n d).2.2=false):bO n d=(0,0,false):=by
 rcases Int.lt_trichotomy d 0 with q | q | q
 ·rw[aAF q] at*;split at h
  ·cases h
  rename_i hv;rw[if_neg hv]
 ·subst q;exact mN _
 rw[tL q] at*;split at h
 ·cases h
 rename_i hv;rw[if_neg hv]
theorem aAv {n d:Int}(h:cJ n d=true):bO n d=(n,d,true):=by
 obtain⟨h1,_,_,_,h2⟩:=aHg h;rw[tL (by omega),h2];simp only[Int.cast_ofNat_Int,Int.tdiv_one];rw[if_pos h]
theorem aVS (b c:aB):dQ (dV b) c=(dV (dQ b c).1,(dQ b c).2):=by
 simp only[dQ,dV,aSR,sA];split
 ·rw[Int.neg_mul,aPf];rfl
 rfl
theorem aVT (a p:aB):fV a (dV p)=nV a p:=by
 simp only[fV,nV,dV,aVL]
theorem aS1 (a b c:aB):(if (dV b).num=0\/c.num=0 then (a,true) else ((fV a (dQ (dV b) c).1).1,(dQ (dV b) c).2&&(fV a (dQ (dV b) c).1).2))=bX a b c:=by
 rw[aVS,aVT,bX];have e:(dV b).num=0↔b.num=0:=by simp only[dV];omega
 simp only[e]
theorem aVU {q:Int × Int × Bool}{n d:Int}{p:Prop}[Decidable p](e:q=if p then bO n d else (0,0,false))(h:(iM q).2=true):aW (iM q).1=true:=by
 subst e;split at h
 ·rename_i hp;rw[if_pos hp];exact aVR h
 cases h
theorem aXN {a c:aB}(h:(nV a c).2=true):aW (nV a c).1=true:=aVU (q:=aLs a.num a.den c.num c.den) rfl h
theorem aXO {a c:aB}(h:(fV a c).2=true):aW (fV a c).1=true:=aVU (q:=aLr a.num a.den c.num c.den) rfl h
theorem aAw {a c:aB}(h:(aZ a c).2=true):aW (aZ a c).1=true:=aVU (q:=aJM a.num a.den c.num c.den) rfl h
theorem aOC {a c:aB}(h:(aZ a c).2=false):(aZ a c).1=⟨0,0⟩:=by
 unfold aZ aJM at*;split at h
 ·rename_i hp;rw[if_pos hp,aS0 h];rfl
 rename_i hp;rw[if_neg hp];rfl
theorem aOD {a b c:aB}(ha:aW a=true)(h:(bX a b c).2=true):aW (bX a b c).1=true:=by
 unfold bX at*;split at h
 ·rename_i hp;rw[if_pos hp];exact ha
 rename_i hp;rw[if_neg hp];simp only[aBH] at h;exact aXN h.2
theorem aMD {a:aB}(h:aW a=true)(h0:a.num≠0):aZ aF0 a=((if 0<a.num then ⟨a.den,a.num⟩ else ⟨-a.den,-a.num⟩),true):=by
 obtain⟨h1,h2,h3,h4,h5⟩:=cC h;have v1:cJ 1 1=true:=by decide
 rw[aZ,show aJM aF0.num aF0.den a.num a.den=bO (1*a.den) (1*a.num) from zY v1 h,Int.one_mul,Int.one_mul];by_cases hp:0<a.num
 ·rw[if_pos hp,aAv (by simp only[cJ,Int.gcd_comm a.den,h5,aBH,aWB,and_true];exact⟨qA (by omega) (by omega),qA (by omega) (by omega)⟩)];rfl
 rw[if_neg hp,<-aCE,aAv (by
  have e:Int.gcd (-a.den) (-a.num)=1:=by rw[aVI,Int.gcd_comm];exact h5
  simp only[cJ,e,aBH,aWB,and_true];exact⟨qA (by omega) (by omega),qA (by omega) (by omega)⟩)];rfl
theorem aXP {c a:aB}(hc:aW c=true)(ha:aW a=true)(h0:a.num≠0):dQ c (aZ aF0 a).1=aZ c a:=by
 have hi:=aAw (show (aZ aF0 a).2=true by rw[aMD ha h0]);rw[aMD ha h0] at*;rw[aZ,zY hc ha];split at hi
 ·rename_i hp;rw[if_pos hp,dQ,zX hc hi]
 rename_i hp;rw[if_neg hp,dQ,zX hc hi];simp only[Int.mul_neg];rw[aCE]
theorem zero_sub {x:aB}(h:aW x=true):nV aJO x=(dV x,true):=by
 have v:cJ 0 1=true:=by decide
 rw[nV,show aLs aJO.num aJO.den x.num x.den=bO (0*x.den - x.num*1) (1*x.den) from aNq v h];rw[Int.zero_mul,Int.mul_one,Int.one_mul,Int.zero_sub,aAv (by rw[sA];exact h)];rfl
theorem aKk {d:Int}(h:d≠0):bO 0 d=(0,1,true):=by
 have key: ∀e:Int,0<e->bO 0 e=(0,1,true):=fun e he=>by
  have hg:((Int.gcd 0 e:Nat):Int)=e:=by rw[Int.gcd_zero_left];omega
  rw[tL he,hg,Int.zero_tdiv,Int.tdiv_self (by omega)];rfl
 rcases Int.lt_or_gt_of_ne h with q | q
 ·rw[<-aCE,Int.neg_zero];exact key _ (by omega)
 exact key _ q
theorem aVV {c a:aB}(hc:aW c=true)(ha:aW a=true)(h0:a.num≠0):bX aJO c (aZ aF0 a).1=(dV (aZ c a).1,(aZ c a).2):=by
 have hb:=cC hc;have hba:=cC ha;by_cases hz:c.num=0
 ·have hd:c.den*a.num≠0:=Int.mul_ne_zero (by omega) h0;rw[bX,if_pos (.inl hz),aZ,zY hc ha,hz,Int.zero_mul,aKk hd];rfl
 have hn: ¬(c.num=0\/(aZ aF0 a).1.num=0):=by
  rw[aMD ha h0];rintro(q | q)
  ·exact hz q
  revert q;split
  ·show ¬a.den=0;omega
  show ¬ -a.den=0;omega
 rw[bX,if_neg hn,aXP hc ha h0];cases e:(aZ c a).2 with
 | true=>rw[zero_sub (aAw e)];rfl
 | false=>rw[aOC e];rfl
theorem aKl: ∀(r s:List Int),r.Nodup->(∀x∈r,x∈s)->s.length<=r.length->s.Perm r
 | [],s,_,_,h=>by
   have:s= []:=List.length_eq_zero_iff.1 (by simpa using h);rw[this]
 | a::r,s,hn,hs,hl=>by
   have ha:a∈s:=hs a (by simp);have p1:s.Perm (a::s.erase a):=List.perm_cons_erase ha;have hn' :=List.nodup_cons.1 hn
   have:=aKl r (s.erase a) hn'.2 (fun x hx=>(List.mem_erase_of_ne (fun (e:x=a)=>hn'.1 (by rw[<-e];exact hx))).2 (hs x (by simp[hx]))) (by
    rw[List.length_erase_of_mem ha];simp only[aSt] at hl;omega)
   exact p1.trans (this.cons a)
def isD (n x:Int):Bool:=decide (x=n)
def qC (l:List Int):Bool:=(List.range l.length).all fun (i:Nat)=>l.any (isD i)
abbrev upto (n:Nat):List Int:=(List.range n).map fun (i:Nat)=>(i:Int)
theorem aFF {l:List Int}(h:qC l=true):l.Perm (upto l.length):=by
 refine aKl _ _ ?_ ?_ (by simp)
 ·rw[List.Nodup,List.pairwise_map];exact List.nodup_range.imp fun hne he=>hne (by omega)
 intro x hx;obtain⟨j,hj,rfl⟩:=aPy.1 hx;have:=aIt.1 h j hj;obtain⟨y,hy,e⟩:=List.any_eq_true.1 this;rw[isD,aWB] at e
 rwa [<-e]
theorem aOE {l:List Int}(h:l.Perm (upto l.length)):qC l=true:=by
 refine aIt.2 fun i hi=>?_;have:(i:Int)∈l:=h.mem_iff.2 (aPy.2 ⟨i,hi,rfl⟩);exact List.any_eq_true.2 ⟨_,this,by simp[isD]⟩
theorem aPg {l:List Int}(h:qC l=true){x:Int}(hx:x∈l):0<=x/\x<l.length:=by
 have:=(aFF h).mem_iff.1 hx;obtain⟨j,hj,rfl⟩:=aPy.1 this;have:=aSv.1 hj;omega
def hJ (l:List aB)(n:Int):Bool:=decide ((l.length:Int)=n)&&l.all aW
def dH (d:aJ):Bool:=decide ((d.basic.length:Int)<=64)&&(decide (1<=(d.others.length:Int)/\(d.others.length:Int)<=15)&&(decide ((d.table.length:Int)=d.basic.length)&&(qC (d.basic++d.others)&&(d.table.all (fun r=>hJ r d.others.length)&&(hJ d.limits d.basic.length&&(hJ d.costs d.others.length&&aW d.value))))))
theorem aPh {d:aJ}(h:qC (d.basic++d.others)=false):dH d=false:=by simp only[dH,h,Bool.false_and,Bool.and_false]
theorem aIC {d:aJ}{k:Nat}{r:List aB}(h:d.table[k]? =some r)(hr:hJ r d.others.length=false):dH d=false:=by
 have:d.table.all (fun r=>hJ r d.others.length)=false:=eL h hr;simp only[dH,this,Bool.false_and,Bool.and_false]
theorem aPi {d:aJ}(h:hJ d.limits d.basic.length=false):dH d=false:=by simp only[dH,h,Bool.false_and,Bool.and_false]
theorem aOF {d:aJ}(h:hJ d.costs d.others.length=false):dH d=false:=by simp only[dH,h,Bool.false_and,Bool.and_false]
theorem aOG {d:aJ}(h:(d.basic.length:Int)<=64/\(1<=(d.others.length:Int)/\(d.others.length:Int)<=15)/\(d.table.length:Int)=d.basic.length)(h1:qC (d.basic++d.others)=true)(h2:d.table.all (fun r=>hJ r d.others.length)=true)(h3:hJ d.limits d.basic.length=true)(h4:hJ d.costs d.others.length=true)(h5:aW d.value=true):dH d=true:=by
 simp only[dH,h1,h2,h3,h4,h5,Bool.and_true,aBH,aWB];exact h
theorem aPj {l:List aB}{n:Int}(h: ¬(l.length:Int)=n):hJ l n=false:=by simp only[hJ,decide_eq_false h,Bool.false_and]
theorem aCF {l:List aB}{n:Int}(h:l.all aW=false):hJ l n=false:=by simp only[hJ,h,Bool.and_false]
theorem aEF {l:List aB}{n:Int}(h:(l.length:Int)=n)(h1:l.all aW=true):hJ l n=true:=by simp only[hJ,decide_eq_true h,h1,Bool.and_true]
theorem kL {l:List aB}{n:Nat}:hJ l n=true↔l.length=n/\ ∀x∈l,aW x=true:=by
 simp only[hJ,aBH,aWB,aIt];constructor
 ·exact fun h=>⟨by omega,h.2⟩
 exact fun h=>⟨by omega,h.2⟩
theorem iL {d:aJ}(h:dH d=true):d.basic.length<=64/\(1<=d.others.length/\d.others.length<=15)/\d.table.length=d.basic.length/\qC (d.basic++d.others)=true/\(∀r∈d.table,r.length=d.others.length/\ ∀x∈r,aW x=true)/\(d.limits.length=d.basic.length/\ ∀x∈d.limits,aW x=true)/\(d.costs.length=d.others.length/\ ∀x∈d.costs,aW x=true)/\aW d.value=true:=by
 simp only[dH,aBH,aWB,aIt (l:=d.table)] at h;obtain⟨h1,h2,h3,h4,h5,h6,h7,h8⟩:=h;exact⟨by omega,by omega,by omega,h4,fun r hr=>kL.1 (h5 r hr),kL.1 h6,kL.1 h7,h8⟩
theorem aKn {d:aJ}(h:dH d=true):(∀x∈d.basic,0<=x/\x<d.basic.length+d.others.length)/\ ∀x∈d.others,0<=x/\x<d.basic.length+d.others.length:=by
 obtain⟨_,_,_,hp,_⟩:=iL h
 have key: ∀x∈d.basic++d.others,0<=x/\x<d.basic.length+d.others.length:=fun x hx=>by
  have:=aPg hp hx;rw[aSu] at this;omega
 exact⟨fun x hx=>key x (aKm _ hx),fun x hx=>key x (aIu _ hx)⟩
def aCG (d:aJ)(b:Int)(k:Nat):Bool:=decide (0<(d.costs.getD k zR).num)&&(decide (b<0) || decide (d.others.getD k 0<d.others.getD b.toNat 0))
def kT (d:aJ):Nat->Int
 | 0=> -1
 | k+1=>if aCG d (kT d k) k=true then (k:Int) else kT d k
def eY (d:aJ):Int:=kT d d.others.length
theorem aAJ (d:aJ): ∀k:Nat,-1<=kT d k/\kT d k<k
 | 0=>by simp[kT]
 | k+1=>by
   have:=aAJ d k;rw[kT];split<;>omega
theorem aOH {d:aJ}{k:Nat}{b:Int}(hb:b=kT d k)(h:aCG d b k=true):(k:Int)=kT d (k+1):=by rw[kT,<-hb,if_pos h]
theorem aQm {d:aJ}{k:Nat}{b:Int}(hb:b=kT d k)(h:aCG d b k=false):b=kT d (k+1):=by rw[kT,<-hb,if_neg (by rw[h];decide)]
def kD (d:aJ):Int:=if dH d=true then eY d else -1
def iI (d:aJ)(i j:Nat):aB:=(d.table.getD i []).getD j zR
def mP (d:aJ)(b:Int)(c:Int)(k:Nat):Bool:=decide (b<0) || (decide (c<0) || (decide (c=0)&&decide (d.basic.getD k 0<d.basic.getD b.toNat 0)))
def eS (d:aJ)(j:Nat):Nat->Nat->Int->aB->Int
 | 0,_,b,_=>b
 | f+1,k,b,l=>if (iI d k j).num<=0 then eS d j f (k+1) b l else if (aZ (d.limits.getD k zR) (iI d k j)).2=false then -1 else if mP d b (fA (aZ (d.limits.getD k zR) (iI d k j)).1 l) k=true then eS d j f (k+1) (k:Int) (aZ (d.limits.getD k zR) (iI d k j)).1 else eS d j f (k+1) b l
def gL (d:aJ)(j:Nat):Int:=eS d j d.basic.length 0 (-1) zR
theorem aPk {d:aJ}{j n k:Nat}{b:Int}{l:aB}(hk:k<n)(h:(iI d k j).num<=0):eS d j (n - k) k b l=eS d j (n - (k+1)) (k+1) b l:=by
 rw[show n - k=(n - (k+1))+1 by omega,eS,if_pos h]
theorem aS2 {d:aJ}{j n k:Nat}{b:Int}{l:aB}(hk:k<n)(h: ¬(iI d k j).num<=0)(h2:(aZ (d.limits.getD k zR) (iI d k j)).2=false):eS d j (n - k) k b l= -1:=by
 rw[show n - k=(n - (k+1))+1 by omega,eS,if_neg h,if_pos h2]
theorem aS3 {d:aJ}{j n k:Nat}{b:Int}{l:aB}(hk:k<n)(h: ¬(iI d k j).num<=0)(h2:(aZ (d.limits.getD k zR) (iI d k j)).2=true)(h3:mP d b (fA (aZ (d.limits.getD k zR) (iI d k j)).1 l) k=true):eS d j (n - k) k b l=eS d j (n - (k+1)) (k+1) (k:Int) (aZ (d.limits.getD k zR) (iI d k j)).1:=by
 rw[show n - k=(n - (k+1))+1 by omega,eS,if_neg h,if_neg (by rw[h2];decide),if_pos h3]
theorem aVW {d:aJ}{j n k:Nat}{b:Int}{l:aB}(hk:k<n)(h: ¬(iI d k j).num<=0)(h2:(aZ (d.limits.getD k zR) (iI d k j)).2=true)(h3:mP d b (fA (aZ (d.limits.getD k zR) (iI d k j)).1 l) k=false):eS d j (n - k) k b l=eS d j (n - (k+1)) (k+1) b l:=by
 rw[show n - k=(n - (k+1))+1 by omega,eS,if_neg h,if_neg (by rw[h2];decide),if_neg (by rw[h3];decide)]
theorem aEG (d:aJ)(j:Nat): ∀(f k:Nat) (b:Int) (l:aB),-1<=b/\b<k-> -1<=eS d j f k b l/\eS d j f k b l<(k+f:Nat)
 | 0,k,b,l,h=>by rw[eS];omega
 | f+1,k,b,l,h=>by
   have h1:=aEG d j f (k+1) b l (by omega);have h2:=aEG d j f (k+1) (k:Int) (aZ (d.limits.getD k zR) (iI d k j)).1 (by omega);rw[eS];split
   ·omega
   split
   ·omega
   split<;>omega
theorem aOI (d:aJ)(j:Nat): -1<=gL d j/\gL d j<d.basic.length:=by
 have:=aEG d j d.basic.length 0 (-1) zR (by omega);rw[gL];omega
def oS (d:aJ)(j:Int):Int:=if dH d=true/\0<=j/\j<d.others.length then gL d j.toNat else -1
def aJP (d:aJ)(i j k:Nat):aB × Bool:=aZ (if k=j then aF0 else iI d i k) (iI d i j)
def fF (d:aJ)(i j n:Nat):List aB:=(List.range n).map fun k=>(aJP d i j k).1
def eD (d:aJ)(i j n:Nat):Bool:=(List.range n).all fun k=>(aJP d i j k).2
def dZ (d:aJ)(i j:Nat):aB × Bool:=aZ (d.limits.getD i zR) (iI d i j)
def chX (l:List aB)(c:aB)(p:List aB)(j k:Nat):aB × Bool:=bX (if k=j then aJO else l.getD k zR) c (p.getD k zR)
def eH (l:List aB)(p:List aB)(j n:Nat):List aB:=(List.range n).map fun k=>(chX l (l.getD j zR) p j k).1
def fJ (l:List aB)(p:List aB)(j n:Nat):Bool:=(List.range n).all fun k=>(chX l (l.getD j zR) p j k).2
def aVX (d:aJ)(i j r:Nat):aB × Bool:=bX (d.limits.getD r zR) (iI d r j) (dZ d i j).1
def aDQ (d:aJ)(i j r:Nat):List aB:=if r=i then fF d i j d.others.length else eH (d.table.getD r []) (fF d i j d.others.length) j d.others.length
def aFG (d:aJ)(i j r:Nat):aB:=if r=i then (dZ d i j).1 else (aVX d i j r).1
def aME (d:aJ)(i j r:Nat):Bool:=if r=i then true else fJ (d.table.getD r []) (fF d i j d.others.length) j d.others.length&&(aVX d i j r).2
def gR (d:aJ)(i j n:Nat):List (List aB):=(List.range n).map (aDQ d i j)
def hX (d:aJ)(i j n:Nat):List aB:=(List.range n).map (aFG d i j)
def gM (d:aJ)(i j n:Nat):Bool:=(List.range n).all (aME d i j)
def aPl (d:aJ)(i j:Nat):List aB:=eH d.costs (fF d i j d.others.length) j d.others.length
def aQn (d:aJ)(i j:Nat):Bool:=fJ d.costs (fF d i j d.others.length) j d.others.length
def dS (a b c:aB):aB × Bool:=if b.num=0\/c.num=0 then (a,true) else ((fV a (dQ b c).1).1,(dQ b c).2&&(fV a (dQ b c).1).2)
def aAK (d:aJ)(i j:Nat):aB × Bool:=dS d.value (d.costs.getD j zR) (dZ d i j).1
def mD (d:aJ)(i j:Nat):Bool:=((eD d i j d.others.length&&(dZ d i j).2)&&gM d i j d.basic.length)&&aQn d i j
def aAL:aJ:=⟨[],[],[],[],[],⟨0,0⟩⟩
def sB (d:aJ)(i j:Nat):aJ:=⟨d.basic.set i (d.others.getD j 0),d.others.set j (d.basic.getD i 0),gR d i j d.basic.length,hX d i j d.basic.length,aPl d i j,(aAK d i j).1⟩
def fN (d:aJ)(i j:Nat):aJ × Bool:=if (iI d i j).num≠0/\mD d i j=true/\(aAK d i j).2=true then (sB d i j,true) else (aAL,false)
def bN (d:aJ)(i j:Int):aJ × Bool:=if dH d=true/\(0<=i/\i<d.basic.length)/\0<=j/\j<d.others.length then fN d i.toNat j.toNat else (aAL,false)
theorem aKo (a b c:aB):dS a (dV b) c=bX a b c:=aS1 a b c
theorem aVY {a b c:aB}(ha:aW a=true)(h:(dS a b c).2=true):aW (dS a b c).1=true:=by
 unfold dS at*;split at h
 ·rename_i hp;rw[if_pos hp];exact ha
 rename_i hp;rw[if_neg hp];simp only[aBH] at h;exact aXO h.2
theorem aXQ {a:aB}(h:aW a=true):fV a aJO=(a,true):=by
 have v:cJ 0 1=true:=by decide
 rw[fV,show aLr a.num a.den aJO.num aJO.den=bO (a.num*1+0*a.den) (a.den*1) from aHi h v];rw[Int.zero_mul,Int.mul_one,Int.mul_one,Int.add_zero,aAv h];rfl
theorem aXR {b c:aB}(hb:aW b=true)(hc:aW c=true)(h:b.num=0\/c.num=0):dQ b c=(aJO,true):=by
 have h1:=cC hb;have h2:=cC hc;rw[dQ,zX hb hc,show b.num*c.num=0 from Int.mul_eq_zero.2 h,aKk (Int.mul_ne_zero (by omega) (by omega))];rfl
theorem aPm {a b c:aB}(ha:aW a=true)(hb:aW b=true)(hc:aW c=true):dS a b c=((fV a (dQ b c).1).1,(dQ b c).2&&(fV a (dQ b c).1).2):=by
 unfold dS;split
 ·rename_i h;rw[aXR hb hc h,aXQ ha];rfl
 rfl
theorem aS4:aW aJO=true:=by decide
theorem aCH {l:List aB}{n k:Nat}(h:l.length=n/\ ∀x∈l,aW x=true)(hk:k<n):aW (l.getD k zR)=true:=by
 have hk' :k<l.length:=by omega
 rw[aJL,aEY hk'];exact h.2 _ (aZK hk')
theorem aPn (d:aJ)(i j n:Nat):(fF d i j n).length=n:=by simp[fF]
theorem aS5 {d:aJ}{i j n:Nat}(h:eD d i j n=true): ∀x∈fF d i j n,aW x=true:=by
 intro x hx;obtain⟨k,hk,rfl⟩:=aPy.1 hx;exact aAw (aIt.1 h k hk)
theorem aOJ {l p:List aB}{j n:Nat}(hl:l.length=n/\ ∀x∈l,aW x=true)(h:fJ l p j n=true): ∀x∈eH l p j n,aW x=true:=by
 intro x hx;obtain⟨k,hk,rfl⟩:=aPy.1 hx;refine aOD ?_ (aIt.1 h k hk);split
 ·exact aS4
 exact aCH hl (aSv.1 hk)
theorem aVZ {a b:List Int}{i j:Nat}{x y:Int}(hx:a[i]? =some x)(hy:b[j]? =some y):(a.set i y++b.set j x).Perm (a++b):=by
 obtain⟨hi,rfl⟩:=aHE.1 hx;obtain⟨hj,rfl⟩:=aHE.1 hy;have ea:a.set i b[j]=a.take i++b[j]::a.drop (i+1):=List.set_eq_take_append_cons_drop .. |>.trans (if_pos hi)
 have eb:b.set j a[i]=b.take j++a[i]::b.drop (j+1):=List.set_eq_take_append_cons_drop .. |>.trans (if_pos hj)
 have fa:a=a.take i++a[i]::a.drop (i+1):=by rw[<-List.drop_eq_getElem_cons hi,List.take_append_drop]
 have fb:b=b.take j++b[j]::b.drop (j+1):=by rw[<-List.drop_eq_getElem_cons hj,List.take_append_drop]
 rw[ea,eb]
 conv=>rhs;rw[fa,fb]
 rw[List.perm_iff_count];intro z;simp only[List.count_append,List.count_cons];omega
theorem aXS {d:aJ}{i j:Nat}(h:dH d=true)(hi:i<d.basic.length)(hj:j<d.others.length)(h1:mD d i j=true)(h2:(aAK d i j).2=true):dH (sB d i j)=true:=by
 obtain⟨b1,b2,b3,b4,b5,b6,b7,b8⟩:=iL h;simp only[mD,aBH] at h1;obtain⟨⟨⟨q1,q2⟩,q3⟩,q4⟩:=h1;have hb:d.basic[i]? =some (d.basic.getD i 0):=by rw[aJL,aEY hi];rfl
 have hf:d.others[j]? =some (d.others.getD j 0):=by rw[aJL,aEY hj];rfl
 refine aOG ?_ ?_ ?_ ?_ ?_ ?_
 ·simp only[sB,aK6,gR,aAq,List.length_range];exact⟨by omega,by omega,trivial⟩
 ·refine aOE ?_;have:=aVZ hb hf;exact(this.trans (aFF b4)).trans (by simp only[sB,aSu,aK6];exact .refl _)
 ·refine aIt.2 fun r hr=>?_;simp only[sB,aK6] at hr ⊢;obtain⟨k,hk,rfl⟩:=aPy.1 hr;rw[aSv] at hk;have ok:=aIt.1 q3 k (aSv.2 hk);refine kL.2 ?_;unfold aDQ;split
  ·exact⟨aPn _ _ _ _,aS5 q1⟩
  rename_i hne;rw[aME,if_neg hne,aBH] at ok;have hk' :k<d.table.length:=by omega
  have hc:d.table.getD k []=d.table[k]:=by rw[aJL,aEY hk'];rfl
  exact⟨by simp[eH],aOJ (by rw[hc];exact b5 _ (aZK hk')) ok.1⟩
 ·refine kL.2 ⟨by simp[sB,hX],fun x hx=>?_⟩;obtain⟨k,hk,rfl⟩:=aPy.1 hx;rw[aSv] at hk;have ok:=aIt.1 q3 k (aSv.2 hk);unfold aFG;split
  ·exact aAw q2
  rename_i hne;rw[aME,if_neg hne,aBH] at ok;exact aOD (aCH b6 hk) ok.2
 ·refine kL.2 ⟨by simp[sB,aPl,eH],?_⟩;exact aOJ b7 q4
 exact aVY b8 h2
theorem aQo {d:aJ}{i j:Nat}(h:dH d=true)(hi:i<d.basic.length)(hj:j<d.others.length)(h1:(fN d i j).2=true):dH (fN d i j).1=true/\(fN d i j).1.basic.length=d.basic.length/\(fN d i j).1.others.length=d.others.length:=by
 unfold fN at*;split at h1
 ·rename_i hp;rw[if_pos hp];exact⟨aXS h hi hj hp.2.1 hp.2.2,by simp[sB],by simp[sB]⟩
 cases h1
def kG (p:bV):aJ:=⟨(List.range p.rows.length).map (fun (i:Nat)=>((p.objective.length+i:Nat):Int)),upto p.objective.length,p.rows.map (List.map aP),p.limits.map aP,p.objective.map aP,aP 0⟩
theorem sZ {n:Int}(h: -99<=n/\n<=99):aW (aP n)=true:=by
 have e:Int.gcd n 1=1:=by simp
 simp only[aW,aP,cJ,e,aBH,aWB,and_true];exact⟨by decide,qA (by omega) (by omega)⟩
theorem aOK {p:bV}(h:cS p=true):dH (kG p)=true:=by
 obtain⟨b1,b2,b3,b4,b5⟩:=mO h;refine aOG ?_ ?_ ?_ ?_ ?_ ?_
 ·simp only[kG,aAq,List.length_range];exact⟨by omega,by omega,trivial⟩
 ·refine aIt.2 fun i hi=>?_;rw[aSv] at hi;simp only[kG,aSu,aAq,List.length_range] at hi;refine List.any_eq_true.2 ⟨(i:Int),?_,by simp[isD]⟩;simp only[kG,aIv,aPy,aSv];by_cases hn:i<p.objective.length
  ·exact .inr ⟨i,hn,rfl⟩
  exact .inl ⟨i - p.objective.length,by omega,by omega⟩
 ·refine aIt.2 fun r hr=>?_;obtain⟨l,hl,rfl⟩:=aPy.1 hr;have hb:=b4 l (aKm _ hl);refine kL.2 ⟨by simp[kG,hb.1],fun x hx=>?_⟩;obtain⟨n,hn,rfl⟩:=aPy.1 hx;have:=hb.2 n hn;exact sZ (by omega)
 ·refine kL.2 ⟨by simp[kG,b3],fun x hx=>?_⟩;obtain⟨n,hn,rfl⟩:=aPy.1 hx;have:=b5 n hn;exact sZ (by omega)
 ·refine kL.2 ⟨by simp[kG],fun x hx=>?_⟩;obtain⟨n,hn,rfl⟩:=aPy.1 hx;have:=(b4 p.objective (by simp)).2 n hn;exact sZ (by omega)
 exact sZ (by omega)
theorem aKp (p:bV):(kG p).basic.length=p.rows.length/\(kG p).others.length=p.objective.length:=by simp[kG]
def eR (p:bV):aJ × Bool:=if cS p=true then (kG p,true) else (aAL,false)
theorem aAM {p:bV}(h:cS p=true):eR p=(kG p,true):=by rw[eR,if_pos h]
theorem aMF {p:bV}(h:cS p=false):eR p=(aAL,false):=by rw[eR,if_neg (by rw[h];decide)]
def gV:Nat->aJ->aJ × Bool
 | 0,_=>(aAL,false)
 | f+1,d=>if eY d<0 then (d,true) else if gL d (eY d).toNat<0 then (aAL,false) else if (fN d (gL d (eY d).toNat).toNat (eY d).toNat).2=true then gV f (fN d (gL d (eY d).toNat).toNat (eY d).toNat).1 else (aAL,false)
theorem aID {d:aJ}{n s:Nat}(hs:s<n)(h:eY d<0):gV (n - s) d=(d,true):=by
 rw[show n - s=(n - (s+1))+1 by omega,gV,if_pos h]
theorem aKq {d:aJ}{n s:Nat}(hs:s<n)(h: ¬eY d<0)(h2:gL d (eY d).toNat<0):gV (n - s) d=(aAL,false):=by
 rw[show n - s=(n - (s+1))+1 by omega,gV,if_neg h,if_pos h2]
theorem aKr {d:aJ}{n s:Nat}(hs:s<n)(h: ¬eY d<0)(h2: ¬gL d (eY d).toNat<0)(h3:(fN d (gL d (eY d).toNat).toNat (eY d).toNat).2=false):gV (n - s) d=(aAL,false):=by
 rw[show n - s=(n - (s+1))+1 by omega,gV,if_neg h,if_neg h2,if_neg (by rw[h3];decide)]
theorem aIE {d:aJ}{n s:Nat}(hs:s<n)(h: ¬eY d<0)(h2: ¬gL d (eY d).toNat<0)(h3:(fN d (gL d (eY d).toNat).toNat (eY d).toNat).2=true):gV (n - s) d=gV (n - (s+1)) (fN d (gL d (eY d).toNat).toNat (eY d).toNat).1:=by
 rw[show n - s=(n - (s+1))+1 by omega,gV,if_neg h,if_neg h2,if_pos h3]
theorem aPo {d:aJ}{n s:Nat}(hs:s+1=n)(h: ¬eY d<0):gV (n - s) d=(aAL,false):=by
 rw[show n - s=0+1 by omega,gV,if_neg h];split
 ·rfl
 split<;>rfl
def nS (d:aJ)(n:Nat):Nat->List aB
 | 0=>List.replicate n (aP 0)
 | i+1=>if d.basic.getD i 0<n then (nS d n i).set (d.basic.getD i 0).toNat (d.limits.getD i zR) else nS d n i
def nT (d:aJ)(n m:Nat):Nat->List aB
 | 0=>List.replicate m (aP 0)
 | k+1=>if (n:Int)<=d.others.getD k 0 then (nT d n m k).set (d.others.getD k 0 - n).toNat (dV (d.costs.getD k zR)) else nT d n m k
def aIF:aAf:=⟨⟨0,0⟩,[],[]⟩
def aZ7 (d:aJ)(n m:Nat):aAf:=⟨d.value,nS d n d.basic.length,nT d n m d.others.length⟩
def dY (p:bV):aAf × Bool:=if cS p=true/\(gV 300 (kG p)).2=true then (aZ7 (gV 300 (kG p)).1 p.objective.length p.rows.length,true) else (aIF,false)
theorem aQp {p:bV}(h:cS p=false):dY p=(aIF,false):=by rw[dY,if_neg (by rw[h];simp)]
theorem uM {p:bV}(h:gV 300 (kG p)=(aAL,false)):dY p=(aIF,false):=by rw[dY,h,if_neg (by simp)]
theorem aOL {p:bV}{d:aJ}(h:cS p=true)(h2:gV 300 (kG p)=(d,true)):dY p=(aZ7 d p.objective.length p.rows.length,true):=by rw[dY,h2,if_pos ⟨h,rfl⟩]
theorem aS6 {α:Type}{p:α->Bool}{l:List α}{k:Nat}{x:α}(h:l[k]? =some x)(hp:p x=true):l.any p=true:=List.any_eq_true.2 ⟨x,aCX h,hp⟩
theorem aS7 {α:Type}{p:α->Bool}{l:List α}{k:Nat}{x:α}(h:l[k]? =some x)(ha:(l.take k).any p=false)(hp:p x=false):(l.take (k+1)).any p=false:=by
 rw[List.take_add_one,h];simp[ha,hp]
theorem aS8 {α:Type}{p:α->Bool}{l:List α}{k:Nat}(hge:l.length<=k)(ha:(l.take k).any p=false):l.any p=false:=by rwa [aIs hge] at ha
theorem upN {p:Nat->Prop}{k:Nat}(ha: ∀i,i<k->p i)(h:p k): ∀i,i<k+1->p i:=by
 intro i hi;rcases Nat.lt_or_eq_of_le (Nat.le_of_lt_succ hi) with h' | rfl
 ·exact ha i h'
 exact h
theorem aXT {l:List Int}{n:Nat}(hn:l.length<=n)(h: ∀i,i<n->l.any (isD (i:Nat))=true):qC l=true:=aIt.2 fun i hi=>h i (by rw[aSv] at hi;omega)
theorem aXU {l:List Int}{k:Nat}(hk:k<l.length)(h:l.any (isD (k:Nat))=false):qC l=false:=by
 cases e:qC l with
 | false=>rfl
 | true=>rw[aIt.1 e k (aSv.2 hk)] at h;cases h
abbrev aFH (l:List Int)(n:Int):Prop:=Cn 183 [.one (.sl 3 1 (l.map intD)),.one (.int .i64 n)] (vB (l.any (isD n))) []
theorem aS9 (l:List Int)(n:Int):aFH l n:=by
 refine cq Tryz.func183 (.loop Nat (Q1 Nat) (rg 5 13) [] (fun k=>[(5,vI (k:Int))]) (fun k=>[]) (fun k=>k<=l.length/\(l.take k).any (isD n)=false) (fun k=>l.length - k) (fun k=> .len l.length<| .br (.elem _ intD l (fun e14=> .br (.fin []) (.back []))) (.fin []))) (p:=Lx (l.map intD)<| (∃(k:Nat),0=(k:Int)/\k<=l.length/\(l.take k).any (isD n)=false)/\ ∀(k:Nat),(k<=l.length/\(l.take k).any (isD n)=false)->Lm intD l/\Br ((k:Int)<(l.length:Int)) (0<=(k:Int)/\Em intD l k fun e14=>Br (e14=n) ((true)=(l.any (isD n))/\True) (bJ ((k:Int)+1)/\ ∃(k' :Nat),((k:Int)+1)=(k' :Int)/\(k' <=l.length/\(l.take k').any (isD n)=false)/\l.length - k' <l.length - k)) ((false)=(l.any (isD n))/\True)) (by kernel_rfl) ?_;refine lx fun n0=>?_;refine⟨⟨0,rfl,aBn _,rfl⟩,fun k ⟨hk,ha⟩=>?_⟩;refine⟨aAq _,dd (fun c0=>?_) fun c0=>?_⟩
 ·refine⟨by omega,rfl,by omega,fun e14 h14=>?_⟩;refine dd (fun c1=>?_) fun c1=>?_
  ·apply et1
   ·(rw[aS6 h14 (decide_eq_true c1)];done)
  ·refine⟨⟨by omega,by omega⟩,?_⟩;exact⟨k+1,rfl,⟨by omega,aS7 h14 ha (decide_eq_false c1)⟩,by omega⟩
 ·apply et1
  ·(rw[aS8 (by omega) ha];done)
abbrev tA (l:List aB):Prop:=Cn 201 [.one (.sl 38 2 (l.map aA))] (vB (l.all aW)) []
theorem aEH (l:List aB):tA l:=by
 refine cq Tryz.func201 (.loop Nat (Q1 Nat) (rg 3 13) [] (fun k=>[(3,vI (k:Int))]) (fun k=>[]) (fun k=>k<=l.length/\(l.take k).all aW=true) (fun k=>l.length - k) (fun k=> .len l.length<| .br (.elem _ aA l (fun e12=> .call (vB (aW e12)) []<| .br (.fin []) (.back []))) (.fin []))) (p:=Lx (l.map aA)<| (∃(k:Nat),0=(k:Int)/\k<=l.length/\(l.take k).all aW=true)/\ ∀(k:Nat),(k<=l.length/\(l.take k).all aW=true)->Lm aA l/\Br ((k:Int)<(l.length:Int)) (0<=(k:Int)/\Em aA l k fun e12=>eQ e12/\Nr (aW e12) ((false)=(l.all aW)/\True) (bJ ((k:Int)+1)/\ ∃(k' :Nat),((k:Int)+1)=(k' :Int)/\(k' <=l.length/\(l.take k').all aW=true)/\l.length - k' <l.length - k)) ((true)=(l.all aW)/\True)) (by kernel_rfl) ?_;refine lx fun n0=>?_;refine⟨⟨0,rfl,aBn _,rfl⟩,fun k ⟨hk,ha⟩=>?_⟩;refine⟨aAq _,dd (fun c0=>?_) fun c0=>?_⟩
 ·refine⟨by omega,rfl,by omega,fun e12 h12=>?_⟩;refine⟨iA e12,dm (fun c1=>?_) fun c1=>?_⟩
  ·apply et1
   ·(rw[eL h12 c1];done)
  ·refine⟨⟨by omega,by omega⟩,?_⟩;exact⟨k+1,rfl,⟨by omega,cL h12 ha c1⟩,by omega⟩
 ·apply et1
  ·(rw[cZ (by omega) ha];done)
end Go.Proofs.YtlidmoeecphbmaaGreat
