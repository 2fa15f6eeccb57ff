/-
  Contracts and plain laws, joined: part 14.
-/
import Derived.Test.YtlidmoeecphbmaaGreates12
import Derived.Test.YtlidmoeecphbmaaGreates11
import Derived.Test.YtlidmoeecphbmaaGreates3
namespace Go.Proofs.YtlidmoeecphbmaaGreat
open Go.ChangeShapes Go.WideShapes Go.ChangeAt Go.RowKit
set_option linter.unusedVariables false
set_option linter.unusedSimpArgs false
set_option maxRecDepth 100000
set_option maxHeartbeats 4000000
abbrev aJE (s:StoreD)(q:QueryD)(m:Int):Prop:=Cn 39 [.agg [.sl 142 3 (s.database.tables.map aS),.int .i64 s.catalogue.version,.sl 88 4 (s.catalogue.tables.map aF),.sl 121 3 (s.dependencies.map aN),.sl 123 4 (s.inclusions.map aQ)],.agg [.int .i64 q.variableCount,.sl 125 2 (q.atoms.map bB)],.one (.int .i64 m)] (vB (qOk s q m)) []
theorem aW3 (s:StoreD)(q:QueryD)(m:Int)(hc:dZ s<=1048576):aJE s q m:=by
 refine cq Tryz.func39 (.call (vB (iL s)) []<| .br (.call (vB (iE s.database q)) []<| .lit<| .br (.call (vI (pI q)) []<| .call (vB (eQ m (1:Int) (pI q))) []<| .fin []) (.fin [])) (.fin [])) (p:=Lx (s.database.tables.map aS)<| Lx (s.catalogue.tables.map aF)<| Lx (s.dependencies.map aN)<| Lx (s.inclusions.map aQ)<| Lx (q.atoms.map bB)<| aGI s/\Bb (iL s) (aIz s.database q/\Bb (iE s.database q) (aGN q/\fI m (1:Int) (pI q)/\(eQ m (1:Int) (pI q))=(qOk s q m)/\True) ((false)=(qOk s q m)/\True)) ((false)=(qOk s q m)/\True)) (by kernel_rfl) ?_;refine lx fun n0=>lx fun n1=>lx fun n2=>lx fun n3=>lx fun n4=>?_;have hS:dZ s=bM s.database+bS s.catalogue+cC s.dependencies+cR s.inclusions:=rfl;have hI:=fB s.inclusions;refine⟨aTf _ (by omega),db (fun g9=>?_) fun g9=>?_⟩
 ·refine⟨aWX s.database _ (by omega),db (fun g15=>?_) fun g15=>?_⟩
  ·refine⟨aTk _,jU _ _ _,?_,trivial⟩
   ·(rw[qOk,g9,g15];rfl)
  ·apply et1
   ·(rw[qOk,g9,g15];rfl)
 ·apply et1
  ·(rw[qOk,g9];rfl)
abbrev yT (s:StoreD)(q:QueryD)(i:Int):AV × List (Nat × Rs):=(.agg [.p none (.str ((iF s q i.toNat).name)),vI ((iF s q i.toNat).arity),vI ((iF s q i.toNat).rowCount),.p none (.sl 220 3 ((iF s q i.toNat).groups.map aC))],[])
abbrev aE1 (s:StoreD)(q:QueryD)(i:Int):Prop:=Cn 40 [.agg [.sl 142 3 (s.database.tables.map aS),.int .i64 s.catalogue.version,.sl 88 4 (s.catalogue.tables.map aF),.sl 121 3 (s.dependencies.map aN),.sl 123 4 (s.inclusions.map aQ)],.agg [.int .i64 q.variableCount,.sl 125 2 (q.atoms.map bB)],.one (.int .i64 i)] (yT s q i).1 (yT s q i).2
theorem aQt (s:StoreD)(q:QueryD)(i:Int)(hc:dZ s<=1048576)(hi:0<=i/\i.toNat<q.atoms.length):aE1 s q i:=by
 refine cq Tryz.func40 (.elem _ bB q.atoms (fun e15=> .call (.tup [.agg [.p none (.str ((dH s.catalogue e15.name).1.name)),vI ((dH s.catalogue e15.name).1.arity),vI ((dH s.catalogue e15.name).1.rowCount),.p none (.sl 220 3 ((dH s.catalogue e15.name).1.groups.map aC))],vB ((dH s.catalogue e15.name).2)]) []<| .fin [])) (p:=Lx (s.database.tables.map aS)<| Lx (s.catalogue.tables.map aF)<| Lx (s.dependencies.map aN)<| Lx (s.inclusions.map aQ)<| Lx (q.atoms.map bB)<| 0<=i/\Em bB q.atoms ((i).toNat) fun e15=>rM Tryz.prog 76 [.agg [.int .i64 s.catalogue.version,.sl 88 4 (s.catalogue.tables.map aF)],.one (.str e15.name)] (.tup [.agg [.p none (.str ((dH s.catalogue e15.name).1.name)),vI ((dH s.catalogue e15.name).1.arity),vI ((dH s.catalogue e15.name).1.rowCount),.p none (.sl 220 3 ((dH s.catalogue e15.name).1.groups.map aC))],vB ((dH s.catalogue e15.name).2)]) []/\((dH s.catalogue e15.name).1.name)=((iF s q i.toNat).name)/\((dH s.catalogue e15.name).1.arity)=((iF s q i.toNat).arity)/\((dH s.catalogue e15.name).1.rowCount)=((iF s q i.toNat).rowCount)/\(dH s.catalogue e15.name).1.groups.map aC=(iF s q i.toNat).groups.map aC/\True) (by kernel_rfl) ?_;refine lx fun n0=>lx fun n1=>lx fun n2=>lx fun n3=>lx fun n4=>?_;have hS:dZ s=bM s.database+bS s.catalogue+cC s.dependencies+cR s.inclusions:=rfl;have hI:=fB s.inclusions;refine⟨by omega,rfl,by omega,fun e15 h15=>?_⟩;refine⟨kX (aTh s.catalogue e15.name (by omega)) rfl,?_,?_,?_,?_,trivial⟩<;>((rw[iF,bO h15]<;>rfl))
theorem aE2 {s:StoreD}(q:QueryD)(i:Nat)(hc:dZ s<=1048576):bD (iF s q i)<=1048576:=by
 have h1:=aPN s.catalogue (q.atoms.getD i jK).name;have hS:dZ s=bM s.database+bS s.catalogue+cC s.dependencies+cR s.inclusions:=rfl;unfold iF;omega
abbrev yU (s:StoreD)(q:QueryD)(m:Int):AV × List (Nat × Rs):=(.own 0,[(0,.arr 192 3 true ((eH s q m).map aG))])
abbrev aE3 (s:StoreD)(q:QueryD)(m:Int):Prop:=Cn 99 [.agg [.sl 142 3 (s.database.tables.map aS),.int .i64 s.catalogue.version,.sl 88 4 (s.catalogue.tables.map aF),.sl 121 3 (s.dependencies.map aN),.sl 123 4 (s.inclusions.map aQ)],.agg [.int .i64 q.variableCount,.sl 125 2 (q.atoms.map bB)],.one (.int .i64 m)] (yU s q m).1 (yU s q m).2
theorem aQu (s:StoreD)(q:QueryD)(m:Int)(hc:dZ s<=1048576)(hcq:iO q<=1048576):aE3 s q m:=by
 refine cq Tryz.func99 (.call (vB (iL s)) []<| .br (.fin []) (.call (vB (iE s.database q)) []<| .lit<| .lit<| .br (.fin []) (.call (vI (pI q)) []<| .call (vB (eQ m (1:Int) (pI q))) []<| .lit<| .lit<| .br (.fin []) (bJ (aDE m)<| .len ((fU m).length)<| .loop (Nat × (List aL)) (Q2 Nat (List aL)) ([7,9,10,11,12,30]++rg 34 30) [1000,3000,5600,6200] (fun yy0=>[(34,vI (yy0.1:Int)),(7,.own 3000)]) (fun yy0=>[(3000,some (.arr 192 3 true (yy0.2.map aG)))]) (fun yy0=>yy0.1<=(fU m).length/\yy0.2=qcL s q ((fU m).take yy0.1)/\aEZ s q ((fU m).take yy0.1)=true) (fun yy0=>(fU m).length - yy0.1) (fun yy0=> .br (.len ((fU m).length)<| .elem _ intD (fU m) (fun e37=> .elem _ bB q.atoms (fun e44=> .call (.tup [.agg [.p none (.str ((dH s.catalogue e44.name).1.name)),vI ((dH s.catalogue e44.name).1.arity),vI ((dH s.catalogue e44.name).1.rowCount),.p none (.sl 220 3 ((dH s.catalogue e44.name).1.groups.map aC))],vB ((dH s.catalogue e44.name).2)]) []<| .elem _ bB q.atoms (fun e54=>bJ (aBF ((dH s.catalogue e44.name).1) e54)<| .len ((oF ((dH s.catalogue e44.name).1) e54).length)<| .br (.fin []) (.app aL aG yy0.2 (oF ((dH s.catalogue e44.name).1) e54)<| .back [(3000,6200)]))))) (.fin [(0,3000)])))))) (p:=Lx (s.database.tables.map aS)<| Lx (s.catalogue.tables.map aF)<| Lx (s.dependencies.map aN)<| Lx (s.inclusions.map aQ)<| Lx (q.atoms.map bB)<| aGH s/\Nr (iL s) ([]=(eH s q m).map aG/\True) (aIy s.database q/\Nr (iE s.database q) ([]=(eH s q m).map aG/\True) (aGM q/\(fH m (1:Int) (pI q)/\Nr (eQ m (1:Int) (pI q)) ([]=(eH s q m).map aG/\True) (aJA m/\(Lm intD (fU m)/\((∃(k:Nat) (out:List aL),0=(k:Int)/\[]=out.map aG/\k<=(fU m).length/\out=qcL s q ((fU m).take k)/\aEZ s q ((fU m).take k)=true)/\ ∀(k:Nat) (out:List aL),(k<=(fU m).length/\out=qcL s q ((fU m).take k)/\aEZ s q ((fU m).take k)=true)->Br ((k:Int)<(((fU m).length:Nat):Int)) (0<=(k:Int)/\Lm intD (fU m)/\(k:Int)<(((fU m).length:Nat):Int)/\Em intD (fU m) k fun e37=>0<=e37/\Em bB q.atoms ((e37).toNat) fun e44=>rM Tryz.prog 154 [.agg [.int .i64 s.catalogue.version,.sl 88 4 (s.catalogue.tables.map aF)],.one (.str e44.name)] (.tup [.agg [.p none (.str ((dH s.catalogue e44.name).1.name)),vI ((dH s.catalogue e44.name).1.arity),vI ((dH s.catalogue e44.name).1.rowCount),.p none (.sl 220 3 ((dH s.catalogue e44.name).1.groups.map aC))],vB ((dH s.catalogue e44.name).2)]) []/\0<=e37/\Em bB q.atoms ((e37).toNat) fun e54=>aGR ((dH s.catalogue e44.name).1) e54/\Lm aG (oF ((dH s.catalogue e44.name).1) e54)/\Br ((((oF ((dH s.catalogue e44.name).1) e54).length:Nat):Int)=0) ([]=(eH s q m).map aG/\True) (Ap aG out (oF ((dH s.catalogue e44.name).1) e54) 24 (bK ((k:Int)+1)/\ ∃(k' :Nat) (out' :List aL),((k:Int)+1)=(k' :Int)/\(out++(oF ((dH s.catalogue e44.name).1) e54)).map aG=out'.map aG/\(k' <=(fU m).length/\out' =qcL s q ((fU m).take k')/\aEZ s q ((fU m).take k')=true)/\(fU m).length - k' <(fU m).length - k))) (out.map aG=(eH s q m).map aG/\True)))))))) (by kernel_rfl) ?_;refine lx fun n0=>lx fun n1=>lx fun n2=>lx fun n3=>lx fun n4=>?_;have hS:dZ s=bM s.database+bS s.catalogue+cC s.dependencies+cR s.inclusions:=rfl;have hI:=fB s.inclusions;have hQ:iO q=jY q.atoms:=rfl;refine⟨aTe _ (by omega),dm (fun g16=>?_) fun g16=>?_⟩
 ·have hbad:qOk s q m=false:=by (simp[qOk,g16];done)
  apply et1
  ·(rw[aE0 hbad]<;>rfl)
 ·refine⟨aWW s.database _ (by omega),dm (fun g23=>?_) fun g23=>?_⟩
  ·have hbad:qOk s q m=false:=by (simp[qOk,g23];done)
   apply et1
   ·(rw[aE0 hbad]<;>rfl)
  ·refine⟨aTj _,jT _ _ _,dm (fun c0=>?_) fun c0=>?_⟩
   ·have hbad:qOk s q m=false:=by (simp[qOk,c0];done)
    apply et1
    ·(rw[aE0 hbad]<;>rfl)
   ·have hq:qOk s q m=true:=by (rw[qOk,g16,g23,c0];rfl)
    obtain⟨hq1,hq2,hq3,hm1,hm2,hm3,hm4,hm5⟩:=aFV hq;have hml:=aLy m;refine⟨aWY m,aAH _,⟨0,([]:List aL),rfl,rfl,aDB _,rfl,rfl⟩,fun k out ⟨hk,ho,ha⟩=>?_⟩;have hlen:out.length<=28:=by rw[ho];have z1:=aHF s q ((fU m).take k);have z2:=List.length_take_le k (fU m);omega
    refine dd (fun c1=>?_) fun c1=>?_
    ·refine⟨by omega,aAH _,by omega,rfl,by omega,fun e37 h37=>?_⟩;have he:=aW2 hq (aDd h37);have hem:=aDd h37;refine⟨by omega,rfl,by omega,fun e44 h44=>?_⟩;have hst:(dH s.catalogue e44.name).1=iF s q e37.toNat:=by rw[iF,bO h44]
     have hcs:=aE2 q e37.toNat hc;rw[<-hst] at hcs;have hcA:=aFE h44;refine⟨kX (aTg s.catalogue e44.name (by omega)) rfl,by omega,rfl,by omega,fun e54 h54=>?_⟩;obtain rfl:=(aY h44 h54).symm;have hE:oF (dH s.catalogue e44.name).1 e44=qcA s q e37:=by rw[qcA,hst,bO h44]
     have hzl:=aIt (dH s.catalogue e44.name).1 e44;refine⟨aTo ((dH s.catalogue e44.name).1) _ (by omega) (by omega),aAH _,dd (fun c2=>?_) fun c2=>?_⟩
     ·apply et1
      ·(rw[aMB hem (by rw[<-hE];omega)]<;>rfl)
     ·refine ap ?_ (fun _=>rfl) (by omega);refine⟨⟨by omega,by omega⟩,?_⟩;exact⟨k+1,_,rfl,rfl,⟨by omega,by rw[ho,bT h37,aPQ,hE],by rw[bT h37];exact aMC ha (by rw[<-hE];exact c2)⟩,by omega⟩
    ·apply et1
     ·(rw[aMA hq (by rw[aGT (by omega)] at ha;exact ha),ho,aGT (by omega)])
abbrev yV (s:StoreD)(q:QueryD)(m:Int):AV × List (Nat × Rs):=(.own 0,[(0,.arr 192 3 true ((eH s q m).map aG))])
abbrev aE4 (s:StoreD)(q:QueryD)(m:Int):Prop:=Cn 90 [.agg [.sl 142 3 (s.database.tables.map aS),.int .i64 s.catalogue.version,.sl 88 4 (s.catalogue.tables.map aF),.sl 121 3 (s.dependencies.map aN),.sl 123 4 (s.inclusions.map aQ)],.agg [.int .i64 q.variableCount,.sl 125 2 (q.atoms.map bB)],.one (.int .i64 m)] (yV s q m).1 (yV s q m).2
theorem aQv (s:StoreD)(q:QueryD)(m:Int)(hc:dZ s<=1048576)(hcq:iO q<=1048576):aE4 s q m:=by
 refine cq Tryz.func90 (.call (vB (qOk s q m)) []<| .br (.fin [(0,1000)]) (.loop (Nat × (List aL)) (Q2 Nat (List aL)) ([7,8,9,10]++rg 17 25++[43,44,45]) [1000,3800,4500] (fun yy0=>[(8,vI (yy0.1:Int)),(7,.own 1000)]) (fun yy0=>[(1000,some (.arr 192 3 true (yy0.2.map aG)))]) (fun yy0=>yy0.1<=q.atoms.length/\yy0.2=qcL s q (iD (gG m) yy0.1)/\aEZ s q (iD (gG m) yy0.1)=true) (fun yy0=>q.atoms.length - yy0.1) (fun yy0=> .len q.atoms.length<| .br (.br (.back [(1000,1000)]) (bJ (yT s q (yy0.1:Int))<| .elem _ bB q.atoms (fun e36=>bJ (aBG (iF s q (yy0.1:Int).toNat) e36)<| .len ((oF (iF s q (yy0.1:Int).toNat) e36).length)<| .br (.fin [(0,4200)]) (.app aL aG yy0.2 (oF (iF s q (yy0.1:Int).toNat) e36)<| .back [(1000,4500)])))) (.fin [(0,1000)])))) (p:=Lx (s.database.tables.map aS)<| Lx (s.catalogue.tables.map aF)<| Lx (s.dependencies.map aN)<| Lx (s.inclusions.map aQ)<| Lx (q.atoms.map bB)<| aJE s q m/\Nr (qOk s q m) ([]=(eH s q m).map aG/\True) ((∃(k:Nat) (out:List aL),0=(k:Int)/\[]=out.map aG/\k<=q.atoms.length/\out=qcL s q (iD (gG m) k)/\aEZ s q (iD (gG m) k)=true)/\ ∀(k:Nat) (out:List aL),(k<=q.atoms.length/\out=qcL s q (iD (gG m) k)/\aEZ s q (iD (gG m) k)=true)->Lm bB q.atoms/\Br ((k:Int)<(q.atoms.length:Int)) ((0<=(k:Int)/\(k:Int)<=64)/\Br ((cL .and .i64 (m/2^k) (1:Int))=0) (bK ((k:Int)+1)/\ ∃(k' :Nat) (out' :List aL),((k:Int)+1)=(k' :Int)/\out.map aG=out'.map aG/\(k' <=q.atoms.length/\out' =qcL s q (iD (gG m) k')/\aEZ s q (iD (gG m) k')=true)/\q.atoms.length - k' <q.atoms.length - k) (aE1 s q (k:Int)/\0<=(k:Int)/\Em bB q.atoms k fun e36=>aGS (iF s q (k:Int).toNat) e36/\Lm aG (oF (iF s q (k:Int).toNat) e36)/\Br ((((oF (iF s q (k:Int).toNat) e36).length:Nat):Int)=0) ([]=(eH s q m).map aG/\True) (Ap aG out (oF (iF s q (k:Int).toNat) e36) 24 (bK ((k:Int)+1)/\ ∃(k' :Nat) (out' :List aL),((k:Int)+1)=(k' :Int)/\(out++(oF (iF s q (k:Int).toNat) e36)).map aG=out'.map aG/\(k' <=q.atoms.length/\out' =qcL s q (iD (gG m) k')/\aEZ s q (iD (gG m) k')=true)/\q.atoms.length - k' <q.atoms.length - k)))) (out.map aG=(eH s q m).map aG/\True))) (by kernel_rfl) ?_;refine lx fun n0=>lx fun n1=>lx fun n2=>lx fun n3=>lx fun n4=>?_;have hS:dZ s=bM s.database+bS s.catalogue+cC s.dependencies+cR s.inclusions:=rfl;have hI:=fB s.inclusions;have hQ:iO q=jY q.atoms:=rfl;refine⟨aW3 s q m (by omega),dm (fun c0=>?_) fun c0=>?_⟩
 ·have hbad:qOk s q m=false:=by simpa using c0
  apply et1
  ·(rw[aE0 hbad]<;>rfl)
 ·have hq:qOk s q m=true:=by simpa using c0
  obtain⟨hq1,hq2,hq3,hm1,hm2,hm3,hm4,hm5⟩:=aFV hq;refine⟨⟨0,([]:List aL),rfl,rfl,aDB _,rfl,rfl⟩,fun k out ⟨hk,ho,ha⟩=>?_⟩;have hlen:out.length<=28:=by rw[ho];have z1:=aHF s q (iD (gG m) k);have z2:=aAt (gG m) k;omega
  refine⟨aAH _,dd (fun c1=>?_) fun c1=>?_⟩
  ·refine⟨⟨by omega,by omega⟩,dd (fun c2=>?_) fun c2=>?_⟩
   ·refine⟨⟨by omega,by omega⟩,?_⟩;exact⟨k+1,_,rfl,rfl,⟨by omega,by (rw[ho,aBy (aFQ (by omega))];done),by (rw[aBy (aFQ (by omega))];exact ha)⟩,by omega⟩
   ·have hb:gG m k=true:=by have z:=aWG (m:=m) (v:=k) ⟨by omega,by omega⟩ (by omega);rw[decide_eq_false c2] at z;simpa using z
    have hcs:=aE2 q (k:Int).toNat hc;refine⟨aQt s q (k:Int) (by omega) (by exact⟨by omega,by omega⟩),by omega,rfl,by omega,fun e36 h36=>?_⟩;have hE:oF (iF s q (k:Int).toNat) e36=qcA s q (k:Int):=by rw[qcA,Int.toNat_natCast,bO h36]
    have hzl:=aIt (iF s q (k:Int).toNat) e36;have hcA:=aFE h36;refine⟨aTp (iF s q (k:Int).toNat) _ (by omega) (by omega),aAH _,dd (fun c3=>?_) fun c3=>?_⟩
    ·have hem:(k:Int)∈fU m:=by rw[aNT hq];exact aPB.2 ⟨by omega,by omega,by simpa using hb⟩
     apply et1
     ·(rw[aMB hem (by rw[<-hE];omega)]<;>rfl)
    ·refine ap ?_ (fun _=>rfl) (by omega);refine⟨⟨by omega,by omega⟩,?_⟩;exact⟨k+1,_,rfl,rfl,⟨by omega,by (rw[ho,aAs hb,aPQ,hE]),by (rw[aAs hb];exact aMC ha (by rw[<-hE];exact c3))⟩,by omega⟩
  ·have hkl:q.atoms.length=k:=by omega
   rw[<-hkl,<-aNT hq] at ho ha;apply et1
   ·(rw[aMA hq ha,ho])
def dF (n d:Int):Bool:=eQ d 1 2147483647&&eQ n (-2147483647) 2147483647&&decide (Int.gcd n d=1)
theorem aJF {n d:Int}(h:dF n d=true):1<=d/\d<=2147483647/\ -2147483647<=n/\n<=2147483647/\Int.gcd n d=1:=by
 simp only[dF,aCA,aUa] at h;obtain⟨⟨h1,h2⟩,h3⟩:=h;have:=eN h1;have:=eN h2;exact⟨by omega,by omega,by omega,by omega,h3⟩
def bQ (n d:Int):Int × Int × Bool:=
 if d=0 then (0,0,false) else
 let n1:=if d<0 then -n else n
 let d1:=if d<0 then -d else d
 let g:Int:=Int.gcd n1 d1
 if dF (n1.tdiv g) (d1.tdiv g)=true then (n1.tdiv g,d1.tdiv g,true) else (0,0,false)
def aNU (a b c d:Int):Int × Int × Bool:=if dF a b=true/\dF c d=true then bQ (a*d+c*b) (b*d) else (0,0,false)
def aNV (a b c d:Int):Int × Int × Bool:=if dF a b=true/\dF c d=true then bQ (a*d - c*b) (b*d) else (0,0,false)
def aTq (a b c d:Int):Int × Int × Bool:=if dF a b=true/\dF c d=true then bQ (a*c) (b*d) else (0,0,false)
def aKc (a b c d:Int):Int × Int × Bool:=if dF a b=true/\dF c d=true then bQ (a*d) (b*c) else (0,0,false)
def aW4 (a b c d:Int):Int:=if dF a b=true/\dF c d=true then (if a*d<c*b then -1 else if c*b<a*d then 1 else 0) else 0
theorem aPR (x y:Int):Int.gcd y (x.tmod y)=Int.gcd x y:=by
 rw[Int.gcd_comm x y];unfold Int.gcd;rw[Int.natAbs_tmod,Nat.gcd_comm y.natAbs (x.natAbs%y.natAbs),<-Nat.gcd_rec]
theorem aYb (x:Int):(Int.gcd x 0:Int)=(if x< -x then -x else x):=by
 rw[Int.gcd_zero_right];split<;>omega
theorem aE5 {x y:Int}(h:y≠0):(x.tmod y).natAbs<y.natAbs:=by
 rw[Int.natAbs_tmod];exact Nat.mod_lt _ (by omega)
theorem aJG {x:Int}{n:Nat}(h:x.natAbs<n)(hn:n<=9223372036854775807): -9223372036854775807<=x/\x<=9223372036854775807:=by omega
theorem aW5 (n g:Int)(hn: -9223372036854775807<=n/\n<=9223372036854775807): -9223372036854775807<=n.tdiv g/\n.tdiv g<=9223372036854775807:=by
 have h1:(n.tdiv g).natAbs=n.natAbs/g.natAbs:=Int.natAbs_tdiv n g;have h2:n.natAbs/g.natAbs<=n.natAbs:=Nat.div_le_self _ _;omega
theorem nX {n d:Int}(h:d≠0):1<=(Int.gcd n d:Int):=by
 have:0<Int.gcd n d:=Int.gcd_pos_of_ne_zero_right n h;omega
theorem oG (n:Int):bQ n 0=(0,0,false):=by simp[bQ]
theorem aTr {n d g:Int}(h:0<d)(hg:g=Int.gcd n d):bQ n d=if dF (n.tdiv g) (d.tdiv g)=true then (n.tdiv g,d.tdiv g,true) else (0,0,false):=by
 subst hg;unfold bQ;rw[if_neg (by omega)];simp only[if_neg (show ¬d<0 by omega)]
theorem aTs {n d g:Int}(h:d<0)(hg:g=Int.gcd (-n) (-d)):bQ n d=if dF ((-n).tdiv g) ((-d).tdiv g)=true then ((-n).tdiv g,(-d).tdiv g,true) else (0,0,false):=by
 subst hg;unfold bQ;rw[if_neg (by omega)];simp only[if_pos h]
theorem fL {x y:Int}(hx: -2147483647<=x/\x<=2147483647)(hy: -2147483647<=y/\y<=2147483647): -4611686014132420609<=x*y/\x*y<=4611686014132420609:=by
 have h1:(x*y).natAbs=x.natAbs*y.natAbs:=Int.natAbs_mul x y;have h2:x.natAbs*y.natAbs<=2147483647*2147483647:=Nat.mul_le_mul (by omega) (by omega);omega
theorem aHG {a b c d:Int}(h:dF a b=false\/dF c d=false):aNU a b c d=(0,0,false):=by rcases h with h | h<;>simp[aNU,h]
theorem aJH {a b c d:Int}(h:dF a b=true)(h' :dF c d=true):aNU a b c d=bQ (a*d+c*b) (b*d):=by simp[aNU,h,h']
theorem aSL {a b c d:Int}(h:dF a b=false\/dF c d=false):aNV a b c d=(0,0,false):=by rcases h with h | h<;>simp[aNV,h]
theorem aPS {a b c d:Int}(h:dF a b=true)(h' :dF c d=true):aNV a b c d=bQ (a*d - c*b) (b*d):=by simp[aNV,h,h']
theorem aHH {a b c d:Int}(h:dF a b=false\/dF c d=false):aTq a b c d=(0,0,false):=by rcases h with h | h<;>simp[aTq,h]
theorem aBH {a b c d:Int}(h:dF a b=true)(h' :dF c d=true):aTq a b c d=bQ (a*c) (b*d):=by simp[aTq,h,h']
theorem aHI {a b c d:Int}(h:dF a b=false\/dF c d=false):aKc a b c d=(0,0,false):=by rcases h with h | h<;>simp[aKc,h]
theorem aBI {a b c d:Int}(h:dF a b=true)(h' :dF c d=true):aKc a b c d=bQ (a*d) (b*c):=by simp[aKc,h,h']
theorem aTt {a b d:Int}:aKc a b 0 d=(0,0,false):=by unfold aKc;split<;>simp[bQ]
theorem aHJ {a b c d:Int}(h:dF a b=false\/dF c d=false):aW4 a b c d=0:=by rcases h with h | h<;>simp[aW4,h]
theorem wY {a b c d:Int}(h:dF a b=true)(h' :dF c d=true):aW4 a b c d=if a*d<c*b then -1 else if c*b<a*d then 1 else 0:=by simp[aW4,h,h']
def bC (r:aB):Bool:=dF r.num r.den
def jH (q:Int × Int × Bool):aB × Bool:=(⟨q.1,q.2.1⟩,q.2.2)
def gL (a b:aB):aB × Bool:=jH (aNU a.num a.den b.num b.den)
def pQ (a b:aB):aB × Bool:=jH (aNV a.num a.den b.num b.den)
def dY (a b:aB):aB × Bool:=jH (aTq a.num a.den b.num b.den)
def bA (a b:aB):aB × Bool:=jH (aKc a.num a.den b.num b.den)
def fP (a b:aB):Int:=aW4 a.num a.den b.num b.den
theorem cY {r:aB}(h:bC r=true):1<=r.den/\r.den<=2147483647/\ -2147483647<=r.num/\r.num<=2147483647/\Int.gcd r.num r.den=1:=aJF h
theorem gM {n d:Int}:Int.gcd (n.natAbs:Int) d=Int.gcd n d:=by simp[Int.gcd]
theorem qK {n d:Int}:dF n d=(decide (1<=d/\d<=2147483647)&&(decide (-2147483647<=n/\n<=2147483647)&&decide (((Int.gcd n d:Nat):Int)=1))):=by
 have e:decide (((Int.gcd n d:Nat):Int)=1)=decide (Int.gcd n d=1):=by congr 1;simp;omega
 rw[e];simp only[dF,Bool.and_assoc]
 congr 1
 ·simp[eQ,Bool.decide_and]
 congr 1
 simp[eQ,Bool.decide_and]
theorem aBJ {k:Int}(hk:1<=k): ∀i:Nat,1<=k^i
 | 0=>by simp
 | i+1=>by
   rw[Int.pow_succ];have h1:=aBJ hk i;have h2:1*1<=k^i*k:=Int.mul_le_mul h1 hk (by omega) (by omega);omega
theorem aME {k:Int}(hk:1<=k){i j:Nat}(h:i<=j):k^i<=k^j:=by
 obtain⟨t,rfl⟩:=Nat.exists_eq_add_of_le h;rw[Int.pow_add];have h1:=aBJ hk i;have h2:=aBJ hk t;have h3:k^i*1<=k^i*k^t:=Int.mul_le_mul_of_nonneg_left h2 (by omega);omega
theorem bAv {n:Nat}(h:n<=12):(2:Int)^n<=4096:=by
 have:=aME (k:=2) (by omega) h;exact Int.le_trans this (by decide)
theorem gC {i:Nat}(h:i<=12):bK ((1:Int)*2^i):=by
 have h1:=bAv h;have h2:=aBJ (k:=2) (by omega) i;exact⟨by omega,by omega⟩
abbrev kT (n:Int)(a:Int)(c:Int):Prop:=Cn 83 [.one (.int .i64 n),.one (.int .i64 a),.one (.int .i64 c)] (vB (decide (a<=n/\n<=c))) []
theorem pJ (n a c:Int):kT n a c:=by
 refine cq Tryz.func83 (.br (.fin []) (.fin [])) (p:=Br (a<=n) (((decide (n<=c))=(decide (a<=n/\n<=c)))/\True) (((false)=(decide (a<=n/\n<=c)))/\True)) (by kernel_rfl) ?_;refine dd (fun g10=>?_) fun g10=>?_
 ·apply et1
  ·(simp[*];done)
 ·apply et1
  ·(simp[*];done)
abbrev fQ (n:Int)(a:Int)(c:Int):Prop:=Cn 74 [.one (.int .i64 n),.one (.int .i64 a),.one (.int .i64 c)] (vB (decide (a<=n/\n<=c))) []
theorem jP (n a c:Int):fQ n a c:=by
 refine cq Tryz.func74 (.br (.fin []) (.fin [])) (p:=Br (a<=n) (((decide (n<=c))=(decide (a<=n/\n<=c)))/\True) (((false)=(decide (a<=n/\n<=c)))/\True)) (by kernel_rfl) ?_;refine dd (fun g10=>?_) fun g10=>?_
 ·apply et1
  ·(simp[*];done)
 ·apply et1
  ·(simp[*];done)
abbrev qL (a:Int)(c:Int):Prop:=Cn 139 [.one (.int .i64 a),.one (.int .i64 c)] (vI ((Int.gcd a c:Nat):Int)) []
theorem aBK (a c:Int)(ha: -9223372036854775807<=a/\a<=9223372036854775807)(hc: -9223372036854775807<=c/\c<=9223372036854775807):qL a c:=by
 refine cq Tryz.func139 (.loop (Int × Int) (Q2 Int Int) [0,1,5,6,7,8,9,10] [] (fun yy0=>[(0,vI yy0.1),(1,vI yy0.2)]) (fun yy0=>[]) (fun yy0=>(-9223372036854775807<=yy0.1/\yy0.1<=9223372036854775807)/\(-9223372036854775807<=yy0.2/\yy0.2<=9223372036854775807)/\Int.gcd yy0.1 yy0.2=Int.gcd a c) (fun yy0=>yy0.2.natAbs) (fun yy0=> .br (.back []) (.fin []))) (p:=(∃(x:Int) (y:Int),a=x/\c=y/\(-9223372036854775807<=x/\x<=9223372036854775807)/\(-9223372036854775807<=y/\y<=9223372036854775807)/\Int.gcd x y=Int.gcd a c)/\ ∀(x:Int) (y:Int),((-9223372036854775807<=x/\x<=9223372036854775807)/\(-9223372036854775807<=y/\y<=9223372036854775807)/\Int.gcd x y=Int.gcd a c)->Nb (y=0) (y≠0/\ ∃(x' :Int) (y' :Int),y=x' /\(Int.tmod x y)=y' /\((-9223372036854775807<=x' /\x' <=9223372036854775807)/\(-9223372036854775807<=y' /\y' <=9223372036854775807)/\Int.gcd x' y' =Int.gcd a c)/\y'.natAbs<y.natAbs) (bK (-x)/\(if x<(-x) then (-x) else x)=((Int.gcd a c:Nat):Int)/\True)) (by kernel_rfl) ?_;refine⟨⟨a,c,rfl,rfl,ha,hc,rfl⟩,fun x y ⟨hx,hy,hg⟩=>?_⟩;refine dn (fun c0=>?_) fun c0=>?_
 ·refine⟨by omega,?_⟩;exact⟨y,Int.tmod x y,rfl,rfl,⟨hy,aJG (aE5 c0) (by omega),by rw[aPR];exact hg⟩,aE5 c0⟩
 ·refine⟨⟨by omega,by omega⟩,?_,trivial⟩
  ·subst c0;rw[<-hg,aYb]
abbrev yW (a:Int)(c:Int):Prop:=Cn 129 [.one (.int .i64 a),.one (.int .i64 c)] (vI ((Int.gcd a c:Nat):Int)) []
theorem aJI (a c:Int)(ha:0<=a/\a<=9223372036854775807)(hc:0<=c/\c<=9223372036854775807):yW a c:=by
 refine cq Tryz.func129 (.loop (Int × Int) (Q2 Int Int) ([0,1]++rg 5 8) [] (fun yy0=>[(0,vI yy0.1),(1,vI yy0.2)]) (fun yy0=>[]) (fun yy0=>(0<=yy0.1/\yy0.1<=9223372036854775807)/\(0<=yy0.2/\yy0.2<=9223372036854775807)/\Int.gcd yy0.1 yy0.2=Int.gcd a c) (fun yy0=>yy0.2.natAbs) (fun yy0=> .br (.back []) (.fin []))) (p:=(∃(x:Int) (y:Int),a=x/\c=y/\(0<=x/\x<=9223372036854775807)/\(0<=y/\y<=9223372036854775807)/\Int.gcd x y=Int.gcd a c)/\ ∀(x:Int) (y:Int),((0<=x/\x<=9223372036854775807)/\(0<=y/\y<=9223372036854775807)/\Int.gcd x y=Int.gcd a c)->Nb (y=0) (y≠0/\ ∃(x' :Int) (y' :Int),y=x' /\(Int.tmod x y)=y' /\((0<=x' /\x' <=9223372036854775807)/\(0<=y' /\y' <=9223372036854775807)/\Int.gcd x' y' =Int.gcd a c)/\y'.natAbs<y.natAbs) (x=((Int.gcd a c:Nat):Int)/\True)) (by kernel_rfl) ?_;refine⟨⟨a,c,rfl,rfl,ha,hc,rfl⟩,fun x y ⟨hx,hy,hg⟩=>?_⟩;refine dn (fun c0=>?_) fun c0=>?_
 ·refine⟨by omega,?_⟩;exact⟨y,Int.tmod x y,rfl,rfl,⟨hy,⟨Int.tmod_nonneg _ hx.1,(aJG (aE5 c0) (by omega)).2⟩,by rw[aPR];exact hg⟩,aE5 c0⟩
 ·apply et1
  ·subst c0;rw[<-hg,Int.gcd_zero_right];omega
abbrev yX (n:Int):Prop:=Cn 130 [.one (.int .i64 n)] (vI (n.natAbs:Int)) []
theorem aJJ (n:Int)(hn: -9223372036854775807<=n/\n<=9223372036854775807):yX n:=by
 refine cq Tryz.func130 (.br (.fin []) (.fin [])) (p:=Br (n<0) (bK (-n)/\(-n)=(n.natAbs:Int)/\True) (n=(n.natAbs:Int)/\True)) (by kernel_rfl) ?_;refine dd (fun c0=>?_) fun c0=>?_
 ·refine⟨⟨by omega,by omega⟩,?_,trivial⟩
  ·omega
 ·apply et1
  ·omega
abbrev hX (r:aB):Prop:=Cn 87 [.agg [.int .i64 r.num,.int .i64 r.den]] (vB (bC r)) []
theorem mD (r:aB):hX r:=by
 refine cq Tryz.func87 (.call (vB (decide (1<=r.den/\r.den<=2147483647))) []<| .br (.call (vB (decide ((-2147483647:Int)<=r.num/\r.num<=2147483647))) []<| .lit<| .br (.call (vI ((Int.gcd r.num r.den:Nat):Int)) []<| .fin []) (.fin [])) (.fin [])) (p:=kT r.den (1:Int) (2147483647:Int)/\Br (1<=r.den/\r.den<=2147483647) (kT r.num (-2147483647:Int) (2147483647:Int)/\Br ((-2147483647:Int)<=r.num/\r.num<=2147483647) (qL r.num r.den/\(decide (((Int.gcd r.num r.den:Nat):Int)=1))=(bC r)/\True) ((false)=(bC r)/\True)) ((false)=(bC r)/\True)) (by kernel_rfl) ?_;refine⟨pJ _ _ _,dd (fun g6=>?_) fun g6=>?_⟩
 ·refine⟨pJ _ _ _,dd (fun g11=>?_) fun g11=>?_⟩
  ·refine⟨aBK _ _ (by omega) (by omega),?_,trivial⟩
   ·(try rw[gM]);rw[bC,qK];simp[*]
  ·apply et1
   ·(try rw[gM]);rw[bC,qK];simp[*]
 ·apply et1
  ·(try rw[gM]);rw[bC,qK];simp[*]
abbrev fY (r:aB):Prop:=Cn 77 [.agg [.int .i64 r.num,.int .i64 r.den]] (vB (bC r)) []
theorem kI (r:aB):fY r:=by
 refine cq Tryz.func77 (.call (vB (decide (1<=r.den/\r.den<=2147483647))) []<| .br (.call (vB (decide ((-2147483647:Int)<=r.num/\r.num<=2147483647))) []<| .lit<| .br (.call (vI (r.num.natAbs:Int)) []<| .call (vI ((Int.gcd (r.num.natAbs:Int) r.den:Nat):Int)) []<| .fin []) (.fin [])) (.fin [])) (p:=fQ r.den (1:Int) (2147483647:Int)/\Br (1<=r.den/\r.den<=2147483647) (fQ r.num (-2147483647:Int) (2147483647:Int)/\Br ((-2147483647:Int)<=r.num/\r.num<=2147483647) (yX r.num/\yW (r.num.natAbs:Int) r.den/\(decide (((Int.gcd (r.num.natAbs:Int) r.den:Nat):Int)=1))=(bC r)/\True) ((false)=(bC r)/\True)) ((false)=(bC r)/\True)) (by kernel_rfl) ?_;refine⟨jP _ _ _,dd (fun g6=>?_) fun g6=>?_⟩
 ·refine⟨jP _ _ _,dd (fun g11=>?_) fun g11=>?_⟩
  ·refine⟨aJJ _ (by omega),aJI _ _ (by omega) (by omega),?_,trivial⟩
   ·(try rw[gM]);rw[bC,qK];simp[*]
  ·apply et1
   ·(try rw[gM]);rw[bC,qK];simp[*]
 ·apply et1
  ·(try rw[gM]);rw[bC,qK];simp[*]
def kW (m:Int)(l:List Int):Nat->Int
 | 0=>0
 | k+1=>if (k<4/\0<=l.getD k 0/\l.getD k 0<=3)/\cL .and .i64 (m/2^(l.getD k 0).toNat) 1=1 then cL .or .i64 (kW m l k) (1*2^k) else kW m l k
def kJ (m:Int)(l:List Int):Int:=kW m l l.length
theorem aMF {m:Int}{l:List Int}{k:Nat}{x:Int}(hx:l[k]? =some x)(h:(k<4/\0<=x/\x<=3)/\cL .and .i64 (m/2^x.toNat) 1=1):kW m l (k+1)=cL .or .i64 (kW m l k) (1*2^k):=by
 have e:l.getD k 0=x:=by simp[aKU,hx]
 rw[kW,e,if_pos h]
theorem aBL {m:Int}{l:List Int}{k:Nat}{x:Int}(hx:l[k]? =some x)(h: ¬((k<4/\0<=x/\x<=3)/\cL .and .i64 (m/2^x.toNat) 1=1)):kW m l (k+1)=kW m l k:=by
 have e:l.getD k 0=x:=by simp[aKU,hx]
 rw[kW,e,if_neg h]
theorem aQw {m:Int}{l:List Int}{k:Nat}(h:4<=k):kW m l k=kW m l 4:=by
 induction k with
 | zero=>omega
 | succ k ih=>
   by_cases h4:k+1=4
   ·rw[h4]
   rw[kW,if_neg (by omega),ih (by omega)]
def nT (l:List Int)(c:aL):aL:=⟨kJ c.src l,kJ c.dst l,c.bits⟩
abbrev aFW (m:Int)(l:List Int):Prop:=Cn 160 [.one (.int .i64 m),.ref [.sl 3 1 (l.map intD)]] (vI (kJ m l)) []
theorem aSM (m:Int)(l:List Int):aFW m l:=by
 refine cq Tryz.func160 (.len l.length<| .loop (Nat × Int) (Q2 Nat Int) ([4,5,6]++rg 9 23) [] (fun yy0=>[(4,vI yy0.2),(9,vI (yy0.1:Int))]) (fun yy0=>[]) (fun yy0=>yy0.1<=l.length/\yy0.2=kW m l yy0.1) (fun yy0=>l.length - yy0.1) (fun yy0=> .br (.elem _ intD l (fun e12=> .br (.call (vB (decide (0<=e12/\e12<=3))) []<| .lit<| .br (.lit<| .lit<| .lit<| .lit<| .lit<| .br (.back []) (.back [])) (.back [])) (.back []))) (.fin []))) (p:=Lx (l.map intD)<| Lm intD l/\((∃(k:Nat) (o:Int),0=o/\0=(k:Int)/\k<=l.length/\o=kW m l k)/\ ∀(k:Nat) (o:Int),(k<=l.length/\o=kW m l k)->Br ((k:Int)<(l.length:Int)) (0<=(k:Int)/\Em intD l k fun e12=>Br ((k:Int)<4) (kT e12 (0:Int) (3:Int)/\Br (0<=e12/\e12<=3) ((0<=e12/\e12<=64)/\Br ((cL .and .i64 (m/2^(Int.toNat e12)) (1:Int))=1) ((0<=(k:Int)/\(k:Int)<=64)/\bK ((1:Int)*2^k)/\bK ((k:Int)+1)/\ ∃(k' :Nat) (o' :Int),(cL .or .i64 o ((1:Int)*2^k))=o' /\((k:Int)+1)=(k' :Int)/\(k' <=l.length/\o' =kW m l k')/\l.length - k' <l.length - k) (bK ((k:Int)+1)/\ ∃(k' :Nat) (o' :Int),o=o' /\((k:Int)+1)=(k' :Int)/\(k' <=l.length/\o' =kW m l k')/\l.length - k' <l.length - k)) (bK ((k:Int)+1)/\ ∃(k' :Nat) (o' :Int),o=o' /\((k:Int)+1)=(k' :Int)/\(k' <=l.length/\o' =kW m l k')/\l.length - k' <l.length - k)) (bK ((k:Int)+1)/\ ∃(k' :Nat) (o' :Int),o=o' /\((k:Int)+1)=(k' :Int)/\(k' <=l.length/\o' =kW m l k')/\l.length - k' <l.length - k)) (o=(kJ m l)/\True))) (by kernel_rfl) ?_;refine lx fun n0=>?_;refine⟨aAH _,⟨0,(0:Int),rfl,rfl,aDB _,rfl⟩,fun k o ⟨hk,hv⟩=>?_⟩;refine dd (fun c0=>?_) fun c0=>?_
 ·refine⟨by omega,rfl,by omega,fun e12 h12=>?_⟩;have hk2:=h12;refine dd (fun g16=>?_) fun g16=>?_
  ·refine⟨pJ _ _ _,dd (fun g20=>?_) fun g20=>?_⟩
   ·refine⟨⟨by omega,by omega⟩,dd (fun c1=>?_) fun c1=>?_⟩
    ·refine⟨⟨by omega,by omega⟩,by exact gC (by omega),by exact⟨by omega,by omega⟩,?_⟩;exact⟨k+1,cL .or .i64 o ((1:Int)*2^k),rfl,rfl,⟨by omega,by (rw[aMF hk2 (by refine⟨⟨by omega,by omega,by omega⟩,by assumption⟩),hv];done)⟩,by omega⟩
    ·refine⟨by exact⟨by omega,by omega⟩,?_⟩;exact⟨k+1,o,rfl,rfl,⟨by omega,by (rw[aBL hk2 (by rintro⟨⟨_,_,_⟩,_⟩;omega),hv];done)⟩,by omega⟩
   ·refine⟨by exact⟨by omega,by omega⟩,?_⟩;exact⟨k+1,o,rfl,rfl,⟨by omega,by (rw[aBL hk2 (by rintro⟨⟨_,_,_⟩,_⟩;omega),hv];done)⟩,by omega⟩
  ·refine⟨by exact⟨by omega,by omega⟩,?_⟩;exact⟨k+1,o,rfl,rfl,⟨by omega,by (rw[aBL hk2 (by rintro⟨⟨_,_,_⟩,_⟩;omega),hv];done)⟩,by omega⟩
 ·apply et1
  ·rw[hv,kJ,show k=l.length by omega]
abbrev aFX (m:Int)(l:List Int):Prop:=Cn 147 [.one (.int .i64 m),.one (.sl 3 1 (l.map intD))] (vI (kJ m l)) []
theorem aSN (m:Int)(l:List Int):aFX m l:=by
 refine cq Tryz.func147 (.loop (Nat × Int) (Q2 Nat Int) (rg 5 31) [] (fun yy0=>[(5,vI yy0.2),(6,vI (yy0.1:Int))]) (fun yy0=>[]) (fun yy0=>(yy0.1<=l.length/\yy0.1<=4)/\yy0.2=kW m l yy0.1) (fun yy0=>l.length - yy0.1) (fun yy0=> .len l.length<| .br (.lit<| .lit<| .br (.elem _ intD l (fun e19=> .call (vB (decide (0<=e19/\e19<=3))) []<| .br (.elem _ intD l (fun e26=> .lit<| .lit<| .lit<| .lit<| .lit<| .br (.back []) (.back []))) (.back []))) (.fin [])) (.fin []))) (p:=Lx (l.map intD)<| (∃(k:Nat) (o:Int),0=o/\0=(k:Int)/\(k<=l.length/\k<=4)/\o=kW m l k)/\ ∀(k:Nat) (o:Int),((k<=l.length/\k<=4)/\o=kW m l k)->Lm intD l/\Br ((k:Int)<(l.length:Int)) (Br ((k:Int)<4) (0<=(k:Int)/\Em intD l k fun e19=>fQ e19 (0:Int) (3:Int)/\Br (0<=e19/\e19<=3) (0<=(k:Int)/\Em intD l k fun e26=>(0<=e26/\e26<=64)/\Br ((cL .and .i64 (m/2^(Int.toNat e26)) (1:Int))=1) ((0<=(k:Int)/\(k:Int)<=64)/\bK ((1:Int)*2^k)/\bK ((k:Int)+1)/\ ∃(k' :Nat) (o' :Int),(cL .or .i64 o ((1:Int)*2^k))=o' /\((k:Int)+1)=(k' :Int)/\((k' <=l.length/\k' <=4)/\o' =kW m l k')/\l.length - k' <l.length - k) (bK ((k:Int)+1)/\ ∃(k' :Nat) (o' :Int),o=o' /\((k:Int)+1)=(k' :Int)/\((k' <=l.length/\k' <=4)/\o' =kW m l k')/\l.length - k' <l.length - k)) (bK ((k:Int)+1)/\ ∃(k' :Nat) (o' :Int),o=o' /\((k:Int)+1)=(k' :Int)/\((k' <=l.length/\k' <=4)/\o' =kW m l k')/\l.length - k' <l.length - k)) (o=(kJ m l)/\True)) (o=(kJ m l)/\True)) (by kernel_rfl) ?_;refine lx fun n0=>?_;refine⟨⟨0,(0:Int),rfl,rfl,⟨aDB _,by omega⟩,rfl⟩,fun k o ⟨hk,hv⟩=>?_⟩;refine⟨aAH _,dd (fun g11=>?_) fun g11=>?_⟩
 ·refine dd (fun c0=>?_) fun c0=>?_
  ·refine⟨by omega,rfl,by omega,fun e19 h19=>?_⟩;have hk2:=h19;refine⟨jP _ _ _,dd (fun g22=>?_) fun g22=>?_⟩
   ·refine⟨by omega,rfl,by omega,fun e26 h26=>?_⟩;obtain rfl:=(aY hk2 h26).symm;refine⟨⟨by omega,by omega⟩,dd (fun c1=>?_) fun c1=>?_⟩
    ·refine⟨⟨by omega,by omega⟩,by exact gC (by omega),by exact⟨by omega,by omega⟩,?_⟩;exact⟨k+1,cL .or .i64 o ((1:Int)*2^k),rfl,rfl,⟨by omega,by (rw[aMF hk2 (by refine⟨⟨by omega,by omega,by omega⟩,by assumption⟩),hv];done)⟩,by omega⟩
    ·refine⟨by exact⟨by omega,by omega⟩,?_⟩;exact⟨k+1,o,rfl,rfl,⟨by omega,by (rw[aBL hk2 (by rintro⟨⟨_,_,_⟩,_⟩;omega),hv];done)⟩,by omega⟩
   ·refine⟨by exact⟨by omega,by omega⟩,?_⟩;exact⟨k+1,o,rfl,rfl,⟨by omega,by (rw[aBL hk2 (by rintro⟨⟨_,_,_⟩,_⟩;omega),hv];done)⟩,by omega⟩
  ·apply et1
   ·(rw[hv,kJ,aQw (k:=l.length) (by omega),show k=4 by omega];done)
 ·apply et1
  ·(rw[hv,kJ,show k=l.length by omega];done)
abbrev aDF (l:List aL)(v:List Int):AV × List (Nat × Rs):=(.own 0,[(0,.arr 192 3 true ((l.map (nT v)).map aG))])
abbrev aJK (l:List aL)(v:List Int):Prop:=Cn 102 [.one (.sl 192 3 (l.map aG)),.one (.sl 3 1 (v.map intD))] (aDF l v).1 (aDF l v).2
theorem aW6 (l:List aL)(v:List Int)(hl:l.length<=1048576):aJK l v:=by
 refine cq Tryz.func102 (.len l.length<| .loop (Nat × (List aL)) (Q2 Nat (List aL)) ([6,8,10]++rg 13 19) [800,1000,2900,3000] (fun yy0=>[(6,.own 1000),(13,vI (yy0.1:Int))]) (fun yy0=>[(1000,some (.arr 192 3 true (yy0.2.map aG)))]) (fun yy0=>yy0.1<=l.length/\yy0.2=(l.take yy0.1).map (nT v)) (fun yy0=>l.length - yy0.1) (fun yy0=> .br (.elem _ aG l (fun e15=> .call (vI (kJ e15.src v)) []<| .call (vI (kJ e15.dst v)) []<| .app aL aG yy0.2 ([(⟨kJ e15.src v,kJ e15.dst v,e15.bits⟩:aL)]:List aL)<| .back [(1000,3000)])) (.fin [(0,1000)]))) (p:=Lx (l.map aG)<| Lx (v.map intD)<| Lm aG l/\((∃(k:Nat) (out:List aL),0=(k:Int)/\[]=out.map aG/\k<=l.length/\out=(l.take k).map (nT v))/\ ∀(k:Nat) (out:List aL),(k<=l.length/\out=(l.take k).map (nT v))->Br ((k:Int)<(l.length:Int)) (0<=(k:Int)/\Em aG l k fun e15=>aFW e15.src v/\aFW e15.dst v/\Ap aG out ([(⟨kJ e15.src v,kJ e15.dst v,e15.bits⟩:aL)]:List aL) 24 (bK ((k:Int)+1)/\ ∃(k' :Nat) (out' :List aL),((k:Int)+1)=(k' :Int)/\(out++[(⟨kJ e15.src v,kJ e15.dst v,e15.bits⟩:aL)]).map aG=out'.map aG/\(k' <=l.length/\out' =(l.take k').map (nT v))/\l.length - k' <l.length - k)) (out.map aG=(l.map (nT v)).map aG/\True))) (by kernel_rfl) ?_;refine lx fun n0=>lx fun n1=>?_;refine⟨aAH _,⟨0,([]:List aL),rfl,rfl,aDB _,rfl⟩,fun k out ⟨hk,ho⟩=>?_⟩;refine dd (fun c0=>?_) fun c0=>?_
 ·refine⟨by omega,rfl,by omega,fun e15 h15=>?_⟩;have hk2:=h15;refine⟨aSM _ _,aSM _ _,?_⟩;refine ap ?_ (fun _=>rfl) (by simp[ho];omega);refine⟨⟨by omega,by omega⟩,?_⟩;exact⟨k+1,_,rfl,rfl,⟨by omega,by rw[ho,bT hk2,aMQ];rfl⟩,by omega⟩
 ·apply et1
  ·rw[ho,aGT (by omega)]
abbrev aDG (l:List aL)(v:List Int):AV × List (Nat × Rs):=(.own 0,[(0,.arr 192 3 true ((l.map (nT v)).map aG))])
abbrev aJL (l:List aL)(v:List Int):Prop:=Cn 93 [.one (.sl 192 3 (l.map aG)),.one (.sl 3 1 (v.map intD))] (aDG l v).1 (aDG l v).2
theorem aW7 (l:List aL)(v:List Int)(hl:l.length<=1048576):aJL l v:=by
 refine cq Tryz.func93 (.loop (Nat × (List aL)) (Q2 Nat (List aL)) (rg 5 32) [700,3500,3600] (fun yy0=>[(5,.own 700),(6,vI (yy0.1:Int))]) (fun yy0=>[(700,some (.arr 192 3 true (yy0.2.map aG)))]) (fun yy0=>yy0.1<=l.length/\yy0.2=(l.take yy0.1).map (nT v)) (fun yy0=>l.length - yy0.1) (fun yy0=> .len l.length<| .br (.elem _ aG l (fun e17=> .call (vI (kJ e17.src v)) []<| .elem _ aG l (fun e24=> .call (vI (kJ e24.dst v)) []<| .elem _ aG l (fun e31=> .app aL aG yy0.2 ([(⟨kJ e17.src v,kJ e24.dst v,e31.bits⟩:aL)]:List aL)<| .back [(700,3600)])))) (.fin [(0,700)]))) (p:=Lx (l.map aG)<| Lx (v.map intD)<| (∃(k:Nat) (out:List aL),0=(k:Int)/\[]=out.map aG/\k<=l.length/\out=(l.take k).map (nT v))/\ ∀(k:Nat) (out:List aL),(k<=l.length/\out=(l.take k).map (nT v))->Lm aG l/\Br ((k:Int)<(l.length:Int)) (0<=(k:Int)/\Em aG l k fun e17=>aFX e17.src v/\0<=(k:Int)/\Em aG l k fun e24=>aFX e24.dst v/\0<=(k:Int)/\Em aG l k fun e31=>Ap aG out ([(⟨kJ e17.src v,kJ e24.dst v,e31.bits⟩:aL)]:List aL) 24 (bK ((k:Int)+1)/\ ∃(k' :Nat) (out' :List aL),((k:Int)+1)=(k' :Int)/\(out++[(⟨kJ e17.src v,kJ e24.dst v,e31.bits⟩:aL)]).map aG=out'.map aG/\(k' <=l.length/\out' =(l.take k').map (nT v))/\l.length - k' <l.length - k)) (out.map aG=(l.map (nT v)).map aG/\True)) (by kernel_rfl) ?_;refine lx fun n0=>lx fun n1=>?_;refine⟨⟨0,([]:List aL),rfl,rfl,aDB _,rfl⟩,fun k out ⟨hk,ho⟩=>?_⟩;refine⟨aAH _,dd (fun c0=>?_) fun c0=>?_⟩
 ·refine⟨by omega,rfl,by omega,fun e17 h17=>?_⟩;have hk2:=h17;refine⟨aSN _ _,by omega,rfl,by omega,fun e24 h24=>?_⟩;obtain rfl:=(aY hk2 h24).symm;refine⟨aSN _ _,by omega,rfl,by omega,fun e31 h31=>?_⟩;obtain rfl:=(aY hk2 h31).symm;refine ap ?_ (fun _=>rfl) (by simp[ho];omega);refine⟨⟨by omega,by omega⟩,?_⟩;exact⟨k+1,_,rfl,rfl,⟨by omega,by rw[ho,bT hk2,aMQ];rfl⟩,by omega⟩
 ·apply et1
  ·rw[ho,aGT (by omega)]
end Go.Proofs.YtlidmoeecphbmaaGreat
