/-
  Contracts and plain laws, joined: part 14.
-/
import Derived.Test.YtlidmoeecphbmaaGreateb12
import Derived.Test.YtlidmoeecphbmaaGreateb11
import Derived.Test.YtlidmoeecphbmaaGreateb3
namespace Go.Proofs.YtlidmoeecphbmaaGreat
open Go.ChangeShapes Go.WideShapes Go.ChangeAt Go.RowKit
set_option linter.unusedVariables false
set_option linter.unusedSimpArgs false
set_option maxRecDepth 100000
set_option maxHeartbeats 4000000
abbrev aHT (s:StoreD)(q:QueryD)(m:Int):Prop:=Cn 39 [.agg [.sl 142 3 (s.database.tables.map aS),.int .i64 s.catalogue.version,.sl 88 4 (s.catalogue.tables.map aG),.sl 121 3 (s.dependencies.map aN),.sl 123 4 (s.inclusions.map aR)],.agg [.int .i64 q.variableCount,.sl 125 2 (q.atoms.map bI)],.one (.int .i64 m)] (vB (qOk s q m)) []
theorem aUS (s:StoreD)(q:QueryD)(m:Int)(hc:dO s<=1048576):aHT s q m:=by
 refine cq Tryz.func39 (.call (vB (gT s)) []<| .br (.call (vB (gM s.database q)) []<| .lit<| .br (.call (vI (nK q)) []<| .call (vB (eC m (1:Int) (nK q))) []<| .fin []) (.fin [])) (.fin [])) (p:=Lx (s.database.tables.map aS)<| Lx (s.catalogue.tables.map aG)<| Lx (s.dependencies.map aN)<| Lx (s.inclusions.map aR)<| Lx (q.atoms.map bI)<| aEZ s/\Bb (gT s) (aHO s.database q/\Bb (gM s.database q) (aE4 q/\eR m (1:Int) (nK q)/\(eC m (1:Int) (nK q))=(qOk s q m)/\True) ((false)=(qOk s q m)/\True)) ((false)=(qOk s q m)/\True)) (by kernel_rfl) ?_;refine lx fun n0=>lx fun n1=>lx fun n2=>lx fun n3=>lx fun n4=>?_;have hS:dO s=bN s.database+bS s.catalogue+bY s.dependencies+cP s.inclusions:=rfl;have hI:=dX s.inclusions;refine⟨aR3 _ (by omega),db (fun g9=>?_) fun g9=>?_⟩
 ·refine⟨aUM s.database _ (by omega),db (fun g15=>?_) fun g15=>?_⟩
  ·refine⟨aR8 _,iS _ _ _,?_,trivial⟩
   ·(rw[qOk,g9,g15];rfl)
  ·apply et1
   ·(rw[qOk,g9,g15];rfl)
 ·apply et1
  ·(rw[qOk,g9];rfl)
abbrev vP (s:StoreD)(q:QueryD)(i:Int):AV × List (Nat × Rs):=(.agg [.p none (.str ((gN s q i.toNat).name)),vI ((gN s q i.toNat).arity),vI ((gN s q i.toNat).rowCount),.p none (.sl 220 3 ((gN s q i.toNat).groups.map aD))],[])
abbrev aCr (s:StoreD)(q:QueryD)(i:Int):Prop:=Cn 40 [.agg [.sl 142 3 (s.database.tables.map aS),.int .i64 s.catalogue.version,.sl 88 4 (s.catalogue.tables.map aG),.sl 121 3 (s.dependencies.map aN),.sl 123 4 (s.inclusions.map aR)],.agg [.int .i64 q.variableCount,.sl 125 2 (q.atoms.map bI)],.one (.int .i64 i)] (vP s q i).1 (vP s q i).2
theorem aOn (s:StoreD)(q:QueryD)(i:Int)(hc:dO s<=1048576)(hi:0<=i/\i.toNat<q.atoms.length):aCr s q i:=by
 refine cq Tryz.func40 (.elem _ bI q.atoms (fun e15=> .call (.tup [.agg [.p none (.str ((cX s.catalogue e15.name).1.name)),vI ((cX s.catalogue e15.name).1.arity),vI ((cX s.catalogue e15.name).1.rowCount),.p none (.sl 220 3 ((cX s.catalogue e15.name).1.groups.map aD))],vB ((cX s.catalogue e15.name).2)]) []<| .fin [])) (p:=Lx (s.database.tables.map aS)<| Lx (s.catalogue.tables.map aG)<| Lx (s.dependencies.map aN)<| Lx (s.inclusions.map aR)<| Lx (q.atoms.map bI)<| 0<=i/\Em bI q.atoms ((i).toNat) fun e15=>qI Tryz.prog 76 [.agg [.int .i64 s.catalogue.version,.sl 88 4 (s.catalogue.tables.map aG)],.one (.str e15.name)] (.tup [.agg [.p none (.str ((cX s.catalogue e15.name).1.name)),vI ((cX s.catalogue e15.name).1.arity),vI ((cX s.catalogue e15.name).1.rowCount),.p none (.sl 220 3 ((cX s.catalogue e15.name).1.groups.map aD))],vB ((cX s.catalogue e15.name).2)]) []/\((cX s.catalogue e15.name).1.name)=((gN s q i.toNat).name)/\((cX s.catalogue e15.name).1.arity)=((gN s q i.toNat).arity)/\((cX s.catalogue e15.name).1.rowCount)=((gN s q i.toNat).rowCount)/\(cX s.catalogue e15.name).1.groups.map aD=(gN s q i.toNat).groups.map aD/\True) (by kernel_rfl) ?_;refine lx fun n0=>lx fun n1=>lx fun n2=>lx fun n3=>lx fun n4=>?_;have hS:dO s=bN s.database+bS s.catalogue+bY s.dependencies+cP s.inclusions:=rfl;have hI:=dX s.inclusions;refine⟨by omega,rfl,by omega,fun e15 h15=>?_⟩;refine⟨jP (aR5 s.catalogue e15.name (by omega)) rfl,?_,?_,?_,?_,trivial⟩<;>((rw[gN,bM h15]<;>rfl))
theorem aCs {s:StoreD}(q:QueryD)(i:Nat)(hc:dO s<=1048576):bF (gN s q i)<=1048576:=by
 have h1:=aNJ s.catalogue (q.atoms.getD i iL).name;have hS:dO s=bN s.database+bS s.catalogue+bY s.dependencies+cP s.inclusions:=rfl;unfold gN;omega
abbrev vQ (s:StoreD)(q:QueryD)(m:Int):AV × List (Nat × Rs):=(.own 0,[(0,.arr 192 3 true ((dS s q m).map aE))])
abbrev aCt (s:StoreD)(q:QueryD)(m:Int):Prop:=Cn 99 [.agg [.sl 142 3 (s.database.tables.map aS),.int .i64 s.catalogue.version,.sl 88 4 (s.catalogue.tables.map aG),.sl 121 3 (s.dependencies.map aN),.sl 123 4 (s.inclusions.map aR)],.agg [.int .i64 q.variableCount,.sl 125 2 (q.atoms.map bI)],.one (.int .i64 m)] (vQ s q m).1 (vQ s q m).2
theorem aOo (s:StoreD)(q:QueryD)(m:Int)(hc:dO s<=1048576)(hcq:gX q<=1048576):aCt s q m:=by
 refine cq Tryz.func99 (.call (vB (gT s)) []<| .br (.fin []) (.call (vB (gM s.database q)) []<| .lit<| .lit<| .br (.fin []) (.call (vI (nK q)) []<| .call (vB (eC m (1:Int) (nK q))) []<| .lit<| .lit<| .br (.fin []) (bH (aB7 m)<| .len ((fA m).length)<| .loop (Nat × (List aI)) (Q2 Nat (List aI)) ([7,9,10,11,12,30]++rg 34 30) [1000,3000,5600,6200] (fun yy0=>[(34,vI (yy0.1:Int)),(7,.own 3000)]) (fun yy0=>[(3000,some (.arr 192 3 true (yy0.2.map aE)))]) (fun yy0=>yy0.1<=(fA m).length/\yy0.2=qcL s q ((fA m).take yy0.1)/\aCp s q ((fA m).take yy0.1)=true) (fun yy0=>(fA m).length - yy0.1) (fun yy0=> .br (.len ((fA m).length)<| .elem _ intD (fA m) (fun e37=> .elem _ bI q.atoms (fun e44=> .call (.tup [.agg [.p none (.str ((cX s.catalogue e44.name).1.name)),vI ((cX s.catalogue e44.name).1.arity),vI ((cX s.catalogue e44.name).1.rowCount),.p none (.sl 220 3 ((cX s.catalogue e44.name).1.groups.map aD))],vB ((cX s.catalogue e44.name).2)]) []<| .elem _ bI q.atoms (fun e54=>bH (zE ((cX s.catalogue e44.name).1) e54)<| .len ((mG ((cX s.catalogue e44.name).1) e54).length)<| .br (.fin []) (.app aI aE yy0.2 (mG ((cX s.catalogue e44.name).1) e54)<| .back [(3000,6200)]))))) (.fin [(0,3000)])))))) (p:=Lx (s.database.tables.map aS)<| Lx (s.catalogue.tables.map aG)<| Lx (s.dependencies.map aN)<| Lx (s.inclusions.map aR)<| Lx (q.atoms.map bI)<| aEY s/\Nr (gT s) ([]=(dS s q m).map aE/\True) (aHN s.database q/\Nr (gM s.database q) ([]=(dS s q m).map aE/\True) (aE3 q/\(eQ m (1:Int) (nK q)/\Nr (eC m (1:Int) (nK q)) ([]=(dS s q m).map aE/\True) (aHP m/\(Lm intD (fA m)/\((∃(k:Nat) (out:List aI),0=(k:Int)/\[]=out.map aE/\k<=(fA m).length/\out=qcL s q ((fA m).take k)/\aCp s q ((fA m).take k)=true)/\ ∀(k:Nat) (out:List aI),(k<=(fA m).length/\out=qcL s q ((fA m).take k)/\aCp s q ((fA m).take k)=true)->Br ((k:Int)<(((fA m).length:Nat):Int)) (0<=(k:Int)/\Lm intD (fA m)/\(k:Int)<(((fA m).length:Nat):Int)/\Em intD (fA m) k fun e37=>0<=e37/\Em bI q.atoms ((e37).toNat) fun e44=>qI Tryz.prog 154 [.agg [.int .i64 s.catalogue.version,.sl 88 4 (s.catalogue.tables.map aG)],.one (.str e44.name)] (.tup [.agg [.p none (.str ((cX s.catalogue e44.name).1.name)),vI ((cX s.catalogue e44.name).1.arity),vI ((cX s.catalogue e44.name).1.rowCount),.p none (.sl 220 3 ((cX s.catalogue e44.name).1.groups.map aD))],vB ((cX s.catalogue e44.name).2)]) []/\0<=e37/\Em bI q.atoms ((e37).toNat) fun e54=>aE8 ((cX s.catalogue e44.name).1) e54/\Lm aE (mG ((cX s.catalogue e44.name).1) e54)/\Br ((((mG ((cX s.catalogue e44.name).1) e54).length:Nat):Int)=0) ([]=(dS s q m).map aE/\True) (Ap aE out (mG ((cX s.catalogue e44.name).1) e54) 24 (bK ((k:Int)+1)/\ ∃(k' :Nat) (out' :List aI),((k:Int)+1)=(k' :Int)/\(out++(mG ((cX s.catalogue e44.name).1) e54)).map aE=out'.map aE/\(k' <=(fA m).length/\out' =qcL s q ((fA m).take k')/\aCp s q ((fA m).take k')=true)/\(fA m).length - k' <(fA m).length - k))) (out.map aE=(dS s q m).map aE/\True)))))))) (by kernel_rfl) ?_;refine lx fun n0=>lx fun n1=>lx fun n2=>lx fun n3=>lx fun n4=>?_;have hS:dO s=bN s.database+bS s.catalogue+bY s.dependencies+cP s.inclusions:=rfl;have hI:=dX s.inclusions;have hQ:gX q=jS q.atoms:=rfl;refine⟨aR2 _ (by omega),dm (fun g16=>?_) fun g16=>?_⟩
 ·have hbad:qOk s q m=false:=by (simp[qOk,g16];done)
  apply et1
  ·(rw[aCq hbad]<;>rfl)
 ·refine⟨aUL s.database _ (by omega),dm (fun g23=>?_) fun g23=>?_⟩
  ·have hbad:qOk s q m=false:=by (simp[qOk,g23];done)
   apply et1
   ·(rw[aCq hbad]<;>rfl)
  ·refine⟨aR7 _,iR _ _ _,dm (fun c0=>?_) fun c0=>?_⟩
   ·have hbad:qOk s q m=false:=by (simp[qOk,c0];done)
    apply et1
    ·(rw[aCq hbad]<;>rfl)
   ·have hq:qOk s q m=true:=by (rw[qOk,g16,g23,c0];rfl)
    obtain⟨hq1,hq2,hq3,hm1,hm2,hm3,hm4,hm5⟩:=aDd hq;have hml:=aKC m;refine⟨aUN m,aA8 _,⟨0,([]:List aI),rfl,rfl,aCC _,rfl,rfl⟩,fun k out ⟨hk,ho,ha⟩=>?_⟩;have hlen:out.length<=28:=by rw[ho];have z1:=aFW s q ((fA m).take k);have z2:=List.length_take_le k (fA m);omega
    refine dd (fun c1=>?_) fun c1=>?_
    ·refine⟨by omega,aA8 _,by omega,rfl,by omega,fun e37 h37=>?_⟩;have he:=aUR hq (aCf h37);have hem:=aCf h37;refine⟨by omega,rfl,by omega,fun e44 h44=>?_⟩;have hst:(cX s.catalogue e44.name).1=gN s q e37.toNat:=by rw[gN,bM h44]
     have hcs:=aCs q e37.toNat hc;rw[<-hst] at hcs;have hcA:=aDW h44;refine⟨jP (aR4 s.catalogue e44.name (by omega)) rfl,by omega,rfl,by omega,fun e54 h54=>?_⟩;obtain rfl:=(aW h44 h54).symm;have hE:mG (cX s.catalogue e44.name).1 e44=qcA s q e37:=by rw[qcA,hst,bM h44]
     have hzl:=aHI (cX s.catalogue e44.name).1 e44;refine⟨aRc ((cX s.catalogue e44.name).1) _ (by omega) (by omega),aA8 _,dd (fun c2=>?_) fun c2=>?_⟩
     ·apply et1
      ·(rw[aKF hem (by rw[<-hE];omega)]<;>rfl)
     ·refine ap ?_ (fun _=>rfl) (by omega);refine⟨⟨by omega,by omega⟩,?_⟩;exact⟨k+1,_,rfl,rfl,⟨by omega,by rw[ho,bQ h37,aNM,hE],by rw[bQ h37];exact aKG ha (by rw[<-hE];exact c2)⟩,by omega⟩
    ·apply et1
     ·(rw[aKE hq (by rw[aGj (by omega)] at ha;exact ha),ho,aGj (by omega)])
abbrev vR (s:StoreD)(q:QueryD)(m:Int):AV × List (Nat × Rs):=(.own 0,[(0,.arr 192 3 true ((dS s q m).map aE))])
abbrev aCu (s:StoreD)(q:QueryD)(m:Int):Prop:=Cn 90 [.agg [.sl 142 3 (s.database.tables.map aS),.int .i64 s.catalogue.version,.sl 88 4 (s.catalogue.tables.map aG),.sl 121 3 (s.dependencies.map aN),.sl 123 4 (s.inclusions.map aR)],.agg [.int .i64 q.variableCount,.sl 125 2 (q.atoms.map bI)],.one (.int .i64 m)] (vR s q m).1 (vR s q m).2
theorem aOp (s:StoreD)(q:QueryD)(m:Int)(hc:dO s<=1048576)(hcq:gX q<=1048576):aCu s q m:=by
 refine cq Tryz.func90 (.call (vB (qOk s q m)) []<| .br (.fin [(0,1000)]) (.loop (Nat × (List aI)) (Q2 Nat (List aI)) ([7,8,9,10]++rg 17 25++[43,44,45]) [1000,3800,4500] (fun yy0=>[(8,vI (yy0.1:Int)),(7,.own 1000)]) (fun yy0=>[(1000,some (.arr 192 3 true (yy0.2.map aE)))]) (fun yy0=>yy0.1<=q.atoms.length/\yy0.2=qcL s q (gL (fL m) yy0.1)/\aCp s q (gL (fL m) yy0.1)=true) (fun yy0=>q.atoms.length - yy0.1) (fun yy0=> .len q.atoms.length<| .br (.br (.back [(1000,1000)]) (bH (vP s q (yy0.1:Int))<| .elem _ bI q.atoms (fun e36=>bH (zF (gN s q (yy0.1:Int).toNat) e36)<| .len ((mG (gN s q (yy0.1:Int).toNat) e36).length)<| .br (.fin [(0,4200)]) (.app aI aE yy0.2 (mG (gN s q (yy0.1:Int).toNat) e36)<| .back [(1000,4500)])))) (.fin [(0,1000)])))) (p:=Lx (s.database.tables.map aS)<| Lx (s.catalogue.tables.map aG)<| Lx (s.dependencies.map aN)<| Lx (s.inclusions.map aR)<| Lx (q.atoms.map bI)<| aHT s q m/\Nr (qOk s q m) ([]=(dS s q m).map aE/\True) ((∃(k:Nat) (out:List aI),0=(k:Int)/\[]=out.map aE/\k<=q.atoms.length/\out=qcL s q (gL (fL m) k)/\aCp s q (gL (fL m) k)=true)/\ ∀(k:Nat) (out:List aI),(k<=q.atoms.length/\out=qcL s q (gL (fL m) k)/\aCp s q (gL (fL m) k)=true)->Lm bI q.atoms/\Br ((k:Int)<(q.atoms.length:Int)) ((0<=(k:Int)/\(k:Int)<=64)/\Br ((cD .and .i64 (m/2^k) (1:Int))=0) (bK ((k:Int)+1)/\ ∃(k' :Nat) (out' :List aI),((k:Int)+1)=(k' :Int)/\out.map aE=out'.map aE/\(k' <=q.atoms.length/\out' =qcL s q (gL (fL m) k')/\aCp s q (gL (fL m) k')=true)/\q.atoms.length - k' <q.atoms.length - k) (aCr s q (k:Int)/\0<=(k:Int)/\Em bI q.atoms k fun e36=>aE9 (gN s q (k:Int).toNat) e36/\Lm aE (mG (gN s q (k:Int).toNat) e36)/\Br ((((mG (gN s q (k:Int).toNat) e36).length:Nat):Int)=0) ([]=(dS s q m).map aE/\True) (Ap aE out (mG (gN s q (k:Int).toNat) e36) 24 (bK ((k:Int)+1)/\ ∃(k' :Nat) (out' :List aI),((k:Int)+1)=(k' :Int)/\(out++(mG (gN s q (k:Int).toNat) e36)).map aE=out'.map aE/\(k' <=q.atoms.length/\out' =qcL s q (gL (fL m) k')/\aCp s q (gL (fL m) k')=true)/\q.atoms.length - k' <q.atoms.length - k)))) (out.map aE=(dS s q m).map aE/\True))) (by kernel_rfl) ?_;refine lx fun n0=>lx fun n1=>lx fun n2=>lx fun n3=>lx fun n4=>?_;have hS:dO s=bN s.database+bS s.catalogue+bY s.dependencies+cP s.inclusions:=rfl;have hI:=dX s.inclusions;have hQ:gX q=jS q.atoms:=rfl;refine⟨aUS s q m (by omega),dm (fun c0=>?_) fun c0=>?_⟩
 ·have hbad:qOk s q m=false:=by simpa using c0
  apply et1
  ·(rw[aCq hbad]<;>rfl)
 ·have hq:qOk s q m=true:=by simpa using c0
  obtain⟨hq1,hq2,hq3,hm1,hm2,hm3,hm4,hm5⟩:=aDd hq;refine⟨⟨0,([]:List aI),rfl,rfl,aCC _,rfl,rfl⟩,fun k out ⟨hk,ho,ha⟩=>?_⟩;have hlen:out.length<=28:=by rw[ho];have z1:=aFW s q (gL (fL m) k);have z2:=yS (fL m) k;omega
  refine⟨aA8 _,dd (fun c1=>?_) fun c1=>?_⟩
  ·refine⟨⟨by omega,by omega⟩,dd (fun c2=>?_) fun c2=>?_⟩
   ·refine⟨⟨by omega,by omega⟩,?_⟩;exact⟨k+1,_,rfl,rfl,⟨by omega,by (rw[ho,aA6 (aD8 (by omega))];done),by (rw[aA6 (aD8 (by omega))];exact ha)⟩,by omega⟩
   ·have hb:fL m k=true:=by have z:=aTv (m:=m) (v:=k) ⟨by omega,by omega⟩ (by omega);rw[decide_eq_false c2] at z;simpa using z
    have hcs:=aCs q (k:Int).toNat hc;refine⟨aOn s q (k:Int) (by omega) (by exact⟨by omega,by omega⟩),by omega,rfl,by omega,fun e36 h36=>?_⟩;have hE:mG (gN s q (k:Int).toNat) e36=qcA s q (k:Int):=by rw[qcA,Int.toNat_natCast,bM h36]
    have hzl:=aHI (gN s q (k:Int).toNat) e36;have hcA:=aDW h36;refine⟨aRd (gN s q (k:Int).toNat) _ (by omega) (by omega),aA8 _,dd (fun c3=>?_) fun c3=>?_⟩
    ·have hem:(k:Int)∈fA m:=by rw[aLS hq];exact aMx.2 ⟨by omega,by omega,by simpa using hb⟩
     apply et1
     ·(rw[aKF hem (by rw[<-hE];omega)]<;>rfl)
    ·refine ap ?_ (fun _=>rfl) (by omega);refine⟨⟨by omega,by omega⟩,?_⟩;exact⟨k+1,_,rfl,rfl,⟨by omega,by (rw[ho,yR hb,aNM,hE]),by (rw[yR hb];exact aKG ha (by rw[<-hE];exact c3))⟩,by omega⟩
  ·have hkl:q.atoms.length=k:=by omega
   rw[<-hkl,<-aLS hq] at ho ha;apply et1
   ·(rw[aKE hq ha,ho])
def cV (n d:Int):Bool:=eC d 1 2147483647&&eC n (-2147483647) 2147483647&&decide (Int.gcd n d=1)
theorem aHU {n d:Int}(h:cV n d=true):1<=d/\d<=2147483647/\ -2147483647<=n/\n<=2147483647/\Int.gcd n d=1:=by
 simp only[cV,aB4,aTb] at h;obtain⟨⟨h1,h2⟩,h3⟩:=h;have:=eA h1;have:=eA h2;exact⟨by omega,by omega,by omega,by omega,h3⟩
def bO (n d:Int):Int × Int × Bool:=
 if d=0 then (0,0,false) else
 let n1:=if d<0 then -n else n
 let d1:=if d<0 then -d else d
 let g:Int:=Int.gcd n1 d1
 if cV (n1.tdiv g) (d1.tdiv g)=true then (n1.tdiv g,d1.tdiv g,true) else (0,0,false)
def aLT (a b c d:Int):Int × Int × Bool:=if cV a b=true/\cV c d=true then bO (a*d+c*b) (b*d) else (0,0,false)
def aLU (a b c d:Int):Int × Int × Bool:=if cV a b=true/\cV c d=true then bO (a*d - c*b) (b*d) else (0,0,false)
def aRe (a b c d:Int):Int × Int × Bool:=if cV a b=true/\cV c d=true then bO (a*c) (b*d) else (0,0,false)
def aIj (a b c d:Int):Int × Int × Bool:=if cV a b=true/\cV c d=true then bO (a*d) (b*c) else (0,0,false)
def aUT (a b c d:Int):Int:=if cV a b=true/\cV c d=true then (if a*d<c*b then -1 else if c*b<a*d then 1 else 0) else 0
theorem aNN (x y:Int):Int.gcd y (x.tmod y)=Int.gcd x y:=by
 rw[Int.gcd_comm x y];unfold Int.gcd;rw[Int.natAbs_tmod,Nat.gcd_comm y.natAbs (x.natAbs%y.natAbs),<-Nat.gcd_rec]
theorem aWV (x:Int):(Int.gcd x 0:Int)=(if x< -x then -x else x):=by
 rw[Int.gcd_zero_right];split<;>omega
theorem aCv {x y:Int}(h:y≠0):(x.tmod y).natAbs<y.natAbs:=by
 rw[Int.natAbs_tmod];exact Nat.mod_lt _ (by omega)
theorem aHV {x:Int}{n:Nat}(h:x.natAbs<n)(hn:n<=9223372036854775807): -9223372036854775807<=x/\x<=9223372036854775807:=by omega
theorem aUU (n g:Int)(hn: -9223372036854775807<=n/\n<=9223372036854775807): -9223372036854775807<=n.tdiv g/\n.tdiv g<=9223372036854775807:=by
 have h1:(n.tdiv g).natAbs=n.natAbs/g.natAbs:=Int.natAbs_tdiv n g;have h2:n.natAbs/g.natAbs<=n.natAbs:=Nat.div_le_self _ _;omega
theorem lY {n d:Int}(h:d≠0):1<=(Int.gcd n d:Int):=by
 have:0<Int.gcd n d:=Int.gcd_pos_of_ne_zero_right n h;omega
theorem mH (n:Int):bO n 0=(0,0,false):=by simp[bO]
theorem aRf {n d g:Int}(h:0<d)(hg:g=Int.gcd n d):bO n d=if cV (n.tdiv g) (d.tdiv g)=true then (n.tdiv g,d.tdiv g,true) else (0,0,false):=by
 subst hg;unfold bO;rw[if_neg (by omega)];simp only[if_neg (show ¬d<0 by omega)]
theorem aRg {n d g:Int}(h:d<0)(hg:g=Int.gcd (-n) (-d)):bO n d=if cV ((-n).tdiv g) ((-d).tdiv g)=true then ((-n).tdiv g,(-d).tdiv g,true) else (0,0,false):=by
 subst hg;unfold bO;rw[if_neg (by omega)];simp only[if_pos h]
theorem eT {x y:Int}(hx: -2147483647<=x/\x<=2147483647)(hy: -2147483647<=y/\y<=2147483647): -4611686014132420609<=x*y/\x*y<=4611686014132420609:=by
 have h1:(x*y).natAbs=x.natAbs*y.natAbs:=Int.natAbs_mul x y;have h2:x.natAbs*y.natAbs<=2147483647*2147483647:=Nat.mul_le_mul (by omega) (by omega);omega
theorem aFX {a b c d:Int}(h:cV a b=false\/cV c d=false):aLT a b c d=(0,0,false):=by rcases h with h | h<;>simp[aLT,h]
theorem aHW {a b c d:Int}(h:cV a b=true)(h' :cV c d=true):aLT a b c d=bO (a*d+c*b) (b*d):=by simp[aLT,h,h']
theorem aQB {a b c d:Int}(h:cV a b=false\/cV c d=false):aLU a b c d=(0,0,false):=by rcases h with h | h<;>simp[aLU,h]
theorem aNO {a b c d:Int}(h:cV a b=true)(h' :cV c d=true):aLU a b c d=bO (a*d - c*b) (b*d):=by simp[aLU,h,h']
theorem aFY {a b c d:Int}(h:cV a b=false\/cV c d=false):aRe a b c d=(0,0,false):=by rcases h with h | h<;>simp[aRe,h]
theorem zG {a b c d:Int}(h:cV a b=true)(h' :cV c d=true):aRe a b c d=bO (a*c) (b*d):=by simp[aRe,h,h']
theorem aFZ {a b c d:Int}(h:cV a b=false\/cV c d=false):aIj a b c d=(0,0,false):=by rcases h with h | h<;>simp[aIj,h]
theorem zH {a b c d:Int}(h:cV a b=true)(h' :cV c d=true):aIj a b c d=bO (a*d) (b*c):=by simp[aIj,h,h']
theorem aRh {a b d:Int}:aIj a b 0 d=(0,0,false):=by unfold aIj;split<;>simp[bO]
theorem aF0 {a b c d:Int}(h:cV a b=false\/cV c d=false):aUT a b c d=0:=by rcases h with h | h<;>simp[aUT,h]
theorem tV {a b c d:Int}(h:cV a b=true)(h' :cV c d=true):aUT a b c d=if a*d<c*b then -1 else if c*b<a*d then 1 else 0:=by simp[aUT,h,h']
def bA (r:aB):Bool:=cV r.num r.den
def iI (q:Int × Int × Bool):aB × Bool:=(⟨q.1,q.2.1⟩,q.2.2)
def fQ (a b:aB):aB × Bool:=iI (aLT a.num a.den b.num b.den)
def nQ (a b:aB):aB × Bool:=iI (aLU a.num a.den b.num b.den)
def dN (a b:aB):aB × Bool:=iI (aRe a.num a.den b.num b.den)
def aX (a b:aB):aB × Bool:=iI (aIj a.num a.den b.num b.den)
def eW (a b:aB):Int:=aUT a.num a.den b.num b.den
theorem cN {r:aB}(h:bA r=true):1<=r.den/\r.den<=2147483647/\ -2147483647<=r.num/\r.num<=2147483647/\Int.gcd r.num r.den=1:=aHU h
theorem fR {n d:Int}:Int.gcd (n.natAbs:Int) d=Int.gcd n d:=by simp[Int.gcd]
theorem oK {n d:Int}:cV n d=(decide (1<=d/\d<=2147483647)&&(decide (-2147483647<=n/\n<=2147483647)&&decide (((Int.gcd n d:Nat):Int)=1))):=by
 have e:decide (((Int.gcd n d:Nat):Int)=1)=decide (Int.gcd n d=1):=by congr 1;simp;omega
 rw[e];simp only[cV,Bool.and_assoc]
 congr 1
 ·simp[eC,Bool.decide_and]
 congr 1
 simp[eC,Bool.decide_and]
theorem zI {k:Int}(hk:1<=k): ∀i:Nat,1<=k^i
 | 0=>by simp
 | i+1=>by
   rw[Int.pow_succ];have h1:=zI hk i;have h2:1*1<=k^i*k:=Int.mul_le_mul h1 hk (by omega) (by omega);omega
theorem aKI {k:Int}(hk:1<=k){i j:Nat}(h:i<=j):k^i<=k^j:=by
 obtain⟨t,rfl⟩:=Nat.exists_eq_add_of_le h;rw[Int.pow_add];have h1:=zI hk i;have h2:=zI hk t;have h3:k^i*1<=k^i*k^t:=Int.mul_le_mul_of_nonneg_left h2 (by omega);omega
theorem aYe {n:Nat}(h:n<=12):(2:Int)^n<=4096:=by
 have:=aKI (k:=2) (by omega) h;exact Int.le_trans this (by decide)
theorem fI {i:Nat}(h:i<=12):bK ((1:Int)*2^i):=by
 have h1:=aYe h;have h2:=zI (k:=2) (by omega) i;exact⟨by omega,by omega⟩
abbrev jL (n:Int)(a:Int)(c:Int):Prop:=Cn 83 [.one (.int .i64 n),.one (.int .i64 a),.one (.int .i64 c)] (vB (decide (a<=n/\n<=c))) []
theorem nL (n a c:Int):jL n a c:=by
 refine cq Tryz.func83 (.br (.fin []) (.fin [])) (p:=Br (a<=n) (((decide (n<=c))=(decide (a<=n/\n<=c)))/\True) (((false)=(decide (a<=n/\n<=c)))/\True)) (by kernel_rfl) ?_;refine dd (fun g10=>?_) fun g10=>?_
 ·apply et1
  ·(simp[*];done)
 ·apply et1
  ·(simp[*];done)
abbrev eX (n:Int)(a:Int)(c:Int):Prop:=Cn 74 [.one (.int .i64 n),.one (.int .i64 a),.one (.int .i64 c)] (vB (decide (a<=n/\n<=c))) []
theorem iP (n a c:Int):eX n a c:=by
 refine cq Tryz.func74 (.br (.fin []) (.fin [])) (p:=Br (a<=n) (((decide (n<=c))=(decide (a<=n/\n<=c)))/\True) (((false)=(decide (a<=n/\n<=c)))/\True)) (by kernel_rfl) ?_;refine dd (fun g10=>?_) fun g10=>?_
 ·apply et1
  ·(simp[*];done)
 ·apply et1
  ·(simp[*];done)
abbrev oL (a:Int)(c:Int):Prop:=Cn 139 [.one (.int .i64 a),.one (.int .i64 c)] (vI ((Int.gcd a c:Nat):Int)) []
theorem zJ (a c:Int)(ha: -9223372036854775807<=a/\a<=9223372036854775807)(hc: -9223372036854775807<=c/\c<=9223372036854775807):oL a c:=by
 refine cq Tryz.func139 (.loop (Int × Int) (Q2 Int Int) [0,1,5,6,7,8,9,10] [] (fun yy0=>[(0,vI yy0.1),(1,vI yy0.2)]) (fun yy0=>[]) (fun yy0=>(-9223372036854775807<=yy0.1/\yy0.1<=9223372036854775807)/\(-9223372036854775807<=yy0.2/\yy0.2<=9223372036854775807)/\Int.gcd yy0.1 yy0.2=Int.gcd a c) (fun yy0=>yy0.2.natAbs) (fun yy0=> .br (.back []) (.fin []))) (p:=(∃(x:Int) (y:Int),a=x/\c=y/\(-9223372036854775807<=x/\x<=9223372036854775807)/\(-9223372036854775807<=y/\y<=9223372036854775807)/\Int.gcd x y=Int.gcd a c)/\ ∀(x:Int) (y:Int),((-9223372036854775807<=x/\x<=9223372036854775807)/\(-9223372036854775807<=y/\y<=9223372036854775807)/\Int.gcd x y=Int.gcd a c)->Nb (y=0) (y≠0/\ ∃(x' :Int) (y' :Int),y=x' /\(Int.tmod x y)=y' /\((-9223372036854775807<=x' /\x' <=9223372036854775807)/\(-9223372036854775807<=y' /\y' <=9223372036854775807)/\Int.gcd x' y' =Int.gcd a c)/\y'.natAbs<y.natAbs) (bK (-x)/\(if x<(-x) then (-x) else x)=((Int.gcd a c:Nat):Int)/\True)) (by kernel_rfl) ?_;refine⟨⟨a,c,rfl,rfl,ha,hc,rfl⟩,fun x y ⟨hx,hy,hg⟩=>?_⟩;refine dn (fun c0=>?_) fun c0=>?_
 ·refine⟨by omega,?_⟩;exact⟨y,Int.tmod x y,rfl,rfl,⟨hy,aHV (aCv c0) (by omega),by rw[aNN];exact hg⟩,aCv c0⟩
 ·refine⟨⟨by omega,by omega⟩,?_,trivial⟩
  ·subst c0;rw[<-hg,aWV]
abbrev vS (a:Int)(c:Int):Prop:=Cn 129 [.one (.int .i64 a),.one (.int .i64 c)] (vI ((Int.gcd a c:Nat):Int)) []
theorem aHX (a c:Int)(ha:0<=a/\a<=9223372036854775807)(hc:0<=c/\c<=9223372036854775807):vS a c:=by
 refine cq Tryz.func129 (.loop (Int × Int) (Q2 Int Int) ([0,1]++rg 5 8) [] (fun yy0=>[(0,vI yy0.1),(1,vI yy0.2)]) (fun yy0=>[]) (fun yy0=>(0<=yy0.1/\yy0.1<=9223372036854775807)/\(0<=yy0.2/\yy0.2<=9223372036854775807)/\Int.gcd yy0.1 yy0.2=Int.gcd a c) (fun yy0=>yy0.2.natAbs) (fun yy0=> .br (.back []) (.fin []))) (p:=(∃(x:Int) (y:Int),a=x/\c=y/\(0<=x/\x<=9223372036854775807)/\(0<=y/\y<=9223372036854775807)/\Int.gcd x y=Int.gcd a c)/\ ∀(x:Int) (y:Int),((0<=x/\x<=9223372036854775807)/\(0<=y/\y<=9223372036854775807)/\Int.gcd x y=Int.gcd a c)->Nb (y=0) (y≠0/\ ∃(x' :Int) (y' :Int),y=x' /\(Int.tmod x y)=y' /\((0<=x' /\x' <=9223372036854775807)/\(0<=y' /\y' <=9223372036854775807)/\Int.gcd x' y' =Int.gcd a c)/\y'.natAbs<y.natAbs) (x=((Int.gcd a c:Nat):Int)/\True)) (by kernel_rfl) ?_;refine⟨⟨a,c,rfl,rfl,ha,hc,rfl⟩,fun x y ⟨hx,hy,hg⟩=>?_⟩;refine dn (fun c0=>?_) fun c0=>?_
 ·refine⟨by omega,?_⟩;exact⟨y,Int.tmod x y,rfl,rfl,⟨hy,⟨Int.tmod_nonneg _ hx.1,(aHV (aCv c0) (by omega)).2⟩,by rw[aNN];exact hg⟩,aCv c0⟩
 ·apply et1
  ·subst c0;rw[<-hg,Int.gcd_zero_right];omega
abbrev vT (n:Int):Prop:=Cn 130 [.one (.int .i64 n)] (vI (n.natAbs:Int)) []
theorem aHY (n:Int)(hn: -9223372036854775807<=n/\n<=9223372036854775807):vT n:=by
 refine cq Tryz.func130 (.br (.fin []) (.fin [])) (p:=Br (n<0) (bK (-n)/\(-n)=(n.natAbs:Int)/\True) (n=(n.natAbs:Int)/\True)) (by kernel_rfl) ?_;refine dd (fun c0=>?_) fun c0=>?_
 ·refine⟨⟨by omega,by omega⟩,?_,trivial⟩
  ·omega
 ·apply et1
  ·omega
abbrev gF (r:aB):Prop:=Cn 87 [.agg [.int .i64 r.num,.int .i64 r.den]] (vB (bA r)) []
theorem kP (r:aB):gF r:=by
 refine cq Tryz.func87 (.call (vB (decide (1<=r.den/\r.den<=2147483647))) []<| .br (.call (vB (decide ((-2147483647:Int)<=r.num/\r.num<=2147483647))) []<| .lit<| .br (.call (vI ((Int.gcd r.num r.den:Nat):Int)) []<| .fin []) (.fin [])) (.fin [])) (p:=jL r.den (1:Int) (2147483647:Int)/\Br (1<=r.den/\r.den<=2147483647) (jL r.num (-2147483647:Int) (2147483647:Int)/\Br ((-2147483647:Int)<=r.num/\r.num<=2147483647) (oL r.num r.den/\(decide (((Int.gcd r.num r.den:Nat):Int)=1))=(bA r)/\True) ((false)=(bA r)/\True)) ((false)=(bA r)/\True)) (by kernel_rfl) ?_;refine⟨nL _ _ _,dd (fun g6=>?_) fun g6=>?_⟩
 ·refine⟨nL _ _ _,dd (fun g11=>?_) fun g11=>?_⟩
  ·refine⟨zJ _ _ (by omega) (by omega),?_,trivial⟩
   ·(try rw[fR]);rw[bA,oK];simp[*]
  ·apply et1
   ·(try rw[fR]);rw[bA,oK];simp[*]
 ·apply et1
  ·(try rw[fR]);rw[bA,oK];simp[*]
abbrev fE (r:aB):Prop:=Cn 77 [.agg [.int .i64 r.num,.int .i64 r.den]] (vB (bA r)) []
theorem jC (r:aB):fE r:=by
 refine cq Tryz.func77 (.call (vB (decide (1<=r.den/\r.den<=2147483647))) []<| .br (.call (vB (decide ((-2147483647:Int)<=r.num/\r.num<=2147483647))) []<| .lit<| .br (.call (vI (r.num.natAbs:Int)) []<| .call (vI ((Int.gcd (r.num.natAbs:Int) r.den:Nat):Int)) []<| .fin []) (.fin [])) (.fin [])) (p:=eX r.den (1:Int) (2147483647:Int)/\Br (1<=r.den/\r.den<=2147483647) (eX r.num (-2147483647:Int) (2147483647:Int)/\Br ((-2147483647:Int)<=r.num/\r.num<=2147483647) (vT r.num/\vS (r.num.natAbs:Int) r.den/\(decide (((Int.gcd (r.num.natAbs:Int) r.den:Nat):Int)=1))=(bA r)/\True) ((false)=(bA r)/\True)) ((false)=(bA r)/\True)) (by kernel_rfl) ?_;refine⟨iP _ _ _,dd (fun g6=>?_) fun g6=>?_⟩
 ·refine⟨iP _ _ _,dd (fun g11=>?_) fun g11=>?_⟩
  ·refine⟨aHY _ (by omega),aHX _ _ (by omega) (by omega),?_,trivial⟩
   ·(try rw[fR]);rw[bA,oK];simp[*]
  ·apply et1
   ·(try rw[fR]);rw[bA,oK];simp[*]
 ·apply et1
  ·(try rw[fR]);rw[bA,oK];simp[*]
def jO (m:Int)(l:List Int):Nat->Int
 | 0=>0
 | k+1=>if (k<4/\0<=l.getD k 0/\l.getD k 0<=3)/\cD .and .i64 (m/2^(l.getD k 0).toNat) 1=1 then cD .or .i64 (jO m l k) (1*2^k) else jO m l k
def jD (m:Int)(l:List Int):Int:=jO m l l.length
theorem aKJ {m:Int}{l:List Int}{k:Nat}{x:Int}(hx:l[k]? =some x)(h:(k<4/\0<=x/\x<=3)/\cD .and .i64 (m/2^x.toNat) 1=1):jO m l (k+1)=cD .or .i64 (jO m l k) (1*2^k):=by
 have e:l.getD k 0=x:=by simp[aI2,hx]
 rw[jO,e,if_pos h]
theorem zK {m:Int}{l:List Int}{k:Nat}{x:Int}(hx:l[k]? =some x)(h: ¬((k<4/\0<=x/\x<=3)/\cD .and .i64 (m/2^x.toNat) 1=1)):jO m l (k+1)=jO m l k:=by
 have e:l.getD k 0=x:=by simp[aI2,hx]
 rw[jO,e,if_neg h]
theorem aOq {m:Int}{l:List Int}{k:Nat}(h:4<=k):jO m l k=jO m l 4:=by
 induction k with
 | zero=>omega
 | succ k ih=>
   by_cases h4:k+1=4
   ·rw[h4]
   rw[jO,if_neg (by omega),ih (by omega)]
def lW (l:List Int)(c:aI):aI:=⟨jD c.src l,jD c.dst l,c.bits⟩
abbrev aDe (m:Int)(l:List Int):Prop:=Cn 160 [.one (.int .i64 m),.ref [.sl 3 1 (l.map intD)]] (vI (jD m l)) []
theorem aQC (m:Int)(l:List Int):aDe m l:=by
 refine cq Tryz.func160 (.len l.length<| .loop (Nat × Int) (Q2 Nat Int) ([4,5,6]++rg 9 23) [] (fun yy0=>[(4,vI yy0.2),(9,vI (yy0.1:Int))]) (fun yy0=>[]) (fun yy0=>yy0.1<=l.length/\yy0.2=jO m l yy0.1) (fun yy0=>l.length - yy0.1) (fun yy0=> .br (.elem _ intD l (fun e12=> .br (.call (vB (decide (0<=e12/\e12<=3))) []<| .lit<| .br (.lit<| .lit<| .lit<| .lit<| .lit<| .br (.back []) (.back [])) (.back [])) (.back []))) (.fin []))) (p:=Lx (l.map intD)<| Lm intD l/\((∃(k:Nat) (o:Int),0=o/\0=(k:Int)/\k<=l.length/\o=jO m l k)/\ ∀(k:Nat) (o:Int),(k<=l.length/\o=jO m l k)->Br ((k:Int)<(l.length:Int)) (0<=(k:Int)/\Em intD l k fun e12=>Br ((k:Int)<4) (jL e12 (0:Int) (3:Int)/\Br (0<=e12/\e12<=3) ((0<=e12/\e12<=64)/\Br ((cD .and .i64 (m/2^(Int.toNat e12)) (1:Int))=1) ((0<=(k:Int)/\(k:Int)<=64)/\bK ((1:Int)*2^k)/\bK ((k:Int)+1)/\ ∃(k' :Nat) (o' :Int),(cD .or .i64 o ((1:Int)*2^k))=o' /\((k:Int)+1)=(k' :Int)/\(k' <=l.length/\o' =jO m l k')/\l.length - k' <l.length - k) (bK ((k:Int)+1)/\ ∃(k' :Nat) (o' :Int),o=o' /\((k:Int)+1)=(k' :Int)/\(k' <=l.length/\o' =jO m l k')/\l.length - k' <l.length - k)) (bK ((k:Int)+1)/\ ∃(k' :Nat) (o' :Int),o=o' /\((k:Int)+1)=(k' :Int)/\(k' <=l.length/\o' =jO m l k')/\l.length - k' <l.length - k)) (bK ((k:Int)+1)/\ ∃(k' :Nat) (o' :Int),o=o' /\((k:Int)+1)=(k' :Int)/\(k' <=l.length/\o' =jO m l k')/\l.length - k' <l.length - k)) (o=(jD m l)/\True))) (by kernel_rfl) ?_;refine lx fun n0=>?_;refine⟨aA8 _,⟨0,(0:Int),rfl,rfl,aCC _,rfl⟩,fun k o ⟨hk,hv⟩=>?_⟩;refine dd (fun c0=>?_) fun c0=>?_
 ·refine⟨by omega,rfl,by omega,fun e12 h12=>?_⟩;have hk2:=h12;refine dd (fun g16=>?_) fun g16=>?_
  ·refine⟨nL _ _ _,dd (fun g20=>?_) fun g20=>?_⟩
   ·refine⟨⟨by omega,by omega⟩,dd (fun c1=>?_) fun c1=>?_⟩
    ·refine⟨⟨by omega,by omega⟩,by exact fI (by omega),by exact⟨by omega,by omega⟩,?_⟩;exact⟨k+1,cD .or .i64 o ((1:Int)*2^k),rfl,rfl,⟨by omega,by (rw[aKJ hk2 (by refine⟨⟨by omega,by omega,by omega⟩,by assumption⟩),hv];done)⟩,by omega⟩
    ·refine⟨by exact⟨by omega,by omega⟩,?_⟩;exact⟨k+1,o,rfl,rfl,⟨by omega,by (rw[zK hk2 (by rintro⟨⟨_,_,_⟩,_⟩;omega),hv];done)⟩,by omega⟩
   ·refine⟨by exact⟨by omega,by omega⟩,?_⟩;exact⟨k+1,o,rfl,rfl,⟨by omega,by (rw[zK hk2 (by rintro⟨⟨_,_,_⟩,_⟩;omega),hv];done)⟩,by omega⟩
  ·refine⟨by exact⟨by omega,by omega⟩,?_⟩;exact⟨k+1,o,rfl,rfl,⟨by omega,by (rw[zK hk2 (by rintro⟨⟨_,_,_⟩,_⟩;omega),hv];done)⟩,by omega⟩
 ·apply et1
  ·rw[hv,jD,show k=l.length by omega]
abbrev aDf (m:Int)(l:List Int):Prop:=Cn 147 [.one (.int .i64 m),.one (.sl 3 1 (l.map intD))] (vI (jD m l)) []
theorem aQD (m:Int)(l:List Int):aDf m l:=by
 refine cq Tryz.func147 (.loop (Nat × Int) (Q2 Nat Int) (rg 5 31) [] (fun yy0=>[(5,vI yy0.2),(6,vI (yy0.1:Int))]) (fun yy0=>[]) (fun yy0=>(yy0.1<=l.length/\yy0.1<=4)/\yy0.2=jO m l yy0.1) (fun yy0=>l.length - yy0.1) (fun yy0=> .len l.length<| .br (.lit<| .lit<| .br (.elem _ intD l (fun e19=> .call (vB (decide (0<=e19/\e19<=3))) []<| .br (.elem _ intD l (fun e26=> .lit<| .lit<| .lit<| .lit<| .lit<| .br (.back []) (.back []))) (.back []))) (.fin [])) (.fin []))) (p:=Lx (l.map intD)<| (∃(k:Nat) (o:Int),0=o/\0=(k:Int)/\(k<=l.length/\k<=4)/\o=jO m l k)/\ ∀(k:Nat) (o:Int),((k<=l.length/\k<=4)/\o=jO m l k)->Lm intD l/\Br ((k:Int)<(l.length:Int)) (Br ((k:Int)<4) (0<=(k:Int)/\Em intD l k fun e19=>eX e19 (0:Int) (3:Int)/\Br (0<=e19/\e19<=3) (0<=(k:Int)/\Em intD l k fun e26=>(0<=e26/\e26<=64)/\Br ((cD .and .i64 (m/2^(Int.toNat e26)) (1:Int))=1) ((0<=(k:Int)/\(k:Int)<=64)/\bK ((1:Int)*2^k)/\bK ((k:Int)+1)/\ ∃(k' :Nat) (o' :Int),(cD .or .i64 o ((1:Int)*2^k))=o' /\((k:Int)+1)=(k' :Int)/\((k' <=l.length/\k' <=4)/\o' =jO m l k')/\l.length - k' <l.length - k) (bK ((k:Int)+1)/\ ∃(k' :Nat) (o' :Int),o=o' /\((k:Int)+1)=(k' :Int)/\((k' <=l.length/\k' <=4)/\o' =jO m l k')/\l.length - k' <l.length - k)) (bK ((k:Int)+1)/\ ∃(k' :Nat) (o' :Int),o=o' /\((k:Int)+1)=(k' :Int)/\((k' <=l.length/\k' <=4)/\o' =jO m l k')/\l.length - k' <l.length - k)) (o=(jD m l)/\True)) (o=(jD m l)/\True)) (by kernel_rfl) ?_;refine lx fun n0=>?_;refine⟨⟨0,(0:Int),rfl,rfl,⟨aCC _,by omega⟩,rfl⟩,fun k o ⟨hk,hv⟩=>?_⟩;refine⟨aA8 _,dd (fun g11=>?_) fun g11=>?_⟩
 ·refine dd (fun c0=>?_) fun c0=>?_
  ·refine⟨by omega,rfl,by omega,fun e19 h19=>?_⟩;have hk2:=h19;refine⟨iP _ _ _,dd (fun g22=>?_) fun g22=>?_⟩
   ·refine⟨by omega,rfl,by omega,fun e26 h26=>?_⟩;obtain rfl:=(aW hk2 h26).symm;refine⟨⟨by omega,by omega⟩,dd (fun c1=>?_) fun c1=>?_⟩
    ·refine⟨⟨by omega,by omega⟩,by exact fI (by omega),by exact⟨by omega,by omega⟩,?_⟩;exact⟨k+1,cD .or .i64 o ((1:Int)*2^k),rfl,rfl,⟨by omega,by (rw[aKJ hk2 (by refine⟨⟨by omega,by omega,by omega⟩,by assumption⟩),hv];done)⟩,by omega⟩
    ·refine⟨by exact⟨by omega,by omega⟩,?_⟩;exact⟨k+1,o,rfl,rfl,⟨by omega,by (rw[zK hk2 (by rintro⟨⟨_,_,_⟩,_⟩;omega),hv];done)⟩,by omega⟩
   ·refine⟨by exact⟨by omega,by omega⟩,?_⟩;exact⟨k+1,o,rfl,rfl,⟨by omega,by (rw[zK hk2 (by rintro⟨⟨_,_,_⟩,_⟩;omega),hv];done)⟩,by omega⟩
  ·apply et1
   ·(rw[hv,jD,aOq (k:=l.length) (by omega),show k=4 by omega];done)
 ·apply et1
  ·(rw[hv,jD,show k=l.length by omega];done)
abbrev aB8 (l:List aI)(v:List Int):AV × List (Nat × Rs):=(.own 0,[(0,.arr 192 3 true ((l.map (lW v)).map aE))])
abbrev aHZ (l:List aI)(v:List Int):Prop:=Cn 102 [.one (.sl 192 3 (l.map aE)),.one (.sl 3 1 (v.map intD))] (aB8 l v).1 (aB8 l v).2
theorem aUV (l:List aI)(v:List Int)(hl:l.length<=1048576):aHZ l v:=by
 refine cq Tryz.func102 (.len l.length<| .loop (Nat × (List aI)) (Q2 Nat (List aI)) ([6,8,10]++rg 13 19) [800,1000,2900,3000] (fun yy0=>[(6,.own 1000),(13,vI (yy0.1:Int))]) (fun yy0=>[(1000,some (.arr 192 3 true (yy0.2.map aE)))]) (fun yy0=>yy0.1<=l.length/\yy0.2=(l.take yy0.1).map (lW v)) (fun yy0=>l.length - yy0.1) (fun yy0=> .br (.elem _ aE l (fun e15=> .call (vI (jD e15.src v)) []<| .call (vI (jD e15.dst v)) []<| .app aI aE yy0.2 ([(⟨jD e15.src v,jD e15.dst v,e15.bits⟩:aI)]:List aI)<| .back [(1000,3000)])) (.fin [(0,1000)]))) (p:=Lx (l.map aE)<| Lx (v.map intD)<| Lm aE l/\((∃(k:Nat) (out:List aI),0=(k:Int)/\[]=out.map aE/\k<=l.length/\out=(l.take k).map (lW v))/\ ∀(k:Nat) (out:List aI),(k<=l.length/\out=(l.take k).map (lW v))->Br ((k:Int)<(l.length:Int)) (0<=(k:Int)/\Em aE l k fun e15=>aDe e15.src v/\aDe e15.dst v/\Ap aE out ([(⟨jD e15.src v,jD e15.dst v,e15.bits⟩:aI)]:List aI) 24 (bK ((k:Int)+1)/\ ∃(k' :Nat) (out' :List aI),((k:Int)+1)=(k' :Int)/\(out++[(⟨jD e15.src v,jD e15.dst v,e15.bits⟩:aI)]).map aE=out'.map aE/\(k' <=l.length/\out' =(l.take k').map (lW v))/\l.length - k' <l.length - k)) (out.map aE=(l.map (lW v)).map aE/\True))) (by kernel_rfl) ?_;refine lx fun n0=>lx fun n1=>?_;refine⟨aA8 _,⟨0,([]:List aI),rfl,rfl,aCC _,rfl⟩,fun k out ⟨hk,ho⟩=>?_⟩;refine dd (fun c0=>?_) fun c0=>?_
 ·refine⟨by omega,rfl,by omega,fun e15 h15=>?_⟩;have hk2:=h15;refine⟨aQC _ _,aQC _ _,?_⟩;refine ap ?_ (fun _=>rfl) (by simp[ho];omega);refine⟨⟨by omega,by omega⟩,?_⟩;exact⟨k+1,_,rfl,rfl,⟨by omega,by rw[ho,bQ hk2,aKc];rfl⟩,by omega⟩
 ·apply et1
  ·rw[ho,aGj (by omega)]
abbrev aB9 (l:List aI)(v:List Int):AV × List (Nat × Rs):=(.own 0,[(0,.arr 192 3 true ((l.map (lW v)).map aE))])
abbrev aH0 (l:List aI)(v:List Int):Prop:=Cn 93 [.one (.sl 192 3 (l.map aE)),.one (.sl 3 1 (v.map intD))] (aB9 l v).1 (aB9 l v).2
theorem aUW (l:List aI)(v:List Int)(hl:l.length<=1048576):aH0 l v:=by
 refine cq Tryz.func93 (.loop (Nat × (List aI)) (Q2 Nat (List aI)) (rg 5 32) [700,3500,3600] (fun yy0=>[(5,.own 700),(6,vI (yy0.1:Int))]) (fun yy0=>[(700,some (.arr 192 3 true (yy0.2.map aE)))]) (fun yy0=>yy0.1<=l.length/\yy0.2=(l.take yy0.1).map (lW v)) (fun yy0=>l.length - yy0.1) (fun yy0=> .len l.length<| .br (.elem _ aE l (fun e17=> .call (vI (jD e17.src v)) []<| .elem _ aE l (fun e24=> .call (vI (jD e24.dst v)) []<| .elem _ aE l (fun e31=> .app aI aE yy0.2 ([(⟨jD e17.src v,jD e24.dst v,e31.bits⟩:aI)]:List aI)<| .back [(700,3600)])))) (.fin [(0,700)]))) (p:=Lx (l.map aE)<| Lx (v.map intD)<| (∃(k:Nat) (out:List aI),0=(k:Int)/\[]=out.map aE/\k<=l.length/\out=(l.take k).map (lW v))/\ ∀(k:Nat) (out:List aI),(k<=l.length/\out=(l.take k).map (lW v))->Lm aE l/\Br ((k:Int)<(l.length:Int)) (0<=(k:Int)/\Em aE l k fun e17=>aDf e17.src v/\0<=(k:Int)/\Em aE l k fun e24=>aDf e24.dst v/\0<=(k:Int)/\Em aE l k fun e31=>Ap aE out ([(⟨jD e17.src v,jD e24.dst v,e31.bits⟩:aI)]:List aI) 24 (bK ((k:Int)+1)/\ ∃(k' :Nat) (out' :List aI),((k:Int)+1)=(k' :Int)/\(out++[(⟨jD e17.src v,jD e24.dst v,e31.bits⟩:aI)]).map aE=out'.map aE/\(k' <=l.length/\out' =(l.take k').map (lW v))/\l.length - k' <l.length - k)) (out.map aE=(l.map (lW v)).map aE/\True)) (by kernel_rfl) ?_;refine lx fun n0=>lx fun n1=>?_;refine⟨⟨0,([]:List aI),rfl,rfl,aCC _,rfl⟩,fun k out ⟨hk,ho⟩=>?_⟩;refine⟨aA8 _,dd (fun c0=>?_) fun c0=>?_⟩
 ·refine⟨by omega,rfl,by omega,fun e17 h17=>?_⟩;have hk2:=h17;refine⟨aQD _ _,by omega,rfl,by omega,fun e24 h24=>?_⟩;obtain rfl:=(aW hk2 h24).symm;refine⟨aQD _ _,by omega,rfl,by omega,fun e31 h31=>?_⟩;obtain rfl:=(aW hk2 h31).symm;refine ap ?_ (fun _=>rfl) (by simp[ho];omega);refine⟨⟨by omega,by omega⟩,?_⟩;exact⟨k+1,_,rfl,rfl,⟨by omega,by rw[ho,bQ hk2,aKc];rfl⟩,by omega⟩
 ·apply et1
  ·rw[ho,aGj (by omega)]
end Go.Proofs.YtlidmoeecphbmaaGreat
