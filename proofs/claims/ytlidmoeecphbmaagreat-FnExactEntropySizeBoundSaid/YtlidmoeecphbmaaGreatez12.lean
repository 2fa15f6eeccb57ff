/-
  Contracts and plain laws, joined: part 13.
-/
import Derived.Test.YtlidmoeecphbmaaGreatez9
import Derived.Test.YtlidmoeecphbmaaGreatez11
import Derived.Test.YtlidmoeecphbmaaGreatez10
import Derived.Test.YtlidmoeecphbmaaGreatez8
namespace Go.Proofs.YtlidmoeecphbmaaGreat
open Go.ChangeShapes Go.WideShapes Go.ChangeAt Go.RowKit
set_option linter.unusedVariables false
set_option linter.unusedSimpArgs false
set_option maxRecDepth 100000
set_option maxHeartbeats 4000000
def qB (n:ByteArray)(x:aM):Bool:=(x.name.toList==n.toList)&&cG x
def cW (c:cI)(n:ByteArray):aM × Bool:=match c.tables.find? (qB n) with | some x=>(x,true) | none=>(dO,false)
theorem aAp {c:cI}{n:ByteArray}{x:aM}(h:c.tables.find? (qB n)=some x):cW c n=(x,true):=by rw[cW,h]
theorem aH8 {c:cI}{n:ByteArray}(h:c.tables.find? (qB n)=none):cW c n=(dO,false):=by rw[cW,h]
theorem aNh (c:cI)(n:ByteArray):bH (cW c n).1<=bQ c:=by
 have hS:bQ c=dW c.tables:=rfl;cases h:c.tables.find? (qB n) with
 | none=>rw[aH8 h];exact aBn _
 | some x=>
   rw[aAp h,hS];obtain⟨i,hi⟩:=List.getElem?_of_mem (List.mem_of_find?_eq_some h);exact kM hi
abbrev aEm (c:cI)(n:ByteArray):AV × List (Nat × Rs):=(.tup [.agg [.p none (.str ((cW c n).1.name)),vI ((cW c n).1.arity),vI ((cW c n).1.rowCount),.own 0],vB ((cW c n).2)],[(0,.arr 220 3 true ((cW c n).1.groups.map aD))])
abbrev aNi (c:cI)(n:ByteArray):Prop:=Cn 154 [.agg [.int .i64 c.version,.sl 88 4 (c.tables.map aF)],.one (.str n)] (aEm c n).1 (aEm c n).2
theorem aSJ (c:cI)(n:ByteArray)(hc:bQ c<=1048576):aNi c n:=by
 refine cq Tryz.func154 (.len c.tables.length<| .loop Nat (Q1 Nat) ([7]++rg 11 12++[25]) [700] (fun k=>[(11,vI (k:Int))]) (fun k=>[]) (fun k=>k<=c.tables.length/\(c.tables.take k).all (fun y=> !qB n y)=true) (fun k=>c.tables.length - k) (fun k=> .br (.elem _ aF c.tables (fun e13=> .br (.call (vB (cG e13)) []<| .lit<| .br (bI (aBc e13)<| .fin [(0,2400)]) (.back [])) (.back []))) (.fin []))) (p:=Lx (c.tables.map aF)<| Lm aF c.tables/\((∃(k:Nat),0=(k:Int)/\k<=c.tables.length/\(c.tables.take k).all (fun y=> !qB n y)=true)/\ ∀(k:Nat),(k<=c.tables.length/\(c.tables.take k).all (fun y=> !qB n y)=true)->Br ((k:Int)<(c.tables.length:Int)) (0<=(k:Int)/\Em aF c.tables k fun e13=>Bb (e13.name.toList==n.toList) (aBd e13/\Bb (cG e13) (aGv e13/\e13.name=((cW c n).1.name)/\e13.arity=((cW c n).1.arity)/\e13.rowCount=((cW c n).1.rowCount)/\(true)=((cW c n).2)/\e13.groups.map aD=(cW c n).1.groups.map aD/\True) (bJ ((k:Int)+1)/\ ∃(k' :Nat),((k:Int)+1)=(k' :Int)/\(k' <=c.tables.length/\(c.tables.take k').all (fun y=> !qB n y)=true)/\c.tables.length - k' <c.tables.length - k)) (bJ ((k:Int)+1)/\ ∃(k' :Nat),((k:Int)+1)=(k' :Int)/\(k' <=c.tables.length/\(c.tables.take k').all (fun y=> !qB n y)=true)/\c.tables.length - k' <c.tables.length - k)) (ByteArray.empty=((cW c n).1.name)/\0=((cW c n).1.arity)/\0=((cW c n).1.rowCount)/\(false)=((cW c n).2)/\[]=(cW c n).1.groups.map aD/\True))) (by kernel_rfl) ?_;refine lx fun n0=>?_;have hS:bQ c=dW c.tables:=rfl;refine⟨aAq _,⟨0,rfl,aBn _,rfl⟩,fun k ⟨hk,ha⟩=>?_⟩;refine dd (fun c0=>?_) fun c0=>?_
 ·refine⟨by omega,rfl,by omega,fun e13 h13=>?_⟩
  try (obtain rfl:=(aX h13 h13).symm)
  have q1:=kM h13;refine db (fun g19=>?_) fun g19=>?_
  ·refine⟨aNT _ (by omega),db (fun c1=>?_) fun c1=>?_⟩
   ·have hf:=aLm (p:=qB n) h13 ha (by simp[qB,g19,c1]);refine⟨aUW _ (by omega),?_,?_,?_,?_,?_,trivial⟩<;>((rw[aAp hf]<;>rfl))
   ·refine⟨⟨by omega,by omega⟩,?_⟩;exact⟨k+1,rfl,⟨by omega,cL h13 ha (by (simp[qB,g19,c1];done))⟩,by omega⟩
  ·refine⟨⟨by omega,by omega⟩,?_⟩;exact⟨k+1,rfl,⟨by omega,cL h13 ha (by (simp[qB,g19];done))⟩,by omega⟩
 ·have hall:=aLn (cZ (by omega) ha);apply et5<;>((rw[aH8 hall]<;>rfl))
abbrev aEn (c:cI)(n:ByteArray):AV × List (Nat × Rs):=(.tup [.agg [.p none (.str ((cW c n).1.name)),vI ((cW c n).1.arity),vI ((cW c n).1.rowCount),.own 0],vB ((cW c n).2)],[(0,.arr 220 3 true ((cW c n).1.groups.map aD))])
abbrev aNj (c:cI)(n:ByteArray):Prop:=Cn 76 [.agg [.int .i64 c.version,.sl 88 4 (c.tables.map aF)],.one (.str n)] (aEn c n).1 (aEn c n).2
theorem aSK (c:cI)(n:ByteArray)(hc:bQ c<=1048576):aNj c n:=by
 refine cq Tryz.func76 (.loop Nat (Q1 Nat) (rg 6 24) [] (fun k=>[(6,vI (k:Int))]) (fun k=>[]) (fun k=>k<=c.tables.length/\(c.tables.take k).all (fun y=> !qB n y)=true) (fun k=>c.tables.length - k) (fun k=> .len c.tables.length<| .br (.elem _ aF c.tables (fun e17=> .br (.elem _ aF c.tables (fun e26=> .call (vB (cG e26)) []<| .lit<| .br (.elem _ aF c.tables (fun e33=>bI (aBp e33)<| .fin [(0,3500)])) (.back []))) (.back []))) (.fin []))) (p:=Lx (c.tables.map aF)<| (∃(k:Nat),0=(k:Int)/\k<=c.tables.length/\(c.tables.take k).all (fun y=> !qB n y)=true)/\ ∀(k:Nat),(k<=c.tables.length/\(c.tables.take k).all (fun y=> !qB n y)=true)->Lm aF c.tables/\Br ((k:Int)<(c.tables.length:Int)) (0<=(k:Int)/\Em aF c.tables k fun e17=>Bb (e17.name.toList==n.toList) (0<=(k:Int)/\Em aF c.tables k fun e26=>vX e26/\Bb (cG e26) (0<=(k:Int)/\Em aF c.tables k fun e33=>aH7 e33/\e33.name=((cW c n).1.name)/\e33.arity=((cW c n).1.arity)/\e33.rowCount=((cW c n).1.rowCount)/\(true)=((cW c n).2)/\e33.groups.map aD=(cW c n).1.groups.map aD/\True) (bJ ((k:Int)+1)/\ ∃(k' :Nat),((k:Int)+1)=(k' :Int)/\(k' <=c.tables.length/\(c.tables.take k').all (fun y=> !qB n y)=true)/\c.tables.length - k' <c.tables.length - k)) (bJ ((k:Int)+1)/\ ∃(k' :Nat),((k:Int)+1)=(k' :Int)/\(k' <=c.tables.length/\(c.tables.take k').all (fun y=> !qB n y)=true)/\c.tables.length - k' <c.tables.length - k)) (ByteArray.empty=((cW c n).1.name)/\0=((cW c n).1.arity)/\0=((cW c n).1.rowCount)/\(false)=((cW c n).2)/\[]=(cW c n).1.groups.map aD/\True)) (by kernel_rfl) ?_;refine lx fun n0=>?_;have hS:bQ c=dW c.tables:=rfl;refine⟨⟨0,rfl,aBn _,rfl⟩,fun k ⟨hk,ha⟩=>?_⟩;refine⟨aAq _,dd (fun c0=>?_) fun c0=>?_⟩
 ·refine⟨by omega,rfl,by omega,fun e17 h17=>?_⟩
  try (obtain rfl:=(aX h17 h17).symm)
  have q1:=kM h17;refine db (fun g22=>?_) fun g22=>?_
  ·refine⟨by omega,rfl,by omega,fun e26 h26=>?_⟩
   try (obtain rfl:=(aX h17 h26).symm)
   refine⟨aHW _ (by omega),db (fun c1=>?_) fun c1=>?_⟩
   ·have hf:=aLm (p:=qB n) h17 ha (by simp[qB,g22,c1]);refine⟨by omega,rfl,by omega,fun e33 h33=>?_⟩
    try (obtain rfl:=(aX h17 h33).symm)
    refine⟨aUq _ (by omega),?_,?_,?_,?_,?_,trivial⟩<;>((rw[aAp hf]<;>rfl))
   ·refine⟨⟨by omega,by omega⟩,?_⟩;exact⟨k+1,rfl,⟨by omega,cL h17 ha (by (simp[qB,g22,c1];done))⟩,by omega⟩
  ·refine⟨⟨by omega,by omega⟩,?_⟩;exact⟨k+1,rfl,⟨by omega,cL h17 ha (by (simp[qB,g22];done))⟩,by omega⟩
 ·have hall:=aLn (cZ (by omega) ha);apply et5<;>((rw[aH8 hall]<;>rfl))
theorem aH9 {α:Type}{p q:α->Bool}: ∀{l:List α},(∀x∈l,p x=q x)->l.find? p=l.find? q
 | [],_=>rfl
 | x::l,h=>by
   rw[List.find?_cons,List.find?_cons,h x (by simp),aH9 fun y hy=>h y (by simp[hy])]
theorem aDz {t:aY}(h:aV t=true):cG (bD t)=true/\(bD t).name=t.name/\(bD t).arity=t.arity/\(bD t).rowCount=(t.rows.length:Nat):=by
 have h1:=(zD h).1
 have e:dR (bD t)=t:=by
  rw[dR,h1,iE h]
 refine⟨by rw[cG,e,h];simp,?_,?_,?_⟩<;>rw[iE h]
theorem aUr {s:StoreD}(h:eW s=true):iX s.database=true/\s.catalogue.tables=s.database.tables.map bD:=by
 simp only[eW,aBH,aWB] at h;obtain⟨h1,h2,_⟩:=h;cases e:(iX s.database&&eB s.catalogue.version 1 999) with
 | false=>rw[uC e] at h1;cases h1
 | true=>
   rw[qW e] at h2;simp only[aBH] at e;exact⟨e.1,by rw[<-h2]⟩
theorem aPZ {s:StoreD}{n:ByteArray}(h:eW s=true)(hn:(aL s.database n).2=true):cW s.catalogue n=(bD (aL s.database n).1,true):=by
 obtain⟨h1,h2⟩:=aUr h;have hall:=aN1 h1
 have hc:(s.database.tables.find? fun t=>qB n (bD t))=s.database.tables.find? (isN n):=aH9 fun t ht=>by
  obtain⟨q1,q2,_,_⟩:=aDz (aIt.1 hall t ht);rw[qB,q1,q2,Bool.and_true]
 have hf:s.catalogue.tables.find? (qB n)=(s.database.tables.find? (isN n)).map bD:=by
  rw[h2,List.find?_map,<-hc];rfl
 cases e:s.database.tables.find? (isN n) with
 | none=>rw[zE (.inr e)] at hn;cases hn
 | some t=>
   rw[aDt h1 e];exact aAp (by rw[hf,e];rfl)
def fP (d:aU)(q:QueryD):Bool:=cO q&&q.atoms.all fun a=>(aL d a.name).2&&decide ((aL d a.name).1.arity=(a.vars.length:Nat))
def rX (s:StoreD)(q:QueryD)(m:Int):Bool:=eW s&&(fP s.database q&&eB m 1 (lL q))
def eO (s:StoreD)(q:QueryD)(i:Nat):aM:=(cW s.catalogue (q.atoms.getD i iP).name).1
theorem aEA {d:aU}{q:QueryD}(h:fP d q=true):cO q=true/\ ∀a∈q.atoms,(aL d a.name).2=true/\(aL d a.name).1.arity=(a.vars.length:Nat):=by
 simp only[fP,aBH] at h;exact⟨h.1,fun a ha=>by simpa using aIt.1 h.2 a ha⟩
theorem qY {s:StoreD}{q:QueryD}{m:Int}(h:rX s q m=true):eW s=true/\fP s.database q=true/\cO q=true/\1<=m/\m<=1*2^q.atoms.length - 1/\m<=15/\jQ q m=true/\(1<=q.atoms.length/\q.atoms.length<=4):=by
 simp only[rX,aBH] at h;have h1:=eC h.2.2;have h2:=(aEA h.2.1).1;have h3:=fZ h2;have h4:=mL h3.2.1;rw[aDx h2] at h1;exact⟨h.1,h.2.1,h2,h1.1,h1.2,by omega,by rw[jQ,h2,qA (by omega) h1.2];rfl,h3.2.1⟩
theorem aXF {s:StoreD}{q:QueryD}{i:Nat}{a:dC}(h:eW s=true)(hq:fP s.database q=true)(ha:q.atoms[i]? =some a):cG (eO s q i)=true/\(eO s q i).arity=(a.vars.length:Nat)/\0<=(eO s q i).rowCount/\(eO s q i).rowCount<=8/\eO s q i=bD (aL s.database a.name).1/\(cW s.catalogue a.name).2=true:=by
 obtain⟨h1,h2⟩:=(aEA hq).2 a (aCX ha);have h3:=aPZ h h1;have h4:=(lK h1).1;obtain⟨q1,q2,q3,q4⟩:=aDz h4;have h5:=cA h4;have e:eO s q i=bD (aL s.database a.name).1:=by rw[eO,bM ha,h3]
 rw[e];exact⟨q1,q3.trans h2,by omega,by omega,rfl,by rw[h3]⟩
abbrev aBq (d:aU)(q:QueryD):Prop:=Cn 82 [.agg [.sl 142 3 (d.tables.map aS)],.agg [.int .i64 q.variableCount,.sl 125 2 (q.atoms.map bF)]] (vB (fP d q)) []
theorem aNk (d:aU)(q:QueryD)(hc:bL d<=1048576):aBq d q:=by
 refine cq Tryz.func82 (.call (vB (cO q)) []<| .br (.fin []) (.len q.atoms.length<| .loop Nat (Q1 Nat) ([6,7,8]++rg 15 22) [600,700] (fun k=>[(15,vI (k:Int))]) (fun k=>[]) (fun k=>k<=q.atoms.length/\(q.atoms.take k).all (fun a=>(aL d a.name).2&&decide ((aL d a.name).1.arity=(a.vars.length:Nat)))=true) (fun k=>q.atoms.length - k) (fun k=> .br (.elem _ bF q.atoms (fun e17=> .call (.tup [.agg [.p none (.str ((aL d e17.name).1.name)),vI ((aL d e17.name).1.arity),.p none (.sl 91 1 ((aL d e17.name).1.rows.map aC))],vB ((aL d e17.name).2)]) []<| .br (.fin []) (.len e17.vars.length<| .lit<| .lit<| .br (.fin []) (.back [])))) (.fin [])))) (p:=Lx (d.tables.map aS)<| Lx (q.atoms.map bF)<| vZ q/\Nr (cO q) ((false)=(fP d q)/\True) (Lm bF q.atoms/\((∃(k:Nat),0=(k:Int)/\k<=q.atoms.length/\(q.atoms.take k).all (fun a=>(aL d a.name).2&&decide ((aL d a.name).1.arity=(a.vars.length:Nat)))=true)/\ ∀(k:Nat),(k<=q.atoms.length/\(q.atoms.take k).all (fun a=>(aL d a.name).2&&decide ((aL d a.name).1.arity=(a.vars.length:Nat)))=true)->Br ((k:Int)<(q.atoms.length:Int)) (0<=(k:Int)/\Em bF q.atoms k fun e17=>qJ Tryz.prog 86 [.agg [.sl 142 3 (d.tables.map aS)],.one (.str e17.name)] (.tup [.agg [.p none (.str ((aL d e17.name).1.name)),vI ((aL d e17.name).1.arity),.p none (.sl 91 1 ((aL d e17.name).1.rows.map aC))],vB ((aL d e17.name).2)]) []/\Nr ((aL d e17.name).2) ((false)=(fP d q)/\True) (Lm intD e17.vars/\Nb (((aL d e17.name).1.arity)=(e17.vars.length:Int)) ((false)=(fP d q)/\True) (bJ ((k:Int)+1)/\ ∃(k' :Nat),((k:Int)+1)=(k' :Int)/\(k' <=q.atoms.length/\(q.atoms.take k').all (fun a=>(aL d a.name).2&&decide ((aL d a.name).1.arity=(a.vars.length:Nat)))=true)/\q.atoms.length - k' <q.atoms.length - k))) ((true)=(fP d q)/\True)))) (by kernel_rfl) ?_;refine lx fun n0=>lx fun n1=>?_;refine⟨aH5 q,dm (fun c0=>?_) fun c0=>?_⟩
 ·apply et1
  ·(rw[fP,c0];rfl)
 ·refine⟨aAq _,⟨0,rfl,aBn _,rfl⟩,fun k ⟨hk,ha⟩=>?_⟩;refine dd (fun c1=>?_) fun c1=>?_
  ·refine⟨by omega,rfl,by omega,fun e17 h17=>?_⟩
   try (obtain rfl:=(aX h17 h17).symm)
   refine⟨jG (pW _ e17.name (by omega)) rfl,dm (fun g28=>?_) fun g28=>?_⟩
   ·have hA:((aL d e17.name).2&&decide ((aL d e17.name).1.arity=(e17.vars.length:Nat)))=false:=by (rw[g28];rfl)
    apply et1
    ·(rw[fP,eL h17 hA,Bool.and_false];done)
   ·refine⟨aAq _,dn (fun c2=>?_) fun c2=>?_⟩
    ·have hA:((aL d e17.name).2&&decide ((aL d e17.name).1.arity=(e17.vars.length:Nat)))=false:=by (rw[g28];simp[c2];done)
     apply et1
     ·(rw[fP,eL h17 hA,Bool.and_false];done)
    ·have hA:((aL d e17.name).2&&decide ((aL d e17.name).1.arity=(e17.vars.length:Nat)))=true:=by rw[g28];simp[c2]
     refine⟨⟨by omega,by omega⟩,?_⟩;exact⟨k+1,rfl,⟨by omega,cL h17 ha hA⟩,by omega⟩
  ·apply et1
   ·(rw[fP,c0,cZ (by omega) ha];rfl)
abbrev zQ (q:QueryD):Prop:=Cn 84 [.agg [.int .i64 q.variableCount,.sl 125 2 (q.atoms.map bF)]] (vI (lL q)) []
theorem aK5 (q:QueryD):zQ q:=by
 refine cq Tryz.func84 (.call (vB (cO q)) []<| .br (.fin []) (.len q.atoms.length<| .fin [])) (p:=Lx (q.atoms.map bF)<| vZ q/\Nr (cO q) (0=(lL q)/\True) (Lm bF q.atoms/\(0<=(q.atoms.length:Int)/\(q.atoms.length:Int)<=64)/\bJ ((1:Int)*2^q.atoms.length)/\bJ (((1:Int)*2^q.atoms.length) - 1)/\(((1:Int)*2^q.atoms.length) - 1)=(lL q)/\True)) (by kernel_rfl) ?_;refine lx fun n0=>?_;refine⟨aH5 q,dm (fun c0=>?_) fun c0=>?_⟩
 ·apply et1
  ·(rw[aN8 c0];done)
 ·have w:=mL (fZ c0).2.1;have w2:=(fZ c0).2.1;refine⟨aAq _,⟨by omega,by omega⟩,⟨by omega,by omega⟩,⟨by omega,by omega⟩,?_,trivial⟩
  ·(rw[aDx c0];done)
abbrev aHa (d:aU)(q:QueryD):Prop:=Cn 73 [.agg [.sl 142 3 (d.tables.map aS)],.agg [.int .i64 q.variableCount,.sl 125 2 (q.atoms.map bF)]] (vB (fP d q)) []
theorem aUs (d:aU)(q:QueryD)(hc:bL d<=1048576):aHa d q:=by
 refine cq Tryz.func73 (.call (vB (cO q)) []<| .br (.fin []) (.loop Nat (Q1 Nat) ([5,6,7]++rg 11 32) [600] (fun k=>[(5,vI (k:Int))]) (fun k=>[]) (fun k=>k<=q.atoms.length/\(q.atoms.take k).all (fun a=>(aL d a.name).2&&decide ((aL d a.name).1.arity=(a.vars.length:Nat)))=true) (fun k=>q.atoms.length - k) (fun k=> .len q.atoms.length<| .br (.elem _ bF q.atoms (fun e23=> .call (.tup [.agg [.p none (.str ((aL d e23.name).1.name)),vI ((aL d e23.name).1.arity),.p none (.sl 91 1 ((aL d e23.name).1.rows.map aC))],vB ((aL d e23.name).2)]) []<| .br (.fin []) (.elem _ bF q.atoms (fun e37=> .len e37.vars.length<| .lit<| .lit<| .br (.fin []) (.back []))))) (.fin [])))) (p:=Lx (d.tables.map aS)<| Lx (q.atoms.map bF)<| wA q/\Nr (cO q) ((false)=(fP d q)/\True) ((∃(k:Nat),0=(k:Int)/\k<=q.atoms.length/\(q.atoms.take k).all (fun a=>(aL d a.name).2&&decide ((aL d a.name).1.arity=(a.vars.length:Nat)))=true)/\ ∀(k:Nat),(k<=q.atoms.length/\(q.atoms.take k).all (fun a=>(aL d a.name).2&&decide ((aL d a.name).1.arity=(a.vars.length:Nat)))=true)->Lm bF q.atoms/\Br ((k:Int)<(q.atoms.length:Int)) (0<=(k:Int)/\Em bF q.atoms k fun e23=>qJ Tryz.prog 126 [.agg [.sl 142 3 (d.tables.map aS)],.one (.str e23.name)] (.tup [.agg [.p none (.str ((aL d e23.name).1.name)),vI ((aL d e23.name).1.arity),.p none (.sl 91 1 ((aL d e23.name).1.rows.map aC))],vB ((aL d e23.name).2)]) []/\Nr ((aL d e23.name).2) ((false)=(fP d q)/\True) (0<=(k:Int)/\Em bF q.atoms k fun e37=>Lm intD e37.vars/\Nb (((aL d e23.name).1.arity)=(e37.vars.length:Int)) ((false)=(fP d q)/\True) (bJ ((k:Int)+1)/\ ∃(k' :Nat),((k:Int)+1)=(k' :Int)/\(k' <=q.atoms.length/\(q.atoms.take k').all (fun a=>(aL d a.name).2&&decide ((aL d a.name).1.arity=(a.vars.length:Nat)))=true)/\q.atoms.length - k' <q.atoms.length - k))) ((true)=(fP d q)/\True))) (by kernel_rfl) ?_;refine lx fun n0=>lx fun n1=>?_;refine⟨aH6 q,dm (fun c0=>?_) fun c0=>?_⟩
 ·apply et1
  ·(rw[fP,c0];rfl)
 ·refine⟨⟨0,rfl,aBn _,rfl⟩,fun k ⟨hk,ha⟩=>?_⟩;refine⟨aAq _,dd (fun c1=>?_) fun c1=>?_⟩
  ·refine⟨by omega,rfl,by omega,fun e23 h23=>?_⟩
   try (obtain rfl:=(aX h23 h23).symm)
   refine⟨jG (rV _ e23.name (by omega)) rfl,dm (fun g31=>?_) fun g31=>?_⟩
   ·have hA:((aL d e23.name).2&&decide ((aL d e23.name).1.arity=(e23.vars.length:Nat)))=false:=by (rw[g31];rfl)
    apply et1
    ·(rw[fP,eL h23 hA,Bool.and_false];done)
   ·refine⟨by omega,rfl,by omega,fun e37 h37=>?_⟩
    try (obtain rfl:=(aX h23 h37).symm)
    refine⟨aAq _,dn (fun c2=>?_) fun c2=>?_⟩
    ·have hA:((aL d e23.name).2&&decide ((aL d e23.name).1.arity=(e23.vars.length:Nat)))=false:=by (rw[g31];simp[c2];done)
     apply et1
     ·(rw[fP,eL h23 hA,Bool.and_false];done)
    ·have hA:((aL d e23.name).2&&decide ((aL d e23.name).1.arity=(e23.vars.length:Nat)))=true:=by rw[g31];simp[c2]
     refine⟨⟨by omega,by omega⟩,?_⟩;exact⟨k+1,rfl,⟨by omega,cL h23 ha hA⟩,by omega⟩
  ·apply et1
   ·(rw[fP,c0,cZ (by omega) ha];rfl)
abbrev aEo (q:QueryD):Prop:=Cn 75 [.agg [.int .i64 q.variableCount,.sl 125 2 (q.atoms.map bF)]] (vI (lL q)) []
theorem aSL (q:QueryD):aEo q:=by
 refine cq Tryz.func75 (.call (vB (cO q)) []<| .br (.fin []) (.len q.atoms.length<| .fin [])) (p:=Lx (q.atoms.map bF)<| wA q/\Nr (cO q) (0=(lL q)/\True) (Lm bF q.atoms/\(0<=(q.atoms.length:Int)/\(q.atoms.length:Int)<=64)/\bJ ((1:Int)*2^q.atoms.length)/\bJ (((1:Int)*2^q.atoms.length) - 1)/\(((1:Int)*2^q.atoms.length) - 1)=(lL q)/\True)) (by kernel_rfl) ?_;refine lx fun n0=>?_;refine⟨aH6 q,dm (fun c0=>?_) fun c0=>?_⟩
 ·apply et1
  ·(rw[aN8 c0];done)
 ·have w:=mL (fZ c0).2.1;have w2:=(fZ c0).2.1;refine⟨aAq _,⟨by omega,by omega⟩,⟨by omega,by omega⟩,⟨by omega,by omega⟩,?_,trivial⟩
  ·(rw[aDx c0];done)
abbrev wB (m:Int):AV × List (Nat × Rs):=(.own 0,[(0,.arr 3 1 true ((dM m).map intD))])
abbrev aBr (m:Int):Prop:=Cn 85 [.one (.int .i64 m)] (wB m).1 (wB m).2
theorem aNl (m:Int):aBr m:=by
 refine cq Tryz.func85 (.call (vB (eB m (0:Int) (15:Int))) []<| .br (.fin []) (.loop (Nat × (List Int)) (Q2 Nat (List Int)) ([3,4]++rg 8 14) [800,2000,2100] (fun yy0=>[(4,vI (yy0.1:Int)),(3,.own 800)]) (fun yy0=>[(800,some (.arr 3 1 true (yy0.2.map intD)))]) (fun yy0=>yy0.1<=4/\yy0.2=gB (fE m) yy0.1) (fun yy0=>4 - yy0.1) (fun yy0=> .br (.br (.app Int intD yy0.2 ([(yy0.1:Int)]:List Int)<| .back [(800,2100)]) (.back [(800,800)])) (.fin [(0,800)])))) (p:=eK m (0:Int) (15:Int)/\Nr (eB m (0:Int) (15:Int)) ([]=(dM m).map intD/\True) ((∃(i:Nat) (out:List Int),0=(i:Int)/\[]=out.map intD/\i<=4/\out=gB (fE m) i)/\ ∀(i:Nat) (out:List Int),(i<=4/\out=gB (fE m) i)->Br ((i:Int)<4) ((0<=(i:Int)/\(i:Int)<=64)/\Br ((cH .and .i64 (m/2^i) (1:Int))=1) (Ap intD out ([(i:Int)]:List Int) 8 (bJ ((i:Int)+1)/\ ∃(i' :Nat) (out' :List Int),((i:Int)+1)=(i' :Int)/\(out++[(i:Int)]).map intD=out'.map intD/\(i' <=4/\out' =gB (fE m) i')/\4 - i' <4 - i)) (bJ ((i:Int)+1)/\ ∃(i' :Nat) (out' :List Int),((i:Int)+1)=(i' :Int)/\out.map intD=out'.map intD/\(i' <=4/\out' =gB (fE m) i')/\4 - i' <4 - i)) (out.map intD=(dM m).map intD/\True))) (by kernel_rfl) ?_;refine⟨iD _ _ _,dm (fun c0=>?_) fun c0=>?_⟩
 ·apply et1
  ·(rw[aN7 c0];rfl)
 ·refine⟨⟨0,([]:List Int),rfl,rfl,by omega,rfl⟩,fun i out ⟨hi,ho⟩=>?_⟩;refine dd (fun c1=>?_) fun c1=>?_
  ·refine⟨⟨by omega,by omega⟩,dd (fun c2=>?_) fun c2=>?_⟩
   ·refine ap ?_ (fun _=>rfl) (by (rw[ho];have:=zG (fE m) i;simp only[aSt,List.length_nil];omega));refine⟨⟨by omega,by omega⟩,?_⟩;exact⟨i+1,_,rfl,rfl,⟨by omega,by (rw[ho,uF (aAn c2)];done)⟩,by omega⟩
   ·refine⟨⟨by omega,by omega⟩,?_⟩;exact⟨i+1,_,rfl,rfl,⟨by omega,by (rw[ho,vU (aBi c2)];done)⟩,by omega⟩
  ·apply et1
   ·(rw[aDw c0,ho,show i=4 by omega])
abbrev aHb (q:QueryD)(m:Int):Prop:=Cn 156 [.agg [.int .i64 q.variableCount,.sl 125 2 (q.atoms.map bF)],.one (.int .i64 m)] (vB (jQ q m)) []
theorem aUt (q:QueryD)(m:Int):aHb q m:=by
 refine cq Tryz.func156 (.call (vB (cO q)) []<| .br (.len q.atoms.length<| .call (vB (eB m (0:Int) (((1:Int)*2^q.atoms.length) - 1))) []<| .fin []) (.fin [])) (p:=Lx (q.atoms.map bF)<| vZ q/\Bb (cO q) (Lm bF q.atoms/\(0<=(q.atoms.length:Int)/\(q.atoms.length:Int)<=64)/\bJ ((1:Int)*2^q.atoms.length)/\bJ (((1:Int)*2^q.atoms.length) - 1)/\eK m (0:Int) (((1:Int)*2^q.atoms.length) - 1)/\(eB m (0:Int) (((1:Int)*2^q.atoms.length) - 1))=(jQ q m)/\True) ((false)=(jQ q m)/\True)) (by kernel_rfl) ?_;refine lx fun n0=>?_;refine⟨aH5 q,db (fun g7=>?_) fun g7=>?_⟩
 ·have w:=mL (fZ g7).2.1;have w2:=(fZ g7).2.1;refine⟨aAq _,⟨by omega,by omega⟩,⟨by omega,by omega⟩,⟨by omega,by omega⟩,iD _ _ _,?_,trivial⟩
  ·(rw[jQ,g7];rfl)
 ·apply et1
  ·(rw[jQ,g7];rfl)
abbrev aHc (q:QueryD)(m:Int):Prop:=Cn 141 [.agg [.int .i64 q.variableCount,.sl 125 2 (q.atoms.map bF)],.one (.int .i64 m)] (vB (jQ q m)) []
theorem aUu (q:QueryD)(m:Int):aHc q m:=by
 refine cq Tryz.func141 (.call (vB (cO q)) []<| .br (.len q.atoms.length<| .call (vB (eB m (0:Int) (((1:Int)*2^q.atoms.length) - 1))) []<| .fin []) (.fin [])) (p:=Lx (q.atoms.map bF)<| wA q/\Bb (cO q) (Lm bF q.atoms/\(0<=(q.atoms.length:Int)/\(q.atoms.length:Int)<=64)/\bJ ((1:Int)*2^q.atoms.length)/\bJ (((1:Int)*2^q.atoms.length) - 1)/\eV m (0:Int) (((1:Int)*2^q.atoms.length) - 1)/\(eB m (0:Int) (((1:Int)*2^q.atoms.length) - 1))=(jQ q m)/\True) ((false)=(jQ q m)/\True)) (by kernel_rfl) ?_;refine lx fun n0=>?_;refine⟨aH6 q,db (fun g7=>?_) fun g7=>?_⟩
 ·have w:=mL (fZ g7).2.1;have w2:=(fZ g7).2.1;refine⟨aAq _,⟨by omega,by omega⟩,⟨by omega,by omega⟩,⟨by omega,by omega⟩,iV _ _ _,?_,trivial⟩
  ·(rw[jQ,g7];rfl)
 ·apply et1
  ·(rw[jQ,g7];rfl)
abbrev zS (q:QueryD)(m:Int):AV × List (Nat × Rs):=(.own 0,[(0,.arr 3 1 true ((aE6 q m).map intD))])
abbrev aEp (q:QueryD)(m:Int):Prop:=Cn 157 [.agg [.int .i64 q.variableCount,.sl 125 2 (q.atoms.map bF)],.one (.int .i64 m)] (zS q m).1 (zS q m).2
theorem aSM (q:QueryD)(m:Int)(hq:cO q=true):aEp q m:=by
 refine cq Tryz.func157 (.loop (Nat × (List Int)) (Q2 Nat (List Int)) (rg 5 35) [800,900,3700,3800] (fun yy0=>[(6,vI (yy0.1:Int)),(5,.own 900)]) (fun yy0=>[(900,some (.arr 3 1 true (yy0.2.map intD)))]) (fun yy0=>(yy0.1:Int)<=q.variableCount/\yy0.2=gB (inM q m) yy0.1) (fun yy0=>q.variableCount.toNat - yy0.1) (fun yy0=> .br (.len q.atoms.length<| .loop Nat (Q1 Nat) ([7,8]++rg 19 16++[39]) [800] (fun i=>[(19,vI (i:Int))]) (fun i=>[]) (fun i=>i<=q.atoms.length/\vV q m i yy0.1=false) (fun i=>q.atoms.length - i) (fun i=> .br (.elem _ bF q.atoms (fun e22=> .br (.call (vB (decide ((yy0.1:Int)∈e22.vars))) []<| .lit<| .br (.app Int intD yy0.2 ([(yy0.1:Int)]:List Int)<| .back [(900,3800)]) (.back [])) (.back []))) (.back [(900,900)]))) (.fin [(0,900)]))) (p:=Lx (q.atoms.map bF)<| (∃(v:Nat) (out:List Int),0=(v:Int)/\[]=out.map intD/\(v:Int)<=q.variableCount/\out=gB (inM q m) v)/\ ∀(v:Nat) (out:List Int),((v:Int)<=q.variableCount/\out=gB (inM q m) v)->Br ((v:Int)<q.variableCount) (Lm bF q.atoms/\((∃(i:Nat),0=(i:Int)/\i<=q.atoms.length/\vV q m i v=false)/\ ∀(i:Nat),(i<=q.atoms.length/\vV q m i v=false)->Br ((i:Int)<(q.atoms.length:Int)) (0<=(i:Int)/\Em bF q.atoms i fun e22=>(0<=(i:Int)/\(i:Int)<=64)/\Br ((cH .and .i64 (m/2^i) (1:Int))=1) (aN2 e22.vars (v:Int)/\Bb (decide ((v:Int)∈e22.vars)) (Ap intD out ([(v:Int)]:List Int) 8 (bJ ((v:Int)+1)/\ ∃(v' :Nat) (out' :List Int),((v:Int)+1)=(v' :Int)/\(out++[(v:Int)]).map intD=out'.map intD/\((v' :Int)<=q.variableCount/\out' =gB (inM q m) v')/\q.variableCount.toNat - v' <q.variableCount.toNat - v)) (bJ ((i:Int)+1)/\ ∃(i' :Nat),((i:Int)+1)=(i' :Int)/\(i' <=q.atoms.length/\vV q m i' v=false)/\q.atoms.length - i' <q.atoms.length - i)) (bJ ((i:Int)+1)/\ ∃(i' :Nat),((i:Int)+1)=(i' :Int)/\(i' <=q.atoms.length/\vV q m i' v=false)/\q.atoms.length - i' <q.atoms.length - i)) (bJ ((v:Int)+1)/\ ∃(v' :Nat) (out' :List Int),((v:Int)+1)=(v' :Int)/\out.map intD=out'.map intD/\((v' :Int)<=q.variableCount/\out' =gB (inM q m) v')/\q.variableCount.toNat - v' <q.variableCount.toNat - v))) (out.map intD=(aE6 q m).map intD/\True)) (by kernel_rfl) ?_;refine lx fun n0=>?_;have w:=(fZ hq).1;have w2:=(fZ hq).2.1;refine⟨⟨0,([]:List Int),rfl,rfl,by omega,rfl⟩,fun v out ⟨hv,ho⟩=>?_⟩;refine dd (fun c0=>?_) fun c0=>?_
 ·refine⟨aAq _,⟨0,rfl,aBn _,rfl⟩,fun i ⟨hi,hn⟩=>?_⟩;refine dd (fun c1=>?_) fun c1=>?_
  ·refine⟨by omega,rfl,by omega,fun e22 h22=>?_⟩;refine⟨⟨by omega,by omega⟩,dd (fun g29=>?_) fun g29=>?_⟩
   ·refine⟨ctI _ _,db (fun c2=>?_) fun c2=>?_⟩
    ·have hT:inM q m v=true:=aXD h22 (aAn g29) c2;refine ap ?_ (fun _=>rfl) (by (rw[ho];have:=zG (inM q m) v;simp only[aSt,List.length_nil];omega));refine⟨⟨by omega,by omega⟩,?_⟩;exact⟨v+1,_,rfl,rfl,⟨by omega,by (rw[ho,uF hT];done)⟩,by omega⟩
    ·refine⟨⟨by omega,by omega⟩,?_⟩;exact⟨i+1,rfl,⟨by omega,by rw[aAo,hn,bM h22];(rw[c2];simp;done)⟩,by omega⟩
   ·refine⟨⟨by omega,by omega⟩,?_⟩;exact⟨i+1,rfl,⟨by omega,by rw[aAo,hn,bM h22];(rw[aBi g29];rfl)⟩,by omega⟩
  ·have hF:inM q m v=false:=by rw[inM,show q.atoms.length=i by omega];exact hn
   refine⟨⟨by omega,by omega⟩,?_⟩;exact⟨v+1,_,rfl,rfl,⟨by omega,by (rw[ho,vU hF];done)⟩,by omega⟩
 ·apply et1
  ·rw[aE6,ho,show q.variableCount.toNat=v by omega]
abbrev zT (q:QueryD)(m:Int):AV × List (Nat × Rs):=(.own 0,[(0,.arr 3 1 true ((eA q m).map intD))])
abbrev aEq (q:QueryD)(m:Int):Prop:=Cn 100 [.agg [.int .i64 q.variableCount,.sl 125 2 (q.atoms.map bF)],.one (.int .i64 m)] (zT q m).1 (zT q m).2
theorem aSN (q:QueryD)(m:Int):aEq q m:=by
 refine cq Tryz.func100 (.call (vB (jQ q m)) []<| .br (.fin []) (bI (zS q m)<| .fin [(0,1100)])) (p:=Lx (q.atoms.map bF)<| aHb q m/\Nr (jQ q m) ([]=(eA q m).map intD/\True) (aEp q m/\(aE6 q m).map intD=(eA q m).map intD/\True)) (by kernel_rfl) ?_;refine lx fun n0=>?_;refine⟨aUt _ m,dm (fun c0=>?_) fun c0=>?_⟩
 ·apply et1
  ·(rw[aN6 c0];rfl)
 ·refine⟨aSM q m (by exact(vW (q:=q) (m:=m) (by assumption)).1),?_,trivial⟩
  ·(rw[aKZ c0])
abbrev aDG (q:QueryD)(m:Int):Prop:=Cn 143 [.agg [.int .i64 q.variableCount,.sl 125 2 (q.atoms.map bF)],.one (.int .i64 m)] (vI (m4 (inM q m))) []
theorem aP0 (q:QueryD)(m:Int)(hq:cO q=true):aDG q m:=by
 refine cq Tryz.func143 (.loop (Nat × Int) (Q2 Nat Int) (rg 5 40) [] (fun yy0=>[(6,vI (yy0.1:Int)),(5,vI yy0.2)]) (fun yy0=>[]) (fun yy0=>yy0.1<=q.atoms.length/\yy0.2=m4 (vV q m yy0.1)) (fun yy0=>q.atoms.length - yy0.1) (fun yy0=> .len q.atoms.length<| .br (.loop (Nat × Int) (Q2 Nat Int) ([5,7]++rg 15 30) [] (fun yy1=>[(7,vI (yy1.1:Int)),(5,vI yy1.2)]) (fun yy1=>[]) (fun yy1=>yy1.1<=(q.atoms.getD yy0.1 iP).vars.length/\yy1.2=m4 (aFZ q m (q.atoms.getD yy0.1 iP) yy0.1 yy1.1)) (fun yy1=>(q.atoms.getD yy0.1 iP).vars.length - yy1.1) (fun yy1=> .elem _ bF q.atoms (fun e19=> .len e19.vars.length<| .br (.lit<| .lit<| .lit<| .lit<| .lit<| .br (.elem _ bF q.atoms (fun e37=> .elem _ intD e37.vars (fun e41=> .back []))) (.back [])) (.back [])))) (.fin []))) (p:=Lx (q.atoms.map bF)<| (∃(i:Nat) (o:Int),0=(i:Int)/\0=o/\i<=q.atoms.length/\o=m4 (vV q m i))/\ ∀(i:Nat) (o:Int),(i<=q.atoms.length/\o=m4 (vV q m i))->Lm bF q.atoms/\Br ((i:Int)<(q.atoms.length:Int)) ((∃(k:Nat) (p:Int),0=(k:Int)/\o=p/\k<=(q.atoms.getD i iP).vars.length/\p=m4 (aFZ q m (q.atoms.getD i iP) i k))/\ ∀(k:Nat) (p:Int),(k<=(q.atoms.getD i iP).vars.length/\p=m4 (aFZ q m (q.atoms.getD i iP) i k))->0<=(i:Int)/\Em bF q.atoms i fun e19=>Lm intD e19.vars/\Br ((k:Int)<(e19.vars.length:Int)) ((0<=(i:Int)/\(i:Int)<=64)/\Br ((cH .and .i64 (m/2^i) (1:Int))=1) (0<=(i:Int)/\Em bF q.atoms i fun e37=>0<=(k:Int)/\Em intD e37.vars k fun e41=>(0<=e41/\e41<=64)/\bJ ((1:Int)*2^(Int.toNat e41))/\bJ ((k:Int)+1)/\ ∃(k' :Nat) (p' :Int),((k:Int)+1)=(k' :Int)/\(cH .or .i64 p ((1:Int)*2^(Int.toNat e41)))=p' /\(k' <=(q.atoms.getD i iP).vars.length/\p' =m4 (aFZ q m (q.atoms.getD i iP) i k'))/\(q.atoms.getD i iP).vars.length - k' <(q.atoms.getD i iP).vars.length - k) (bJ ((i:Int)+1)/\ ∃(i' :Nat) (o' :Int),((i:Int)+1)=(i' :Int)/\p=o' /\(i' <=q.atoms.length/\o' =m4 (vV q m i'))/\q.atoms.length - i' <q.atoms.length - i)) (bJ ((i:Int)+1)/\ ∃(i' :Nat) (o' :Int),((i:Int)+1)=(i' :Int)/\p=o' /\(i' <=q.atoms.length/\o' =m4 (vV q m i'))/\q.atoms.length - i' <q.atoms.length - i)) (o=(m4 (inM q m))/\True)) (by kernel_rfl) ?_;refine lx fun n0=>?_;have w:=(fZ hq).1;have w2:=(fZ hq).2;refine⟨⟨0,(0:Int),rfl,rfl,aBn _,rfl⟩,fun i o ⟨hi,ho⟩=>?_⟩;refine⟨aAq _,dd (fun c0=>?_) fun c0=>?_⟩
 ·obtain⟨a,ha⟩:=dB (l:=q.atoms) (k:=i) (by omega);have w3:=(aBj (w2.2 a (aCX ha))).2;have hga:q.atoms.getD i iP=a:=bM ha;have hgl:(q.atoms.getD i iP).vars.length=a.vars.length:=by rw[hga]
  refine⟨⟨0,o,rfl,rfl,aBn _,by rw[ho,aRo]⟩,fun k p ⟨hk,hp⟩=>?_⟩;rw[hga] at hp;refine⟨by omega,rfl,by omega,fun e19 h19=>?_⟩;obtain rfl:=(aX ha h19).symm;refine⟨aAq _,dd (fun g24=>?_) fun g24=>?_⟩
  ·refine⟨⟨by omega,by omega⟩,dd (fun c1=>?_) fun c1=>?_⟩
   ·refine⟨by omega,rfl,by omega,fun e37 h37=>?_⟩;obtain rfl:=(aX ha h37).symm;refine⟨by omega,rfl,by omega,fun e41 h41=>?_⟩;have w8:=w3.2 _ (aCX h41);obtain⟨w4,w5,w6⟩:=aDy (x:=e41) (qA (by omega) (by omega));refine⟨⟨by omega,by omega⟩,by exact w4,by exact⟨by omega,by omega⟩,?_⟩;exact⟨k+1,_,rfl,rfl,⟨by omega,by rw[hga,hp,aUa (by omega),aRp (aAn c1) h41 (by omega)]⟩,by omega⟩
   ·refine⟨by exact⟨by omega,by omega⟩,?_⟩;exact⟨i+1,_,rfl,rfl,⟨by omega,by (rw[hp,aK0 ha (.inl (aBi c1))];done)⟩,by omega⟩
  ·refine⟨by exact⟨by omega,by omega⟩,?_⟩;exact⟨i+1,_,rfl,rfl,⟨by omega,by (rw[hp,aK0 ha (.inr (by omega))];done)⟩,by omega⟩
 ·apply et1
  ·rw[ho,show i=q.atoms.length by omega];rfl
abbrev wC (m:Int):AV × List (Nat × Rs):=(.own 0,[(0,.arr 3 1 true ((gB (fE m) 4).map intD))])
abbrev aDH (m:Int):Prop:=Cn 142 [.one (.int .i64 m)] (wC m).1 (wC m).2
theorem aP1 (m:Int):aDH m:=by
 refine cq Tryz.func142 (.loop (Nat × (List Int)) (Q2 Nat (List Int)) (rg 3 16) [500,1700,1800] (fun yy0=>[(4,vI (yy0.1:Int)),(3,.own 500)]) (fun yy0=>[(500,some (.arr 3 1 true (yy0.2.map intD)))]) (fun yy0=>yy0.1<=4/\yy0.2=gB (fE m) yy0.1) (fun yy0=>4 - yy0.1) (fun yy0=> .br (.br (.app Int intD yy0.2 ([(yy0.1:Int)]:List Int)<| .back [(500,1800)]) (.back [(500,500)])) (.fin [(0,500)]))) (p:=(∃(i:Nat) (out:List Int),0=(i:Int)/\[]=out.map intD/\i<=4/\out=gB (fE m) i)/\ ∀(i:Nat) (out:List Int),(i<=4/\out=gB (fE m) i)->Br ((i:Int)<4) ((0<=(i:Int)/\(i:Int)<=64)/\Br ((cH .and .i64 (m/2^i) (1:Int))=1) (Ap intD out ([(i:Int)]:List Int) 8 (bJ ((i:Int)+1)/\ ∃(i' :Nat) (out' :List Int),((i:Int)+1)=(i' :Int)/\(out++[(i:Int)]).map intD=out'.map intD/\(i' <=4/\out' =gB (fE m) i')/\4 - i' <4 - i)) (bJ ((i:Int)+1)/\ ∃(i' :Nat) (out' :List Int),((i:Int)+1)=(i' :Int)/\out.map intD=out'.map intD/\(i' <=4/\out' =gB (fE m) i')/\4 - i' <4 - i)) (out.map intD=(gB (fE m) 4).map intD/\True)) (by kernel_rfl) ?_;refine⟨⟨0,([]:List Int),rfl,rfl,by omega,rfl⟩,fun i out ⟨hi,ho⟩=>?_⟩;refine dd (fun c0=>?_) fun c0=>?_
 ·refine⟨⟨by omega,by omega⟩,dd (fun c1=>?_) fun c1=>?_⟩
  ·refine ap ?_ (fun _=>rfl) (by (rw[ho];have:=zG (fE m) i;simp only[aSt,List.length_nil];omega));refine⟨⟨by omega,by omega⟩,?_⟩;exact⟨i+1,_,rfl,rfl,⟨by omega,by (rw[ho,uF (aAn c1)];done)⟩,by omega⟩
  ·refine⟨⟨by omega,by omega⟩,?_⟩;exact⟨i+1,_,rfl,rfl,⟨by omega,by (rw[ho,vU (aBi c1)];done)⟩,by omega⟩
 ·apply et1
  ·rw[ho,show i=4 by omega]
abbrev zU (q:QueryD)(m:Int):AV × List (Nat × Rs):=(.own 0,[(0,.arr 3 1 true ((eA q m).map intD))])
abbrev aEr (q:QueryD)(m:Int):Prop:=Cn 91 [.agg [.int .i64 q.variableCount,.sl 125 2 (q.atoms.map bF)],.one (.int .i64 m)] (zU q m).1 (zU q m).2
theorem aSO (q:QueryD)(m:Int):aEr q m:=by
 refine cq Tryz.func91 (.call (vB (jQ q m)) []<| .br (.fin [(0,900)]) (.call (vI (m4 (inM q m))) []<| bI (wC (m4 (inM q m)))<| .fin [(0,1300)])) (p:=Lx (q.atoms.map bF)<| aHc q m/\Nr (jQ q m) ([]=(eA q m).map intD/\True) (aDG q m/\aDH (m4 (inM q m))/\(gB (fE (m4 (inM q m))) 4).map intD=(eA q m).map intD/\True)) (by kernel_rfl) ?_;refine lx fun n0=>?_;refine⟨aUu _ m,dm (fun c0=>?_) fun c0=>?_⟩
 ·apply et1
  ·(rw[aN6 c0];rfl)
 ·refine⟨aP0 q m (by exact(vW (q:=q) (m:=m) (by assumption)).1),aP1 (m4 (inM q m)),?_,trivial⟩
  ·(rw[aKZ c0,aPS (vW c0).1])
abbrev aHd (a:dC)(m:Int):Prop:=Cn 196 [.agg [.str a.name,.sl 3 1 (a.vars.map intD)],.one (.int .i64 m)] (vI (vsS m a.vars (min a.vars.length 3))) []
theorem aUv (a:dC)(m:Int):aHd a m:=by
 refine cq Tryz.func196 (.loop (Nat × Int) (Q2 Nat Int) (rg 5 34) [] (fun yy0=>[(6,vI (yy0.1:Int)),(5,vI yy0.2)]) (fun yy0=>[]) (fun yy0=>(yy0.1<=a.vars.length/\yy0.1<=3)/\yy0.2=vsS m a.vars yy0.1) (fun yy0=>a.vars.length - yy0.1) (fun yy0=> .len a.vars.length<| .br (.lit<| .lit<| .br (.br (.elem _ intD a.vars (fun e27=> .call (vB (eB e27 (0:Int) (3:Int))) []<| .lit<| .br (.elem _ intD a.vars (fun e35=> .back [])) (.back []))) (.back [])) (.fin [])) (.fin []))) (p:=Lx (a.vars.map intD)<| (∃(k:Nat) (o:Int),0=(k:Int)/\0=o/\(k<=a.vars.length/\k<=3)/\o=vsS m a.vars k)/\ ∀(k:Nat) (o:Int),((k<=a.vars.length/\k<=3)/\o=vsS m a.vars k)->Lm intD a.vars/\Br ((k:Int)<(a.vars.length:Int)) (Br ((k:Int)<3) ((0<=(k:Int)/\(k:Int)<=64)/\Br ((cH .and .i64 (m/2^k) (1:Int))=1) (0<=(k:Int)/\Em intD a.vars k fun e27=>eV e27 (0:Int) (3:Int)/\Bb (eB e27 (0:Int) (3:Int)) (0<=(k:Int)/\Em intD a.vars k fun e35=>(0<=e35/\e35<=64)/\bJ ((1:Int)*2^(Int.toNat e35))/\bJ ((k:Int)+1)/\ ∃(k' :Nat) (o' :Int),((k:Int)+1)=(k' :Int)/\(cH .or .i64 o ((1:Int)*2^(Int.toNat e35)))=o' /\((k' <=a.vars.length/\k' <=3)/\o' =vsS m a.vars k')/\a.vars.length - k' <a.vars.length - k) (bJ ((k:Int)+1)/\ ∃(k' :Nat) (o' :Int),((k:Int)+1)=(k' :Int)/\o=o' /\((k' <=a.vars.length/\k' <=3)/\o' =vsS m a.vars k')/\a.vars.length - k' <a.vars.length - k)) (bJ ((k:Int)+1)/\ ∃(k' :Nat) (o' :Int),((k:Int)+1)=(k' :Int)/\o=o' /\((k' <=a.vars.length/\k' <=3)/\o' =vsS m a.vars k')/\a.vars.length - k' <a.vars.length - k)) (o=(vsS m a.vars (min a.vars.length 3))/\True)) (o=(vsS m a.vars (min a.vars.length 3))/\True)) (by kernel_rfl) ?_;refine lx fun n0=>?_;refine⟨⟨0,0,rfl,rfl,⟨aBn _,by omega⟩,rfl⟩,fun k o ⟨hk,hv⟩=>?_⟩;refine⟨aAq _,dd (fun g12=>?_) fun g12=>?_⟩
 ·refine dd (fun c0=>?_) fun c0=>?_
  ·refine⟨⟨by omega,by omega⟩,dd (fun g23=>?_) fun g23=>?_⟩
   ·refine⟨by omega,rfl,by omega,fun e27 h27=>?_⟩
    try (obtain rfl:=(aX h27 h27).symm)
    refine⟨iV _ _ _,db (fun c1=>?_) fun c1=>?_⟩
    ·obtain⟨w1,w2,w3⟩:=aDy c1;refine⟨by omega,rfl,by omega,fun e35 h35=>?_⟩
     try (obtain rfl:=(aX h27 h35).symm)
     refine⟨⟨by omega,by omega⟩,by exact w1,by exact⟨by omega,by omega⟩,?_⟩;exact⟨k+1,_,rfl,rfl,⟨by omega,by (rw[aXE h27 g23 c1,hv];done)⟩,by omega⟩
    ·refine⟨by exact⟨by omega,by omega⟩,?_⟩;exact⟨k+1,_,rfl,rfl,⟨by omega,by (rw[aUn h27 (by simp[g23,c1]),hv];done)⟩,by omega⟩
   ·refine⟨by exact⟨by omega,by omega⟩,?_⟩;exact⟨k+1,_,rfl,rfl,⟨by omega,by (obtain⟨y,hy⟩:=dB (l:=a.vars) (k:=k) (by omega);rw[aUn hy (by simp[g23]),hv])⟩,by omega⟩
  ·apply et1
   ·(rw[hv];congr 1;omega)
 ·apply et1
  ·(rw[hv];congr 1;omega)
abbrev zV (x:aM)(a:dC):AV × List (Nat × Rs):=(.own 0,[(0,.arr 192 3 true ((mM x a).map aE))])
abbrev aEs (x:aM)(a:dC):Prop:=Cn 155 [.agg [.str x.name,.int .i64 x.arity,.int .i64 x.rowCount,.sl 220 3 (x.groups.map aD)],.agg [.str a.name,.sl 3 1 (a.vars.map intD)]] (zV x a).1 (zV x a).2
theorem aSP (x:aM)(a:dC)(hc:bH x<=1048576)(ha:jW a<=1048576):aEs x a:=by
 refine cq Tryz.func155 (.call (vB (cG x)) []<| .br (.fin []) (.lit<| .lit<| .lit<| .br (.fin []) (.len a.vars.length<| .lit<| .lit<| .lit<| .lit<| .br (.fin []) (.loop (Nat × (List aI)) (Q2 Nat (List aI)) ([5,6,7,8,9]++rg 26 31) [2600,3600,4100,5500,5600] (fun yy0=>[(6,vI (yy0.1:Int)),(5,.own 2600)]) (fun yy0=>[(2600,some (.arr 192 3 true (yy0.2.map aE)))]) (fun yy0=>yy0.1<=((2:Int)^x.arity.toNat - 1).toNat/\yy0.2=(List.range yy0.1).map (tcC x a)) (fun yy0=>((2:Int)^x.arity.toNat - 1).toNat - yy0.1) (fun yy0=> .br (bI (sW (yy0.1:Int))<| bI (oM a.vars (eX (yy0.1:Int)))<| .call (vI (iH ((fL a.vars (eX (yy0.1:Int))).1))) []<| .call (vI (iH a.vars)) []<| .call (vI ((iS x (eX (yy0.1:Int))).getD 0 0)) []<| .call (vI (sH ((iS x (eX (yy0.1:Int))).getD 0 0))) []<| .app aI aE yy0.2 ([(⟨iH ((fL a.vars (eX (yy0.1:Int))).1),iH a.vars,sH ((iS x (eX (yy0.1:Int))).getD 0 0)⟩:aI)]:List aI)<| .back [(2600,5600)]) (.fin [(0,2600)])))))) (p:=Lx (x.groups.map aD)<| Lx (a.vars.map intD)<| aBd x/\Nr (cG x) ([]=(mM x a).map aE/\True) (Br (x.rowCount=0) ([]=(mM x a).map aE/\True) (Lm intD a.vars/\Nb ((a.vars.length:Int)=x.arity) ([]=(mM x a).map aE/\True) ((∃(m:Nat) (out:List aI),0=(m:Int)/\[]=out.map aE/\m<=((2:Int)^x.arity.toNat - 1).toNat/\out=(List.range m).map (tcC x a))/\ ∀(m:Nat) (out:List aI),(m<=((2:Int)^x.arity.toNat - 1).toNat/\out=(List.range m).map (tcC x a))->(0<=x.arity/\x.arity<=64)/\bJ ((1:Int)*2^(Int.toNat x.arity))/\bJ (((1:Int)*2^(Int.toNat x.arity)) - 1)/\Br ((m:Int)<(((1:Int)*2^(Int.toNat x.arity)) - 1)) (yY (m:Int)/\rQ a.vars (eX (m:Int))/\zK ((fL a.vars (eX (m:Int))).1)/\zK a.vars/\aEb x (eX (m:Int))/\aEd ((iS x (eX (m:Int))).getD 0 0)/\Ap aE out ([(⟨iH ((fL a.vars (eX (m:Int))).1),iH a.vars,sH ((iS x (eX (m:Int))).getD 0 0)⟩:aI)]:List aI) 24 (bJ ((m:Int)+1)/\ ∃(m' :Nat) (out' :List aI),((m:Int)+1)=(m' :Int)/\(out++[(⟨iH ((fL a.vars (eX (m:Int))).1),iH a.vars,sH ((iS x (eX (m:Int))).getD 0 0)⟩:aI)]).map aE=out'.map aE/\(m' <=((2:Int)^x.arity.toNat - 1).toNat/\out' =(List.range m').map (tcC x a))/\((2:Int)^x.arity.toNat - 1).toNat - m' <((2:Int)^x.arity.toNat - 1).toNat - m)) (out.map aE=(mM x a).map aE/\True))))) (by kernel_rfl) ?_;refine lx fun n0=>lx fun n1=>?_;have q3:jW a=a.name.size+cE a.vars:=rfl;have q4:cE a.vars=a.vars.length:=rfl;refine⟨aNT _ (by omega),dm (fun g13=>?_) fun g13=>?_⟩
 ·have hbad:sI x a=false:=by (simp[sI, *];done)
  apply et1
  ·(rw[vY hbad]<;>rfl)
 ·refine dd (fun g18=>?_) fun g18=>?_
  ·have hbad:sI x a=false:=by (simp[sI, *];done)
   apply et1
   ·(rw[vY hbad]<;>rfl)
  ·refine⟨aAq _,dn (fun c0=>?_) fun c0=>?_⟩
   ·have hbad:sI x a=false:=by (simp[sI, *];done)
    apply et1
    ·(rw[vY hbad]<;>rfl)
   ·have hok:sI x a=true:=by (simp[sI, *];done)
    obtain⟨hS,hA⟩:=aBo hok;have hn:=aAm hS;have hp:=qV hn;refine⟨⟨0,([]:List aI),rfl,rfl,aBn _,rfl⟩,fun m out ⟨hm,ho⟩=>?_⟩;refine⟨⟨by omega,by omega⟩,⟨by omega,by omega⟩,⟨by omega,by omega⟩,dd (fun c1=>?_) fun c1=>?_⟩
    ·have hbl:(eX (m:Int)).length<=3:=tY _ 3;have hE:=aNg (m:=(m:Int)) hn hA (by omega) (by omega);have hE2:=aK2 (m:=(m:Int)) hn hA (by omega) (by omega);refine⟨aKR (m:Int) (by omega),aCp _ _ (by omega),aK3 _,aK3 _,aRy _ (eX (m:Int)) (by omega) (by omega),aSA _,?_⟩;refine ap ?_ (fun _=>rfl) (by (simp[ho];omega));refine⟨⟨by omega,by omega⟩,?_⟩;exact⟨m+1,_,rfl,rfl,⟨by omega,by rw[ho,List.range_succ,aLt,aLL,List.map_nil,tcC];(rw[hE];done)⟩,by omega⟩
    ·apply et1
     ·(rw[aH3 hok,ho,show ((2:Int)^x.arity.toNat - 1).toNat=m by omega])
abbrev zW (x:aM)(a:dC):AV × List (Nat × Rs):=(.own 0,[(0,.arr 192 3 true ((mM x a).map aE))])
abbrev aEt (x:aM)(a:dC):Prop:=Cn 140 [.agg [.str x.name,.int .i64 x.arity,.int .i64 x.rowCount,.sl 220 3 (x.groups.map aD)],.agg [.str a.name,.sl 3 1 (a.vars.map intD)]] (zW x a).1 (zW x a).2
theorem aSQ (x:aM)(a:dC)(hc:bH x<=1048576)(ha:jW a<=1048576):aEt x a:=by
 refine cq Tryz.func140 (.call (vB (cG x)) []<| .br (.fin [(0,700)]) (.lit<| .lit<| .lit<| .br (.fin [(0,700)]) (.len a.vars.length<| .lit<| .lit<| .lit<| .lit<| .br (.fin [(0,700)]) (.loop (Nat × (List aI)) (Q2 Nat (List aI)) ([5,6,7]++rg 25 23) [700,4200,4600,4700] (fun yy0=>[(6,vI (yy0.1:Int)),(5,.own 700)]) (fun yy0=>[(700,some (.arr 192 3 true (yy0.2.map aE)))]) (fun yy0=>yy0.1<=((2:Int)^x.arity.toNat - 1).toNat/\yy0.2=(List.range yy0.1).map (tcC x a)) (fun yy0=>((2:Int)^x.arity.toNat - 1).toNat - yy0.1) (fun yy0=> .br (.call (vI (vsS (yy0.1:Int) a.vars (min a.vars.length 3))) []<| .call (vI (iH a.vars)) []<| bI (sX (yy0.1:Int))<| .call (vI ((iS x (eX (yy0.1:Int))).getD 0 0)) []<| .call (vI (sH ((iS x (eX (yy0.1:Int))).getD 0 0))) []<| .app aI aE yy0.2 ([(⟨vsS (yy0.1:Int) a.vars (min a.vars.length 3),iH a.vars,sH ((iS x (eX (yy0.1:Int))).getD 0 0)⟩:aI)]:List aI)<| .back [(700,4700)]) (.fin [(0,700)])))))) (p:=Lx (x.groups.map aD)<| Lx (a.vars.map intD)<| vX x/\Nr (cG x) ([]=(mM x a).map aE/\True) (Br (x.rowCount=0) ([]=(mM x a).map aE/\True) (Lm intD a.vars/\Nb ((a.vars.length:Int)=x.arity) ([]=(mM x a).map aE/\True) ((∃(m:Nat) (out:List aI),0=(m:Int)/\[]=out.map aE/\m<=((2:Int)^x.arity.toNat - 1).toNat/\out=(List.range m).map (tcC x a))/\ ∀(m:Nat) (out:List aI),(m<=((2:Int)^x.arity.toNat - 1).toNat/\out=(List.range m).map (tcC x a))->(0<=x.arity/\x.arity<=64)/\bJ ((1:Int)*2^(Int.toNat x.arity))/\bJ (((1:Int)*2^(Int.toNat x.arity)) - 1)/\Br ((m:Int)<(((1:Int)*2^(Int.toNat x.arity)) - 1)) (aHd a (m:Int)/\aEc a.vars/\yZ (m:Int)/\aEa x (eX (m:Int))/\aEe ((iS x (eX (m:Int))).getD 0 0)/\Ap aE out ([(⟨vsS (m:Int) a.vars (min a.vars.length 3),iH a.vars,sH ((iS x (eX (m:Int))).getD 0 0)⟩:aI)]:List aI) 24 (bJ ((m:Int)+1)/\ ∃(m' :Nat) (out' :List aI),((m:Int)+1)=(m' :Int)/\(out++[(⟨vsS (m:Int) a.vars (min a.vars.length 3),iH a.vars,sH ((iS x (eX (m:Int))).getD 0 0)⟩:aI)]).map aE=out'.map aE/\(m' <=((2:Int)^x.arity.toNat - 1).toNat/\out' =(List.range m').map (tcC x a))/\((2:Int)^x.arity.toNat - 1).toNat - m' <((2:Int)^x.arity.toNat - 1).toNat - m)) (out.map aE=(mM x a).map aE/\True))))) (by kernel_rfl) ?_;refine lx fun n0=>lx fun n1=>?_;have q3:jW a=a.name.size+cE a.vars:=rfl;have q4:cE a.vars=a.vars.length:=rfl;refine⟨aHW _ (by omega),dm (fun g11=>?_) fun g11=>?_⟩
 ·have hbad:sI x a=false:=by (simp[sI, *];done)
  apply et1
  ·(rw[vY hbad]<;>rfl)
 ·refine dd (fun g16=>?_) fun g16=>?_
  ·have hbad:sI x a=false:=by (simp[sI, *];done)
   apply et1
   ·(rw[vY hbad]<;>rfl)
  ·refine⟨aAq _,dn (fun c0=>?_) fun c0=>?_⟩
   ·have hbad:sI x a=false:=by (simp[sI, *];done)
    apply et1
    ·(rw[vY hbad]<;>rfl)
   ·have hok:sI x a=true:=by (simp[sI, *];done)
    obtain⟨hS,hA⟩:=aBo hok;have hn:=aAm hS;have hp:=qV hn;refine⟨⟨0,([]:List aI),rfl,rfl,aBn _,rfl⟩,fun m out ⟨hm,ho⟩=>?_⟩;refine⟨⟨by omega,by omega⟩,⟨by omega,by omega⟩,⟨by omega,by omega⟩,dd (fun c1=>?_) fun c1=>?_⟩
    ·have hbl:(eX (m:Int)).length<=3:=tY _ 3;have hE:=aNg (m:=(m:Int)) hn hA (by omega) (by omega);have hE2:=aK2 (m:=(m:Int)) hn hA (by omega) (by omega);refine⟨aUv _ _,aRz _,aKS (m:Int) (by omega),aRx _ (eX (m:Int)) (by omega) (by omega),aSB _,?_⟩;refine ap ?_ (fun _=>rfl) (by (simp[ho];omega));refine⟨⟨by omega,by omega⟩,?_⟩;exact⟨m+1,_,rfl,rfl,⟨by omega,by rw[ho,List.range_succ,aLt,aLL,List.map_nil,tcC];(rw[hE2];done)⟩,by omega⟩
    ·apply et1
     ·(rw[aH3 hok,ho,show ((2:Int)^x.arity.toNat - 1).toNat=m by omega])
theorem aDI {s:StoreD}{q:QueryD}{m:Int}(h:rX s q m=true):dM m=gB (fE m) q.atoms.length:=by
 obtain⟨_,_,_,h1,h2,_,_,h3⟩:=qY h;exact aUg ⟨by omega,h2⟩ h3.2
theorem aEB (m:Int):(dM m).length<=4:=by
 cases h:eB m 0 15 with
 | false=>rw[aN7 h];exact aBn _
 | true=>rw[aDw h];exact zG _ _
theorem aNm {s:StoreD}{q:QueryD}{m x:Int}(h:rX s q m=true)(hx:x∈dM m):0<=x/\x.toNat<q.atoms.length/\fE m x.toNat=true:=by
 rw[aDI h] at hx;exact aHQ.1 hx
def qcA (s:StoreD)(q:QueryD)(x:Int):List aI:=mM (eO s q x.toNat) (q.atoms.getD x.toNat iP)
def qcL (s:StoreD)(q:QueryD)(l:List Int):List aI:=l.flatMap (qcA s q)
def aDJ (s:StoreD)(q:QueryD)(l:List Int):Bool:=l.all fun x=> !decide ((qcA s q x).length=0)
def dU (s:StoreD)(q:QueryD)(m:Int):List aI:=if (rX s q m&&aDJ s q (dM m))=true then qcL s q (dM m) else []
theorem aK7 {s:StoreD}{q:QueryD}{m:Int}(h:rX s q m=true)(h2:aDJ s q (dM m)=true):dU s q m=qcL s q (dM m):=by rw[dU,if_pos (by rw[h,h2];rfl)]
theorem aDK {s:StoreD}{q:QueryD}{m:Int}(h:rX s q m=false):dU s q m= []:=by rw[dU,if_neg (by rw[h];simp)]
theorem aK8 {s:StoreD}{q:QueryD}{m x:Int}(hx:x∈dM m)(h:(qcA s q x).length=0):dU s q m= []:=by
 rw[dU,if_neg];intro h2;rw[aBH] at h2;have:=aIt.1 h2.2 x hx;simp[h] at this
theorem aNn (s:StoreD)(q:QueryD)(l:List Int)(x:Int):qcL s q (l++[x])=qcL s q l++qcA s q x:=by
 rw[qcL,List.flatMap_append];simp[qcL]
theorem aK9 {s:StoreD}{q:QueryD}{l:List Int}{x:Int}(h:aDJ s q l=true)(hx: ¬((qcA s q x).length:Int)=0):aDJ s q (l++[x])=true:=by
 rw[aDJ,List.all_append,aBH];refine⟨h,?_⟩;simp only[List.all_cons,List.all_nil,Bool.and_true,Bool.not_eq_true',decide_eq_false_iff_not];omega
theorem aFh (s:StoreD)(q:QueryD): ∀l:List Int,(qcL s q l).length<=7*l.length
 | []=>aBn _
 | x::l=>by
   have h1:=aH4 (eO s q x.toNat) (q.atoms.getD x.toNat iP);have h2:=aFh s q l;have h3:qcL s q (x::l)=qcA s q x++qcL s q l:=by simp[qcL]
   rw[h3,aSu,aSt];unfold qcA;omega
theorem aKa (s:StoreD)(q:QueryD)(m:Int):(dU s q m).length<=28:=by
 unfold dU;split
 ·have h1:=aFh s q (dM m);have h2:=aEB m;omega
 exact aBn _
end Go.Proofs.YtlidmoeecphbmaaGreat
