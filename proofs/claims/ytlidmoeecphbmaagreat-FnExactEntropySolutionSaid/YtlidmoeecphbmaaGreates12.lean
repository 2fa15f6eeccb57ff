/-
  Contracts and plain laws, joined: part 13.
-/
import Derived.Test.YtlidmoeecphbmaaGreates9
import Derived.Test.YtlidmoeecphbmaaGreates11
import Derived.Test.YtlidmoeecphbmaaGreates10
import Derived.Test.YtlidmoeecphbmaaGreates8
namespace Go.Proofs.YtlidmoeecphbmaaGreat
open Go.ChangeShapes Go.WideShapes Go.ChangeAt Go.RowKit
set_option linter.unusedVariables false
set_option linter.unusedSimpArgs false
set_option maxRecDepth 100000
set_option maxHeartbeats 4000000
def uT (n:ByteArray)(x:aD):Bool:=(x.name.toList==n.toList)&&cS x
def dH (c:cA)(n:ByteArray):aD × Bool:=match c.tables.find? (uT n) with | some x=>(x,true) | none=>(dV,false)
theorem aFU {c:cA}{n:ByteArray}{x:aD}(h:c.tables.find? (uT n)=some x):dH c n=(x,true):=by rw[dH,h]
theorem aIx {c:cA}{n:ByteArray}(h:c.tables.find? (uT n)=none):dH c n=(dV,false):=by rw[dH,h]
theorem aPN (c:cA)(n:ByteArray):bD (dH c n).1<=bS c:=by
 have hS:bS c=dM c.tables:=rfl;cases h:c.tables.find? (uT n) with
 | none=>rw[aIx h];exact aDB _
 | some x=>
   rw[aFU h,hS];obtain⟨i,hi⟩:=List.getElem?_of_mem (List.mem_of_find?_eq_some h);exact lX hi
abbrev aGJ (c:cA)(n:ByteArray):AV × List (Nat × Rs):=(.tup [.agg [.p none (.str ((dH c n).1.name)),vI ((dH c n).1.arity),vI ((dH c n).1.rowCount),.own 0],vB ((dH c n).2)],[(0,.arr 220 3 true ((dH c n).1.groups.map aC))])
abbrev aPO (c:cA)(n:ByteArray):Prop:=Cn 154 [.agg [.int .i64 c.version,.sl 88 4 (c.tables.map aF)],.one (.str n)] (aGJ c n).1 (aGJ c n).2
theorem aTg (c:cA)(n:ByteArray)(hc:bS c<=1048576):aPO c n:=by
 refine cq Tryz.func154 (.len c.tables.length<| .loop Nat (Q1 Nat) ([7]++rg 11 12++[25]) [700] (fun k=>[(11,vI (k:Int))]) (fun k=>[]) (fun k=>k<=c.tables.length/\(c.tables.take k).all (fun y=> !uT n y)=true) (fun k=>c.tables.length - k) (fun k=> .br (.elem _ aF c.tables (fun e13=> .br (.call (vB (cS e13)) []<| .lit<| .br (bJ (aCr e13)<| .fin [(0,2400)]) (.back [])) (.back []))) (.fin []))) (p:=Lx (c.tables.map aF)<| Lm aF c.tables/\((∃(k:Nat),0=(k:Int)/\k<=c.tables.length/\(c.tables.take k).all (fun y=> !uT n y)=true)/\ ∀(k:Nat),(k<=c.tables.length/\(c.tables.take k).all (fun y=> !uT n y)=true)->Br ((k:Int)<(c.tables.length:Int)) (0<=(k:Int)/\Em aF c.tables k fun e13=>Bb (e13.name.toList==n.toList) (aCs e13/\Bb (cS e13) (aIV e13/\e13.name=((dH c n).1.name)/\e13.arity=((dH c n).1.arity)/\e13.rowCount=((dH c n).1.rowCount)/\(true)=((dH c n).2)/\e13.groups.map aC=(dH c n).1.groups.map aC/\True) (bK ((k:Int)+1)/\ ∃(k' :Nat),((k:Int)+1)=(k' :Int)/\(k' <=c.tables.length/\(c.tables.take k').all (fun y=> !uT n y)=true)/\c.tables.length - k' <c.tables.length - k)) (bK ((k:Int)+1)/\ ∃(k' :Nat),((k:Int)+1)=(k' :Int)/\(k' <=c.tables.length/\(c.tables.take k').all (fun y=> !uT n y)=true)/\c.tables.length - k' <c.tables.length - k)) (ByteArray.empty=((dH c n).1.name)/\0=((dH c n).1.arity)/\0=((dH c n).1.rowCount)/\(false)=((dH c n).2)/\[]=(dH c n).1.groups.map aC/\True))) (by kernel_rfl) ?_;refine lx fun n0=>?_;have hS:bS c=dM c.tables:=rfl;refine⟨aAH _,⟨0,rfl,aDB _,rfl⟩,fun k ⟨hk,ha⟩=>?_⟩;refine dd (fun c0=>?_) fun c0=>?_
 ·refine⟨by omega,rfl,by omega,fun e13 h13=>?_⟩
  try (obtain rfl:=(aY h13 h13).symm)
  have q1:=lX h13;refine db (fun g19=>?_) fun g19=>?_
  ·refine⟨aOp _ (by omega),db (fun c1=>?_) fun c1=>?_⟩
   ·have hf:=aNO (p:=uT n) h13 ha (by simp[uT,g19,c1]);refine⟨aVq _ (by omega),?_,?_,?_,?_,?_,trivial⟩<;>((rw[aFU hf]<;>rfl))
   ·refine⟨⟨by omega,by omega⟩,?_⟩;exact⟨k+1,rfl,⟨by omega,cO h13 ha (by (simp[uT,g19,c1];done))⟩,by omega⟩
  ·refine⟨⟨by omega,by omega⟩,?_⟩;exact⟨k+1,rfl,⟨by omega,cO h13 ha (by (simp[uT,g19];done))⟩,by omega⟩
 ·have hall:=aNP (dJ (by omega) ha);apply et5<;>((rw[aIx hall]<;>rfl))
abbrev aGK (c:cA)(n:ByteArray):AV × List (Nat × Rs):=(.tup [.agg [.p none (.str ((dH c n).1.name)),vI ((dH c n).1.arity),vI ((dH c n).1.rowCount),.own 0],vB ((dH c n).2)],[(0,.arr 220 3 true ((dH c n).1.groups.map aC))])
abbrev aPP (c:cA)(n:ByteArray):Prop:=Cn 76 [.agg [.int .i64 c.version,.sl 88 4 (c.tables.map aF)],.one (.str n)] (aGK c n).1 (aGK c n).2
theorem aTh (c:cA)(n:ByteArray)(hc:bS c<=1048576):aPP c n:=by
 refine cq Tryz.func76 (.loop Nat (Q1 Nat) (rg 6 24) [] (fun k=>[(6,vI (k:Int))]) (fun k=>[]) (fun k=>k<=c.tables.length/\(c.tables.take k).all (fun y=> !uT n y)=true) (fun k=>c.tables.length - k) (fun k=> .len c.tables.length<| .br (.elem _ aF c.tables (fun e17=> .br (.elem _ aF c.tables (fun e26=> .call (vB (cS e26)) []<| .lit<| .br (.elem _ aF c.tables (fun e33=>bJ (aDD e33)<| .fin [(0,3500)])) (.back []))) (.back []))) (.fin []))) (p:=Lx (c.tables.map aF)<| (∃(k:Nat),0=(k:Int)/\k<=c.tables.length/\(c.tables.take k).all (fun y=> !uT n y)=true)/\ ∀(k:Nat),(k<=c.tables.length/\(c.tables.take k).all (fun y=> !uT n y)=true)->Lm aF c.tables/\Br ((k:Int)<(c.tables.length:Int)) (0<=(k:Int)/\Em aF c.tables k fun e17=>Bb (e17.name.toList==n.toList) (0<=(k:Int)/\Em aF c.tables k fun e26=>yO e26/\Bb (cS e26) (0<=(k:Int)/\Em aF c.tables k fun e33=>aIw e33/\e33.name=((dH c n).1.name)/\e33.arity=((dH c n).1.arity)/\e33.rowCount=((dH c n).1.rowCount)/\(true)=((dH c n).2)/\e33.groups.map aC=(dH c n).1.groups.map aC/\True) (bK ((k:Int)+1)/\ ∃(k' :Nat),((k:Int)+1)=(k' :Int)/\(k' <=c.tables.length/\(c.tables.take k').all (fun y=> !uT n y)=true)/\c.tables.length - k' <c.tables.length - k)) (bK ((k:Int)+1)/\ ∃(k' :Nat),((k:Int)+1)=(k' :Int)/\(k' <=c.tables.length/\(c.tables.take k').all (fun y=> !uT n y)=true)/\c.tables.length - k' <c.tables.length - k)) (ByteArray.empty=((dH c n).1.name)/\0=((dH c n).1.arity)/\0=((dH c n).1.rowCount)/\(false)=((dH c n).2)/\[]=(dH c n).1.groups.map aC/\True)) (by kernel_rfl) ?_;refine lx fun n0=>?_;have hS:bS c=dM c.tables:=rfl;refine⟨⟨0,rfl,aDB _,rfl⟩,fun k ⟨hk,ha⟩=>?_⟩;refine⟨aAH _,dd (fun c0=>?_) fun c0=>?_⟩
 ·refine⟨by omega,rfl,by omega,fun e17 h17=>?_⟩
  try (obtain rfl:=(aY h17 h17).symm)
  have q1:=lX h17;refine db (fun g22=>?_) fun g22=>?_
  ·refine⟨by omega,rfl,by omega,fun e26 h26=>?_⟩
   try (obtain rfl:=(aY h17 h26).symm)
   refine⟨aIl _ (by omega),db (fun c1=>?_) fun c1=>?_⟩
   ·have hf:=aNO (p:=uT n) h17 ha (by simp[uT,g22,c1]);refine⟨by omega,rfl,by omega,fun e33 h33=>?_⟩
    try (obtain rfl:=(aY h17 h33).symm)
    refine⟨aWV _ (by omega),?_,?_,?_,?_,?_,trivial⟩<;>((rw[aFU hf]<;>rfl))
   ·refine⟨⟨by omega,by omega⟩,?_⟩;exact⟨k+1,rfl,⟨by omega,cO h17 ha (by (simp[uT,g22,c1];done))⟩,by omega⟩
  ·refine⟨⟨by omega,by omega⟩,?_⟩;exact⟨k+1,rfl,⟨by omega,cO h17 ha (by (simp[uT,g22];done))⟩,by omega⟩
 ·have hall:=aNP (dJ (by omega) ha);apply et5<;>((rw[aIx hall]<;>rfl))
def iE (d:aX)(q:QueryD):Bool:=cT q&&q.atoms.all fun a=>(aO d a.name).2&&decide ((aO d a.name).1.arity=(a.vars.length:Nat))
def qOk (s:StoreD)(q:QueryD)(m:Int):Bool:=iL s&&(iE s.database q&&eQ m 1 (pI q))
def iF (s:StoreD)(q:QueryD)(i:Nat):aD:=(dH s.catalogue (q.atoms.getD i jK).name).1
theorem aTi {d:aX}{q:QueryD}(h:iE d q=true):cT q=true/\ ∀a∈q.atoms,(aO d a.name).2=true/\(aO d a.name).1.arity=(a.vars.length:Nat):=by
 simp only[iE,aCA] at h;exact⟨h.1,fun a ha=>by simpa using aI4.1 h.2 a ha⟩
theorem aFV {s:StoreD}{q:QueryD}{m:Int}(h:qOk s q m=true):iL s=true/\iE s.database q=true/\cT q=true/\1<=m/\m<=1*2^q.atoms.length - 1/\m<=15/\kS q m=true/\(1<=q.atoms.length/\q.atoms.length<=4):=by
 simp only[qOk,aCA] at h;have h1:=eN h.2.2;have h2:=(aTi h.2.1).1;have h3:=gR h2;have h4:=oE h3.2.1;rw[aFS h2] at h1;exact⟨h.1,h.2.1,h2,h1.1,h1.2,by omega,by rw[kS,h2,sE (by omega) h1.2];rfl,h3.2.1⟩
abbrev aIy (d:aX)(q:QueryD):Prop:=Cn 82 [.agg [.sl 142 3 (d.tables.map aS)],.agg [.int .i64 q.variableCount,.sl 125 2 (q.atoms.map bB)]] (vB (iE d q)) []
theorem aWW (d:aX)(q:QueryD)(hc:bM d<=1048576):aIy d q:=by
 refine cq Tryz.func82 (.call (vB (cT q)) []<| .br (.fin []) (.len q.atoms.length<| .loop Nat (Q1 Nat) ([6,7,8]++rg 15 22) [600,700] (fun k=>[(15,vI (k:Int))]) (fun k=>[]) (fun k=>k<=q.atoms.length/\(q.atoms.take k).all (fun a=>(aO d a.name).2&&decide ((aO d a.name).1.arity=(a.vars.length:Nat)))=true) (fun k=>q.atoms.length - k) (fun k=> .br (.elem _ bB q.atoms (fun e17=> .call (.tup [.agg [.p none (.str ((aO d e17.name).1.name)),vI ((aO d e17.name).1.arity),.p none (.sl 91 1 ((aO d e17.name).1.rows.map aE))],vB ((aO d e17.name).2)]) []<| .br (.fin []) (.len e17.vars.length<| .lit<| .lit<| .br (.fin []) (.back [])))) (.fin [])))) (p:=Lx (d.tables.map aS)<| Lx (q.atoms.map bB)<| yQ q/\Nr (cT q) ((false)=(iE d q)/\True) (Lm bB q.atoms/\((∃(k:Nat),0=(k:Int)/\k<=q.atoms.length/\(q.atoms.take k).all (fun a=>(aO d a.name).2&&decide ((aO d a.name).1.arity=(a.vars.length:Nat)))=true)/\ ∀(k:Nat),(k<=q.atoms.length/\(q.atoms.take k).all (fun a=>(aO d a.name).2&&decide ((aO d a.name).1.arity=(a.vars.length:Nat)))=true)->Br ((k:Int)<(q.atoms.length:Int)) (0<=(k:Int)/\Em bB q.atoms k fun e17=>rM Tryz.prog 86 [.agg [.sl 142 3 (d.tables.map aS)],.one (.str e17.name)] (.tup [.agg [.p none (.str ((aO d e17.name).1.name)),vI ((aO d e17.name).1.arity),.p none (.sl 91 1 ((aO d e17.name).1.rows.map aE))],vB ((aO d e17.name).2)]) []/\Nr ((aO d e17.name).2) ((false)=(iE d q)/\True) (Lm intD e17.vars/\Nb (((aO d e17.name).1.arity)=(e17.vars.length:Int)) ((false)=(iE d q)/\True) (bK ((k:Int)+1)/\ ∃(k' :Nat),((k:Int)+1)=(k' :Int)/\(k' <=q.atoms.length/\(q.atoms.take k').all (fun a=>(aO d a.name).2&&decide ((aO d a.name).1.arity=(a.vars.length:Nat)))=true)/\q.atoms.length - k' <q.atoms.length - k))) ((true)=(iE d q)/\True)))) (by kernel_rfl) ?_;refine lx fun n0=>lx fun n1=>?_;refine⟨aIu q,dm (fun c0=>?_) fun c0=>?_⟩
 ·apply et1
  ·(rw[iE,c0];rfl)
 ·refine⟨aAH _,⟨0,rfl,aDB _,rfl⟩,fun k ⟨hk,ha⟩=>?_⟩;refine dd (fun c1=>?_) fun c1=>?_
  ·refine⟨by omega,rfl,by omega,fun e17 h17=>?_⟩
   try (obtain rfl:=(aY h17 h17).symm)
   refine⟨kX (tZ _ e17.name (by omega)) rfl,dm (fun g28=>?_) fun g28=>?_⟩
   ·have hA:((aO d e17.name).2&&decide ((aO d e17.name).1.arity=(e17.vars.length:Nat)))=false:=by (rw[g28];rfl)
    apply et1
    ·(rw[iE,eX h17 hA,Bool.and_false];done)
   ·refine⟨aAH _,dn (fun c2=>?_) fun c2=>?_⟩
    ·have hA:((aO d e17.name).2&&decide ((aO d e17.name).1.arity=(e17.vars.length:Nat)))=false:=by (rw[g28];simp[c2];done)
     apply et1
     ·(rw[iE,eX h17 hA,Bool.and_false];done)
    ·have hA:((aO d e17.name).2&&decide ((aO d e17.name).1.arity=(e17.vars.length:Nat)))=true:=by rw[g28];simp[c2]
     refine⟨⟨by omega,by omega⟩,?_⟩;exact⟨k+1,rfl,⟨by omega,cO h17 ha hA⟩,by omega⟩
  ·apply et1
   ·(rw[iE,c0,dJ (by omega) ha];rfl)
abbrev aGM (q:QueryD):Prop:=Cn 84 [.agg [.int .i64 q.variableCount,.sl 125 2 (q.atoms.map bB)]] (vI (pI q)) []
theorem aTj (q:QueryD):aGM q:=by
 refine cq Tryz.func84 (.call (vB (cT q)) []<| .br (.fin []) (.len q.atoms.length<| .fin [])) (p:=Lx (q.atoms.map bB)<| yQ q/\Nr (cT q) (0=(pI q)/\True) (Lm bB q.atoms/\(0<=(q.atoms.length:Int)/\(q.atoms.length:Int)<=64)/\bK ((1:Int)*2^q.atoms.length)/\bK (((1:Int)*2^q.atoms.length) - 1)/\(((1:Int)*2^q.atoms.length) - 1)=(pI q)/\True)) (by kernel_rfl) ?_;refine lx fun n0=>?_;refine⟨aIu q,dm (fun c0=>?_) fun c0=>?_⟩
 ·apply et1
  ·(rw[aPE c0];done)
 ·have w:=oE (gR c0).2.1;have w2:=(gR c0).2.1;refine⟨aAH _,⟨by omega,by omega⟩,⟨by omega,by omega⟩,⟨by omega,by omega⟩,?_,trivial⟩
  ·(rw[aFS c0];done)
abbrev aIz (d:aX)(q:QueryD):Prop:=Cn 73 [.agg [.sl 142 3 (d.tables.map aS)],.agg [.int .i64 q.variableCount,.sl 125 2 (q.atoms.map bB)]] (vB (iE d q)) []
theorem aWX (d:aX)(q:QueryD)(hc:bM d<=1048576):aIz d q:=by
 refine cq Tryz.func73 (.call (vB (cT q)) []<| .br (.fin []) (.loop Nat (Q1 Nat) ([5,6,7]++rg 11 32) [600] (fun k=>[(5,vI (k:Int))]) (fun k=>[]) (fun k=>k<=q.atoms.length/\(q.atoms.take k).all (fun a=>(aO d a.name).2&&decide ((aO d a.name).1.arity=(a.vars.length:Nat)))=true) (fun k=>q.atoms.length - k) (fun k=> .len q.atoms.length<| .br (.elem _ bB q.atoms (fun e23=> .call (.tup [.agg [.p none (.str ((aO d e23.name).1.name)),vI ((aO d e23.name).1.arity),.p none (.sl 91 1 ((aO d e23.name).1.rows.map aE))],vB ((aO d e23.name).2)]) []<| .br (.fin []) (.elem _ bB q.atoms (fun e37=> .len e37.vars.length<| .lit<| .lit<| .br (.fin []) (.back []))))) (.fin [])))) (p:=Lx (d.tables.map aS)<| Lx (q.atoms.map bB)<| yR q/\Nr (cT q) ((false)=(iE d q)/\True) ((∃(k:Nat),0=(k:Int)/\k<=q.atoms.length/\(q.atoms.take k).all (fun a=>(aO d a.name).2&&decide ((aO d a.name).1.arity=(a.vars.length:Nat)))=true)/\ ∀(k:Nat),(k<=q.atoms.length/\(q.atoms.take k).all (fun a=>(aO d a.name).2&&decide ((aO d a.name).1.arity=(a.vars.length:Nat)))=true)->Lm bB q.atoms/\Br ((k:Int)<(q.atoms.length:Int)) (0<=(k:Int)/\Em bB q.atoms k fun e23=>rM Tryz.prog 126 [.agg [.sl 142 3 (d.tables.map aS)],.one (.str e23.name)] (.tup [.agg [.p none (.str ((aO d e23.name).1.name)),vI ((aO d e23.name).1.arity),.p none (.sl 91 1 ((aO d e23.name).1.rows.map aE))],vB ((aO d e23.name).2)]) []/\Nr ((aO d e23.name).2) ((false)=(iE d q)/\True) (0<=(k:Int)/\Em bB q.atoms k fun e37=>Lm intD e37.vars/\Nb (((aO d e23.name).1.arity)=(e37.vars.length:Int)) ((false)=(iE d q)/\True) (bK ((k:Int)+1)/\ ∃(k' :Nat),((k:Int)+1)=(k' :Int)/\(k' <=q.atoms.length/\(q.atoms.take k').all (fun a=>(aO d a.name).2&&decide ((aO d a.name).1.arity=(a.vars.length:Nat)))=true)/\q.atoms.length - k' <q.atoms.length - k))) ((true)=(iE d q)/\True))) (by kernel_rfl) ?_;refine lx fun n0=>lx fun n1=>?_;refine⟨aIv q,dm (fun c0=>?_) fun c0=>?_⟩
 ·apply et1
  ·(rw[iE,c0];rfl)
 ·refine⟨⟨0,rfl,aDB _,rfl⟩,fun k ⟨hk,ha⟩=>?_⟩;refine⟨aAH _,dd (fun c1=>?_) fun c1=>?_⟩
  ·refine⟨by omega,rfl,by omega,fun e23 h23=>?_⟩
   try (obtain rfl:=(aY h23 h23).symm)
   refine⟨kX (uA _ e23.name (by omega)) rfl,dm (fun g31=>?_) fun g31=>?_⟩
   ·have hA:((aO d e23.name).2&&decide ((aO d e23.name).1.arity=(e23.vars.length:Nat)))=false:=by (rw[g31];rfl)
    apply et1
    ·(rw[iE,eX h23 hA,Bool.and_false];done)
   ·refine⟨by omega,rfl,by omega,fun e37 h37=>?_⟩
    try (obtain rfl:=(aY h23 h37).symm)
    refine⟨aAH _,dn (fun c2=>?_) fun c2=>?_⟩
    ·have hA:((aO d e23.name).2&&decide ((aO d e23.name).1.arity=(e23.vars.length:Nat)))=false:=by (rw[g31];simp[c2];done)
     apply et1
     ·(rw[iE,eX h23 hA,Bool.and_false];done)
    ·have hA:((aO d e23.name).2&&decide ((aO d e23.name).1.arity=(e23.vars.length:Nat)))=true:=by rw[g31];simp[c2]
     refine⟨⟨by omega,by omega⟩,?_⟩;exact⟨k+1,rfl,⟨by omega,cO h23 ha hA⟩,by omega⟩
  ·apply et1
   ·(rw[iE,c0,dJ (by omega) ha];rfl)
abbrev aGN (q:QueryD):Prop:=Cn 75 [.agg [.int .i64 q.variableCount,.sl 125 2 (q.atoms.map bB)]] (vI (pI q)) []
theorem aTk (q:QueryD):aGN q:=by
 refine cq Tryz.func75 (.call (vB (cT q)) []<| .br (.fin []) (.len q.atoms.length<| .fin [])) (p:=Lx (q.atoms.map bB)<| yR q/\Nr (cT q) (0=(pI q)/\True) (Lm bB q.atoms/\(0<=(q.atoms.length:Int)/\(q.atoms.length:Int)<=64)/\bK ((1:Int)*2^q.atoms.length)/\bK (((1:Int)*2^q.atoms.length) - 1)/\(((1:Int)*2^q.atoms.length) - 1)=(pI q)/\True)) (by kernel_rfl) ?_;refine lx fun n0=>?_;refine⟨aIv q,dm (fun c0=>?_) fun c0=>?_⟩
 ·apply et1
  ·(rw[aPE c0];done)
 ·have w:=oE (gR c0).2.1;have w2:=(gR c0).2.1;refine⟨aAH _,⟨by omega,by omega⟩,⟨by omega,by omega⟩,⟨by omega,by omega⟩,?_,trivial⟩
  ·(rw[aFS c0];done)
abbrev aDE (m:Int):AV × List (Nat × Rs):=(.own 0,[(0,.arr 3 1 true ((fU m).map intD))])
abbrev aJA (m:Int):Prop:=Cn 85 [.one (.int .i64 m)] (aDE m).1 (aDE m).2
theorem aWY (m:Int):aJA m:=by
 refine cq Tryz.func85 (.call (vB (eQ m (0:Int) (15:Int))) []<| .br (.fin []) (.loop (Nat × (List Int)) (Q2 Nat (List Int)) ([3,4]++rg 8 14) [800,2000,2100] (fun yy0=>[(4,vI (yy0.1:Int)),(3,.own 800)]) (fun yy0=>[(800,some (.arr 3 1 true (yy0.2.map intD)))]) (fun yy0=>yy0.1<=4/\yy0.2=iD (gG m) yy0.1) (fun yy0=>4 - yy0.1) (fun yy0=> .br (.br (.app Int intD yy0.2 ([(yy0.1:Int)]:List Int)<| .back [(800,2100)]) (.back [(800,800)])) (.fin [(0,800)])))) (p:=fH m (0:Int) (15:Int)/\Nr (eQ m (0:Int) (15:Int)) ([]=(fU m).map intD/\True) ((∃(i:Nat) (out:List Int),0=(i:Int)/\[]=out.map intD/\i<=4/\out=iD (gG m) i)/\ ∀(i:Nat) (out:List Int),(i<=4/\out=iD (gG m) i)->Br ((i:Int)<4) ((0<=(i:Int)/\(i:Int)<=64)/\Br ((cL .and .i64 (m/2^i) (1:Int))=1) (Ap intD out ([(i:Int)]:List Int) 8 (bK ((i:Int)+1)/\ ∃(i' :Nat) (out' :List Int),((i:Int)+1)=(i' :Int)/\(out++[(i:Int)]).map intD=out'.map intD/\(i' <=4/\out' =iD (gG m) i')/\4 - i' <4 - i)) (bK ((i:Int)+1)/\ ∃(i' :Nat) (out' :List Int),((i:Int)+1)=(i' :Int)/\out.map intD=out'.map intD/\(i' <=4/\out' =iD (gG m) i')/\4 - i' <4 - i)) (out.map intD=(fU m).map intD/\True))) (by kernel_rfl) ?_;refine⟨jT _ _ _,dm (fun c0=>?_) fun c0=>?_⟩
 ·apply et1
  ·(rw[aPD c0];rfl)
 ·refine⟨⟨0,([]:List Int),rfl,rfl,by omega,rfl⟩,fun i out ⟨hi,ho⟩=>?_⟩;refine dd (fun c1=>?_) fun c1=>?_
  ·refine⟨⟨by omega,by omega⟩,dd (fun c2=>?_) fun c2=>?_⟩
   ·refine ap ?_ (fun _=>rfl) (by (rw[ho];have:=aAt (gG m) i;simp only[aQP,List.length_nil];omega));refine⟨⟨by omega,by omega⟩,?_⟩;exact⟨i+1,_,rfl,rfl,⟨by omega,by (rw[ho,aAs (aHE c2)];done)⟩,by omega⟩
   ·refine⟨⟨by omega,by omega⟩,?_⟩;exact⟨i+1,_,rfl,rfl,⟨by omega,by (rw[ho,aBy (aFQ c2)];done)⟩,by omega⟩
  ·apply et1
   ·(rw[aFR c0,ho,show i=4 by omega])
abbrev aJB (q:QueryD)(m:Int):Prop:=Cn 156 [.agg [.int .i64 q.variableCount,.sl 125 2 (q.atoms.map bB)],.one (.int .i64 m)] (vB (kS q m)) []
theorem aWZ (q:QueryD)(m:Int):aJB q m:=by
 refine cq Tryz.func156 (.call (vB (cT q)) []<| .br (.len q.atoms.length<| .call (vB (eQ m (0:Int) (((1:Int)*2^q.atoms.length) - 1))) []<| .fin []) (.fin [])) (p:=Lx (q.atoms.map bB)<| yQ q/\Bb (cT q) (Lm bB q.atoms/\(0<=(q.atoms.length:Int)/\(q.atoms.length:Int)<=64)/\bK ((1:Int)*2^q.atoms.length)/\bK (((1:Int)*2^q.atoms.length) - 1)/\fH m (0:Int) (((1:Int)*2^q.atoms.length) - 1)/\(eQ m (0:Int) (((1:Int)*2^q.atoms.length) - 1))=(kS q m)/\True) ((false)=(kS q m)/\True)) (by kernel_rfl) ?_;refine lx fun n0=>?_;refine⟨aIu q,db (fun g7=>?_) fun g7=>?_⟩
 ·have w:=oE (gR g7).2.1;have w2:=(gR g7).2.1;refine⟨aAH _,⟨by omega,by omega⟩,⟨by omega,by omega⟩,⟨by omega,by omega⟩,jT _ _ _,?_,trivial⟩
  ·(rw[kS,g7];rfl)
 ·apply et1
  ·(rw[kS,g7];rfl)
abbrev aJC (q:QueryD)(m:Int):Prop:=Cn 141 [.agg [.int .i64 q.variableCount,.sl 125 2 (q.atoms.map bB)],.one (.int .i64 m)] (vB (kS q m)) []
theorem aW0 (q:QueryD)(m:Int):aJC q m:=by
 refine cq Tryz.func141 (.call (vB (cT q)) []<| .br (.len q.atoms.length<| .call (vB (eQ m (0:Int) (((1:Int)*2^q.atoms.length) - 1))) []<| .fin []) (.fin [])) (p:=Lx (q.atoms.map bB)<| yR q/\Bb (cT q) (Lm bB q.atoms/\(0<=(q.atoms.length:Int)/\(q.atoms.length:Int)<=64)/\bK ((1:Int)*2^q.atoms.length)/\bK (((1:Int)*2^q.atoms.length) - 1)/\fI m (0:Int) (((1:Int)*2^q.atoms.length) - 1)/\(eQ m (0:Int) (((1:Int)*2^q.atoms.length) - 1))=(kS q m)/\True) ((false)=(kS q m)/\True)) (by kernel_rfl) ?_;refine lx fun n0=>?_;refine⟨aIv q,db (fun g7=>?_) fun g7=>?_⟩
 ·have w:=oE (gR g7).2.1;have w2:=(gR g7).2.1;refine⟨aAH _,⟨by omega,by omega⟩,⟨by omega,by omega⟩,⟨by omega,by omega⟩,jU _ _ _,?_,trivial⟩
  ·(rw[kS,g7];rfl)
 ·apply et1
  ·(rw[kS,g7];rfl)
abbrev aBC (q:QueryD)(m:Int):AV × List (Nat × Rs):=(.own 0,[(0,.arr 3 1 true ((aFs q m).map intD))])
abbrev aGO (q:QueryD)(m:Int):Prop:=Cn 157 [.agg [.int .i64 q.variableCount,.sl 125 2 (q.atoms.map bB)],.one (.int .i64 m)] (aBC q m).1 (aBC q m).2
theorem aTl (q:QueryD)(m:Int)(hq:cT q=true):aGO q m:=by
 refine cq Tryz.func157 (.loop (Nat × (List Int)) (Q2 Nat (List Int)) (rg 5 35) [800,900,3700,3800] (fun yy0=>[(6,vI (yy0.1:Int)),(5,.own 900)]) (fun yy0=>[(900,some (.arr 3 1 true (yy0.2.map intD)))]) (fun yy0=>(yy0.1:Int)<=q.variableCount/\yy0.2=iD (inM q m) yy0.1) (fun yy0=>q.variableCount.toNat - yy0.1) (fun yy0=> .br (.len q.atoms.length<| .loop Nat (Q1 Nat) ([7,8]++rg 19 16++[39]) [800] (fun i=>[(19,vI (i:Int))]) (fun i=>[]) (fun i=>i<=q.atoms.length/\yM q m i yy0.1=false) (fun i=>q.atoms.length - i) (fun i=> .br (.elem _ bB q.atoms (fun e22=> .br (.call (vB (decide ((yy0.1:Int)∈e22.vars))) []<| .lit<| .br (.app Int intD yy0.2 ([(yy0.1:Int)]:List Int)<| .back [(900,3800)]) (.back [])) (.back []))) (.back [(900,900)]))) (.fin [(0,900)]))) (p:=Lx (q.atoms.map bB)<| (∃(v:Nat) (out:List Int),0=(v:Int)/\[]=out.map intD/\(v:Int)<=q.variableCount/\out=iD (inM q m) v)/\ ∀(v:Nat) (out:List Int),((v:Int)<=q.variableCount/\out=iD (inM q m) v)->Br ((v:Int)<q.variableCount) (Lm bB q.atoms/\((∃(i:Nat),0=(i:Int)/\i<=q.atoms.length/\yM q m i v=false)/\ ∀(i:Nat),(i<=q.atoms.length/\yM q m i v=false)->Br ((i:Int)<(q.atoms.length:Int)) (0<=(i:Int)/\Em bB q.atoms i fun e22=>(0<=(i:Int)/\(i:Int)<=64)/\Br ((cL .and .i64 (m/2^i) (1:Int))=1) (aOx e22.vars (v:Int)/\Bb (decide ((v:Int)∈e22.vars)) (Ap intD out ([(v:Int)]:List Int) 8 (bK ((v:Int)+1)/\ ∃(v' :Nat) (out' :List Int),((v:Int)+1)=(v' :Int)/\(out++[(v:Int)]).map intD=out'.map intD/\((v' :Int)<=q.variableCount/\out' =iD (inM q m) v')/\q.variableCount.toNat - v' <q.variableCount.toNat - v)) (bK ((i:Int)+1)/\ ∃(i' :Nat),((i:Int)+1)=(i' :Int)/\(i' <=q.atoms.length/\yM q m i' v=false)/\q.atoms.length - i' <q.atoms.length - i)) (bK ((i:Int)+1)/\ ∃(i' :Nat),((i:Int)+1)=(i' :Int)/\(i' <=q.atoms.length/\yM q m i' v=false)/\q.atoms.length - i' <q.atoms.length - i)) (bK ((v:Int)+1)/\ ∃(v' :Nat) (out' :List Int),((v:Int)+1)=(v' :Int)/\out.map intD=out'.map intD/\((v' :Int)<=q.variableCount/\out' =iD (inM q m) v')/\q.variableCount.toNat - v' <q.variableCount.toNat - v))) (out.map intD=(aFs q m).map intD/\True)) (by kernel_rfl) ?_;refine lx fun n0=>?_;have w:=(gR hq).1;have w2:=(gR hq).2.1;refine⟨⟨0,([]:List Int),rfl,rfl,by omega,rfl⟩,fun v out ⟨hv,ho⟩=>?_⟩;refine dd (fun c0=>?_) fun c0=>?_
 ·refine⟨aAH _,⟨0,rfl,aDB _,rfl⟩,fun i ⟨hi,hn⟩=>?_⟩;refine dd (fun c1=>?_) fun c1=>?_
  ·refine⟨by omega,rfl,by omega,fun e22 h22=>?_⟩;refine⟨⟨by omega,by omega⟩,dd (fun g29=>?_) fun g29=>?_⟩
   ·refine⟨ctI _ _,db (fun c2=>?_) fun c2=>?_⟩
    ·have hT:inM q m v=true:=aY9 h22 (aHE g29) c2;refine ap ?_ (fun _=>rfl) (by (rw[ho];have:=aAt (inM q m) v;simp only[aQP,List.length_nil];omega));refine⟨⟨by omega,by omega⟩,?_⟩;exact⟨v+1,_,rfl,rfl,⟨by omega,by (rw[ho,aAs hT];done)⟩,by omega⟩
    ·refine⟨⟨by omega,by omega⟩,?_⟩;exact⟨i+1,rfl,⟨by omega,by rw[aBz,hn,bO h22];(rw[c2];simp;done)⟩,by omega⟩
   ·refine⟨⟨by omega,by omega⟩,?_⟩;exact⟨i+1,rfl,⟨by omega,by rw[aBz,hn,bO h22];(rw[aFQ g29];rfl)⟩,by omega⟩
  ·have hF:inM q m v=false:=by rw[inM,show q.atoms.length=i by omega];exact hn
   refine⟨⟨by omega,by omega⟩,?_⟩;exact⟨v+1,_,rfl,rfl,⟨by omega,by (rw[ho,aBy hF];done)⟩,by omega⟩
 ·apply et1
  ·rw[aFs,ho,show q.variableCount.toNat=v by omega]
abbrev aBD (q:QueryD)(m:Int):AV × List (Nat × Rs):=(.own 0,[(0,.arr 3 1 true ((eM q m).map intD))])
abbrev aGP (q:QueryD)(m:Int):Prop:=Cn 100 [.agg [.int .i64 q.variableCount,.sl 125 2 (q.atoms.map bB)],.one (.int .i64 m)] (aBD q m).1 (aBD q m).2
theorem aTm (q:QueryD)(m:Int):aGP q m:=by
 refine cq Tryz.func100 (.call (vB (kS q m)) []<| .br (.fin []) (bJ (aBC q m)<| .fin [(0,1100)])) (p:=Lx (q.atoms.map bB)<| aJB q m/\Nr (kS q m) ([]=(eM q m).map intD/\True) (aGO q m/\(aFs q m).map intD=(eM q m).map intD/\True)) (by kernel_rfl) ?_;refine lx fun n0=>?_;refine⟨aWZ _ m,dm (fun c0=>?_) fun c0=>?_⟩
 ·apply et1
  ·(rw[aPC c0];rfl)
 ·refine⟨aTl q m (by exact(yN (q:=q) (m:=m) (by assumption)).1),?_,trivial⟩
  ·(rw[aLt c0])
abbrev aEX (q:QueryD)(m:Int):Prop:=Cn 143 [.agg [.int .i64 q.variableCount,.sl 125 2 (q.atoms.map bB)],.one (.int .i64 m)] (vI (m4 (inM q m))) []
theorem aQr (q:QueryD)(m:Int)(hq:cT q=true):aEX q m:=by
 refine cq Tryz.func143 (.loop (Nat × Int) (Q2 Nat Int) (rg 5 40) [] (fun yy0=>[(6,vI (yy0.1:Int)),(5,vI yy0.2)]) (fun yy0=>[]) (fun yy0=>yy0.1<=q.atoms.length/\yy0.2=m4 (yM q m yy0.1)) (fun yy0=>q.atoms.length - yy0.1) (fun yy0=> .len q.atoms.length<| .br (.loop (Nat × Int) (Q2 Nat Int) ([5,7]++rg 15 30) [] (fun yy1=>[(7,vI (yy1.1:Int)),(5,vI yy1.2)]) (fun yy1=>[]) (fun yy1=>yy1.1<=(q.atoms.getD yy0.1 jK).vars.length/\yy1.2=m4 (aGm q m (q.atoms.getD yy0.1 jK) yy0.1 yy1.1)) (fun yy1=>(q.atoms.getD yy0.1 jK).vars.length - yy1.1) (fun yy1=> .elem _ bB q.atoms (fun e19=> .len e19.vars.length<| .br (.lit<| .lit<| .lit<| .lit<| .lit<| .br (.elem _ bB q.atoms (fun e37=> .elem _ intD e37.vars (fun e41=> .back []))) (.back [])) (.back [])))) (.fin []))) (p:=Lx (q.atoms.map bB)<| (∃(i:Nat) (o:Int),0=(i:Int)/\0=o/\i<=q.atoms.length/\o=m4 (yM q m i))/\ ∀(i:Nat) (o:Int),(i<=q.atoms.length/\o=m4 (yM q m i))->Lm bB q.atoms/\Br ((i:Int)<(q.atoms.length:Int)) ((∃(k:Nat) (p:Int),0=(k:Int)/\o=p/\k<=(q.atoms.getD i jK).vars.length/\p=m4 (aGm q m (q.atoms.getD i jK) i k))/\ ∀(k:Nat) (p:Int),(k<=(q.atoms.getD i jK).vars.length/\p=m4 (aGm q m (q.atoms.getD i jK) i k))->0<=(i:Int)/\Em bB q.atoms i fun e19=>Lm intD e19.vars/\Br ((k:Int)<(e19.vars.length:Int)) ((0<=(i:Int)/\(i:Int)<=64)/\Br ((cL .and .i64 (m/2^i) (1:Int))=1) (0<=(i:Int)/\Em bB q.atoms i fun e37=>0<=(k:Int)/\Em intD e37.vars k fun e41=>(0<=e41/\e41<=64)/\bK ((1:Int)*2^(Int.toNat e41))/\bK ((k:Int)+1)/\ ∃(k' :Nat) (p' :Int),((k:Int)+1)=(k' :Int)/\(cL .or .i64 p ((1:Int)*2^(Int.toNat e41)))=p' /\(k' <=(q.atoms.getD i jK).vars.length/\p' =m4 (aGm q m (q.atoms.getD i jK) i k'))/\(q.atoms.getD i jK).vars.length - k' <(q.atoms.getD i jK).vars.length - k) (bK ((i:Int)+1)/\ ∃(i' :Nat) (o' :Int),((i:Int)+1)=(i' :Int)/\p=o' /\(i' <=q.atoms.length/\o' =m4 (yM q m i'))/\q.atoms.length - i' <q.atoms.length - i)) (bK ((i:Int)+1)/\ ∃(i' :Nat) (o' :Int),((i:Int)+1)=(i' :Int)/\p=o' /\(i' <=q.atoms.length/\o' =m4 (yM q m i'))/\q.atoms.length - i' <q.atoms.length - i)) (o=(m4 (inM q m))/\True)) (by kernel_rfl) ?_;refine lx fun n0=>?_;have w:=(gR hq).1;have w2:=(gR hq).2;refine⟨⟨0,(0:Int),rfl,rfl,aDB _,rfl⟩,fun i o ⟨hi,ho⟩=>?_⟩;refine⟨aAH _,dd (fun c0=>?_) fun c0=>?_⟩
 ·obtain⟨a,ha⟩:=cK (l:=q.atoms) (k:=i) (by omega);have w3:=(aCx (w2.2 a (aDd ha))).2;have hga:q.atoms.getD i jK=a:=bO ha;have hgl:(q.atoms.getD i jK).vars.length=a.vars.length:=by rw[hga]
  refine⟨⟨0,o,rfl,rfl,aDB _,by rw[ho,aTU]⟩,fun k p ⟨hk,hp⟩=>?_⟩;rw[hga] at hp;refine⟨by omega,rfl,by omega,fun e19 h19=>?_⟩;obtain rfl:=(aY ha h19).symm;refine⟨aAH _,dd (fun g24=>?_) fun g24=>?_⟩
  ·refine⟨⟨by omega,by omega⟩,dd (fun c1=>?_) fun c1=>?_⟩
   ·refine⟨by omega,rfl,by omega,fun e37 h37=>?_⟩;obtain rfl:=(aY ha h37).symm;refine⟨by omega,rfl,by omega,fun e41 h41=>?_⟩;have w8:=w3.2 _ (aDd h41);obtain⟨w4,w5,w6⟩:=aFT (x:=e41) (sE (by omega) (by omega));refine⟨⟨by omega,by omega⟩,by exact w4,by exact⟨by omega,by omega⟩,?_⟩;exact⟨k+1,_,rfl,rfl,⟨by omega,by rw[hga,hp,aWF (by omega),aTV (aHE c1) h41 (by omega)]⟩,by omega⟩
   ·refine⟨by exact⟨by omega,by omega⟩,?_⟩;exact⟨i+1,_,rfl,rfl,⟨by omega,by (rw[hp,aLu ha (.inl (aFQ c1))];done)⟩,by omega⟩
  ·refine⟨by exact⟨by omega,by omega⟩,?_⟩;exact⟨i+1,_,rfl,rfl,⟨by omega,by (rw[hp,aLu ha (.inr (by omega))];done)⟩,by omega⟩
 ·apply et1
  ·rw[ho,show i=q.atoms.length by omega];rfl
abbrev yS (m:Int):AV × List (Nat × Rs):=(.own 0,[(0,.arr 3 1 true ((iD (gG m) 4).map intD))])
abbrev aEY (m:Int):Prop:=Cn 142 [.one (.int .i64 m)] (yS m).1 (yS m).2
theorem aQs (m:Int):aEY m:=by
 refine cq Tryz.func142 (.loop (Nat × (List Int)) (Q2 Nat (List Int)) (rg 3 16) [500,1700,1800] (fun yy0=>[(4,vI (yy0.1:Int)),(3,.own 500)]) (fun yy0=>[(500,some (.arr 3 1 true (yy0.2.map intD)))]) (fun yy0=>yy0.1<=4/\yy0.2=iD (gG m) yy0.1) (fun yy0=>4 - yy0.1) (fun yy0=> .br (.br (.app Int intD yy0.2 ([(yy0.1:Int)]:List Int)<| .back [(500,1800)]) (.back [(500,500)])) (.fin [(0,500)]))) (p:=(∃(i:Nat) (out:List Int),0=(i:Int)/\[]=out.map intD/\i<=4/\out=iD (gG m) i)/\ ∀(i:Nat) (out:List Int),(i<=4/\out=iD (gG m) i)->Br ((i:Int)<4) ((0<=(i:Int)/\(i:Int)<=64)/\Br ((cL .and .i64 (m/2^i) (1:Int))=1) (Ap intD out ([(i:Int)]:List Int) 8 (bK ((i:Int)+1)/\ ∃(i' :Nat) (out' :List Int),((i:Int)+1)=(i' :Int)/\(out++[(i:Int)]).map intD=out'.map intD/\(i' <=4/\out' =iD (gG m) i')/\4 - i' <4 - i)) (bK ((i:Int)+1)/\ ∃(i' :Nat) (out' :List Int),((i:Int)+1)=(i' :Int)/\out.map intD=out'.map intD/\(i' <=4/\out' =iD (gG m) i')/\4 - i' <4 - i)) (out.map intD=(iD (gG m) 4).map intD/\True)) (by kernel_rfl) ?_;refine⟨⟨0,([]:List Int),rfl,rfl,by omega,rfl⟩,fun i out ⟨hi,ho⟩=>?_⟩;refine dd (fun c0=>?_) fun c0=>?_
 ·refine⟨⟨by omega,by omega⟩,dd (fun c1=>?_) fun c1=>?_⟩
  ·refine ap ?_ (fun _=>rfl) (by (rw[ho];have:=aAt (gG m) i;simp only[aQP,List.length_nil];omega));refine⟨⟨by omega,by omega⟩,?_⟩;exact⟨i+1,_,rfl,rfl,⟨by omega,by (rw[ho,aAs (aHE c1)];done)⟩,by omega⟩
  ·refine⟨⟨by omega,by omega⟩,?_⟩;exact⟨i+1,_,rfl,rfl,⟨by omega,by (rw[ho,aBy (aFQ c1)];done)⟩,by omega⟩
 ·apply et1
  ·rw[ho,show i=4 by omega]
abbrev aBE (q:QueryD)(m:Int):AV × List (Nat × Rs):=(.own 0,[(0,.arr 3 1 true ((eM q m).map intD))])
abbrev aGQ (q:QueryD)(m:Int):Prop:=Cn 91 [.agg [.int .i64 q.variableCount,.sl 125 2 (q.atoms.map bB)],.one (.int .i64 m)] (aBE q m).1 (aBE q m).2
theorem aTn (q:QueryD)(m:Int):aGQ q m:=by
 refine cq Tryz.func91 (.call (vB (kS q m)) []<| .br (.fin [(0,900)]) (.call (vI (m4 (inM q m))) []<| bJ (yS (m4 (inM q m)))<| .fin [(0,1300)])) (p:=Lx (q.atoms.map bB)<| aJC q m/\Nr (kS q m) ([]=(eM q m).map intD/\True) (aEX q m/\aEY (m4 (inM q m))/\(iD (gG (m4 (inM q m))) 4).map intD=(eM q m).map intD/\True)) (by kernel_rfl) ?_;refine lx fun n0=>?_;refine⟨aW0 _ m,dm (fun c0=>?_) fun c0=>?_⟩
 ·apply et1
  ·(rw[aPC c0];rfl)
 ·refine⟨aQr q m (by exact(yN (q:=q) (m:=m) (by assumption)).1),aQs (m4 (inM q m)),?_,trivial⟩
  ·(rw[aLt c0,aQk (yN c0).1])
abbrev aJD (a:bX)(m:Int):Prop:=Cn 196 [.agg [.str a.name,.sl 3 1 (a.vars.map intD)],.one (.int .i64 m)] (vI (vsS m a.vars (min a.vars.length 3))) []
theorem aW1 (a:bX)(m:Int):aJD a m:=by
 refine cq Tryz.func196 (.loop (Nat × Int) (Q2 Nat Int) (rg 5 34) [] (fun yy0=>[(6,vI (yy0.1:Int)),(5,vI yy0.2)]) (fun yy0=>[]) (fun yy0=>(yy0.1<=a.vars.length/\yy0.1<=3)/\yy0.2=vsS m a.vars yy0.1) (fun yy0=>a.vars.length - yy0.1) (fun yy0=> .len a.vars.length<| .br (.lit<| .lit<| .br (.br (.elem _ intD a.vars (fun e27=> .call (vB (eQ e27 (0:Int) (3:Int))) []<| .lit<| .br (.elem _ intD a.vars (fun e35=> .back [])) (.back []))) (.back [])) (.fin [])) (.fin []))) (p:=Lx (a.vars.map intD)<| (∃(k:Nat) (o:Int),0=(k:Int)/\0=o/\(k<=a.vars.length/\k<=3)/\o=vsS m a.vars k)/\ ∀(k:Nat) (o:Int),((k<=a.vars.length/\k<=3)/\o=vsS m a.vars k)->Lm intD a.vars/\Br ((k:Int)<(a.vars.length:Int)) (Br ((k:Int)<3) ((0<=(k:Int)/\(k:Int)<=64)/\Br ((cL .and .i64 (m/2^k) (1:Int))=1) (0<=(k:Int)/\Em intD a.vars k fun e27=>fI e27 (0:Int) (3:Int)/\Bb (eQ e27 (0:Int) (3:Int)) (0<=(k:Int)/\Em intD a.vars k fun e35=>(0<=e35/\e35<=64)/\bK ((1:Int)*2^(Int.toNat e35))/\bK ((k:Int)+1)/\ ∃(k' :Nat) (o' :Int),((k:Int)+1)=(k' :Int)/\(cL .or .i64 o ((1:Int)*2^(Int.toNat e35)))=o' /\((k' <=a.vars.length/\k' <=3)/\o' =vsS m a.vars k')/\a.vars.length - k' <a.vars.length - k) (bK ((k:Int)+1)/\ ∃(k' :Nat) (o' :Int),((k:Int)+1)=(k' :Int)/\o=o' /\((k' <=a.vars.length/\k' <=3)/\o' =vsS m a.vars k')/\a.vars.length - k' <a.vars.length - k)) (bK ((k:Int)+1)/\ ∃(k' :Nat) (o' :Int),((k:Int)+1)=(k' :Int)/\o=o' /\((k' <=a.vars.length/\k' <=3)/\o' =vsS m a.vars k')/\a.vars.length - k' <a.vars.length - k)) (o=(vsS m a.vars (min a.vars.length 3))/\True)) (o=(vsS m a.vars (min a.vars.length 3))/\True)) (by kernel_rfl) ?_;refine lx fun n0=>?_;refine⟨⟨0,0,rfl,rfl,⟨aDB _,by omega⟩,rfl⟩,fun k o ⟨hk,hv⟩=>?_⟩;refine⟨aAH _,dd (fun g12=>?_) fun g12=>?_⟩
 ·refine dd (fun c0=>?_) fun c0=>?_
  ·refine⟨⟨by omega,by omega⟩,dd (fun g23=>?_) fun g23=>?_⟩
   ·refine⟨by omega,rfl,by omega,fun e27 h27=>?_⟩
    try (obtain rfl:=(aY h27 h27).symm)
    refine⟨jU _ _ _,db (fun c1=>?_) fun c1=>?_⟩
    ·obtain⟨w1,w2,w3⟩:=aFT c1;refine⟨by omega,rfl,by omega,fun e35 h35=>?_⟩
     try (obtain rfl:=(aY h27 h35).symm)
     refine⟨⟨by omega,by omega⟩,by exact w1,by exact⟨by omega,by omega⟩,?_⟩;exact⟨k+1,_,rfl,rfl,⟨by omega,by (rw[aYa h27 g23 c1,hv];done)⟩,by omega⟩
    ·refine⟨by exact⟨by omega,by omega⟩,?_⟩;exact⟨k+1,_,rfl,rfl,⟨by omega,by (rw[aWS h27 (by simp[g23,c1]),hv];done)⟩,by omega⟩
   ·refine⟨by exact⟨by omega,by omega⟩,?_⟩;exact⟨k+1,_,rfl,rfl,⟨by omega,by (obtain⟨y,hy⟩:=cK (l:=a.vars) (k:=k) (by omega);rw[aWS hy (by simp[g23]),hv])⟩,by omega⟩
  ·apply et1
   ·(rw[hv];congr 1;omega)
 ·apply et1
  ·(rw[hv];congr 1;omega)
abbrev aBF (x:aD)(a:bX):AV × List (Nat × Rs):=(.own 0,[(0,.arr 192 3 true ((oF x a).map aG))])
abbrev aGR (x:aD)(a:bX):Prop:=Cn 155 [.agg [.str x.name,.int .i64 x.arity,.int .i64 x.rowCount,.sl 220 3 (x.groups.map aC)],.agg [.str a.name,.sl 3 1 (a.vars.map intD)]] (aBF x a).1 (aBF x a).2
theorem aTo (x:aD)(a:bX)(hc:bD x<=1048576)(ha:iK a<=1048576):aGR x a:=by
 refine cq Tryz.func155 (.call (vB (cS x)) []<| .br (.fin []) (.lit<| .lit<| .lit<| .br (.fin []) (.len a.vars.length<| .lit<| .lit<| .lit<| .lit<| .br (.fin []) (.loop (Nat × (List aL)) (Q2 Nat (List aL)) ([5,6,7,8,9]++rg 26 31) [2600,3600,4100,5500,5600] (fun yy0=>[(6,vI (yy0.1:Int)),(5,.own 2600)]) (fun yy0=>[(2600,some (.arr 192 3 true (yy0.2.map aG)))]) (fun yy0=>yy0.1<=((2:Int)^x.arity.toNat - 1).toNat/\yy0.2=(List.range yy0.1).map (tcC x a)) (fun yy0=>((2:Int)^x.arity.toNat - 1).toNat - yy0.1) (fun yy0=> .br (bJ (vJ (yy0.1:Int))<| bJ (qH a.vars (fK (yy0.1:Int)))<| .call (vI (jC ((gB a.vars (fK (yy0.1:Int))).1))) []<| .call (vI (jC a.vars)) []<| .call (vI ((jO x (fK (yy0.1:Int))).getD 0 0)) []<| .call (vI (uR ((jO x (fK (yy0.1:Int))).getD 0 0))) []<| .app aL aG yy0.2 ([(⟨jC ((gB a.vars (fK (yy0.1:Int))).1),jC a.vars,uR ((jO x (fK (yy0.1:Int))).getD 0 0)⟩:aL)]:List aL)<| .back [(2600,5600)]) (.fin [(0,2600)])))))) (p:=Lx (x.groups.map aC)<| Lx (a.vars.map intD)<| aCs x/\Nr (cS x) ([]=(oF x a).map aG/\True) (Br (x.rowCount=0) ([]=(oF x a).map aG/\True) (Lm intD a.vars/\Nb ((a.vars.length:Int)=x.arity) ([]=(oF x a).map aG/\True) ((∃(m:Nat) (out:List aL),0=(m:Int)/\[]=out.map aG/\m<=((2:Int)^x.arity.toNat - 1).toNat/\out=(List.range m).map (tcC x a))/\ ∀(m:Nat) (out:List aL),(m<=((2:Int)^x.arity.toNat - 1).toNat/\out=(List.range m).map (tcC x a))->(0<=x.arity/\x.arity<=64)/\bK ((1:Int)*2^(Int.toNat x.arity))/\bK (((1:Int)*2^(Int.toNat x.arity)) - 1)/\Br ((m:Int)<(((1:Int)*2^(Int.toNat x.arity)) - 1)) (aAl (m:Int)/\tU a.vars (fK (m:Int))/\aAx ((gB a.vars (fK (m:Int))).1)/\aAx a.vars/\aFx x (fK (m:Int))/\aFz ((jO x (fK (m:Int))).getD 0 0)/\Ap aG out ([(⟨jC ((gB a.vars (fK (m:Int))).1),jC a.vars,uR ((jO x (fK (m:Int))).getD 0 0)⟩:aL)]:List aL) 24 (bK ((m:Int)+1)/\ ∃(m' :Nat) (out' :List aL),((m:Int)+1)=(m' :Int)/\(out++[(⟨jC ((gB a.vars (fK (m:Int))).1),jC a.vars,uR ((jO x (fK (m:Int))).getD 0 0)⟩:aL)]).map aG=out'.map aG/\(m' <=((2:Int)^x.arity.toNat - 1).toNat/\out' =(List.range m').map (tcC x a))/\((2:Int)^x.arity.toNat - 1).toNat - m' <((2:Int)^x.arity.toNat - 1).toNat - m)) (out.map aG=(oF x a).map aG/\True))))) (by kernel_rfl) ?_;refine lx fun n0=>lx fun n1=>?_;have q3:iK a=a.name.size+cD a.vars:=rfl;have q4:cD a.vars=a.vars.length:=rfl;refine⟨aOp _ (by omega),dm (fun g13=>?_) fun g13=>?_⟩
 ·have hbad:uS x a=false:=by (simp[uS, *];done)
  apply et1
  ·(rw[yP hbad]<;>rfl)
 ·refine dd (fun g18=>?_) fun g18=>?_
  ·have hbad:uS x a=false:=by (simp[uS, *];done)
   apply et1
   ·(rw[yP hbad]<;>rfl)
  ·refine⟨aAH _,dn (fun c0=>?_) fun c0=>?_⟩
   ·have hbad:uS x a=false:=by (simp[uS, *];done)
    apply et1
    ·(rw[yP hbad]<;>rfl)
   ·have hok:uS x a=true:=by (simp[uS, *];done)
    obtain⟨hS,hA⟩:=aDC hok;have hn:=aBx hS;have hp:=tA hn;refine⟨⟨0,([]:List aL),rfl,rfl,aDB _,rfl⟩,fun m out ⟨hm,ho⟩=>?_⟩;refine⟨⟨by omega,by omega⟩,⟨by omega,by omega⟩,⟨by omega,by omega⟩,dd (fun c1=>?_) fun c1=>?_⟩
    ·have hbl:(fK (m:Int)).length<=3:=wR _ 3;have hE:=aPM (m:=(m:Int)) hn hA (by omega) (by omega);have hE2:=aLw (m:=(m:Int)) hn hA (by omega) (by omega);refine⟨aLk (m:Int) (by omega),aEE _ _ (by omega),aLx _,aLx _,aT4 _ (fK (m:Int)) (by omega) (by omega),aT6 _,?_⟩;refine ap ?_ (fun _=>rfl) (by (simp[ho];omega));refine⟨⟨by omega,by omega⟩,?_⟩;exact⟨m+1,_,rfl,rfl,⟨by omega,by rw[ho,List.range_succ,aMQ,aLz,List.map_nil,tcC];(rw[hE];done)⟩,by omega⟩
    ·apply et1
     ·(rw[aIs hok,ho,show ((2:Int)^x.arity.toNat - 1).toNat=m by omega])
abbrev aBG (x:aD)(a:bX):AV × List (Nat × Rs):=(.own 0,[(0,.arr 192 3 true ((oF x a).map aG))])
abbrev aGS (x:aD)(a:bX):Prop:=Cn 140 [.agg [.str x.name,.int .i64 x.arity,.int .i64 x.rowCount,.sl 220 3 (x.groups.map aC)],.agg [.str a.name,.sl 3 1 (a.vars.map intD)]] (aBG x a).1 (aBG x a).2
theorem aTp (x:aD)(a:bX)(hc:bD x<=1048576)(ha:iK a<=1048576):aGS x a:=by
 refine cq Tryz.func140 (.call (vB (cS x)) []<| .br (.fin [(0,700)]) (.lit<| .lit<| .lit<| .br (.fin [(0,700)]) (.len a.vars.length<| .lit<| .lit<| .lit<| .lit<| .br (.fin [(0,700)]) (.loop (Nat × (List aL)) (Q2 Nat (List aL)) ([5,6,7]++rg 25 23) [700,4200,4600,4700] (fun yy0=>[(6,vI (yy0.1:Int)),(5,.own 700)]) (fun yy0=>[(700,some (.arr 192 3 true (yy0.2.map aG)))]) (fun yy0=>yy0.1<=((2:Int)^x.arity.toNat - 1).toNat/\yy0.2=(List.range yy0.1).map (tcC x a)) (fun yy0=>((2:Int)^x.arity.toNat - 1).toNat - yy0.1) (fun yy0=> .br (.call (vI (vsS (yy0.1:Int) a.vars (min a.vars.length 3))) []<| .call (vI (jC a.vars)) []<| bJ (vK (yy0.1:Int))<| .call (vI ((jO x (fK (yy0.1:Int))).getD 0 0)) []<| .call (vI (uR ((jO x (fK (yy0.1:Int))).getD 0 0))) []<| .app aL aG yy0.2 ([(⟨vsS (yy0.1:Int) a.vars (min a.vars.length 3),jC a.vars,uR ((jO x (fK (yy0.1:Int))).getD 0 0)⟩:aL)]:List aL)<| .back [(700,4700)]) (.fin [(0,700)])))))) (p:=Lx (x.groups.map aC)<| Lx (a.vars.map intD)<| yO x/\Nr (cS x) ([]=(oF x a).map aG/\True) (Br (x.rowCount=0) ([]=(oF x a).map aG/\True) (Lm intD a.vars/\Nb ((a.vars.length:Int)=x.arity) ([]=(oF x a).map aG/\True) ((∃(m:Nat) (out:List aL),0=(m:Int)/\[]=out.map aG/\m<=((2:Int)^x.arity.toNat - 1).toNat/\out=(List.range m).map (tcC x a))/\ ∀(m:Nat) (out:List aL),(m<=((2:Int)^x.arity.toNat - 1).toNat/\out=(List.range m).map (tcC x a))->(0<=x.arity/\x.arity<=64)/\bK ((1:Int)*2^(Int.toNat x.arity))/\bK (((1:Int)*2^(Int.toNat x.arity)) - 1)/\Br ((m:Int)<(((1:Int)*2^(Int.toNat x.arity)) - 1)) (aJD a (m:Int)/\aFy a.vars/\aAm (m:Int)/\aFw x (fK (m:Int))/\aGA ((jO x (fK (m:Int))).getD 0 0)/\Ap aG out ([(⟨vsS (m:Int) a.vars (min a.vars.length 3),jC a.vars,uR ((jO x (fK (m:Int))).getD 0 0)⟩:aL)]:List aL) 24 (bK ((m:Int)+1)/\ ∃(m' :Nat) (out' :List aL),((m:Int)+1)=(m' :Int)/\(out++[(⟨vsS (m:Int) a.vars (min a.vars.length 3),jC a.vars,uR ((jO x (fK (m:Int))).getD 0 0)⟩:aL)]).map aG=out'.map aG/\(m' <=((2:Int)^x.arity.toNat - 1).toNat/\out' =(List.range m').map (tcC x a))/\((2:Int)^x.arity.toNat - 1).toNat - m' <((2:Int)^x.arity.toNat - 1).toNat - m)) (out.map aG=(oF x a).map aG/\True))))) (by kernel_rfl) ?_;refine lx fun n0=>lx fun n1=>?_;have q3:iK a=a.name.size+cD a.vars:=rfl;have q4:cD a.vars=a.vars.length:=rfl;refine⟨aIl _ (by omega),dm (fun g11=>?_) fun g11=>?_⟩
 ·have hbad:uS x a=false:=by (simp[uS, *];done)
  apply et1
  ·(rw[yP hbad]<;>rfl)
 ·refine dd (fun g16=>?_) fun g16=>?_
  ·have hbad:uS x a=false:=by (simp[uS, *];done)
   apply et1
   ·(rw[yP hbad]<;>rfl)
  ·refine⟨aAH _,dn (fun c0=>?_) fun c0=>?_⟩
   ·have hbad:uS x a=false:=by (simp[uS, *];done)
    apply et1
    ·(rw[yP hbad]<;>rfl)
   ·have hok:uS x a=true:=by (simp[uS, *];done)
    obtain⟨hS,hA⟩:=aDC hok;have hn:=aBx hS;have hp:=tA hn;refine⟨⟨0,([]:List aL),rfl,rfl,aDB _,rfl⟩,fun m out ⟨hm,ho⟩=>?_⟩;refine⟨⟨by omega,by omega⟩,⟨by omega,by omega⟩,⟨by omega,by omega⟩,dd (fun c1=>?_) fun c1=>?_⟩
    ·have hbl:(fK (m:Int)).length<=3:=wR _ 3;have hE:=aPM (m:=(m:Int)) hn hA (by omega) (by omega);have hE2:=aLw (m:=(m:Int)) hn hA (by omega) (by omega);refine⟨aW1 _ _,aT5 _,aLl (m:Int) (by omega),aT3 _ (fK (m:Int)) (by omega) (by omega),aT7 _,?_⟩;refine ap ?_ (fun _=>rfl) (by (simp[ho];omega));refine⟨⟨by omega,by omega⟩,?_⟩;exact⟨m+1,_,rfl,rfl,⟨by omega,by rw[ho,List.range_succ,aMQ,aLz,List.map_nil,tcC];(rw[hE2];done)⟩,by omega⟩
    ·apply et1
     ·(rw[aIs hok,ho,show ((2:Int)^x.arity.toNat - 1).toNat=m by omega])
theorem aNT {s:StoreD}{q:QueryD}{m:Int}(h:qOk s q m=true):fU m=iD (gG m) q.atoms.length:=by
 obtain⟨_,_,_,h1,h2,_,_,h3⟩:=aFV h;exact aWL ⟨by omega,h2⟩ h3.2
theorem aLy (m:Int):(fU m).length<=4:=by
 cases h:eQ m 0 15 with
 | false=>rw[aPD h];exact aDB _
 | true=>rw[aFR h];exact aAt _ _
theorem aW2 {s:StoreD}{q:QueryD}{m x:Int}(h:qOk s q m=true)(hx:x∈fU m):0<=x/\x.toNat<q.atoms.length/\gG m x.toNat=true:=by
 rw[aNT h] at hx;exact aPB.1 hx
def qcA (s:StoreD)(q:QueryD)(x:Int):List aL:=oF (iF s q x.toNat) (q.atoms.getD x.toNat jK)
def qcL (s:StoreD)(q:QueryD)(l:List Int):List aL:=l.flatMap (qcA s q)
def aEZ (s:StoreD)(q:QueryD)(l:List Int):Bool:=l.all fun x=> !decide ((qcA s q x).length=0)
def eH (s:StoreD)(q:QueryD)(m:Int):List aL:=if (qOk s q m&&aEZ s q (fU m))=true then qcL s q (fU m) else []
theorem aMA {s:StoreD}{q:QueryD}{m:Int}(h:qOk s q m=true)(h2:aEZ s q (fU m)=true):eH s q m=qcL s q (fU m):=by rw[eH,if_pos (by rw[h,h2];rfl)]
theorem aE0 {s:StoreD}{q:QueryD}{m:Int}(h:qOk s q m=false):eH s q m= []:=by rw[eH,if_neg (by rw[h];simp)]
theorem aMB {s:StoreD}{q:QueryD}{m x:Int}(hx:x∈fU m)(h:(qcA s q x).length=0):eH s q m= []:=by
 rw[eH,if_neg];intro h2;rw[aCA] at h2;have:=aI4.1 h2.2 x hx;simp[h] at this
theorem aPQ (s:StoreD)(q:QueryD)(l:List Int)(x:Int):qcL s q (l++[x])=qcL s q l++qcA s q x:=by
 rw[qcL,List.flatMap_append];simp[qcL]
theorem aMC {s:StoreD}{q:QueryD}{l:List Int}{x:Int}(h:aEZ s q l=true)(hx: ¬((qcA s q x).length:Int)=0):aEZ s q (l++[x])=true:=by
 rw[aEZ,List.all_append,aCA];refine⟨h,?_⟩;simp only[List.all_cons,List.all_nil,Bool.and_true,Bool.not_eq_true',decide_eq_false_iff_not];omega
theorem aHF (s:StoreD)(q:QueryD): ∀l:List Int,(qcL s q l).length<=7*l.length
 | []=>aDB _
 | x::l=>by
   have h1:=aIt (iF s q x.toNat) (q.atoms.getD x.toNat jK);have h2:=aHF s q l;have h3:qcL s q (x::l)=qcA s q x++qcL s q l:=by simp[qcL]
   rw[h3,aQT,aQP];unfold qcA;omega
theorem aMD (s:StoreD)(q:QueryD)(m:Int):(eH s q m).length<=28:=by
 unfold eH;split
 ·have h1:=aHF s q (fU m);have h2:=aLy m;omega
 exact aDB _
end Go.Proofs.YtlidmoeecphbmaaGreat
