/-
  Contracts and plain laws, joined: part 13.
-/
import Derived.Test.YtlidmoeecphbmaaGreateb9
import Derived.Test.YtlidmoeecphbmaaGreateb11
import Derived.Test.YtlidmoeecphbmaaGreateb10
import Derived.Test.YtlidmoeecphbmaaGreateb8
namespace Go.Proofs.YtlidmoeecphbmaaGreat
open Go.ChangeShapes Go.WideShapes Go.ChangeAt Go.RowKit
set_option linter.unusedVariables false
set_option linter.unusedSimpArgs false
set_option maxRecDepth 100000
set_option maxHeartbeats 4000000
def rY (n:ByteArray)(x:aM):Bool:=(x.name.toList==n.toList)&&cJ x
def cX (c:cE)(n:ByteArray):aM × Bool:=match c.tables.find? (rY n) with | some x=>(x,true) | none=>(dL,false)
theorem aDc {c:cE}{n:ByteArray}{x:aM}(h:c.tables.find? (rY n)=some x):cX c n=(x,true):=by rw[cX,h]
theorem aHM {c:cE}{n:ByteArray}(h:c.tables.find? (rY n)=none):cX c n=(dL,false):=by rw[cX,h]
theorem aNJ (c:cE)(n:ByteArray):bF (cX c n).1<=bS c:=by
 have hS:bS c=dU c.tables:=rfl;cases h:c.tables.find? (rY n) with
 | none=>rw[aHM h];exact aCC _
 | some x=>
   rw[aDc h,hS];obtain⟨i,hi⟩:=List.getElem?_of_mem (List.mem_of_find?_eq_some h);exact kJ hi
abbrev aE0 (c:cE)(n:ByteArray):AV × List (Nat × Rs):=(.tup [.agg [.p none (.str ((cX c n).1.name)),vI ((cX c n).1.arity),vI ((cX c n).1.rowCount),.own 0],vB ((cX c n).2)],[(0,.arr 220 3 true ((cX c n).1.groups.map aD))])
abbrev aNK (c:cE)(n:ByteArray):Prop:=Cn 154 [.agg [.int .i64 c.version,.sl 88 4 (c.tables.map aG)],.one (.str n)] (aE0 c n).1 (aE0 c n).2
theorem aR4 (c:cE)(n:ByteArray)(hc:bS c<=1048576):aNK c n:=by
 refine cq Tryz.func154 (.len c.tables.length<| .loop Nat (Q1 Nat) ([7]++rg 11 12++[25]) [700] (fun k=>[(11,vI (k:Int))]) (fun k=>[]) (fun k=>k<=c.tables.length/\(c.tables.take k).all (fun y=> !rY n y)=true) (fun k=>c.tables.length - k) (fun k=> .br (.elem _ aG c.tables (fun e13=> .br (.call (vB (cJ e13)) []<| .lit<| .br (bH (aBU e13)<| .fin [(0,2400)]) (.back [])) (.back []))) (.fin []))) (p:=Lx (c.tables.map aG)<| Lm aG c.tables/\((∃(k:Nat),0=(k:Int)/\k<=c.tables.length/\(c.tables.take k).all (fun y=> !rY n y)=true)/\ ∀(k:Nat),(k<=c.tables.length/\(c.tables.take k).all (fun y=> !rY n y)=true)->Br ((k:Int)<(c.tables.length:Int)) (0<=(k:Int)/\Em aG c.tables k fun e13=>Bb (e13.name.toList==n.toList) (aBV e13/\Bb (cJ e13) (aGa e13/\e13.name=((cX c n).1.name)/\e13.arity=((cX c n).1.arity)/\e13.rowCount=((cX c n).1.rowCount)/\(true)=((cX c n).2)/\e13.groups.map aD=(cX c n).1.groups.map aD/\True) (bK ((k:Int)+1)/\ ∃(k' :Nat),((k:Int)+1)=(k' :Int)/\(k' <=c.tables.length/\(c.tables.take k').all (fun y=> !rY n y)=true)/\c.tables.length - k' <c.tables.length - k)) (bK ((k:Int)+1)/\ ∃(k' :Nat),((k:Int)+1)=(k' :Int)/\(k' <=c.tables.length/\(c.tables.take k').all (fun y=> !rY n y)=true)/\c.tables.length - k' <c.tables.length - k)) (ByteArray.empty=((cX c n).1.name)/\0=((cX c n).1.arity)/\0=((cX c n).1.rowCount)/\(false)=((cX c n).2)/\[]=(cX c n).1.groups.map aD/\True))) (by kernel_rfl) ?_;refine lx fun n0=>?_;have hS:bS c=dU c.tables:=rfl;refine⟨aA8 _,⟨0,rfl,aCC _,rfl⟩,fun k ⟨hk,ha⟩=>?_⟩;refine dd (fun c0=>?_) fun c0=>?_
 ·refine⟨by omega,rfl,by omega,fun e13 h13=>?_⟩
  try (obtain rfl:=(aW h13 h13).symm)
  have q1:=kJ h13;refine db (fun g19=>?_) fun g19=>?_
  ·refine⟨aMl _ (by omega),db (fun c1=>?_) fun c1=>?_⟩
   ·have hf:=aLN (p:=rY n) h13 ha (by simp[rY,g19,c1]);refine⟨aTf _ (by omega),?_,?_,?_,?_,?_,trivial⟩<;>((rw[aDc hf]<;>rfl))
   ·refine⟨⟨by omega,by omega⟩,?_⟩;exact⟨k+1,rfl,⟨by omega,cG h13 ha (by (simp[rY,g19,c1];done))⟩,by omega⟩
  ·refine⟨⟨by omega,by omega⟩,?_⟩;exact⟨k+1,rfl,⟨by omega,cG h13 ha (by (simp[rY,g19];done))⟩,by omega⟩
 ·have hall:=aLO (cY (by omega) ha);apply et5<;>((rw[aHM hall]<;>rfl))
abbrev aE1 (c:cE)(n:ByteArray):AV × List (Nat × Rs):=(.tup [.agg [.p none (.str ((cX c n).1.name)),vI ((cX c n).1.arity),vI ((cX c n).1.rowCount),.own 0],vB ((cX c n).2)],[(0,.arr 220 3 true ((cX c n).1.groups.map aD))])
abbrev aNL (c:cE)(n:ByteArray):Prop:=Cn 76 [.agg [.int .i64 c.version,.sl 88 4 (c.tables.map aG)],.one (.str n)] (aE1 c n).1 (aE1 c n).2
theorem aR5 (c:cE)(n:ByteArray)(hc:bS c<=1048576):aNL c n:=by
 refine cq Tryz.func76 (.loop Nat (Q1 Nat) (rg 6 24) [] (fun k=>[(6,vI (k:Int))]) (fun k=>[]) (fun k=>k<=c.tables.length/\(c.tables.take k).all (fun y=> !rY n y)=true) (fun k=>c.tables.length - k) (fun k=> .len c.tables.length<| .br (.elem _ aG c.tables (fun e17=> .br (.elem _ aG c.tables (fun e26=> .call (vB (cJ e26)) []<| .lit<| .br (.elem _ aG c.tables (fun e33=>bH (aB6 e33)<| .fin [(0,3500)])) (.back []))) (.back []))) (.fin []))) (p:=Lx (c.tables.map aG)<| (∃(k:Nat),0=(k:Int)/\k<=c.tables.length/\(c.tables.take k).all (fun y=> !rY n y)=true)/\ ∀(k:Nat),(k<=c.tables.length/\(c.tables.take k).all (fun y=> !rY n y)=true)->Lm aG c.tables/\Br ((k:Int)<(c.tables.length:Int)) (0<=(k:Int)/\Em aG c.tables k fun e17=>Bb (e17.name.toList==n.toList) (0<=(k:Int)/\Em aG c.tables k fun e26=>vK e26/\Bb (cJ e26) (0<=(k:Int)/\Em aG c.tables k fun e33=>aHL e33/\e33.name=((cX c n).1.name)/\e33.arity=((cX c n).1.arity)/\e33.rowCount=((cX c n).1.rowCount)/\(true)=((cX c n).2)/\e33.groups.map aD=(cX c n).1.groups.map aD/\True) (bK ((k:Int)+1)/\ ∃(k' :Nat),((k:Int)+1)=(k' :Int)/\(k' <=c.tables.length/\(c.tables.take k').all (fun y=> !rY n y)=true)/\c.tables.length - k' <c.tables.length - k)) (bK ((k:Int)+1)/\ ∃(k' :Nat),((k:Int)+1)=(k' :Int)/\(k' <=c.tables.length/\(c.tables.take k').all (fun y=> !rY n y)=true)/\c.tables.length - k' <c.tables.length - k)) (ByteArray.empty=((cX c n).1.name)/\0=((cX c n).1.arity)/\0=((cX c n).1.rowCount)/\(false)=((cX c n).2)/\[]=(cX c n).1.groups.map aD/\True)) (by kernel_rfl) ?_;refine lx fun n0=>?_;have hS:bS c=dU c.tables:=rfl;refine⟨⟨0,rfl,aCC _,rfl⟩,fun k ⟨hk,ha⟩=>?_⟩;refine⟨aA8 _,dd (fun c0=>?_) fun c0=>?_⟩
 ·refine⟨by omega,rfl,by omega,fun e17 h17=>?_⟩
  try (obtain rfl:=(aW h17 h17).symm)
  have q1:=kJ h17;refine db (fun g22=>?_) fun g22=>?_
  ·refine⟨by omega,rfl,by omega,fun e26 h26=>?_⟩
   try (obtain rfl:=(aW h17 h26).symm)
   refine⟨aHA _ (by omega),db (fun c1=>?_) fun c1=>?_⟩
   ·have hf:=aLN (p:=rY n) h17 ha (by simp[rY,g22,c1]);refine⟨by omega,rfl,by omega,fun e33 h33=>?_⟩
    try (obtain rfl:=(aW h17 h33).symm)
    refine⟨aUK _ (by omega),?_,?_,?_,?_,?_,trivial⟩<;>((rw[aDc hf]<;>rfl))
   ·refine⟨⟨by omega,by omega⟩,?_⟩;exact⟨k+1,rfl,⟨by omega,cG h17 ha (by (simp[rY,g22,c1];done))⟩,by omega⟩
  ·refine⟨⟨by omega,by omega⟩,?_⟩;exact⟨k+1,rfl,⟨by omega,cG h17 ha (by (simp[rY,g22];done))⟩,by omega⟩
 ·have hall:=aLO (cY (by omega) ha);apply et5<;>((rw[aHM hall]<;>rfl))
def gM (d:aU)(q:QueryD):Bool:=cK q&&q.atoms.all fun a=>(aL d a.name).2&&decide ((aL d a.name).1.arity=(a.vars.length:Nat))
def qOk (s:StoreD)(q:QueryD)(m:Int):Bool:=gT s&&(gM s.database q&&eC m 1 (nK q))
def gN (s:StoreD)(q:QueryD)(i:Nat):aM:=(cX s.catalogue (q.atoms.getD i iL).name).1
theorem aR6 {d:aU}{q:QueryD}(h:gM d q=true):cK q=true/\ ∀a∈q.atoms,(aL d a.name).2=true/\(aL d a.name).1.arity=(a.vars.length:Nat):=by
 simp only[gM,aB4] at h;exact⟨h.1,fun a ha=>by simpa using aIZ.1 h.2 a ha⟩
theorem aDd {s:StoreD}{q:QueryD}{m:Int}(h:qOk s q m=true):gT s=true/\gM s.database q=true/\cK q=true/\1<=m/\m<=1*2^q.atoms.length - 1/\m<=15/\jK q m=true/\(1<=q.atoms.length/\q.atoms.length<=4):=by
 simp only[qOk,aB4] at h;have h1:=eA h.2.2;have h2:=(aR6 h.2.1).1;have h3:=fU h2;have h4:=mF h3.2.1;rw[aDa h2] at h1;exact⟨h.1,h.2.1,h2,h1.1,h1.2,by omega,by rw[jK,h2,pU (by omega) h1.2];rfl,h3.2.1⟩
abbrev aHN (d:aU)(q:QueryD):Prop:=Cn 82 [.agg [.sl 142 3 (d.tables.map aS)],.agg [.int .i64 q.variableCount,.sl 125 2 (q.atoms.map bI)]] (vB (gM d q)) []
theorem aUL (d:aU)(q:QueryD)(hc:bN d<=1048576):aHN d q:=by
 refine cq Tryz.func82 (.call (vB (cK q)) []<| .br (.fin []) (.len q.atoms.length<| .loop Nat (Q1 Nat) ([6,7,8]++rg 15 22) [600,700] (fun k=>[(15,vI (k:Int))]) (fun k=>[]) (fun k=>k<=q.atoms.length/\(q.atoms.take k).all (fun a=>(aL d a.name).2&&decide ((aL d a.name).1.arity=(a.vars.length:Nat)))=true) (fun k=>q.atoms.length - k) (fun k=> .br (.elem _ bI q.atoms (fun e17=> .call (.tup [.agg [.p none (.str ((aL d e17.name).1.name)),vI ((aL d e17.name).1.arity),.p none (.sl 91 1 ((aL d e17.name).1.rows.map aC))],vB ((aL d e17.name).2)]) []<| .br (.fin []) (.len e17.vars.length<| .lit<| .lit<| .br (.fin []) (.back [])))) (.fin [])))) (p:=Lx (d.tables.map aS)<| Lx (q.atoms.map bI)<| vM q/\Nr (cK q) ((false)=(gM d q)/\True) (Lm bI q.atoms/\((∃(k:Nat),0=(k:Int)/\k<=q.atoms.length/\(q.atoms.take k).all (fun a=>(aL d a.name).2&&decide ((aL d a.name).1.arity=(a.vars.length:Nat)))=true)/\ ∀(k:Nat),(k<=q.atoms.length/\(q.atoms.take k).all (fun a=>(aL d a.name).2&&decide ((aL d a.name).1.arity=(a.vars.length:Nat)))=true)->Br ((k:Int)<(q.atoms.length:Int)) (0<=(k:Int)/\Em bI q.atoms k fun e17=>qI Tryz.prog 86 [.agg [.sl 142 3 (d.tables.map aS)],.one (.str e17.name)] (.tup [.agg [.p none (.str ((aL d e17.name).1.name)),vI ((aL d e17.name).1.arity),.p none (.sl 91 1 ((aL d e17.name).1.rows.map aC))],vB ((aL d e17.name).2)]) []/\Nr ((aL d e17.name).2) ((false)=(gM d q)/\True) (Lm intD e17.vars/\Nb (((aL d e17.name).1.arity)=(e17.vars.length:Int)) ((false)=(gM d q)/\True) (bK ((k:Int)+1)/\ ∃(k' :Nat),((k:Int)+1)=(k' :Int)/\(k' <=q.atoms.length/\(q.atoms.take k').all (fun a=>(aL d a.name).2&&decide ((aL d a.name).1.arity=(a.vars.length:Nat)))=true)/\q.atoms.length - k' <q.atoms.length - k))) ((true)=(gM d q)/\True)))) (by kernel_rfl) ?_;refine lx fun n0=>lx fun n1=>?_;refine⟨aHJ q,dm (fun c0=>?_) fun c0=>?_⟩
 ·apply et1
  ·(rw[gM,c0];rfl)
 ·refine⟨aA8 _,⟨0,rfl,aCC _,rfl⟩,fun k ⟨hk,ha⟩=>?_⟩;refine dd (fun c1=>?_) fun c1=>?_
  ·refine⟨by omega,rfl,by omega,fun e17 h17=>?_⟩
   try (obtain rfl:=(aW h17 h17).symm)
   refine⟨jP (rK _ e17.name (by omega)) rfl,dm (fun g28=>?_) fun g28=>?_⟩
   ·have hA:((aL d e17.name).2&&decide ((aL d e17.name).1.arity=(e17.vars.length:Nat)))=false:=by (rw[g28];rfl)
    apply et1
    ·(rw[gM,eJ h17 hA,Bool.and_false];done)
   ·refine⟨aA8 _,dn (fun c2=>?_) fun c2=>?_⟩
    ·have hA:((aL d e17.name).2&&decide ((aL d e17.name).1.arity=(e17.vars.length:Nat)))=false:=by (rw[g28];simp[c2];done)
     apply et1
     ·(rw[gM,eJ h17 hA,Bool.and_false];done)
    ·have hA:((aL d e17.name).2&&decide ((aL d e17.name).1.arity=(e17.vars.length:Nat)))=true:=by rw[g28];simp[c2]
     refine⟨⟨by omega,by omega⟩,?_⟩;exact⟨k+1,rfl,⟨by omega,cG h17 ha hA⟩,by omega⟩
  ·apply et1
   ·(rw[gM,c0,cY (by omega) ha];rfl)
abbrev aE3 (q:QueryD):Prop:=Cn 84 [.agg [.int .i64 q.variableCount,.sl 125 2 (q.atoms.map bI)]] (vI (nK q)) []
theorem aR7 (q:QueryD):aE3 q:=by
 refine cq Tryz.func84 (.call (vB (cK q)) []<| .br (.fin []) (.len q.atoms.length<| .fin [])) (p:=Lx (q.atoms.map bI)<| vM q/\Nr (cK q) (0=(nK q)/\True) (Lm bI q.atoms/\(0<=(q.atoms.length:Int)/\(q.atoms.length:Int)<=64)/\bK ((1:Int)*2^q.atoms.length)/\bK (((1:Int)*2^q.atoms.length) - 1)/\(((1:Int)*2^q.atoms.length) - 1)=(nK q)/\True)) (by kernel_rfl) ?_;refine lx fun n0=>?_;refine⟨aHJ q,dm (fun c0=>?_) fun c0=>?_⟩
 ·apply et1
  ·(rw[aNA c0];done)
 ·have w:=mF (fU c0).2.1;have w2:=(fU c0).2.1;refine⟨aA8 _,⟨by omega,by omega⟩,⟨by omega,by omega⟩,⟨by omega,by omega⟩,?_,trivial⟩
  ·(rw[aDa c0];done)
abbrev aHO (d:aU)(q:QueryD):Prop:=Cn 73 [.agg [.sl 142 3 (d.tables.map aS)],.agg [.int .i64 q.variableCount,.sl 125 2 (q.atoms.map bI)]] (vB (gM d q)) []
theorem aUM (d:aU)(q:QueryD)(hc:bN d<=1048576):aHO d q:=by
 refine cq Tryz.func73 (.call (vB (cK q)) []<| .br (.fin []) (.loop Nat (Q1 Nat) ([5,6,7]++rg 11 32) [600] (fun k=>[(5,vI (k:Int))]) (fun k=>[]) (fun k=>k<=q.atoms.length/\(q.atoms.take k).all (fun a=>(aL d a.name).2&&decide ((aL d a.name).1.arity=(a.vars.length:Nat)))=true) (fun k=>q.atoms.length - k) (fun k=> .len q.atoms.length<| .br (.elem _ bI q.atoms (fun e23=> .call (.tup [.agg [.p none (.str ((aL d e23.name).1.name)),vI ((aL d e23.name).1.arity),.p none (.sl 91 1 ((aL d e23.name).1.rows.map aC))],vB ((aL d e23.name).2)]) []<| .br (.fin []) (.elem _ bI q.atoms (fun e37=> .len e37.vars.length<| .lit<| .lit<| .br (.fin []) (.back []))))) (.fin [])))) (p:=Lx (d.tables.map aS)<| Lx (q.atoms.map bI)<| vN q/\Nr (cK q) ((false)=(gM d q)/\True) ((∃(k:Nat),0=(k:Int)/\k<=q.atoms.length/\(q.atoms.take k).all (fun a=>(aL d a.name).2&&decide ((aL d a.name).1.arity=(a.vars.length:Nat)))=true)/\ ∀(k:Nat),(k<=q.atoms.length/\(q.atoms.take k).all (fun a=>(aL d a.name).2&&decide ((aL d a.name).1.arity=(a.vars.length:Nat)))=true)->Lm bI q.atoms/\Br ((k:Int)<(q.atoms.length:Int)) (0<=(k:Int)/\Em bI q.atoms k fun e23=>qI Tryz.prog 126 [.agg [.sl 142 3 (d.tables.map aS)],.one (.str e23.name)] (.tup [.agg [.p none (.str ((aL d e23.name).1.name)),vI ((aL d e23.name).1.arity),.p none (.sl 91 1 ((aL d e23.name).1.rows.map aC))],vB ((aL d e23.name).2)]) []/\Nr ((aL d e23.name).2) ((false)=(gM d q)/\True) (0<=(k:Int)/\Em bI q.atoms k fun e37=>Lm intD e37.vars/\Nb (((aL d e23.name).1.arity)=(e37.vars.length:Int)) ((false)=(gM d q)/\True) (bK ((k:Int)+1)/\ ∃(k' :Nat),((k:Int)+1)=(k' :Int)/\(k' <=q.atoms.length/\(q.atoms.take k').all (fun a=>(aL d a.name).2&&decide ((aL d a.name).1.arity=(a.vars.length:Nat)))=true)/\q.atoms.length - k' <q.atoms.length - k))) ((true)=(gM d q)/\True))) (by kernel_rfl) ?_;refine lx fun n0=>lx fun n1=>?_;refine⟨aHK q,dm (fun c0=>?_) fun c0=>?_⟩
 ·apply et1
  ·(rw[gM,c0];rfl)
 ·refine⟨⟨0,rfl,aCC _,rfl⟩,fun k ⟨hk,ha⟩=>?_⟩;refine⟨aA8 _,dd (fun c1=>?_) fun c1=>?_⟩
  ·refine⟨by omega,rfl,by omega,fun e23 h23=>?_⟩
   try (obtain rfl:=(aW h23 h23).symm)
   refine⟨jP (rL _ e23.name (by omega)) rfl,dm (fun g31=>?_) fun g31=>?_⟩
   ·have hA:((aL d e23.name).2&&decide ((aL d e23.name).1.arity=(e23.vars.length:Nat)))=false:=by (rw[g31];rfl)
    apply et1
    ·(rw[gM,eJ h23 hA,Bool.and_false];done)
   ·refine⟨by omega,rfl,by omega,fun e37 h37=>?_⟩
    try (obtain rfl:=(aW h23 h37).symm)
    refine⟨aA8 _,dn (fun c2=>?_) fun c2=>?_⟩
    ·have hA:((aL d e23.name).2&&decide ((aL d e23.name).1.arity=(e23.vars.length:Nat)))=false:=by (rw[g31];simp[c2];done)
     apply et1
     ·(rw[gM,eJ h23 hA,Bool.and_false];done)
    ·have hA:((aL d e23.name).2&&decide ((aL d e23.name).1.arity=(e23.vars.length:Nat)))=true:=by rw[g31];simp[c2]
     refine⟨⟨by omega,by omega⟩,?_⟩;exact⟨k+1,rfl,⟨by omega,cG h23 ha hA⟩,by omega⟩
  ·apply et1
   ·(rw[gM,c0,cY (by omega) ha];rfl)
abbrev aE4 (q:QueryD):Prop:=Cn 75 [.agg [.int .i64 q.variableCount,.sl 125 2 (q.atoms.map bI)]] (vI (nK q)) []
theorem aR8 (q:QueryD):aE4 q:=by
 refine cq Tryz.func75 (.call (vB (cK q)) []<| .br (.fin []) (.len q.atoms.length<| .fin [])) (p:=Lx (q.atoms.map bI)<| vN q/\Nr (cK q) (0=(nK q)/\True) (Lm bI q.atoms/\(0<=(q.atoms.length:Int)/\(q.atoms.length:Int)<=64)/\bK ((1:Int)*2^q.atoms.length)/\bK (((1:Int)*2^q.atoms.length) - 1)/\(((1:Int)*2^q.atoms.length) - 1)=(nK q)/\True)) (by kernel_rfl) ?_;refine lx fun n0=>?_;refine⟨aHK q,dm (fun c0=>?_) fun c0=>?_⟩
 ·apply et1
  ·(rw[aNA c0];done)
 ·have w:=mF (fU c0).2.1;have w2:=(fU c0).2.1;refine⟨aA8 _,⟨by omega,by omega⟩,⟨by omega,by omega⟩,⟨by omega,by omega⟩,?_,trivial⟩
  ·(rw[aDa c0];done)
abbrev aB7 (m:Int):AV × List (Nat × Rs):=(.own 0,[(0,.arr 3 1 true ((fA m).map intD))])
abbrev aHP (m:Int):Prop:=Cn 85 [.one (.int .i64 m)] (aB7 m).1 (aB7 m).2
theorem aUN (m:Int):aHP m:=by
 refine cq Tryz.func85 (.call (vB (eC m (0:Int) (15:Int))) []<| .br (.fin []) (.loop (Nat × (List Int)) (Q2 Nat (List Int)) ([3,4]++rg 8 14) [800,2000,2100] (fun yy0=>[(4,vI (yy0.1:Int)),(3,.own 800)]) (fun yy0=>[(800,some (.arr 3 1 true (yy0.2.map intD)))]) (fun yy0=>yy0.1<=4/\yy0.2=gL (fL m) yy0.1) (fun yy0=>4 - yy0.1) (fun yy0=> .br (.br (.app Int intD yy0.2 ([(yy0.1:Int)]:List Int)<| .back [(800,2100)]) (.back [(800,800)])) (.fin [(0,800)])))) (p:=eQ m (0:Int) (15:Int)/\Nr (eC m (0:Int) (15:Int)) ([]=(fA m).map intD/\True) ((∃(i:Nat) (out:List Int),0=(i:Int)/\[]=out.map intD/\i<=4/\out=gL (fL m) i)/\ ∀(i:Nat) (out:List Int),(i<=4/\out=gL (fL m) i)->Br ((i:Int)<4) ((0<=(i:Int)/\(i:Int)<=64)/\Br ((cD .and .i64 (m/2^i) (1:Int))=1) (Ap intD out ([(i:Int)]:List Int) 8 (bK ((i:Int)+1)/\ ∃(i' :Nat) (out' :List Int),((i:Int)+1)=(i' :Int)/\(out++[(i:Int)]).map intD=out'.map intD/\(i' <=4/\out' =gL (fL m) i')/\4 - i' <4 - i)) (bK ((i:Int)+1)/\ ∃(i' :Nat) (out' :List Int),((i:Int)+1)=(i' :Int)/\out.map intD=out'.map intD/\(i' <=4/\out' =gL (fL m) i')/\4 - i' <4 - i)) (out.map intD=(fA m).map intD/\True))) (by kernel_rfl) ?_;refine⟨iR _ _ _,dm (fun c0=>?_) fun c0=>?_⟩
 ·apply et1
  ·(rw[aMz c0];rfl)
 ·refine⟨⟨0,([]:List Int),rfl,rfl,by omega,rfl⟩,fun i out ⟨hi,ho⟩=>?_⟩;refine dd (fun c1=>?_) fun c1=>?_
  ·refine⟨⟨by omega,by omega⟩,dd (fun c2=>?_) fun c2=>?_⟩
   ·refine ap ?_ (fun _=>rfl) (by (rw[ho];have:=yS (fL m) i;simp only[aPS,List.length_nil];omega));refine⟨⟨by omega,by omega⟩,?_⟩;exact⟨i+1,_,rfl,rfl,⟨by omega,by (rw[ho,yR (aFV c2)];done)⟩,by omega⟩
   ·refine⟨⟨by omega,by omega⟩,?_⟩;exact⟨i+1,_,rfl,rfl,⟨by omega,by (rw[ho,aA6 (aD8 c2)];done)⟩,by omega⟩
  ·apply et1
   ·(rw[aD9 c0,ho,show i=4 by omega])
abbrev aHQ (q:QueryD)(m:Int):Prop:=Cn 156 [.agg [.int .i64 q.variableCount,.sl 125 2 (q.atoms.map bI)],.one (.int .i64 m)] (vB (jK q m)) []
theorem aUO (q:QueryD)(m:Int):aHQ q m:=by
 refine cq Tryz.func156 (.call (vB (cK q)) []<| .br (.len q.atoms.length<| .call (vB (eC m (0:Int) (((1:Int)*2^q.atoms.length) - 1))) []<| .fin []) (.fin [])) (p:=Lx (q.atoms.map bI)<| vM q/\Bb (cK q) (Lm bI q.atoms/\(0<=(q.atoms.length:Int)/\(q.atoms.length:Int)<=64)/\bK ((1:Int)*2^q.atoms.length)/\bK (((1:Int)*2^q.atoms.length) - 1)/\eQ m (0:Int) (((1:Int)*2^q.atoms.length) - 1)/\(eC m (0:Int) (((1:Int)*2^q.atoms.length) - 1))=(jK q m)/\True) ((false)=(jK q m)/\True)) (by kernel_rfl) ?_;refine lx fun n0=>?_;refine⟨aHJ q,db (fun g7=>?_) fun g7=>?_⟩
 ·have w:=mF (fU g7).2.1;have w2:=(fU g7).2.1;refine⟨aA8 _,⟨by omega,by omega⟩,⟨by omega,by omega⟩,⟨by omega,by omega⟩,iR _ _ _,?_,trivial⟩
  ·(rw[jK,g7];rfl)
 ·apply et1
  ·(rw[jK,g7];rfl)
abbrev aHR (q:QueryD)(m:Int):Prop:=Cn 141 [.agg [.int .i64 q.variableCount,.sl 125 2 (q.atoms.map bI)],.one (.int .i64 m)] (vB (jK q m)) []
theorem aUP (q:QueryD)(m:Int):aHR q m:=by
 refine cq Tryz.func141 (.call (vB (cK q)) []<| .br (.len q.atoms.length<| .call (vB (eC m (0:Int) (((1:Int)*2^q.atoms.length) - 1))) []<| .fin []) (.fin [])) (p:=Lx (q.atoms.map bI)<| vN q/\Bb (cK q) (Lm bI q.atoms/\(0<=(q.atoms.length:Int)/\(q.atoms.length:Int)<=64)/\bK ((1:Int)*2^q.atoms.length)/\bK (((1:Int)*2^q.atoms.length) - 1)/\eR m (0:Int) (((1:Int)*2^q.atoms.length) - 1)/\(eC m (0:Int) (((1:Int)*2^q.atoms.length) - 1))=(jK q m)/\True) ((false)=(jK q m)/\True)) (by kernel_rfl) ?_;refine lx fun n0=>?_;refine⟨aHK q,db (fun g7=>?_) fun g7=>?_⟩
 ·have w:=mF (fU g7).2.1;have w2:=(fU g7).2.1;refine⟨aA8 _,⟨by omega,by omega⟩,⟨by omega,by omega⟩,⟨by omega,by omega⟩,iS _ _ _,?_,trivial⟩
  ·(rw[jK,g7];rfl)
 ·apply et1
  ·(rw[jK,g7];rfl)
abbrev zB (q:QueryD)(m:Int):AV × List (Nat × Rs):=(.own 0,[(0,.arr 3 1 true ((aEJ q m).map intD))])
abbrev aE5 (q:QueryD)(m:Int):Prop:=Cn 157 [.agg [.int .i64 q.variableCount,.sl 125 2 (q.atoms.map bI)],.one (.int .i64 m)] (zB q m).1 (zB q m).2
theorem aR9 (q:QueryD)(m:Int)(hq:cK q=true):aE5 q m:=by
 refine cq Tryz.func157 (.loop (Nat × (List Int)) (Q2 Nat (List Int)) (rg 5 35) [800,900,3700,3800] (fun yy0=>[(6,vI (yy0.1:Int)),(5,.own 900)]) (fun yy0=>[(900,some (.arr 3 1 true (yy0.2.map intD)))]) (fun yy0=>(yy0.1:Int)<=q.variableCount/\yy0.2=gL (inM q m) yy0.1) (fun yy0=>q.variableCount.toNat - yy0.1) (fun yy0=> .br (.len q.atoms.length<| .loop Nat (Q1 Nat) ([7,8]++rg 19 16++[39]) [800] (fun i=>[(19,vI (i:Int))]) (fun i=>[]) (fun i=>i<=q.atoms.length/\vH q m i yy0.1=false) (fun i=>q.atoms.length - i) (fun i=> .br (.elem _ bI q.atoms (fun e22=> .br (.call (vB (decide ((yy0.1:Int)∈e22.vars))) []<| .lit<| .br (.app Int intD yy0.2 ([(yy0.1:Int)]:List Int)<| .back [(900,3800)]) (.back [])) (.back []))) (.back [(900,900)]))) (.fin [(0,900)]))) (p:=Lx (q.atoms.map bI)<| (∃(v:Nat) (out:List Int),0=(v:Int)/\[]=out.map intD/\(v:Int)<=q.variableCount/\out=gL (inM q m) v)/\ ∀(v:Nat) (out:List Int),((v:Int)<=q.variableCount/\out=gL (inM q m) v)->Br ((v:Int)<q.variableCount) (Lm bI q.atoms/\((∃(i:Nat),0=(i:Int)/\i<=q.atoms.length/\vH q m i v=false)/\ ∀(i:Nat),(i<=q.atoms.length/\vH q m i v=false)->Br ((i:Int)<(q.atoms.length:Int)) (0<=(i:Int)/\Em bI q.atoms i fun e22=>(0<=(i:Int)/\(i:Int)<=64)/\Br ((cD .and .i64 (m/2^i) (1:Int))=1) (aMt e22.vars (v:Int)/\Bb (decide ((v:Int)∈e22.vars)) (Ap intD out ([(v:Int)]:List Int) 8 (bK ((v:Int)+1)/\ ∃(v' :Nat) (out' :List Int),((v:Int)+1)=(v' :Int)/\(out++[(v:Int)]).map intD=out'.map intD/\((v' :Int)<=q.variableCount/\out' =gL (inM q m) v')/\q.variableCount.toNat - v' <q.variableCount.toNat - v)) (bK ((i:Int)+1)/\ ∃(i' :Nat),((i:Int)+1)=(i' :Int)/\(i' <=q.atoms.length/\vH q m i' v=false)/\q.atoms.length - i' <q.atoms.length - i)) (bK ((i:Int)+1)/\ ∃(i' :Nat),((i:Int)+1)=(i' :Int)/\(i' <=q.atoms.length/\vH q m i' v=false)/\q.atoms.length - i' <q.atoms.length - i)) (bK ((v:Int)+1)/\ ∃(v' :Nat) (out' :List Int),((v:Int)+1)=(v' :Int)/\out.map intD=out'.map intD/\((v' :Int)<=q.variableCount/\out' =gL (inM q m) v')/\q.variableCount.toNat - v' <q.variableCount.toNat - v))) (out.map intD=(aEJ q m).map intD/\True)) (by kernel_rfl) ?_;refine lx fun n0=>?_;have w:=(fU hq).1;have w2:=(fU hq).2.1;refine⟨⟨0,([]:List Int),rfl,rfl,by omega,rfl⟩,fun v out ⟨hv,ho⟩=>?_⟩;refine dd (fun c0=>?_) fun c0=>?_
 ·refine⟨aA8 _,⟨0,rfl,aCC _,rfl⟩,fun i ⟨hi,hn⟩=>?_⟩;refine dd (fun c1=>?_) fun c1=>?_
  ·refine⟨by omega,rfl,by omega,fun e22 h22=>?_⟩;refine⟨⟨by omega,by omega⟩,dd (fun g29=>?_) fun g29=>?_⟩
   ·refine⟨ctI _ _,db (fun c2=>?_) fun c2=>?_⟩
    ·have hT:inM q m v=true:=aWT h22 (aFV g29) c2;refine ap ?_ (fun _=>rfl) (by (rw[ho];have:=yS (inM q m) v;simp only[aPS,List.length_nil];omega));refine⟨⟨by omega,by omega⟩,?_⟩;exact⟨v+1,_,rfl,rfl,⟨by omega,by (rw[ho,yR hT];done)⟩,by omega⟩
    ·refine⟨⟨by omega,by omega⟩,?_⟩;exact⟨i+1,rfl,⟨by omega,by rw[aA7,hn,bM h22];(rw[c2];simp;done)⟩,by omega⟩
   ·refine⟨⟨by omega,by omega⟩,?_⟩;exact⟨i+1,rfl,⟨by omega,by rw[aA7,hn,bM h22];(rw[aD8 g29];rfl)⟩,by omega⟩
  ·have hF:inM q m v=false:=by rw[inM,show q.atoms.length=i by omega];exact hn
   refine⟨⟨by omega,by omega⟩,?_⟩;exact⟨v+1,_,rfl,rfl,⟨by omega,by (rw[ho,aA6 hF];done)⟩,by omega⟩
 ·apply et1
  ·rw[aEJ,ho,show q.variableCount.toNat=v by omega]
abbrev zC (q:QueryD)(m:Int):AV × List (Nat × Rs):=(.own 0,[(0,.arr 3 1 true ((dZ q m).map intD))])
abbrev aE6 (q:QueryD)(m:Int):Prop:=Cn 100 [.agg [.int .i64 q.variableCount,.sl 125 2 (q.atoms.map bI)],.one (.int .i64 m)] (zC q m).1 (zC q m).2
theorem aRa (q:QueryD)(m:Int):aE6 q m:=by
 refine cq Tryz.func100 (.call (vB (jK q m)) []<| .br (.fin []) (bH (zB q m)<| .fin [(0,1100)])) (p:=Lx (q.atoms.map bI)<| aHQ q m/\Nr (jK q m) ([]=(dZ q m).map intD/\True) (aE5 q m/\(aEJ q m).map intD=(dZ q m).map intD/\True)) (by kernel_rfl) ?_;refine lx fun n0=>?_;refine⟨aUO _ m,dm (fun c0=>?_) fun c0=>?_⟩
 ·apply et1
  ·(rw[aMy c0];rfl)
 ·refine⟨aR9 q m (by exact(vJ (q:=q) (m:=m) (by assumption)).1),?_,trivial⟩
  ·(rw[aJx c0])
abbrev aCn (q:QueryD)(m:Int):Prop:=Cn 143 [.agg [.int .i64 q.variableCount,.sl 125 2 (q.atoms.map bI)],.one (.int .i64 m)] (vI (m4 (inM q m))) []
theorem aOl (q:QueryD)(m:Int)(hq:cK q=true):aCn q m:=by
 refine cq Tryz.func143 (.loop (Nat × Int) (Q2 Nat Int) (rg 5 40) [] (fun yy0=>[(6,vI (yy0.1:Int)),(5,vI yy0.2)]) (fun yy0=>[]) (fun yy0=>yy0.1<=q.atoms.length/\yy0.2=m4 (vH q m yy0.1)) (fun yy0=>q.atoms.length - yy0.1) (fun yy0=> .len q.atoms.length<| .br (.loop (Nat × Int) (Q2 Nat Int) ([5,7]++rg 15 30) [] (fun yy1=>[(7,vI (yy1.1:Int)),(5,vI yy1.2)]) (fun yy1=>[]) (fun yy1=>yy1.1<=(q.atoms.getD yy0.1 iL).vars.length/\yy1.2=m4 (aFD q m (q.atoms.getD yy0.1 iL) yy0.1 yy1.1)) (fun yy1=>(q.atoms.getD yy0.1 iL).vars.length - yy1.1) (fun yy1=> .elem _ bI q.atoms (fun e19=> .len e19.vars.length<| .br (.lit<| .lit<| .lit<| .lit<| .lit<| .br (.elem _ bI q.atoms (fun e37=> .elem _ intD e37.vars (fun e41=> .back []))) (.back [])) (.back [])))) (.fin []))) (p:=Lx (q.atoms.map bI)<| (∃(i:Nat) (o:Int),0=(i:Int)/\0=o/\i<=q.atoms.length/\o=m4 (vH q m i))/\ ∀(i:Nat) (o:Int),(i<=q.atoms.length/\o=m4 (vH q m i))->Lm bI q.atoms/\Br ((i:Int)<(q.atoms.length:Int)) ((∃(k:Nat) (p:Int),0=(k:Int)/\o=p/\k<=(q.atoms.getD i iL).vars.length/\p=m4 (aFD q m (q.atoms.getD i iL) i k))/\ ∀(k:Nat) (p:Int),(k<=(q.atoms.getD i iL).vars.length/\p=m4 (aFD q m (q.atoms.getD i iL) i k))->0<=(i:Int)/\Em bI q.atoms i fun e19=>Lm intD e19.vars/\Br ((k:Int)<(e19.vars.length:Int)) ((0<=(i:Int)/\(i:Int)<=64)/\Br ((cD .and .i64 (m/2^i) (1:Int))=1) (0<=(i:Int)/\Em bI q.atoms i fun e37=>0<=(k:Int)/\Em intD e37.vars k fun e41=>(0<=e41/\e41<=64)/\bK ((1:Int)*2^(Int.toNat e41))/\bK ((k:Int)+1)/\ ∃(k' :Nat) (p' :Int),((k:Int)+1)=(k' :Int)/\(cD .or .i64 p ((1:Int)*2^(Int.toNat e41)))=p' /\(k' <=(q.atoms.getD i iL).vars.length/\p' =m4 (aFD q m (q.atoms.getD i iL) i k'))/\(q.atoms.getD i iL).vars.length - k' <(q.atoms.getD i iL).vars.length - k) (bK ((i:Int)+1)/\ ∃(i' :Nat) (o' :Int),((i:Int)+1)=(i' :Int)/\p=o' /\(i' <=q.atoms.length/\o' =m4 (vH q m i'))/\q.atoms.length - i' <q.atoms.length - i)) (bK ((i:Int)+1)/\ ∃(i' :Nat) (o' :Int),((i:Int)+1)=(i' :Int)/\p=o' /\(i' <=q.atoms.length/\o' =m4 (vH q m i'))/\q.atoms.length - i' <q.atoms.length - i)) (o=(m4 (inM q m))/\True)) (by kernel_rfl) ?_;refine lx fun n0=>?_;have w:=(fU hq).1;have w2:=(fU hq).2;refine⟨⟨0,(0:Int),rfl,rfl,aCC _,rfl⟩,fun i o ⟨hi,ho⟩=>?_⟩;refine⟨aA8 _,dd (fun c0=>?_) fun c0=>?_⟩
 ·obtain⟨a,ha⟩:=dA (l:=q.atoms) (k:=i) (by omega);have w3:=(aB0 (w2.2 a (aCf ha))).2;have hga:q.atoms.getD i iL=a:=bM ha;have hgl:(q.atoms.getD i iL).vars.length=a.vars.length:=by rw[hga]
  refine⟨⟨0,o,rfl,rfl,aCC _,by rw[ho,aRI]⟩,fun k p ⟨hk,hp⟩=>?_⟩;rw[hga] at hp;refine⟨by omega,rfl,by omega,fun e19 h19=>?_⟩;obtain rfl:=(aW ha h19).symm;refine⟨aA8 _,dd (fun g24=>?_) fun g24=>?_⟩
  ·refine⟨⟨by omega,by omega⟩,dd (fun c1=>?_) fun c1=>?_⟩
   ·refine⟨by omega,rfl,by omega,fun e37 h37=>?_⟩;obtain rfl:=(aW ha h37).symm;refine⟨by omega,rfl,by omega,fun e41 h41=>?_⟩;have w8:=w3.2 _ (aCf h41);obtain⟨w4,w5,w6⟩:=aDb (x:=e41) (pU (by omega) (by omega));refine⟨⟨by omega,by omega⟩,by exact w4,by exact⟨by omega,by omega⟩,?_⟩;exact⟨k+1,_,rfl,rfl,⟨by omega,by rw[hga,hp,aTu (by omega),aRJ (aFV c1) h41 (by omega)]⟩,by omega⟩
   ·refine⟨by exact⟨by omega,by omega⟩,?_⟩;exact⟨i+1,_,rfl,rfl,⟨by omega,by (rw[hp,aJy ha (.inl (aD8 c1))];done)⟩,by omega⟩
  ·refine⟨by exact⟨by omega,by omega⟩,?_⟩;exact⟨i+1,_,rfl,rfl,⟨by omega,by (rw[hp,aJy ha (.inr (by omega))];done)⟩,by omega⟩
 ·apply et1
  ·rw[ho,show i=q.atoms.length by omega];rfl
abbrev vO (m:Int):AV × List (Nat × Rs):=(.own 0,[(0,.arr 3 1 true ((gL (fL m) 4).map intD))])
abbrev aCo (m:Int):Prop:=Cn 142 [.one (.int .i64 m)] (vO m).1 (vO m).2
theorem aOm (m:Int):aCo m:=by
 refine cq Tryz.func142 (.loop (Nat × (List Int)) (Q2 Nat (List Int)) (rg 3 16) [500,1700,1800] (fun yy0=>[(4,vI (yy0.1:Int)),(3,.own 500)]) (fun yy0=>[(500,some (.arr 3 1 true (yy0.2.map intD)))]) (fun yy0=>yy0.1<=4/\yy0.2=gL (fL m) yy0.1) (fun yy0=>4 - yy0.1) (fun yy0=> .br (.br (.app Int intD yy0.2 ([(yy0.1:Int)]:List Int)<| .back [(500,1800)]) (.back [(500,500)])) (.fin [(0,500)]))) (p:=(∃(i:Nat) (out:List Int),0=(i:Int)/\[]=out.map intD/\i<=4/\out=gL (fL m) i)/\ ∀(i:Nat) (out:List Int),(i<=4/\out=gL (fL m) i)->Br ((i:Int)<4) ((0<=(i:Int)/\(i:Int)<=64)/\Br ((cD .and .i64 (m/2^i) (1:Int))=1) (Ap intD out ([(i:Int)]:List Int) 8 (bK ((i:Int)+1)/\ ∃(i' :Nat) (out' :List Int),((i:Int)+1)=(i' :Int)/\(out++[(i:Int)]).map intD=out'.map intD/\(i' <=4/\out' =gL (fL m) i')/\4 - i' <4 - i)) (bK ((i:Int)+1)/\ ∃(i' :Nat) (out' :List Int),((i:Int)+1)=(i' :Int)/\out.map intD=out'.map intD/\(i' <=4/\out' =gL (fL m) i')/\4 - i' <4 - i)) (out.map intD=(gL (fL m) 4).map intD/\True)) (by kernel_rfl) ?_;refine⟨⟨0,([]:List Int),rfl,rfl,by omega,rfl⟩,fun i out ⟨hi,ho⟩=>?_⟩;refine dd (fun c0=>?_) fun c0=>?_
 ·refine⟨⟨by omega,by omega⟩,dd (fun c1=>?_) fun c1=>?_⟩
  ·refine ap ?_ (fun _=>rfl) (by (rw[ho];have:=yS (fL m) i;simp only[aPS,List.length_nil];omega));refine⟨⟨by omega,by omega⟩,?_⟩;exact⟨i+1,_,rfl,rfl,⟨by omega,by (rw[ho,yR (aFV c1)];done)⟩,by omega⟩
  ·refine⟨⟨by omega,by omega⟩,?_⟩;exact⟨i+1,_,rfl,rfl,⟨by omega,by (rw[ho,aA6 (aD8 c1)];done)⟩,by omega⟩
 ·apply et1
  ·rw[ho,show i=4 by omega]
abbrev zD (q:QueryD)(m:Int):AV × List (Nat × Rs):=(.own 0,[(0,.arr 3 1 true ((dZ q m).map intD))])
abbrev aE7 (q:QueryD)(m:Int):Prop:=Cn 91 [.agg [.int .i64 q.variableCount,.sl 125 2 (q.atoms.map bI)],.one (.int .i64 m)] (zD q m).1 (zD q m).2
theorem aRb (q:QueryD)(m:Int):aE7 q m:=by
 refine cq Tryz.func91 (.call (vB (jK q m)) []<| .br (.fin [(0,900)]) (.call (vI (m4 (inM q m))) []<| bH (vO (m4 (inM q m)))<| .fin [(0,1300)])) (p:=Lx (q.atoms.map bI)<| aHR q m/\Nr (jK q m) ([]=(dZ q m).map intD/\True) (aCn q m/\aCo (m4 (inM q m))/\(gL (fL (m4 (inM q m))) 4).map intD=(dZ q m).map intD/\True)) (by kernel_rfl) ?_;refine lx fun n0=>?_;refine⟨aUP _ m,dm (fun c0=>?_) fun c0=>?_⟩
 ·apply et1
  ·(rw[aMy c0];rfl)
 ·refine⟨aOl q m (by exact(vJ (q:=q) (m:=m) (by assumption)).1),aOm (m4 (inM q m)),?_,trivial⟩
  ·(rw[aJx c0,aOe (vJ c0).1])
abbrev aHS (a:dC)(m:Int):Prop:=Cn 196 [.agg [.str a.name,.sl 3 1 (a.vars.map intD)],.one (.int .i64 m)] (vI (vsS m a.vars (min a.vars.length 3))) []
theorem aUQ (a:dC)(m:Int):aHS a m:=by
 refine cq Tryz.func196 (.loop (Nat × Int) (Q2 Nat Int) (rg 5 34) [] (fun yy0=>[(6,vI (yy0.1:Int)),(5,vI yy0.2)]) (fun yy0=>[]) (fun yy0=>(yy0.1<=a.vars.length/\yy0.1<=3)/\yy0.2=vsS m a.vars yy0.1) (fun yy0=>a.vars.length - yy0.1) (fun yy0=> .len a.vars.length<| .br (.lit<| .lit<| .br (.br (.elem _ intD a.vars (fun e27=> .call (vB (eC e27 (0:Int) (3:Int))) []<| .lit<| .br (.elem _ intD a.vars (fun e35=> .back [])) (.back []))) (.back [])) (.fin [])) (.fin []))) (p:=Lx (a.vars.map intD)<| (∃(k:Nat) (o:Int),0=(k:Int)/\0=o/\(k<=a.vars.length/\k<=3)/\o=vsS m a.vars k)/\ ∀(k:Nat) (o:Int),((k<=a.vars.length/\k<=3)/\o=vsS m a.vars k)->Lm intD a.vars/\Br ((k:Int)<(a.vars.length:Int)) (Br ((k:Int)<3) ((0<=(k:Int)/\(k:Int)<=64)/\Br ((cD .and .i64 (m/2^k) (1:Int))=1) (0<=(k:Int)/\Em intD a.vars k fun e27=>eR e27 (0:Int) (3:Int)/\Bb (eC e27 (0:Int) (3:Int)) (0<=(k:Int)/\Em intD a.vars k fun e35=>(0<=e35/\e35<=64)/\bK ((1:Int)*2^(Int.toNat e35))/\bK ((k:Int)+1)/\ ∃(k' :Nat) (o' :Int),((k:Int)+1)=(k' :Int)/\(cD .or .i64 o ((1:Int)*2^(Int.toNat e35)))=o' /\((k' <=a.vars.length/\k' <=3)/\o' =vsS m a.vars k')/\a.vars.length - k' <a.vars.length - k) (bK ((k:Int)+1)/\ ∃(k' :Nat) (o' :Int),((k:Int)+1)=(k' :Int)/\o=o' /\((k' <=a.vars.length/\k' <=3)/\o' =vsS m a.vars k')/\a.vars.length - k' <a.vars.length - k)) (bK ((k:Int)+1)/\ ∃(k' :Nat) (o' :Int),((k:Int)+1)=(k' :Int)/\o=o' /\((k' <=a.vars.length/\k' <=3)/\o' =vsS m a.vars k')/\a.vars.length - k' <a.vars.length - k)) (o=(vsS m a.vars (min a.vars.length 3))/\True)) (o=(vsS m a.vars (min a.vars.length 3))/\True)) (by kernel_rfl) ?_;refine lx fun n0=>?_;refine⟨⟨0,0,rfl,rfl,⟨aCC _,by omega⟩,rfl⟩,fun k o ⟨hk,hv⟩=>?_⟩;refine⟨aA8 _,dd (fun g12=>?_) fun g12=>?_⟩
 ·refine dd (fun c0=>?_) fun c0=>?_
  ·refine⟨⟨by omega,by omega⟩,dd (fun g23=>?_) fun g23=>?_⟩
   ·refine⟨by omega,rfl,by omega,fun e27 h27=>?_⟩
    try (obtain rfl:=(aW h27 h27).symm)
    refine⟨iS _ _ _,db (fun c1=>?_) fun c1=>?_⟩
    ·obtain⟨w1,w2,w3⟩:=aDb c1;refine⟨by omega,rfl,by omega,fun e35 h35=>?_⟩
     try (obtain rfl:=(aW h27 h35).symm)
     refine⟨⟨by omega,by omega⟩,by exact w1,by exact⟨by omega,by omega⟩,?_⟩;exact⟨k+1,_,rfl,rfl,⟨by omega,by (rw[aWU h27 g23 c1,hv];done)⟩,by omega⟩
    ·refine⟨by exact⟨by omega,by omega⟩,?_⟩;exact⟨k+1,_,rfl,rfl,⟨by omega,by (rw[aUH h27 (by simp[g23,c1]),hv];done)⟩,by omega⟩
   ·refine⟨by exact⟨by omega,by omega⟩,?_⟩;exact⟨k+1,_,rfl,rfl,⟨by omega,by (obtain⟨y,hy⟩:=dA (l:=a.vars) (k:=k) (by omega);rw[aUH hy (by simp[g23]),hv])⟩,by omega⟩
  ·apply et1
   ·(rw[hv];congr 1;omega)
 ·apply et1
  ·(rw[hv];congr 1;omega)
abbrev zE (x:aM)(a:dC):AV × List (Nat × Rs):=(.own 0,[(0,.arr 192 3 true ((mG x a).map aE))])
abbrev aE8 (x:aM)(a:dC):Prop:=Cn 155 [.agg [.str x.name,.int .i64 x.arity,.int .i64 x.rowCount,.sl 220 3 (x.groups.map aD)],.agg [.str a.name,.sl 3 1 (a.vars.map intD)]] (zE x a).1 (zE x a).2
theorem aRc (x:aM)(a:dC)(hc:bF x<=1048576)(ha:jR a<=1048576):aE8 x a:=by
 refine cq Tryz.func155 (.call (vB (cJ x)) []<| .br (.fin []) (.lit<| .lit<| .lit<| .br (.fin []) (.len a.vars.length<| .lit<| .lit<| .lit<| .lit<| .br (.fin []) (.loop (Nat × (List aI)) (Q2 Nat (List aI)) ([5,6,7,8,9]++rg 26 31) [2600,3600,4100,5500,5600] (fun yy0=>[(6,vI (yy0.1:Int)),(5,.own 2600)]) (fun yy0=>[(2600,some (.arr 192 3 true (yy0.2.map aE)))]) (fun yy0=>yy0.1<=((2:Int)^x.arity.toNat - 1).toNat/\yy0.2=(List.range yy0.1).map (tcC x a)) (fun yy0=>((2:Int)^x.arity.toNat - 1).toNat - yy0.1) (fun yy0=> .br (bH (sM (yy0.1:Int))<| bH (oH a.vars (eS (yy0.1:Int)))<| .call (vI (iE ((fH a.vars (eS (yy0.1:Int))).1))) []<| .call (vI (iE a.vars)) []<| .call (vI ((iO x (eS (yy0.1:Int))).getD 0 0)) []<| .call (vI (rW ((iO x (eS (yy0.1:Int))).getD 0 0))) []<| .app aI aE yy0.2 ([(⟨iE ((fH a.vars (eS (yy0.1:Int))).1),iE a.vars,rW ((iO x (eS (yy0.1:Int))).getD 0 0)⟩:aI)]:List aI)<| .back [(2600,5600)]) (.fin [(0,2600)])))))) (p:=Lx (x.groups.map aD)<| Lx (a.vars.map intD)<| aBV x/\Nr (cJ x) ([]=(mG x a).map aE/\True) (Br (x.rowCount=0) ([]=(mG x a).map aE/\True) (Lm intD a.vars/\Nb ((a.vars.length:Int)=x.arity) ([]=(mG x a).map aE/\True) ((∃(m:Nat) (out:List aI),0=(m:Int)/\[]=out.map aE/\m<=((2:Int)^x.arity.toNat - 1).toNat/\out=(List.range m).map (tcC x a))/\ ∀(m:Nat) (out:List aI),(m<=((2:Int)^x.arity.toNat - 1).toNat/\out=(List.range m).map (tcC x a))->(0<=x.arity/\x.arity<=64)/\bK ((1:Int)*2^(Int.toNat x.arity))/\bK (((1:Int)*2^(Int.toNat x.arity)) - 1)/\Br ((m:Int)<(((1:Int)*2^(Int.toNat x.arity)) - 1)) (yK (m:Int)/\rF a.vars (eS (m:Int))/\yW ((fH a.vars (eS (m:Int))).1)/\yW a.vars/\aEO x (eS (m:Int))/\aEQ ((iO x (eS (m:Int))).getD 0 0)/\Ap aE out ([(⟨iE ((fH a.vars (eS (m:Int))).1),iE a.vars,rW ((iO x (eS (m:Int))).getD 0 0)⟩:aI)]:List aI) 24 (bK ((m:Int)+1)/\ ∃(m' :Nat) (out' :List aI),((m:Int)+1)=(m' :Int)/\(out++[(⟨iE ((fH a.vars (eS (m:Int))).1),iE a.vars,rW ((iO x (eS (m:Int))).getD 0 0)⟩:aI)]).map aE=out'.map aE/\(m' <=((2:Int)^x.arity.toNat - 1).toNat/\out' =(List.range m').map (tcC x a))/\((2:Int)^x.arity.toNat - 1).toNat - m' <((2:Int)^x.arity.toNat - 1).toNat - m)) (out.map aE=(mG x a).map aE/\True))))) (by kernel_rfl) ?_;refine lx fun n0=>lx fun n1=>?_;have q3:jR a=a.name.size+cC a.vars:=rfl;have q4:cC a.vars=a.vars.length:=rfl;refine⟨aMl _ (by omega),dm (fun g13=>?_) fun g13=>?_⟩
 ·have hbad:rX x a=false:=by (simp[rX, *];done)
  apply et1
  ·(rw[vL hbad]<;>rfl)
 ·refine dd (fun g18=>?_) fun g18=>?_
  ·have hbad:rX x a=false:=by (simp[rX, *];done)
   apply et1
   ·(rw[vL hbad]<;>rfl)
  ·refine⟨aA8 _,dn (fun c0=>?_) fun c0=>?_⟩
   ·have hbad:rX x a=false:=by (simp[rX, *];done)
    apply et1
    ·(rw[vL hbad]<;>rfl)
   ·have hok:rX x a=true:=by (simp[rX, *];done)
    obtain⟨hS,hA⟩:=aB5 hok;have hn:=aA5 hS;have hp:=qM hn;refine⟨⟨0,([]:List aI),rfl,rfl,aCC _,rfl⟩,fun m out ⟨hm,ho⟩=>?_⟩;refine⟨⟨by omega,by omega⟩,⟨by omega,by omega⟩,⟨by omega,by omega⟩,dd (fun c1=>?_) fun c1=>?_⟩
    ·have hbl:(eS (m:Int)).length<=3:=tO _ 3;have hE:=aNI (m:=(m:Int)) hn hA (by omega) (by omega);have hE2:=aKA (m:=(m:Int)) hn hA (by omega) (by omega);refine⟨aJo (m:Int) (by omega),aC4 _ _ (by omega),aKB _,aKB _,aRS _ (eS (m:Int)) (by omega) (by omega),aRU _,?_⟩;refine ap ?_ (fun _=>rfl) (by (simp[ho];omega));refine⟨⟨by omega,by omega⟩,?_⟩;exact⟨m+1,_,rfl,rfl,⟨by omega,by rw[ho,List.range_succ,aKc,aKT,List.map_nil,tcC];(rw[hE];done)⟩,by omega⟩
    ·apply et1
     ·(rw[aHH hok,ho,show ((2:Int)^x.arity.toNat - 1).toNat=m by omega])
abbrev zF (x:aM)(a:dC):AV × List (Nat × Rs):=(.own 0,[(0,.arr 192 3 true ((mG x a).map aE))])
abbrev aE9 (x:aM)(a:dC):Prop:=Cn 140 [.agg [.str x.name,.int .i64 x.arity,.int .i64 x.rowCount,.sl 220 3 (x.groups.map aD)],.agg [.str a.name,.sl 3 1 (a.vars.map intD)]] (zF x a).1 (zF x a).2
theorem aRd (x:aM)(a:dC)(hc:bF x<=1048576)(ha:jR a<=1048576):aE9 x a:=by
 refine cq Tryz.func140 (.call (vB (cJ x)) []<| .br (.fin [(0,700)]) (.lit<| .lit<| .lit<| .br (.fin [(0,700)]) (.len a.vars.length<| .lit<| .lit<| .lit<| .lit<| .br (.fin [(0,700)]) (.loop (Nat × (List aI)) (Q2 Nat (List aI)) ([5,6,7]++rg 25 23) [700,4200,4600,4700] (fun yy0=>[(6,vI (yy0.1:Int)),(5,.own 700)]) (fun yy0=>[(700,some (.arr 192 3 true (yy0.2.map aE)))]) (fun yy0=>yy0.1<=((2:Int)^x.arity.toNat - 1).toNat/\yy0.2=(List.range yy0.1).map (tcC x a)) (fun yy0=>((2:Int)^x.arity.toNat - 1).toNat - yy0.1) (fun yy0=> .br (.call (vI (vsS (yy0.1:Int) a.vars (min a.vars.length 3))) []<| .call (vI (iE a.vars)) []<| bH (sN (yy0.1:Int))<| .call (vI ((iO x (eS (yy0.1:Int))).getD 0 0)) []<| .call (vI (rW ((iO x (eS (yy0.1:Int))).getD 0 0))) []<| .app aI aE yy0.2 ([(⟨vsS (yy0.1:Int) a.vars (min a.vars.length 3),iE a.vars,rW ((iO x (eS (yy0.1:Int))).getD 0 0)⟩:aI)]:List aI)<| .back [(700,4700)]) (.fin [(0,700)])))))) (p:=Lx (x.groups.map aD)<| Lx (a.vars.map intD)<| vK x/\Nr (cJ x) ([]=(mG x a).map aE/\True) (Br (x.rowCount=0) ([]=(mG x a).map aE/\True) (Lm intD a.vars/\Nb ((a.vars.length:Int)=x.arity) ([]=(mG x a).map aE/\True) ((∃(m:Nat) (out:List aI),0=(m:Int)/\[]=out.map aE/\m<=((2:Int)^x.arity.toNat - 1).toNat/\out=(List.range m).map (tcC x a))/\ ∀(m:Nat) (out:List aI),(m<=((2:Int)^x.arity.toNat - 1).toNat/\out=(List.range m).map (tcC x a))->(0<=x.arity/\x.arity<=64)/\bK ((1:Int)*2^(Int.toNat x.arity))/\bK (((1:Int)*2^(Int.toNat x.arity)) - 1)/\Br ((m:Int)<(((1:Int)*2^(Int.toNat x.arity)) - 1)) (aHS a (m:Int)/\aEP a.vars/\yL (m:Int)/\aEN x (eS (m:Int))/\aER ((iO x (eS (m:Int))).getD 0 0)/\Ap aE out ([(⟨vsS (m:Int) a.vars (min a.vars.length 3),iE a.vars,rW ((iO x (eS (m:Int))).getD 0 0)⟩:aI)]:List aI) 24 (bK ((m:Int)+1)/\ ∃(m' :Nat) (out' :List aI),((m:Int)+1)=(m' :Int)/\(out++[(⟨vsS (m:Int) a.vars (min a.vars.length 3),iE a.vars,rW ((iO x (eS (m:Int))).getD 0 0)⟩:aI)]).map aE=out'.map aE/\(m' <=((2:Int)^x.arity.toNat - 1).toNat/\out' =(List.range m').map (tcC x a))/\((2:Int)^x.arity.toNat - 1).toNat - m' <((2:Int)^x.arity.toNat - 1).toNat - m)) (out.map aE=(mG x a).map aE/\True))))) (by kernel_rfl) ?_;refine lx fun n0=>lx fun n1=>?_;have q3:jR a=a.name.size+cC a.vars:=rfl;have q4:cC a.vars=a.vars.length:=rfl;refine⟨aHA _ (by omega),dm (fun g11=>?_) fun g11=>?_⟩
 ·have hbad:rX x a=false:=by (simp[rX, *];done)
  apply et1
  ·(rw[vL hbad]<;>rfl)
 ·refine dd (fun g16=>?_) fun g16=>?_
  ·have hbad:rX x a=false:=by (simp[rX, *];done)
   apply et1
   ·(rw[vL hbad]<;>rfl)
  ·refine⟨aA8 _,dn (fun c0=>?_) fun c0=>?_⟩
   ·have hbad:rX x a=false:=by (simp[rX, *];done)
    apply et1
    ·(rw[vL hbad]<;>rfl)
   ·have hok:rX x a=true:=by (simp[rX, *];done)
    obtain⟨hS,hA⟩:=aB5 hok;have hn:=aA5 hS;have hp:=qM hn;refine⟨⟨0,([]:List aI),rfl,rfl,aCC _,rfl⟩,fun m out ⟨hm,ho⟩=>?_⟩;refine⟨⟨by omega,by omega⟩,⟨by omega,by omega⟩,⟨by omega,by omega⟩,dd (fun c1=>?_) fun c1=>?_⟩
    ·have hbl:(eS (m:Int)).length<=3:=tO _ 3;have hE:=aNI (m:=(m:Int)) hn hA (by omega) (by omega);have hE2:=aKA (m:=(m:Int)) hn hA (by omega) (by omega);refine⟨aUQ _ _,aRT _,aJp (m:Int) (by omega),aRR _ (eS (m:Int)) (by omega) (by omega),aRV _,?_⟩;refine ap ?_ (fun _=>rfl) (by (simp[ho];omega));refine⟨⟨by omega,by omega⟩,?_⟩;exact⟨m+1,_,rfl,rfl,⟨by omega,by rw[ho,List.range_succ,aKc,aKT,List.map_nil,tcC];(rw[hE2];done)⟩,by omega⟩
    ·apply et1
     ·(rw[aHH hok,ho,show ((2:Int)^x.arity.toNat - 1).toNat=m by omega])
theorem aLS {s:StoreD}{q:QueryD}{m:Int}(h:qOk s q m=true):fA m=gL (fL m) q.atoms.length:=by
 obtain⟨_,_,_,h1,h2,_,_,h3⟩:=aDd h;exact aUA ⟨by omega,h2⟩ h3.2
theorem aKC (m:Int):(fA m).length<=4:=by
 cases h:eC m 0 15 with
 | false=>rw[aMz h];exact aCC _
 | true=>rw[aD9 h];exact yS _ _
theorem aUR {s:StoreD}{q:QueryD}{m x:Int}(h:qOk s q m=true)(hx:x∈fA m):0<=x/\x.toNat<q.atoms.length/\fL m x.toNat=true:=by
 rw[aLS h] at hx;exact aMx.1 hx
def qcA (s:StoreD)(q:QueryD)(x:Int):List aI:=mG (gN s q x.toNat) (q.atoms.getD x.toNat iL)
def qcL (s:StoreD)(q:QueryD)(l:List Int):List aI:=l.flatMap (qcA s q)
def aCp (s:StoreD)(q:QueryD)(l:List Int):Bool:=l.all fun x=> !decide ((qcA s q x).length=0)
def dS (s:StoreD)(q:QueryD)(m:Int):List aI:=if (qOk s q m&&aCp s q (fA m))=true then qcL s q (fA m) else []
theorem aKE {s:StoreD}{q:QueryD}{m:Int}(h:qOk s q m=true)(h2:aCp s q (fA m)=true):dS s q m=qcL s q (fA m):=by rw[dS,if_pos (by rw[h,h2];rfl)]
theorem aCq {s:StoreD}{q:QueryD}{m:Int}(h:qOk s q m=false):dS s q m= []:=by rw[dS,if_neg (by rw[h];simp)]
theorem aKF {s:StoreD}{q:QueryD}{m x:Int}(hx:x∈fA m)(h:(qcA s q x).length=0):dS s q m= []:=by
 rw[dS,if_neg];intro h2;rw[aB4] at h2;have:=aIZ.1 h2.2 x hx;simp[h] at this
theorem aNM (s:StoreD)(q:QueryD)(l:List Int)(x:Int):qcL s q (l++[x])=qcL s q l++qcA s q x:=by
 rw[qcL,List.flatMap_append];simp[qcL]
theorem aKG {s:StoreD}{q:QueryD}{l:List Int}{x:Int}(h:aCp s q l=true)(hx: ¬((qcA s q x).length:Int)=0):aCp s q (l++[x])=true:=by
 rw[aCp,List.all_append,aB4];refine⟨h,?_⟩;simp only[List.all_cons,List.all_nil,Bool.and_true,Bool.not_eq_true',decide_eq_false_iff_not];omega
theorem aFW (s:StoreD)(q:QueryD): ∀l:List Int,(qcL s q l).length<=7*l.length
 | []=>aCC _
 | x::l=>by
   have h1:=aHI (gN s q x.toNat) (q.atoms.getD x.toNat iL);have h2:=aFW s q l;have h3:qcL s q (x::l)=qcA s q x++qcL s q l:=by simp[qcL]
   rw[h3,aSM,aPS];unfold qcA;omega
theorem aKH (s:StoreD)(q:QueryD)(m:Int):(dS s q m).length<=28:=by
 unfold dS;split
 ·have h1:=aFW s q (fA m);have h2:=aKC m;omega
 exact aCC _
end Go.Proofs.YtlidmoeecphbmaaGreat
