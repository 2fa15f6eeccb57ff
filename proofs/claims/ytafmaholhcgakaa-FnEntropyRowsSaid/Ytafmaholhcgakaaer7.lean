/-
  Contracts and plain laws, joined: part 8.
-/
import Derived.Test.Ytafmaholhcgakaaer5
import Derived.Test.Ytafmaholhcgakaaer4
import Derived.Test.Ytafmaholhcgakaaer6
import Derived.Test.Ytafmaholhcgakaaer3
namespace Go.Proofs.Ytafmaholhcgakaa
open Go.ChangeShapes Go.WideShapes Go.ChangeAt Go.RowKit
set_option linter.unusedVariables false
set_option linter.unusedSimpArgs false
set_option maxRecDepth 100000
set_option maxHeartbeats 4000000
abbrev aDQ (d:aO)(q:aX):Prop:=Cn 53 [.agg [.sl 114 3 (d.tables.map aM)],.agg [.int .i64 q.variableCount,.sl 80 2 (q.atoms.map bD)]] (vB (kJ d q)) []
theorem aNo (d:aO)(q:aX)(hc:cT d<=1048576):aDQ d q:=by
 refine cq Try.func53 (.call (vB (bI q)) []<| .br (.fin []) (.loop Nat (Q1 Nat) ([5,6,7]++rg 11 32) [600] (fun k=>[(5,vI (k:Int))]) (fun k=>[]) (fun k=>k<=q.atoms.length/\(q.atoms.take k).all (fun a=>(aN d a.name).2&&decide ((aN d a.name).1.arity=(a.vars.length:Nat)))=true) (fun k=>q.atoms.length - k) (fun k=> .len q.atoms.length<| .br (.elem _ bD q.atoms (fun e23=> .call (.tup [.agg [.p none (.str ((aN d e23.name).1.name)),vI ((aN d e23.name).1.arity),.p none (.sl 27 1 ((aN d e23.name).1.rows.map aD))],vB ((aN d e23.name).2)]) []<| .br (.fin []) (.elem _ bD q.atoms (fun e37=> .len e37.vars.length<| .lit<| .lit<| .br (.fin []) (.back []))))) (.fin [])))) (p:=Lx (d.tables.map aM)<| Lx (q.atoms.map bD)<| jE q/\Nr (bI q) ((false)=(kJ d q)/\True) ((∃(k:Nat),0=(k:Int)/\k<=q.atoms.length/\(q.atoms.take k).all (fun a=>(aN d a.name).2&&decide ((aN d a.name).1.arity=(a.vars.length:Nat)))=true)/\ ∀(k:Nat),(k<=q.atoms.length/\(q.atoms.take k).all (fun a=>(aN d a.name).2&&decide ((aN d a.name).1.arity=(a.vars.length:Nat)))=true)->Lm bD q.atoms/\Br ((k:Int)<(q.atoms.length:Int)) (0<=(k:Int)/\Em bD q.atoms k fun e23=>Con Try.prog 77 [.agg [.sl 114 3 (d.tables.map aM)],.one (.str e23.name)] (.tup [.agg [.p none (.str ((aN d e23.name).1.name)),vI ((aN d e23.name).1.arity),.p none (.sl 27 1 ((aN d e23.name).1.rows.map aD))],vB ((aN d e23.name).2)]) []/\Nr ((aN d e23.name).2) ((false)=(kJ d q)/\True) (0<=(k:Int)/\Em bD q.atoms k fun e37=>Lm aC e37.vars/\Nb (((aN d e23.name).1.arity)=(e37.vars.length:Int)) ((false)=(kJ d q)/\True) (bS ((k:Int)+1)/\ ∃(k' :Nat),((k:Int)+1)=(k' :Int)/\(k' <=q.atoms.length/\(q.atoms.take k').all (fun a=>(aN d a.name).2&&decide ((aN d a.name).1.arity=(a.vars.length:Nat)))=true)/\q.atoms.length - k' <q.atoms.length - k))) ((true)=(kJ d q)/\True))) (by kernel_rfl) ?_;refine lx fun n0=>lx fun n1=>?_;refine⟨oW q,dm (fun c0=>?_) fun c0=>?_⟩
 ·apply et1
  ·(rw[kJ,c0];rfl)
 ·refine⟨⟨0,rfl,aAc _,rfl⟩,fun k ⟨hk,ha⟩=>?_⟩;refine⟨aA0 _,dd (fun c1=>?_) fun c1=>?_⟩
  ·refine⟨by omega,rfl,by omega,fun e23 h23=>?_⟩
   try (obtain rfl:=(bE h23 h23).symm)
   refine⟨pH (oS _ e23.name (by omega)) rfl,dm (fun g31=>?_) fun g31=>?_⟩
   ·have hA:((aN d e23.name).2&&decide ((aN d e23.name).1.arity=(e23.vars.length:Nat)))=false:=by (rw[g31];rfl)
    apply et1
    ·(rw[kJ,gI h23 hA,Bool.and_false];done)
   ·refine⟨by omega,rfl,by omega,fun e37 h37=>?_⟩
    try (obtain rfl:=(bE h23 h37).symm)
    refine⟨aA0 _,dn (fun c2=>?_) fun c2=>?_⟩
    ·have hA:((aN d e23.name).2&&decide ((aN d e23.name).1.arity=(e23.vars.length:Nat)))=false:=by (rw[g31];simp[c2];done)
     apply et1
     ·(rw[kJ,gI h23 hA,Bool.and_false];done)
    ·have hA:((aN d e23.name).2&&decide ((aN d e23.name).1.arity=(e23.vars.length:Nat)))=true:=by rw[g31];simp[c2]
     refine⟨⟨by omega,by omega⟩,?_⟩;exact⟨k+1,rfl,⟨by omega,dB h23 ha hA⟩,by omega⟩
  ·apply et1
   ·(rw[kJ,c0,dZ (by omega) ha];rfl)
abbrev pS (q:aX):Prop:=Cn 26 [.agg [.int .i64 q.variableCount,.sl 80 2 (q.atoms.map bD)]] (vI (eZ q)) []
theorem aA5 (q:aX):pS q:=by
 refine cq Try.func26 (.call (vB (bI q)) []<| .br (.fin []) (.len q.atoms.length<| .fin [])) (p:=Lx (q.atoms.map bD)<| jE q/\Nr (bI q) (0=(eZ q)/\True) (Lm bD q.atoms/\(0<=(q.atoms.length:Int)/\(q.atoms.length:Int)<=64)/\bS ((1:Int)*2^q.atoms.length)/\bS (((1:Int)*2^q.atoms.length) - 1)/\(((1:Int)*2^q.atoms.length) - 1)=(eZ q)/\True)) (by kernel_rfl) ?_;refine lx fun n0=>?_;refine⟨oW q,dm (fun c0=>?_) fun c0=>?_⟩
 ·apply et1
  ·(rw[aNT c0];done)
 ·have w:=oV (dQ c0).2.1;have w2:=(dQ c0).2.1;refine⟨aA0 _,⟨by omega,by omega⟩,⟨by omega,by omega⟩,⟨by omega,by omega⟩,?_,trivial⟩
  ·(rw[aEh c0];done)
abbrev aDR (q:aX)(m:Int):Prop:=Cn 39 [.agg [.int .i64 q.variableCount,.sl 80 2 (q.atoms.map bD)],.one (.int .i64 m)] (vB (lJ q m)) []
theorem aNp (q:aX)(m:Int):aDR q m:=by
 refine cq Try.func39 (.call (vB (bI q)) []<| .br (.len q.atoms.length<| .call (vB (fB m (0:Int) (((1:Int)*2^q.atoms.length) - 1))) []<| .fin []) (.fin [])) (p:=Lx (q.atoms.map bD)<| jE q/\Bb (bI q) (Lm bD q.atoms/\(0<=(q.atoms.length:Int)/\(q.atoms.length:Int)<=64)/\bS ((1:Int)*2^q.atoms.length)/\bS (((1:Int)*2^q.atoms.length) - 1)/\dN m (0:Int) (((1:Int)*2^q.atoms.length) - 1)/\(fB m (0:Int) (((1:Int)*2^q.atoms.length) - 1))=(lJ q m)/\True) ((false)=(lJ q m)/\True)) (by kernel_rfl) ?_;refine lx fun n0=>?_;refine⟨oW q,db (fun g7=>?_) fun g7=>?_⟩
 ·have w:=oV (dQ g7).2.1;have w2:=(dQ g7).2.1;refine⟨aA0 _,⟨by omega,by omega⟩,⟨by omega,by omega⟩,⟨by omega,by omega⟩,fT _ _ _,?_,trivial⟩
  ·(rw[lJ,g7];rfl)
 ·apply et1
  ·(rw[lJ,g7];rfl)
abbrev zT (q:aX)(m:Int):Prop:=Cn 41 [.agg [.int .i64 q.variableCount,.sl 80 2 (q.atoms.map bD)],.one (.int .i64 m)] (vI (m4 (inM q m))) []
theorem aIg (q:aX)(m:Int)(hq:bI q=true):zT q m:=by
 refine cq Try.func41 (.loop (Nat × Int) (Q2 Nat Int) (rg 5 40) [] (fun yy0=>[(6,vI (yy0.1:Int)),(5,vI yy0.2)]) (fun yy0=>[]) (fun yy0=>yy0.1<=q.atoms.length/\yy0.2=m4 (zN q m yy0.1)) (fun yy0=>q.atoms.length - yy0.1) (fun yy0=> .len q.atoms.length<| .br (.loop (Nat × Int) (Q2 Nat Int) ([5,7]++rg 15 30) [] (fun yy1=>[(7,vI (yy1.1:Int)),(5,vI yy1.2)]) (fun yy1=>[]) (fun yy1=>yy1.1<=(q.atoms.getD yy0.1 jM).vars.length/\yy1.2=m4 (aB0 q m (q.atoms.getD yy0.1 jM) yy0.1 yy1.1)) (fun yy1=>(q.atoms.getD yy0.1 jM).vars.length - yy1.1) (fun yy1=> .elem _ bD q.atoms (fun e19=> .len e19.vars.length<| .br (.lit<| .lit<| .lit<| .lit<| .lit<| .br (.elem _ bD q.atoms (fun e37=> .elem _ aC e37.vars (fun e41=> .back []))) (.back [])) (.back [])))) (.fin []))) (p:=Lx (q.atoms.map bD)<| (∃(i:Nat) (o:Int),0=(i:Int)/\0=o/\i<=q.atoms.length/\o=m4 (zN q m i))/\ ∀(i:Nat) (o:Int),(i<=q.atoms.length/\o=m4 (zN q m i))->Lm bD q.atoms/\Br ((i:Int)<(q.atoms.length:Int)) ((∃(k:Nat) (p:Int),0=(k:Int)/\o=p/\k<=(q.atoms.getD i jM).vars.length/\p=m4 (aB0 q m (q.atoms.getD i jM) i k))/\ ∀(k:Nat) (p:Int),(k<=(q.atoms.getD i jM).vars.length/\p=m4 (aB0 q m (q.atoms.getD i jM) i k))->0<=(i:Int)/\Em bD q.atoms i fun e19=>Lm aC e19.vars/\Br ((k:Int)<(e19.vars.length:Int)) ((0<=(i:Int)/\(i:Int)<=64)/\Br ((bJ .and .i64 (m/2^i) (1:Int))=1) (0<=(i:Int)/\Em bD q.atoms i fun e37=>0<=(k:Int)/\Em aC e37.vars k fun e41=>(0<=e41/\e41<=64)/\bS ((1:Int)*2^(Int.toNat e41))/\bS ((k:Int)+1)/\ ∃(k' :Nat) (p' :Int),((k:Int)+1)=(k' :Int)/\(bJ .or .i64 p ((1:Int)*2^(Int.toNat e41)))=p' /\(k' <=(q.atoms.getD i jM).vars.length/\p' =m4 (aB0 q m (q.atoms.getD i jM) i k'))/\(q.atoms.getD i jM).vars.length - k' <(q.atoms.getD i jM).vars.length - k) (bS ((i:Int)+1)/\ ∃(i' :Nat) (o' :Int),((i:Int)+1)=(i' :Int)/\p=o' /\(i' <=q.atoms.length/\o' =m4 (zN q m i'))/\q.atoms.length - i' <q.atoms.length - i)) (bS ((i:Int)+1)/\ ∃(i' :Nat) (o' :Int),((i:Int)+1)=(i' :Int)/\p=o' /\(i' <=q.atoms.length/\o' =m4 (zN q m i'))/\q.atoms.length - i' <q.atoms.length - i)) (o=(m4 (inM q m))/\True)) (by kernel_rfl) ?_;refine lx fun n0=>?_;have w:=(dQ hq).1;have w2:=(dQ hq).2;refine⟨⟨0,(0:Int),rfl,rfl,aAc _,rfl⟩,fun i o ⟨hi,ho⟩=>?_⟩;refine⟨aA0 _,dd (fun c0=>?_) fun c0=>?_⟩
 ·obtain⟨a,ha⟩:=jJ (l:=q.atoms) (k:=i) (by omega);have w3:=(jD (w2.2 a (aAm ha))).2;have hga:q.atoms.getD i jM=a:=bB ha;have hgl:(q.atoms.getD i jM).vars.length=a.vars.length:=by rw[hga]
  refine⟨⟨0,o,rfl,rfl,aAc _,by rw[ho,aKw]⟩,fun k p ⟨hk,hp⟩=>?_⟩;rw[hga] at hp;refine⟨by omega,rfl,by omega,fun e19 h19=>?_⟩;obtain rfl:=(bE ha h19).symm;refine⟨aA0 _,dd (fun g24=>?_) fun g24=>?_⟩
  ·refine⟨⟨by omega,by omega⟩,dd (fun c1=>?_) fun c1=>?_⟩
   ·refine⟨by omega,rfl,by omega,fun e37 h37=>?_⟩;obtain rfl:=(bE ha h37).symm;refine⟨by omega,rfl,by omega,fun e41 h41=>?_⟩;have w8:=w3.2 _ (aAm h41);obtain⟨w4,w5,w6⟩:=aDB (x:=e41) (zZ (by omega) (by omega));refine⟨⟨by omega,by omega⟩,by exact w4,by exact⟨by omega,by omega⟩,?_⟩;exact⟨k+1,_,rfl,rfl,⟨by omega,by rw[hga,hp,aMz (by omega),aKx (aJ7 c1) h41 (by omega)]⟩,by omega⟩
   ·refine⟨by exact⟨by omega,by omega⟩,?_⟩;exact⟨i+1,_,rfl,rfl,⟨by omega,by (rw[hp,aEj ha (.inl (aF1 c1))];done)⟩,by omega⟩
  ·refine⟨by exact⟨by omega,by omega⟩,?_⟩;exact⟨i+1,_,rfl,rfl,⟨by omega,by (rw[hp,aEj ha (.inr (by omega))];done)⟩,by omega⟩
 ·apply et1
  ·rw[ho,show i=q.atoms.length by omega];rfl
abbrev sI (m:Int):AV × List (Nat × Rs):=(.own 0,[(0,.arr 3 1 true ((gS (fK m) 4).map aC))])
abbrev zU (m:Int):Prop:=Cn 40 [.one (.int .i64 m)] (sI m).1 (sI m).2
theorem aIh (m:Int):zU m:=by
 refine cq Try.func40 (.loop (Nat × (List Int)) (Q2 Nat (List Int)) (rg 3 16) [500,1700,1800] (fun yy0=>[(4,vI (yy0.1:Int)),(3,.own 500)]) (fun yy0=>[(500,some (.arr 3 1 true (yy0.2.map aC)))]) (fun yy0=>yy0.1<=4/\yy0.2=gS (fK m) yy0.1) (fun yy0=>4 - yy0.1) (fun yy0=> .br (.br (.app Int aC yy0.2 ([(yy0.1:Int)]:List Int)<| .back [(500,1800)]) (.back [(500,500)])) (.fin [(0,500)]))) (p:=(∃(i:Nat) (out:List Int),0=(i:Int)/\[]=out.map aC/\i<=4/\out=gS (fK m) i)/\ ∀(i:Nat) (out:List Int),(i<=4/\out=gS (fK m) i)->Br ((i:Int)<4) ((0<=(i:Int)/\(i:Int)<=64)/\Br ((bJ .and .i64 (m/2^i) (1:Int))=1) (Ap aC out ([(i:Int)]:List Int) 8 (bS ((i:Int)+1)/\ ∃(i' :Nat) (out' :List Int),((i:Int)+1)=(i' :Int)/\(out++[(i:Int)]).map aC=out'.map aC/\(i' <=4/\out' =gS (fK m) i')/\4 - i' <4 - i)) (bS ((i:Int)+1)/\ ∃(i' :Nat) (out' :List Int),((i:Int)+1)=(i' :Int)/\out.map aC=out'.map aC/\(i' <=4/\out' =gS (fK m) i')/\4 - i' <4 - i)) (out.map aC=(gS (fK m) 4).map aC/\True)) (by kernel_rfl) ?_;refine⟨⟨0,([]:List Int),rfl,rfl,by omega,rfl⟩,fun i out ⟨hi,ho⟩=>?_⟩;refine dd (fun c0=>?_) fun c0=>?_
 ·refine⟨⟨by omega,by omega⟩,dd (fun c1=>?_) fun c1=>?_⟩
  ·refine ap ?_ (fun _=>rfl) (by (rw[ho];have:=aCk (fK m) i;simp only[aFt,List.length_nil];omega));refine⟨⟨by omega,by omega⟩,?_⟩;exact⟨i+1,_,rfl,rfl,⟨by omega,by (rw[ho,aCj (aJ7 c1)];done)⟩,by omega⟩
  ·refine⟨⟨by omega,by omega⟩,?_⟩;exact⟨i+1,_,rfl,rfl,⟨by omega,by (rw[ho,aB8 (aF1 c1)];done)⟩,by omega⟩
 ·apply et1
  ·rw[ho,show i=4 by omega]
abbrev uR (q:aX)(m:Int):AV × List (Nat × Rs):=(.own 0,[(0,.arr 3 1 true ((oU q m).map aC))])
abbrev aBI (q:aX)(m:Int):Prop:=Cn 28 [.agg [.int .i64 q.variableCount,.sl 80 2 (q.atoms.map bD)],.one (.int .i64 m)] (uR q m).1 (uR q m).2
theorem aLT (q:aX)(m:Int):aBI q m:=by
 refine cq Try.func28 (.call (vB (lJ q m)) []<| .br (.fin [(0,900)]) (.call (vI (m4 (inM q m))) []<| dT (sI (m4 (inM q m)))<| .fin [(0,1300)])) (p:=Lx (q.atoms.map bD)<| aDR q m/\Nr (lJ q m) ([]=(oU q m).map aC/\True) (zT q m/\zU (m4 (inM q m))/\(gS (fK (m4 (inM q m))) 4).map aC=(oU q m).map aC/\True)) (by kernel_rfl) ?_;refine lx fun n0=>?_;refine⟨aNp _ m,dm (fun c0=>?_) fun c0=>?_⟩
 ·apply et1
  ·(rw[aNR c0];rfl)
 ·refine⟨aIg q m (by exact(zO (q:=q) (m:=m) (by assumption)).1),aIh (m4 (inM q m)),?_,trivial⟩
  ·(rw[aKv c0,aI5 (zO c0).1])
def paQ (l:List Int)(u:Cu):aX × Cu:=cG l (dG l u).2
def jS (l:List Int)(u:Cu):Int × Cu:=aA l (paQ l u).2 14
def pA (l:List Int)(u:Cu):dE × Cu:=if (jS l u).1=0 then fM l (jS l u).2 else ((dG l u).1,(jS l u).2)
def paP (l:List Int)(u:Cu):Int × Cu:=aA l (pA l u).2 14
def gW (l:List Int)(u:Cu):aX × Cu:=if (paP l u).1=0 then gF l (paP l u).2 else ((paQ l u).1,(paP l u).2)
theorem aS1 {l:List Int}{u:Cu}(h:(jS l u).1=0):pA l u=fM l (jS l u).2:=by rw[pA,if_pos h]
theorem aS2 {l:List Int}{u:Cu}(h: ¬(jS l u).1=0):pA l u=((dG l u).1,(jS l u).2):=by rw[pA,if_neg h]
theorem aRx {l:List Int}{u:Cu}{s:dE × Cu}(hs:pA l u=s)(h:(aA l s.2 14).1=0):gW l u=gF l (aA l s.2 14).2:=by rw[gW,paP,hs,if_pos h]
theorem aRy {l:List Int}{u:Cu}{s:dE × Cu}(hs:pA l u=s)(h: ¬(aA l s.2 14).1=0):gW l u=((paQ l u).1,(aA l s.2 14).2):=by rw[gW,paP,hs,if_neg h]
theorem aS3 (l:List Int)(u:Cu):iH (pA l u).1<=21000/\rS (gW l u).1<=40:=by
 refine⟨?_,?_⟩
 ·unfold pA;split
  ·exact aRv l _
  have:=aNk l u;dsimp only;omega
 unfold gW;split
 ·exact aS0 l _
 have:=aPx (aF8 l (dG l u).2);show rS (cG l (dG l u).2).1<=40;omega
abbrev uS (l:List Int)(u:Cu):List AV × List (Nat × Rs) × AV × List (Nat × Rs):=([.ptr 0 0],[(0,.box 50 [.p none (.sl 5 1 (l.map aY)),vI (u.i:Int),vI u.h])],.tup [.agg [.p none (.sl 114 3 ((pA l u).1.database.tables.map aM)),vI ((pA l u).1.catalogue.version),.p none (.sl 77 4 ((pA l u).1.catalogue.tables.map aH)),.p none (.sl 89 3 ((pA l u).1.dependencies.map aI)),.p none (.sl 93 4 ((pA l u).1.inclusions.map aP))],.agg [vI ((gW l u).1.variableCount),.p none (.sl 80 2 ((gW l u).1.atoms.map bD))]],[(0,.box 50 [.p none (.sl 5 1 (l.map aY)),vI (((gW l u).2.i:Nat):Int),vI ((gW l u).2.h)])])
abbrev aH2 (l:List Int)(u:Cu):Prop:=Cm 24 (uS l u).1 (uS l u).2.1 (uS l u).2.2.1 (uS l u).2.2.2
theorem aRP (l:List Int)(u:Cu)(hl:l.length<=1048576):aH2 l u:=by
 refine cqx Try.func24 (aQ (oB l u) [(0,0)]<| aQ (vO l ((dG l u).2)) [(0,0)]<| aQ (eB l ((paQ l u).2) (14:Int)) [(0,0)]<| .br (aQ (oZ l ((jS l u).2)) [(0,0)]<| aQ (eB l ((fM l ((jS l u).2)).2) (14:Int)) [(0,0)]<| .br (aQ (rB l ((aA l ((fM l ((jS l u).2)).2) (14:Int)).2)) [(0,0)]<| .stlb 7 400<| .stlb 7 500<| .fin [(0,0)]) (.stlb 7 400<| .stlb 7 500<| .fin [(0,0)])) (aQ (eB l ((jS l u).2) (14:Int)) [(0,0)]<| .br (aQ (rB l ((aA l ((jS l u).2) (14:Int)).2)) [(0,0)]<| .stlb 7 400<| .stlb 7 500<| .fin [(0,0)]) (.stlb 7 400<| .stlb 7 500<| .fin [(0,0)]))) (p:=aA3 l u/\l.map aY=l.map aY/\(u.i:Int)=(u.i:Int)/\u.h=u.h/\aF9 l ((dG l u).2)/\l.map aY=l.map aY/\(((dG l u).2.i:Nat):Int)=(((dG l u).2.i:Nat):Int)/\((dG l u).2.h)=((dG l u).2.h)/\fG l ((paQ l u).2) (14:Int)/\(14:Int)=14/\l.map aY=l.map aY/\(((paQ l u).2.i:Nat):Int)=(((paQ l u).2.i:Nat):Int)/\((paQ l u).2.h)=((paQ l u).2.h)/\Br ((jS l u).1=0) (aDP l ((jS l u).2)/\l.map aY=l.map aY/\(((jS l u).2.i:Nat):Int)=(((jS l u).2.i:Nat):Int)/\((jS l u).2.h)=((jS l u).2.h)/\fG l ((fM l ((jS l u).2)).2) (14:Int)/\(14:Int)=14/\l.map aY=l.map aY/\(((fM l ((jS l u).2)).2.i:Nat):Int)=((((fM l ((jS l u).2)).2).i:Nat):Int)/\((fM l ((jS l u).2)).2.h)=(((fM l ((jS l u).2)).2).h)/\Br ((aA l ((fM l ((jS l u).2)).2) (14:Int)).1=0) (aDJ l ((aA l ((fM l ((jS l u).2)).2) (14:Int)).2)/\l.map aY=l.map aY/\(((aA l ((fM l ((jS l u).2)).2) (14:Int)).2.i:Nat):Int)=((((aA l ((fM l ((jS l u).2)).2) (14:Int)).2).i:Nat):Int)/\((aA l ((fM l ((jS l u).2)).2) (14:Int)).2.h)=(((aA l ((fM l ((jS l u).2)).2) (14:Int)).2).h)/\((((fM l ((jS l u).2)).1).database).tables).map aM=(pA l u).1.database.tables.map aM/\((((fM l ((jS l u).2)).1).catalogue).version)=((pA l u).1.catalogue.version)/\((((fM l ((jS l u).2)).1).catalogue).tables).map aH=(pA l u).1.catalogue.tables.map aH/\(((fM l ((jS l u).2)).1).dependencies).map aI=(pA l u).1.dependencies.map aI/\(((fM l ((jS l u).2)).1).inclusions).map aP=(pA l u).1.inclusions.map aP/\(((gF l ((aA l ((fM l ((jS l u).2)).2) (14:Int)).2)).1).variableCount)=((gW l u).1.variableCount)/\(((gF l ((aA l ((fM l ((jS l u).2)).2) (14:Int)).2)).1).atoms).map bD=(gW l u).1.atoms.map bD/\l.map aY=l.map aY/\(((gF l ((aA l ((fM l ((jS l u).2)).2) (14:Int)).2)).2.i:Nat):Int)=(((gW l u).2.i:Nat):Int)/\((gF l ((aA l ((fM l ((jS l u).2)).2) (14:Int)).2)).2.h)=((gW l u).2.h)/\True) (((((fM l ((jS l u).2)).1).database).tables).map aM=(pA l u).1.database.tables.map aM/\((((fM l ((jS l u).2)).1).catalogue).version)=((pA l u).1.catalogue.version)/\((((fM l ((jS l u).2)).1).catalogue).tables).map aH=(pA l u).1.catalogue.tables.map aH/\(((fM l ((jS l u).2)).1).dependencies).map aI=(pA l u).1.dependencies.map aI/\(((fM l ((jS l u).2)).1).inclusions).map aP=(pA l u).1.inclusions.map aP/\((paQ l u).1.variableCount)=((gW l u).1.variableCount)/\(paQ l u).1.atoms.map bD=(gW l u).1.atoms.map bD/\l.map aY=l.map aY/\(((aA l ((fM l ((jS l u).2)).2) (14:Int)).2.i:Nat):Int)=(((gW l u).2.i:Nat):Int)/\((aA l ((fM l ((jS l u).2)).2) (14:Int)).2.h)=((gW l u).2.h)/\True)) (fG l ((jS l u).2) (14:Int)/\(14:Int)=14/\l.map aY=l.map aY/\(((jS l u).2.i:Nat):Int)=(((jS l u).2.i:Nat):Int)/\((jS l u).2.h)=((jS l u).2.h)/\Br ((aA l ((jS l u).2) (14:Int)).1=0) (aDJ l ((aA l ((jS l u).2) (14:Int)).2)/\l.map aY=l.map aY/\(((aA l ((jS l u).2) (14:Int)).2.i:Nat):Int)=((((aA l ((jS l u).2) (14:Int)).2).i:Nat):Int)/\((aA l ((jS l u).2) (14:Int)).2.h)=(((aA l ((jS l u).2) (14:Int)).2).h)/\(dG l u).1.database.tables.map aM=(pA l u).1.database.tables.map aM/\((dG l u).1.catalogue.version)=((pA l u).1.catalogue.version)/\(dG l u).1.catalogue.tables.map aH=(pA l u).1.catalogue.tables.map aH/\(dG l u).1.dependencies.map aI=(pA l u).1.dependencies.map aI/\(dG l u).1.inclusions.map aP=(pA l u).1.inclusions.map aP/\(((gF l ((aA l ((jS l u).2) (14:Int)).2)).1).variableCount)=((gW l u).1.variableCount)/\(((gF l ((aA l ((jS l u).2) (14:Int)).2)).1).atoms).map bD=(gW l u).1.atoms.map bD/\l.map aY=l.map aY/\(((gF l ((aA l ((jS l u).2) (14:Int)).2)).2.i:Nat):Int)=(((gW l u).2.i:Nat):Int)/\((gF l ((aA l ((jS l u).2) (14:Int)).2)).2.h)=((gW l u).2.h)/\True) ((dG l u).1.database.tables.map aM=(pA l u).1.database.tables.map aM/\((dG l u).1.catalogue.version)=((pA l u).1.catalogue.version)/\(dG l u).1.catalogue.tables.map aH=(pA l u).1.catalogue.tables.map aH/\(dG l u).1.dependencies.map aI=(pA l u).1.dependencies.map aI/\(dG l u).1.inclusions.map aP=(pA l u).1.inclusions.map aP/\((paQ l u).1.variableCount)=((gW l u).1.variableCount)/\(paQ l u).1.atoms.map bD=(gW l u).1.atoms.map bD/\l.map aY=l.map aY/\(((aA l ((jS l u).2) (14:Int)).2.i:Nat):Int)=(((gW l u).2.i:Nat):Int)/\((aA l ((jS l u).2) (14:Int)).2.h)=((gW l u).2.h)/\True))) (by kernel_rfl) ?_;refine⟨aJl l u (by assumption),rfl,rfl,rfl,aPy l ((dG l u).2) (by assumption),rfl,rfl,rfl,jQ l ((paQ l u).2) (by assumption) (14:Int),rfl,rfl,rfl,rfl,dd (fun c0=>?_) fun c0=>?_⟩
 ·have eS:=aS1 c0;refine⟨aNn l ((jS l u).2) (by assumption),rfl,rfl,rfl,jQ l ((fM l ((jS l u).2)).2) (by assumption) (14:Int),rfl,rfl,rfl,rfl,dd (fun c1=>?_) fun c1=>?_⟩
  ·have eR:=aRx eS c1;refine⟨aN5 l ((aA l ((fM l ((jS l u).2)).2) (14:Int)).2) (by assumption),rfl,rfl,rfl,?_,?_,?_,?_,?_,?_,?_,rfl,?_,?_,trivial⟩<;>(first|(rw[eS]<;>rfl)|(rw[eR]<;>rfl))
  ·have eR:=aRy eS c1;refine⟨?_,?_,?_,?_,?_,?_,?_,rfl,?_,?_,trivial⟩<;>(first|(rw[eS]<;>rfl)|(rw[eR]<;>rfl))
 ·have eS:=aS2 c0;refine⟨jQ l ((jS l u).2) (by assumption) (14:Int),rfl,rfl,rfl,rfl,dd (fun c1=>?_) fun c1=>?_⟩
  ·have eR:=aRx eS c1;refine⟨aN5 l ((aA l ((jS l u).2) (14:Int)).2) (by assumption),rfl,rfl,rfl,?_,?_,?_,?_,?_,?_,?_,rfl,?_,?_,trivial⟩<;>(first|(rw[eS]<;>rfl)|(rw[eR]<;>rfl))
  ·have eR:=aRy eS c1;refine⟨?_,?_,?_,?_,?_,?_,?_,rfl,?_,?_,trivial⟩<;>(first|(rw[eS]<;>rfl)|(rw[eR]<;>rfl))
abbrev aDS (a:bX)(m:Int):Prop:=Cn 55 [.agg [.str a.name,.sl 3 1 (a.vars.map aC)],.one (.int .i64 m)] (vI (xI m a.vars (min a.vars.length 3))) []
theorem aNq (a:bX)(m:Int):aDS a m:=by
 refine cq Try.func55 (.loop (Nat × Int) (Q2 Nat Int) (rg 5 34) [] (fun yy0=>[(6,vI (yy0.1:Int)),(5,vI yy0.2)]) (fun yy0=>[]) (fun yy0=>(yy0.1<=a.vars.length/\yy0.1<=3)/\yy0.2=xI m a.vars yy0.1) (fun yy0=>a.vars.length - yy0.1) (fun yy0=> .len a.vars.length<| .br (.lit<| .lit<| .br (.br (.elem _ aC a.vars (fun e27=> .call (vB (fB e27 (0:Int) (3:Int))) []<| .lit<| .br (.elem _ aC a.vars (fun e35=> .back [])) (.back []))) (.back [])) (.fin [])) (.fin []))) (p:=Lx (a.vars.map aC)<| (∃(k:Nat) (o:Int),0=(k:Int)/\0=o/\(k<=a.vars.length/\k<=3)/\o=xI m a.vars k)/\ ∀(k:Nat) (o:Int),((k<=a.vars.length/\k<=3)/\o=xI m a.vars k)->Lm aC a.vars/\Br ((k:Int)<(a.vars.length:Int)) (Br ((k:Int)<3) ((0<=(k:Int)/\(k:Int)<=64)/\Br ((bJ .and .i64 (m/2^k) (1:Int))=1) (0<=(k:Int)/\Em aC a.vars k fun e27=>dN e27 (0:Int) (3:Int)/\Bb (fB e27 (0:Int) (3:Int)) (0<=(k:Int)/\Em aC a.vars k fun e35=>(0<=e35/\e35<=64)/\bS ((1:Int)*2^(Int.toNat e35))/\bS ((k:Int)+1)/\ ∃(k' :Nat) (o' :Int),((k:Int)+1)=(k' :Int)/\(bJ .or .i64 o ((1:Int)*2^(Int.toNat e35)))=o' /\((k' <=a.vars.length/\k' <=3)/\o' =xI m a.vars k')/\a.vars.length - k' <a.vars.length - k) (bS ((k:Int)+1)/\ ∃(k' :Nat) (o' :Int),((k:Int)+1)=(k' :Int)/\o=o' /\((k' <=a.vars.length/\k' <=3)/\o' =xI m a.vars k')/\a.vars.length - k' <a.vars.length - k)) (bS ((k:Int)+1)/\ ∃(k' :Nat) (o' :Int),((k:Int)+1)=(k' :Int)/\o=o' /\((k' <=a.vars.length/\k' <=3)/\o' =xI m a.vars k')/\a.vars.length - k' <a.vars.length - k)) (o=(xI m a.vars (min a.vars.length 3))/\True)) (o=(xI m a.vars (min a.vars.length 3))/\True)) (by kernel_rfl) ?_;refine lx fun n0=>?_;refine⟨⟨0,0,rfl,rfl,⟨aAc _,by omega⟩,rfl⟩,fun k o ⟨hk,hv⟩=>?_⟩;refine⟨aA0 _,dd (fun g12=>?_) fun g12=>?_⟩
 ·refine dd (fun c0=>?_) fun c0=>?_
  ·refine⟨⟨by omega,by omega⟩,dd (fun g23=>?_) fun g23=>?_⟩
   ·refine⟨by omega,rfl,by omega,fun e27 h27=>?_⟩
    try (obtain rfl:=(bE h27 h27).symm)
    refine⟨fT _ _ _,db (fun c1=>?_) fun c1=>?_⟩
    ·obtain⟨w1,w2,w3⟩:=aDB c1;refine⟨by omega,rfl,by omega,fun e35 h35=>?_⟩
     try (obtain rfl:=(bE h27 h35).symm)
     refine⟨⟨by omega,by omega⟩,by exact w1,by exact⟨by omega,by omega⟩,?_⟩;exact⟨k+1,_,rfl,rfl,⟨by omega,by (rw[aPb h27 g23 c1,hv];done)⟩,by omega⟩
    ·refine⟨by exact⟨by omega,by omega⟩,?_⟩;exact⟨k+1,_,rfl,rfl,⟨by omega,by (rw[aN1 h27 (by simp[g23,c1]),hv];done)⟩,by omega⟩
   ·refine⟨by exact⟨by omega,by omega⟩,?_⟩;exact⟨k+1,_,rfl,rfl,⟨by omega,by (obtain⟨y,hy⟩:=jJ (l:=a.vars) (k:=k) (by omega);rw[aN1 hy (by simp[g23]),hv])⟩,by omega⟩
  ·apply et1
   ·(rw[hv];congr 1;omega)
 ·apply et1
  ·(rw[hv];congr 1;omega)
abbrev uT (x:aL)(a:bX):AV × List (Nat × Rs):=(.own 0,[(0,.arr 42 3 true ((sE x a).map aE))])
abbrev aBJ (x:aL)(a:bX):Prop:=Cn 35 [.agg [.str x.name,.int .i64 x.arity,.int .i64 x.rowCount,.sl 145 3 (x.groups.map aJ)],.agg [.str a.name,.sl 3 1 (a.vars.map aC)]] (uT x a).1 (uT x a).2
theorem aLU (x:aL)(a:bX)(hc:cO x<=1048576)(ha:lT a<=1048576):aBJ x a:=by
 refine cq Try.func35 (.call (vB (dF x)) []<| .br (.fin [(0,700)]) (.lit<| .lit<| .lit<| .br (.fin [(0,700)]) (.len a.vars.length<| .lit<| .lit<| .lit<| .lit<| .br (.fin [(0,700)]) (.loop (Nat × (List aF)) (Q2 Nat (List aF)) ([5,6,7]++rg 25 23) [700,4200,4600,4700] (fun yy0=>[(6,vI (yy0.1:Int)),(5,.own 700)]) (fun yy0=>[(700,some (.arr 42 3 true (yy0.2.map aE)))]) (fun yy0=>yy0.1<=((2:Int)^x.arity.toNat - 1).toNat/\yy0.2=(List.range yy0.1).map (tcC x a)) (fun yy0=>((2:Int)^x.arity.toNat - 1).toNat - yy0.1) (fun yy0=> .br (.call (vI (xI (yy0.1:Int) a.vars (min a.vars.length 3))) []<| .call (vI (nJ a.vars)) []<| dT (pN (yy0.1:Int))<| .call (vI ((nQ x (jO (yy0.1:Int))).getD 0 0)) []<| .call (vI (fL ((nQ x (jO (yy0.1:Int))).getD 0 0))) []<| .app aF aE yy0.2 ([(⟨xI (yy0.1:Int) a.vars (min a.vars.length 3),nJ a.vars,fL ((nQ x (jO (yy0.1:Int))).getD 0 0)⟩:aF)]:List aF)<| .back [(700,4700)]) (.fin [(0,700)])))))) (p:=Lx (x.groups.map aJ)<| Lx (a.vars.map aC)<| sD x/\Nr (dF x) ([]=(sE x a).map aE/\True) (Br (x.rowCount=0) ([]=(sE x a).map aE/\True) (Lm aC a.vars/\Nb ((a.vars.length:Int)=x.arity) ([]=(sE x a).map aE/\True) ((∃(m:Nat) (out:List aF),0=(m:Int)/\[]=out.map aE/\m<=((2:Int)^x.arity.toNat - 1).toNat/\out=(List.range m).map (tcC x a))/\ ∀(m:Nat) (out:List aF),(m<=((2:Int)^x.arity.toNat - 1).toNat/\out=(List.range m).map (tcC x a))->(0<=x.arity/\x.arity<=64)/\bS ((1:Int)*2^(Int.toNat x.arity))/\bS (((1:Int)*2^(Int.toNat x.arity)) - 1)/\Br ((m:Int)<(((1:Int)*2^(Int.toNat x.arity)) - 1)) (aDS a (m:Int)/\aBA a.vars/\uF (m:Int)/\aAz x (jO (m:Int))/\aBB ((nQ x (jO (m:Int))).getD 0 0)/\Ap aE out ([(⟨xI (m:Int) a.vars (min a.vars.length 3),nJ a.vars,fL ((nQ x (jO (m:Int))).getD 0 0)⟩:aF)]:List aF) 24 (bS ((m:Int)+1)/\ ∃(m' :Nat) (out' :List aF),((m:Int)+1)=(m' :Int)/\(out++[(⟨xI (m:Int) a.vars (min a.vars.length 3),nJ a.vars,fL ((nQ x (jO (m:Int))).getD 0 0)⟩:aF)]).map aE=out'.map aE/\(m' <=((2:Int)^x.arity.toNat - 1).toNat/\out' =(List.range m').map (tcC x a))/\((2:Int)^x.arity.toNat - 1).toNat - m' <((2:Int)^x.arity.toNat - 1).toNat - m)) (out.map aE=(sE x a).map aE/\True))))) (by kernel_rfl) ?_;refine lx fun n0=>lx fun n1=>?_;have q3:lT a=a.name.size+dW a.vars:=rfl;have q4:dW a.vars=a.vars.length:=rfl;refine⟨aCz _ (by omega),dm (fun g11=>?_) fun g11=>?_⟩
 ·have hbad:zP x a=false:=by (simp[zP, *];done)
  apply et1
  ·(rw[aBc hbad]<;>rfl)
 ·refine dd (fun g16=>?_) fun g16=>?_
  ·have hbad:zP x a=false:=by (simp[zP, *];done)
   apply et1
   ·(rw[aBc hbad]<;>rfl)
  ·refine⟨aA0 _,dn (fun c0=>?_) fun c0=>?_⟩
   ·have hbad:zP x a=false:=by (simp[zP, *];done)
    apply et1
    ·(rw[aBc hbad]<;>rfl)
   ·have hok:zP x a=true:=by (simp[zP, *];done)
    obtain⟨hS,hA⟩:=aDG hok;have hn:=aAW hS;have hp:=vJ hn;refine⟨⟨0,([]:List aF),rfl,rfl,aAc _,rfl⟩,fun m out ⟨hm,ho⟩=>?_⟩;refine⟨⟨by omega,by omega⟩,⟨by omega,by omega⟩,⟨by omega,by omega⟩,dd (fun c1=>?_) fun c1=>?_⟩
    ·have hbl:(jO (m:Int)).length<=3:=aAU _ 3;have hE:=aN2 (m:=(m:Int)) hn hA (by omega) (by omega);have hE2:=aLG (m:=(m:Int)) hn hA (by omega) (by omega);refine⟨aNq _ _,aLH _,aE9 (m:Int) (by omega),aLF _ (jO (m:Int)) (by omega) (by omega),aLI _,?_⟩;refine ap ?_ (fun _=>rfl) (by (simp[ho];omega));refine⟨⟨by omega,by omega⟩,?_⟩;exact⟨m+1,_,rfl,rfl,⟨by omega,by rw[ho,List.range_succ,aDj,aDa,List.map_nil,tcC];(rw[hE2];done)⟩,by omega⟩
    ·apply et1
     ·(rw[aHR hok,ho,show ((2:Int)^x.arity.toNat - 1).toNat=m by omega])
theorem aJn {s:dE}{q:aX}{m:Int}(h:qOk s q m=true):pR m=gS (fK m) q.atoms.length:=by
 obtain⟨_,_,_,h1,h2,_,_,h3⟩:=aEo h;exact aNV ⟨by omega,h2⟩ h3.2
theorem aLV (m:Int):(pR m).length<=4:=by
 cases h:fB m 0 15 with
 | false=>rw[aNS h];exact aAc _
 | true=>rw[aEg h];exact aCk _ _
def qcA (s:dE)(q:aX)(x:Int):List aF:=sE (fU s q x.toNat) (q.atoms.getD x.toNat jM)
def qcL (s:dE)(q:aX)(l:List Int):List aF:=l.flatMap (qcA s q)
def aDr (s:dE)(q:aX)(l:List Int):Bool:=l.all fun x=> !decide ((qcA s q x).length=0)
def jF (s:dE)(q:aX)(m:Int):List aF:=if (qOk s q m&&aDr s q (pR m))=true then qcL s q (pR m) else []
theorem aLW {s:dE}{q:aX}{m:Int}(h:qOk s q m=true)(h2:aDr s q (pR m)=true):jF s q m=qcL s q (pR m):=by rw[jF,if_pos (by rw[h,h2];rfl)]
theorem aNr {s:dE}{q:aX}{m:Int}(h:qOk s q m=false):jF s q m= []:=by rw[jF,if_neg (by rw[h];simp)]
theorem aLX {s:dE}{q:aX}{m x:Int}(hx:x∈pR m)(h:(qcA s q x).length=0):jF s q m= []:=by
 rw[jF,if_neg];intro h2;rw[aA1] at h2;have:=aDW.1 h2.2 x hx;simp[h] at this
theorem aNs (s:dE)(q:aX)(l:List Int)(x:Int):qcL s q (l++[x])=qcL s q l++qcA s q x:=by
 rw[qcL,List.flatMap_append];simp[qcL]
theorem aLY {s:dE}{q:aX}{l:List Int}{x:Int}(h:aDr s q l=true)(hx: ¬((qcA s q x).length:Int)=0):aDr s q (l++[x])=true:=by
 rw[aDr,List.all_append,aA1];refine⟨h,?_⟩;simp only[List.all_cons,List.all_nil,Bool.and_true,Bool.not_eq_true',decide_eq_false_iff_not];omega
theorem aFj (s:dE)(q:aX): ∀l:List Int,(qcL s q l).length<=7*l.length
 | []=>aAc _
 | x::l=>by
   have h1:=aHS (fU s q x.toNat) (q.atoms.getD x.toNat jM);have h2:=aFj s q l;have h3:qcL s q (x::l)=qcA s q x++qcL s q l:=by simp[qcL]
   rw[h3,aFu,aFt];unfold qcA;omega
theorem aEp (s:dE)(q:aX)(m:Int):(jF s q m).length<=28:=by
 unfold jF;split
 ·have h1:=aFj s q (pR m);have h2:=aLV m;omega
 exact aAc _
abbrev aDT (s:dE)(q:aX)(m:Int):Prop:=Cn 34 [.agg [.sl 114 3 (s.database.tables.map aM),.int .i64 s.catalogue.version,.sl 77 4 (s.catalogue.tables.map aH),.sl 89 3 (s.dependencies.map aI),.sl 93 4 (s.inclusions.map aP)],.agg [.int .i64 q.variableCount,.sl 80 2 (q.atoms.map bD)],.one (.int .i64 m)] (vB (qOk s q m)) []
theorem aNt (s:dE)(q:aX)(m:Int)(hc:iH s<=1048576):aDT s q m:=by
 refine cq Try.func34 (.call (vB (lL s)) []<| .br (.call (vB (kJ s.database q)) []<| .lit<| .br (.call (vI (eZ q)) []<| .call (vB (fB m (1:Int) (eZ q))) []<| .fin []) (.fin [])) (.fin [])) (p:=Lx (s.database.tables.map aM)<| Lx (s.catalogue.tables.map aH)<| Lx (s.dependencies.map aI)<| Lx (s.inclusions.map aP)<| Lx (q.atoms.map bD)<| aBG s/\Bb (lL s) (aDQ s.database q/\Bb (kJ s.database q) (pS q/\dN m (1:Int) (eZ q)/\(fB m (1:Int) (eZ q))=(qOk s q m)/\True) ((false)=(qOk s q m)/\True)) ((false)=(qOk s q m)/\True)) (by kernel_rfl) ?_;refine lx fun n0=>lx fun n1=>lx fun n2=>lx fun n3=>lx fun n4=>?_;have hS:iH s=cT s.database+dP s.catalogue+cI s.dependencies+cY s.inclusions:=rfl;have hI:=iJ s.inclusions;refine⟨aLQ _ (by omega),db (fun g9=>?_) fun g9=>?_⟩
 ·refine⟨aNo s.database _ (by omega),db (fun g15=>?_) fun g15=>?_⟩
  ·refine⟨aA5 _,fT _ _ _,?_,trivial⟩
   ·(rw[qOk,g9,g15];rfl)
  ·apply et1
   ·(rw[qOk,g9,g15];rfl)
 ·apply et1
  ·(rw[qOk,g9];rfl)
abbrev sJ (s:dE)(q:aX)(i:Int):AV × List (Nat × Rs):=(.agg [.p none (.str ((fU s q i.toNat).name)),vI ((fU s q i.toNat).arity),vI ((fU s q i.toNat).rowCount),.p none (.sl 145 3 ((fU s q i.toNat).groups.map aJ))],[])
abbrev zV (s:dE)(q:aX)(i:Int):Prop:=Cn 36 [.agg [.sl 114 3 (s.database.tables.map aM),.int .i64 s.catalogue.version,.sl 77 4 (s.catalogue.tables.map aH),.sl 89 3 (s.dependencies.map aI),.sl 93 4 (s.inclusions.map aP)],.agg [.int .i64 q.variableCount,.sl 80 2 (q.atoms.map bD)],.one (.int .i64 i)] (sJ s q i).1 (sJ s q i).2
theorem aIi (s:dE)(q:aX)(i:Int)(hc:iH s<=1048576)(hi:0<=i/\i.toNat<q.atoms.length):zV s q i:=by
 refine cq Try.func36 (.elem _ bD q.atoms (fun e15=> .call (.tup [.agg [.p none (.str ((fI s.catalogue e15.name).1.name)),vI ((fI s.catalogue e15.name).1.arity),vI ((fI s.catalogue e15.name).1.rowCount),.p none (.sl 145 3 ((fI s.catalogue e15.name).1.groups.map aJ))],vB ((fI s.catalogue e15.name).2)]) []<| .fin [])) (p:=Lx (s.database.tables.map aM)<| Lx (s.catalogue.tables.map aH)<| Lx (s.dependencies.map aI)<| Lx (s.inclusions.map aP)<| Lx (q.atoms.map bD)<| 0<=i/\Em bD q.atoms ((i).toNat) fun e15=>Con Try.prog 60 [.agg [.int .i64 s.catalogue.version,.sl 77 4 (s.catalogue.tables.map aH)],.one (.str e15.name)] (.tup [.agg [.p none (.str ((fI s.catalogue e15.name).1.name)),vI ((fI s.catalogue e15.name).1.arity),vI ((fI s.catalogue e15.name).1.rowCount),.p none (.sl 145 3 ((fI s.catalogue e15.name).1.groups.map aJ))],vB ((fI s.catalogue e15.name).2)]) []/\((fI s.catalogue e15.name).1.name)=((fU s q i.toNat).name)/\((fI s.catalogue e15.name).1.arity)=((fU s q i.toNat).arity)/\((fI s.catalogue e15.name).1.rowCount)=((fU s q i.toNat).rowCount)/\(fI s.catalogue e15.name).1.groups.map aJ=(fU s q i.toNat).groups.map aJ/\True) (by kernel_rfl) ?_;refine lx fun n0=>lx fun n1=>lx fun n2=>lx fun n3=>lx fun n4=>?_;have hS:iH s=cT s.database+dP s.catalogue+cI s.dependencies+cY s.inclusions:=rfl;have hI:=iJ s.inclusions;refine⟨by omega,rfl,by omega,fun e15 h15=>?_⟩;refine⟨pH (aLR s.catalogue e15.name (by omega)) rfl,?_,?_,?_,?_,trivial⟩<;>((rw[fU,bB h15]<;>rfl))
theorem aFk {s:dE}(q:aX)(i:Nat)(hc:iH s<=1048576):cO (fU s q i)<=1048576:=by
 have h1:=aHZ s.catalogue (q.atoms.getD i jM).name;have hS:iH s=cT s.database+dP s.catalogue+cI s.dependencies+cY s.inclusions:=rfl;unfold fU;omega
abbrev sK (s:dE)(q:aX)(m:Int):AV × List (Nat × Rs):=(.own 0,[(0,.arr 42 3 true ((jF s q m).map aE))])
abbrev zW (s:dE)(q:aX)(m:Int):Prop:=Cn 25 [.agg [.sl 114 3 (s.database.tables.map aM),.int .i64 s.catalogue.version,.sl 77 4 (s.catalogue.tables.map aH),.sl 89 3 (s.dependencies.map aI),.sl 93 4 (s.inclusions.map aP)],.agg [.int .i64 q.variableCount,.sl 80 2 (q.atoms.map bD)],.one (.int .i64 m)] (sK s q m).1 (sK s q m).2
theorem aIj (s:dE)(q:aX)(m:Int)(hc:iH s<=1048576)(hcq:rS q<=1048576):zW s q m:=by
 refine cq Try.func25 (.call (vB (qOk s q m)) []<| .br (.fin [(0,1000)]) (.loop (Nat × (List aF)) (Q2 Nat (List aF)) ([7,8,9,10]++rg 17 25++[43,44,45]) [1000,3800,4500] (fun yy0=>[(8,vI (yy0.1:Int)),(7,.own 1000)]) (fun yy0=>[(1000,some (.arr 42 3 true (yy0.2.map aE)))]) (fun yy0=>yy0.1<=q.atoms.length/\yy0.2=qcL s q (gS (fK m) yy0.1)/\aDr s q (gS (fK m) yy0.1)=true) (fun yy0=>q.atoms.length - yy0.1) (fun yy0=> .len q.atoms.length<| .br (.br (.back [(1000,1000)]) (dT (sJ s q (yy0.1:Int))<| .elem _ bD q.atoms (fun e36=>dT (uT (fU s q (yy0.1:Int).toNat) e36)<| .len ((sE (fU s q (yy0.1:Int).toNat) e36).length)<| .br (.fin [(0,4200)]) (.app aF aE yy0.2 (sE (fU s q (yy0.1:Int).toNat) e36)<| .back [(1000,4500)])))) (.fin [(0,1000)])))) (p:=Lx (s.database.tables.map aM)<| Lx (s.catalogue.tables.map aH)<| Lx (s.dependencies.map aI)<| Lx (s.inclusions.map aP)<| Lx (q.atoms.map bD)<| aDT s q m/\Nr (qOk s q m) ([]=(jF s q m).map aE/\True) ((∃(k:Nat) (out:List aF),0=(k:Int)/\[]=out.map aE/\k<=q.atoms.length/\out=qcL s q (gS (fK m) k)/\aDr s q (gS (fK m) k)=true)/\ ∀(k:Nat) (out:List aF),(k<=q.atoms.length/\out=qcL s q (gS (fK m) k)/\aDr s q (gS (fK m) k)=true)->Lm bD q.atoms/\Br ((k:Int)<(q.atoms.length:Int)) ((0<=(k:Int)/\(k:Int)<=64)/\Br ((bJ .and .i64 (m/2^k) (1:Int))=0) (bS ((k:Int)+1)/\ ∃(k' :Nat) (out' :List aF),((k:Int)+1)=(k' :Int)/\out.map aE=out'.map aE/\(k' <=q.atoms.length/\out' =qcL s q (gS (fK m) k')/\aDr s q (gS (fK m) k')=true)/\q.atoms.length - k' <q.atoms.length - k) (zV s q (k:Int)/\0<=(k:Int)/\Em bD q.atoms k fun e36=>aBJ (fU s q (k:Int).toNat) e36/\Lm aE (sE (fU s q (k:Int).toNat) e36)/\Br ((((sE (fU s q (k:Int).toNat) e36).length:Nat):Int)=0) ([]=(jF s q m).map aE/\True) (Ap aE out (sE (fU s q (k:Int).toNat) e36) 24 (bS ((k:Int)+1)/\ ∃(k' :Nat) (out' :List aF),((k:Int)+1)=(k' :Int)/\(out++(sE (fU s q (k:Int).toNat) e36)).map aE=out'.map aE/\(k' <=q.atoms.length/\out' =qcL s q (gS (fK m) k')/\aDr s q (gS (fK m) k')=true)/\q.atoms.length - k' <q.atoms.length - k)))) (out.map aE=(jF s q m).map aE/\True))) (by kernel_rfl) ?_;refine lx fun n0=>lx fun n1=>lx fun n2=>lx fun n3=>lx fun n4=>?_;have hS:iH s=cT s.database+dP s.catalogue+cI s.dependencies+cY s.inclusions:=rfl;have hI:=iJ s.inclusions;have hQ:rS q=kH q.atoms:=rfl;refine⟨aNt s q m (by omega),dm (fun c0=>?_) fun c0=>?_⟩
 ·have hbad:qOk s q m=false:=by simpa using c0
  apply et1
  ·(rw[aNr hbad]<;>rfl)
 ·have hq:qOk s q m=true:=by simpa using c0
  obtain⟨hq1,hq2,hq3,hm1,hm2,hm3,hm4,hm5⟩:=aEo hq;refine⟨⟨0,([]:List aF),rfl,rfl,aAc _,rfl,rfl⟩,fun k out ⟨hk,ho,ha⟩=>?_⟩;have hlen:out.length<=28:=by rw[ho];have z1:=aFj s q (gS (fK m) k);have z2:=aCk (fK m) k;omega
  refine⟨aA0 _,dd (fun c1=>?_) fun c1=>?_⟩
  ·refine⟨⟨by omega,by omega⟩,dd (fun c2=>?_) fun c2=>?_⟩
   ·refine⟨⟨by omega,by omega⟩,?_⟩;exact⟨k+1,_,rfl,rfl,⟨by omega,by (rw[ho,aB8 (aF1 (by omega))];done),by (rw[aB8 (aF1 (by omega))];exact ha)⟩,by omega⟩
   ·have hb:fK m k=true:=by have z:=aNA (m:=m) (v:=k) ⟨by omega,by omega⟩ (by omega);rw[decide_eq_false c2] at z;simpa using z
    have hcs:=aFk q (k:Int).toNat hc;refine⟨aIi s q (k:Int) (by omega) (by exact⟨by omega,by omega⟩),by omega,rfl,by omega,fun e36 h36=>?_⟩;have hE:sE (fU s q (k:Int).toNat) e36=qcA s q (k:Int):=by rw[qcA,Int.toNat_natCast,bB h36]
    have hzl:=aHS (fU s q (k:Int).toNat) e36;have hcA:=aE3 h36;refine⟨aLU (fU s q (k:Int).toNat) _ (by omega) (by omega),aA0 _,dd (fun c3=>?_) fun c3=>?_⟩
    ·have hem:(k:Int)∈pR m:=by rw[aJn hq];exact aNB.2 ⟨by omega,by omega,by simpa using hb⟩
     apply et1
     ·(rw[aLX hem (by rw[<-hE];omega)]<;>rfl)
    ·refine ap ?_ (fun _=>rfl) (by omega);refine⟨⟨by omega,by omega⟩,?_⟩;exact⟨k+1,_,rfl,rfl,⟨by omega,by (rw[ho,aCj hb,aNs,hE]),by (rw[aCj hb];exact aLY ha (by rw[<-hE];exact c3))⟩,by omega⟩
  ·have hkl:q.atoms.length=k:=by omega
   rw[<-hkl,<-aJn hq] at ho ha;apply et1
   ·(rw[aLW hq ha,ho])
theorem rD {k:Int}(hk:1<=k): ∀i:Nat,1<=k^i
 | 0=>by simp
 | i+1=>by
   rw[Int.pow_succ];have h1:=rD hk i;have h2:1*1<=k^i*k:=Int.mul_le_mul h1 hk (by omega) (by omega);omega
theorem aA6 {k:Int}(hk:1<=k){i j:Nat}(h:i<=j):k^i<=k^j:=by
 obtain⟨t,rfl⟩:=Nat.exists_eq_add_of_le h;rw[Int.pow_add];have h1:=rD hk i;have h2:=rD hk t;have h3:k^i*1<=k^i*k^t:=Int.mul_le_mul_of_nonneg_left h2 (by omega);omega
theorem aRz {n:Nat}(h:n<=12):(2:Int)^n<=4096:=by
 have:=aA6 (k:=2) (by omega) h;exact Int.le_trans this (by decide)
theorem eP {i:Nat}(h:i<=12):bS ((1:Int)*2^i):=by
 have h1:=aRz h;have h2:=rD (k:=2) (by omega) i;exact⟨by omega,by omega⟩
abbrev kK (n:Int)(a:Int)(c:Int):Prop:=Cn 18 [.one (.int .i64 n),.one (.int .i64 a),.one (.int .i64 c)] (vB (decide (a<=n/\n<=c))) []
theorem rE (n a c:Int):kK n a c:=by
 refine cq Try.func18 (.br (.fin []) (.fin [])) (p:=Br (a<=n) (((decide (n<=c))=(decide (a<=n/\n<=c)))/\True) (((false)=(decide (a<=n/\n<=c)))/\True)) (by kernel_rfl) ?_;refine dd (fun g10=>?_) fun g10=>?_
 ·apply et1
  ·(simp[*];done)
 ·apply et1
  ·(simp[*];done)
abbrev gU (n:Int)(a:Int)(c:Int):Prop:=Cn 20 [.one (.int .i64 n),.one (.int .i64 a),.one (.int .i64 c)] (vB (decide (a<=n/\n<=c))) []
theorem lM (n a c:Int):gU n a c:=by
 refine cq Try.func20 (.br (.fin []) (.fin [])) (p:=Br (a<=n) (((decide (n<=c))=(decide (a<=n/\n<=c)))/\True) (((false)=(decide (a<=n/\n<=c)))/\True)) (by kernel_rfl) ?_;refine dd (fun g10=>?_) fun g10=>?_
 ·apply et1
  ·(simp[*];done)
 ·apply et1
  ·(simp[*];done)
def kB (m:Int)(l:List Int):Nat->Int
 | 0=>0
 | k+1=>if (k<4/\0<=l.getD k 0/\l.getD k 0<=3)/\bJ .and .i64 (m/2^(l.getD k 0).toNat) 1=1 then bJ .or .i64 (kB m l k) (1*2^k) else kB m l k
def lZ (m:Int)(l:List Int):Int:=kB m l l.length
theorem aLZ {m:Int}{l:List Int}{k:Nat}{x:Int}(hx:l[k]? =some x)(h:(k<4/\0<=x/\x<=3)/\bJ .and .i64 (m/2^x.toNat) 1=1):kB m l (k+1)=bJ .or .i64 (kB m l k) (1*2^k):=by
 have e:l.getD k 0=x:=by simp[aD6,hx]
 rw[kB,e,if_pos h]
theorem aH3 {m:Int}{l:List Int}{k:Nat}{x:Int}(hx:l[k]? =some x)(h: ¬((k<4/\0<=x/\x<=3)/\bJ .and .i64 (m/2^x.toNat) 1=1)):kB m l (k+1)=kB m l k:=by
 have e:l.getD k 0=x:=by simp[aD6,hx]
 rw[kB,e,if_neg h]
theorem aIk {m:Int}{l:List Int}{k:Nat}(h:4<=k):kB m l k=kB m l 4:=by
 induction k with
 | zero=>omega
 | succ k ih=>
   by_cases h4:k+1=4
   ·rw[h4]
   rw[kB,if_neg (by omega),ih (by omega)]
def zX (l:List Int)(c:aF):aF:=⟨lZ c.src l,lZ c.dst l,c.bits⟩
abbrev aA7 (m:Int)(l:List Int):Prop:=Cn 38 [.one (.int .i64 m),.one (.sl 3 1 (l.map aC))] (vI (lZ m l)) []
theorem aJo (m:Int)(l:List Int):aA7 m l:=by
 refine cq Try.func38 (.loop (Nat × Int) (Q2 Nat Int) (rg 5 31) [] (fun yy0=>[(5,vI yy0.2),(6,vI (yy0.1:Int))]) (fun yy0=>[]) (fun yy0=>(yy0.1<=l.length/\yy0.1<=4)/\yy0.2=kB m l yy0.1) (fun yy0=>l.length - yy0.1) (fun yy0=> .len l.length<| .br (.lit<| .lit<| .br (.elem _ aC l (fun e19=> .call (vB (decide (0<=e19/\e19<=3))) []<| .br (.elem _ aC l (fun e26=> .lit<| .lit<| .lit<| .lit<| .lit<| .br (.back []) (.back []))) (.back []))) (.fin [])) (.fin []))) (p:=Lx (l.map aC)<| (∃(k:Nat) (o:Int),0=o/\0=(k:Int)/\(k<=l.length/\k<=4)/\o=kB m l k)/\ ∀(k:Nat) (o:Int),((k<=l.length/\k<=4)/\o=kB m l k)->Lm aC l/\Br ((k:Int)<(l.length:Int)) (Br ((k:Int)<4) (0<=(k:Int)/\Em aC l k fun e19=>gU e19 (0:Int) (3:Int)/\Br (0<=e19/\e19<=3) (0<=(k:Int)/\Em aC l k fun e26=>(0<=e26/\e26<=64)/\Br ((bJ .and .i64 (m/2^(Int.toNat e26)) (1:Int))=1) ((0<=(k:Int)/\(k:Int)<=64)/\bS ((1:Int)*2^k)/\bS ((k:Int)+1)/\ ∃(k' :Nat) (o' :Int),(bJ .or .i64 o ((1:Int)*2^k))=o' /\((k:Int)+1)=(k' :Int)/\((k' <=l.length/\k' <=4)/\o' =kB m l k')/\l.length - k' <l.length - k) (bS ((k:Int)+1)/\ ∃(k' :Nat) (o' :Int),o=o' /\((k:Int)+1)=(k' :Int)/\((k' <=l.length/\k' <=4)/\o' =kB m l k')/\l.length - k' <l.length - k)) (bS ((k:Int)+1)/\ ∃(k' :Nat) (o' :Int),o=o' /\((k:Int)+1)=(k' :Int)/\((k' <=l.length/\k' <=4)/\o' =kB m l k')/\l.length - k' <l.length - k)) (o=(lZ m l)/\True)) (o=(lZ m l)/\True)) (by kernel_rfl) ?_;refine lx fun n0=>?_;refine⟨⟨0,(0:Int),rfl,rfl,⟨aAc _,by omega⟩,rfl⟩,fun k o ⟨hk,hv⟩=>?_⟩;refine⟨aA0 _,dd (fun g11=>?_) fun g11=>?_⟩
 ·refine dd (fun c0=>?_) fun c0=>?_
  ·refine⟨by omega,rfl,by omega,fun e19 h19=>?_⟩;have hk2:=h19;refine⟨lM _ _ _,dd (fun g22=>?_) fun g22=>?_⟩
   ·refine⟨by omega,rfl,by omega,fun e26 h26=>?_⟩;obtain rfl:=(bE hk2 h26).symm;refine⟨⟨by omega,by omega⟩,dd (fun c1=>?_) fun c1=>?_⟩
    ·refine⟨⟨by omega,by omega⟩,by exact eP (by omega),by exact⟨by omega,by omega⟩,?_⟩;exact⟨k+1,bJ .or .i64 o ((1:Int)*2^k),rfl,rfl,⟨by omega,by (rw[aLZ hk2 (by refine⟨⟨by omega,by omega,by omega⟩,by assumption⟩),hv];done)⟩,by omega⟩
    ·refine⟨by exact⟨by omega,by omega⟩,?_⟩;exact⟨k+1,o,rfl,rfl,⟨by omega,by (rw[aH3 hk2 (by rintro⟨⟨_,_,_⟩,_⟩;omega),hv];done)⟩,by omega⟩
   ·refine⟨by exact⟨by omega,by omega⟩,?_⟩;exact⟨k+1,o,rfl,rfl,⟨by omega,by (rw[aH3 hk2 (by rintro⟨⟨_,_,_⟩,_⟩;omega),hv];done)⟩,by omega⟩
  ·apply et1
   ·(rw[hv,lZ,aIk (k:=l.length) (by omega),show k=4 by omega];done)
 ·apply et1
  ·(rw[hv,lZ,show k=l.length by omega];done)
abbrev xR (l:List aF)(v:List Int):AV × List (Nat × Rs):=(.own 0,[(0,.arr 42 3 true ((l.map (zX v)).map aE))])
abbrev aDU (l:List aF)(v:List Int):Prop:=Cn 27 [.one (.sl 42 3 (l.map aE)),.one (.sl 3 1 (v.map aC))] (xR l v).1 (xR l v).2
theorem aNu (l:List aF)(v:List Int)(hl:l.length<=1048576):aDU l v:=by
 refine cq Try.func27 (.loop (Nat × (List aF)) (Q2 Nat (List aF)) (rg 5 32) [700,3500,3600] (fun yy0=>[(5,.own 700),(6,vI (yy0.1:Int))]) (fun yy0=>[(700,some (.arr 42 3 true (yy0.2.map aE)))]) (fun yy0=>yy0.1<=l.length/\yy0.2=(l.take yy0.1).map (zX v)) (fun yy0=>l.length - yy0.1) (fun yy0=> .len l.length<| .br (.elem _ aE l (fun e17=> .call (vI (lZ e17.src v)) []<| .elem _ aE l (fun e24=> .call (vI (lZ e24.dst v)) []<| .elem _ aE l (fun e31=> .app aF aE yy0.2 ([(⟨lZ e17.src v,lZ e24.dst v,e31.bits⟩:aF)]:List aF)<| .back [(700,3600)])))) (.fin [(0,700)]))) (p:=Lx (l.map aE)<| Lx (v.map aC)<| (∃(k:Nat) (out:List aF),0=(k:Int)/\[]=out.map aE/\k<=l.length/\out=(l.take k).map (zX v))/\ ∀(k:Nat) (out:List aF),(k<=l.length/\out=(l.take k).map (zX v))->Lm aE l/\Br ((k:Int)<(l.length:Int)) (0<=(k:Int)/\Em aE l k fun e17=>aA7 e17.src v/\0<=(k:Int)/\Em aE l k fun e24=>aA7 e24.dst v/\0<=(k:Int)/\Em aE l k fun e31=>Ap aE out ([(⟨lZ e17.src v,lZ e24.dst v,e31.bits⟩:aF)]:List aF) 24 (bS ((k:Int)+1)/\ ∃(k' :Nat) (out' :List aF),((k:Int)+1)=(k' :Int)/\(out++[(⟨lZ e17.src v,lZ e24.dst v,e31.bits⟩:aF)]).map aE=out'.map aE/\(k' <=l.length/\out' =(l.take k').map (zX v))/\l.length - k' <l.length - k)) (out.map aE=(l.map (zX v)).map aE/\True)) (by kernel_rfl) ?_;refine lx fun n0=>lx fun n1=>?_;refine⟨⟨0,([]:List aF),rfl,rfl,aAc _,rfl⟩,fun k out ⟨hk,ho⟩=>?_⟩;refine⟨aA0 _,dd (fun c0=>?_) fun c0=>?_⟩
 ·refine⟨by omega,rfl,by omega,fun e17 h17=>?_⟩;have hk2:=h17;refine⟨aJo _ _,by omega,rfl,by omega,fun e24 h24=>?_⟩;obtain rfl:=(bE hk2 h24).symm;refine⟨aJo _ _,by omega,rfl,by omega,fun e31 h31=>?_⟩;obtain rfl:=(bE hk2 h31).symm;refine ap ?_ (fun _=>rfl) (by simp[ho];omega);refine⟨⟨by omega,by omega⟩,?_⟩;exact⟨k+1,_,rfl,rfl,⟨by omega,by rw[ho,bQ hk2,aDj];rfl⟩,by omega⟩
 ·apply et1
  ·rw[ho,aCu (by omega)]
theorem aDV (m:Int)(l:List Int): ∀k,∃p,kB m l k=m4 p
 | 0=>⟨fun _=>false,by simp[kB,m4,b4]⟩
 | k+1=>by
   obtain⟨p,hp⟩:=aDV m l k;rw[kB];split
   ·rename_i h;exact⟨_,by rw[hp,aMz h.1.1]⟩
   exact⟨p,hp⟩
theorem aBK (m:Int)(l:List Int):0<=lZ m l/\lZ m l<=15:=by
 obtain⟨p,hp⟩:=aDV m l l.length;rw[lZ,hp];exact aMy p
theorem aBL: ∀(f b:Nat) (n:Int),0<=iA f b n/\iA f b n<=((b+f:Nat):Int)
 | 0,b,_=>by rw[iA];omega
 | f+1,b,n=>by
   have:=aBL f (b+1) n;rw[iA];split<;>omega
theorem aIl (n:Int): -1<=fL n/\fL n<=12:=by
 have:=aBL 12 0 n;unfold fL;split<;>omega
theorem aIm {s:dE}{q:aX}{m:Int}{x:aF}(h:x∈jF s q m): -1<=x.bits/\x.bits<=12:=by
 unfold jF at h;split at h
 ·rw[qcL,List.mem_flatMap] at h;obtain⟨y,_,h⟩:=h;rw[qcA] at h;unfold sE at h;split at h
  ·obtain⟨z,_,rfl⟩:=aFm.1 h;exact aIl _
  simp at h
 simp at h
theorem aNv {s:dE}{q:aX}{m:Int}(v:List Int):fX ((jF s q m).map (zX v)):=by
 intro x hx;obtain⟨y,hy,rfl⟩:=aFm.1 hx;have h1:=aBK y.src v;have h2:=aBK y.dst v;have h3:=aIm hy;refine⟨⟨?_,?_⟩,⟨?_,?_⟩,⟨?_,?_⟩⟩<;>(simp only[zX];omega)
def coQ (l:List Int)(u:Cu):aX:=(gW l u).1
def coL (l:List Int)(u:Cu):List aF:=(jF (pA l u).1 (coQ l u) (eZ (coQ l u))).map (zX (oU (coQ l u) (eZ (coQ l u))))
def coO (l:List Int)(u:Cu):Int × Cu:=aA l (gW l u).2 10
def coA (l:List Int)(u:Cu):Int × Cu:=aA l (coO l u).2 4
def coB (l:List Int)(u:Cu):Int × Cu:=aA l (coA l u).2 18
def coC (l:List Int)(u:Cu):Int × Cu:=aA l (coB l u).2 5
def bN (l:List Int)(u:Cu):List aF × Cu:=if (coO l u).1=0 then (coL l u++[⟨(coA l u).1,(coB l u).1 - 1,(coC l u).1 - 1⟩],(coC l u).2) else (coL l u,(coO l u).2)
theorem aJq {l:List Int}{u:Cu}(h:(coO l u).1=0):bN l u=(coL l u++[⟨(coA l u).1,(coB l u).1 - 1,(coC l u).1 - 1⟩],(coC l u).2):=by rw[bN,if_pos h]
theorem aJr {l:List Int}{u:Cu}(h: ¬(coO l u).1=0):bN l u=(coL l u,(coO l u).2):=by rw[bN,if_neg h]
theorem aJs (l:List Int)(u:Cu):(coL l u).length<=28:=by rw[coL,aA0];exact aEp _ _ _
theorem aJt (l:List Int)(u:Cu):(bN l u).1.length<=29:=by
 have h:=aJs l u;by_cases e:(coO l u).1=0
 ·rw[aJq e];simp;omega
 rw[aJr e];show (coL l u).length<=29;omega
theorem aNw (l:List Int)(u:Cu):fX (bN l u).1:=by
 have h:fX (coL l u):=aNv _;have hA:0<=(coA l u).1/\(coA l u).1<4:=cF l _ (by omega);have hB:0<=(coB l u).1/\(coB l u).1<18:=cF l _ (by omega);have hC:0<=(coC l u).1/\(coC l u).1<5:=cF l _ (by omega);by_cases e:(coO l u).1=0
 ·rw[aJq e];intro x hx;rcases aD5.1 hx with q | q
  ·exact h x q
  rw[aHr] at q;subst q;refine⟨⟨?_,?_⟩,⟨?_,?_⟩,⟨?_,?_⟩⟩<;>(dsimp only;omega)
 rw[aJr e];exact h
def orP (L:List aF):Nat->Int
 | 0=>0
 | k+1=>bJ .or .i64 (orP L k) (L.getD k aBY).dst
def iB (m:Int):Nat->Nat->Nat
 | 0,n=>n
 | f+1,n=>if bJ .and .i64 (m/2^n) 1=1 then iB m f (n+1) else n
theorem aNx {m:Int}{n:Nat}(hn:n<4)(h:bJ .and .i64 (m/2^n) 1=1):iB m (4 - n) n=iB m (4 - (n+1)) (n+1):=by
 obtain⟨f,hf⟩: ∃f,4 - n=f+1:=⟨3 - n,by omega⟩;rw[hf,iB,if_pos h,show 4 - (n+1)=f by omega]
theorem aEq {m:Int}{n:Nat}(h: ¬bJ .and .i64 (m/2^n) 1=1):iB m (4 - n) n=n:=by
 cases hf:4 - n with
 | zero=>rfl
 | succ f=>rw[iB,if_neg h]
theorem aDX (m:Int):iB m (4 - 4) 4=4:=rfl
theorem aEr (m:Int): ∀f n,n<=iB m f n/\iB m f n<=n+f
 | 0,n=>by rw[iB];omega
 | f+1,n=>by
   rw[iB];split
   ·have:=aEr m f (n+1);omega
   omega
def zeC (l:List Int):List aF × Cu:=bN l (bL l)
def zeM (l:List Int):Int:=orP (zeC l).1 (zeC l).1.length
def zeO (l:List Int):Int × Cu:=aA l (zeC l).2 8
def cW (l:List Int):Int:=if (zeO l).1=0 then (aA l (zeO l).2 7).1 - 1 else (iB (zeM l) 4 0:Nat)
theorem aJu {l:List Int}(h:(zeO l).1=0):cW l=(aA l (zeO l).2 7).1 - 1:=by rw[cW,if_pos h]
theorem aJv {l:List Int}(h: ¬(zeO l).1=0):cW l=(iB (zeM l) 4 0:Nat):=by rw[cW,if_neg h]
theorem aJw (l:List Int): -1<=cW l/\cW l<=5:=by
 have h:=aEr (zeM l) 4 0;have h2:0<=(aA l (zeO l).2 7).1/\(aA l (zeO l).2 7).1<7:=cF l _ (by omega);unfold cW;split<;>omega
abbrev uU (l:List Int)(u:Cu):List AV × List (Nat × Rs) × AV × List (Nat × Rs):=([.ptr 0 0],[(0,.box 50 [.p none (.sl 5 1 (l.map aY)),vI (u.i:Int),vI u.h])],.own 1,[(0,.box 50 [.p none (.sl 5 1 (l.map aY)),vI (((bN l u).2.i:Nat):Int),vI ((bN l u).2.h)]),(1,.arr 42 3 true ((bN l u).1.map aE))])
abbrev aH5 (l:List Int)(u:Cu):Prop:=Cm 15 (uU l u).1 (uU l u).2.1 (uU l u).2.2.1 (uU l u).2.2.2
theorem aRR (l:List Int)(u:Cu)(hl:l.length<=1048576):aH5 l u:=by
 refine cqx Try.func15 (aQ (uS l u) [(0,0)]<| .call (vI (eZ ((gW l u).1))) []<| dT (sK ((pA l u).1) ((gW l u).1) (eZ ((gW l u).1)))<| .call (vI (eZ ((gW l u).1))) []<| dT (uR ((gW l u).1) (eZ ((gW l u).1)))<| dT (xR (jF ((pA l u).1) ((gW l u).1) (eZ ((gW l u).1))) (oU ((gW l u).1) (eZ ((gW l u).1))))<| aQ (eB l ((gW l u).2) (10:Int)) [(0,0)]<| .br (aQ (cD l ((coO l u).2) (4:Int)) [(0,0)]<| aQ (cD l ((coA l u).2) (18:Int)) [(0,0)]<| aQ (cD l ((coB l u).2) (5:Int)) [(0,0)]<| .app aF aE ((jF ((pA l u).1) ((gW l u).1) (eZ ((gW l u).1))).map (zX (oU ((gW l u).1) (eZ ((gW l u).1))))) ([(⟨(coA l u).1,((coB l u).1) - 1,((coC l u).1) - 1⟩:aF)]:List aF)<| .fin [(0,0),(1,3500)]) (.fin [(0,0),(1,2100)])) (p:=aH2 l u/\l.map aY=l.map aY/\(u.i:Int)=(u.i:Int)/\u.h=u.h/\pS ((gW l u).1)/\zW ((pA l u).1) ((gW l u).1) (eZ ((gW l u).1))/\pS ((gW l u).1)/\aBI ((gW l u).1) (eZ ((gW l u).1))/\aDU (jF ((pA l u).1) ((gW l u).1) (eZ ((gW l u).1))) (oU ((gW l u).1) (eZ ((gW l u).1)))/\fG l ((gW l u).2) (10:Int)/\(10:Int)=10/\l.map aY=l.map aY/\(((gW l u).2.i:Nat):Int)=(((gW l u).2.i:Nat):Int)/\((gW l u).2.h)=((gW l u).2.h)/\Br ((coO l u).1=0) (cK l ((coO l u).2) (4:Int)/\(4:Int)=4/\l.map aY=l.map aY/\(((coO l u).2.i:Nat):Int)=(((coO l u).2.i:Nat):Int)/\((coO l u).2.h)=((coO l u).2.h)/\cK l ((coA l u).2) (18:Int)/\(18:Int)=18/\l.map aY=l.map aY/\(((coA l u).2.i:Nat):Int)=(((coA l u).2.i:Nat):Int)/\((coA l u).2.h)=((coA l u).2.h)/\bS (((coB l u).1) - 1)/\cK l ((coB l u).2) (5:Int)/\(5:Int)=5/\l.map aY=l.map aY/\(((coB l u).2.i:Nat):Int)=(((coB l u).2.i:Nat):Int)/\((coB l u).2.h)=((coB l u).2.h)/\bS (((coC l u).1) - 1)/\Ap aE ((jF ((pA l u).1) ((gW l u).1) (eZ ((gW l u).1))).map (zX (oU ((gW l u).1) (eZ ((gW l u).1))))) ([(⟨(coA l u).1,((coB l u).1) - 1,((coC l u).1) - 1⟩:aF)]:List aF) 24 (l.map aY=l.map aY/\(((coC l u).2.i:Nat):Int)=(((bN l u).2.i:Nat):Int)/\((coC l u).2.h)=((bN l u).2.h)/\(((jF ((pA l u).1) ((gW l u).1) (eZ ((gW l u).1))).map (zX (oU ((gW l u).1) (eZ ((gW l u).1)))))++[(⟨(coA l u).1,((coB l u).1) - 1,((coC l u).1) - 1⟩:aF)]).map aE=(bN l u).1.map aE/\True)) (l.map aY=l.map aY/\(((coO l u).2.i:Nat):Int)=(((bN l u).2.i:Nat):Int)/\((coO l u).2.h)=((bN l u).2.h)/\((jF ((pA l u).1) ((gW l u).1) (eZ ((gW l u).1))).map (zX (oU ((gW l u).1) (eZ ((gW l u).1))))).map aE=(bN l u).1.map aE/\True)) (by kernel_rfl) ?_;have z0:=aS3 l u;have z1:iH (pA l u).1<=21000:=z0.1;have z2:rS (gW l u).1<=40:=z0.2;have hcl:=aJs l u;have hcl2:((jF (pA l u).1 (gW l u).1 (eZ (gW l u).1)).map (zX (oU (gW l u).1 (eZ (gW l u).1)))).length<=28:=hcl;have hql:=aEp (pA l u).1 (gW l u).1 (eZ (gW l u).1);refine⟨aRP l u (by assumption),rfl,rfl,rfl,aA5 ((gW l u).1),aIj ((pA l u).1) ((gW l u).1) (eZ ((gW l u).1)) (by omega) (by omega),aA5 ((gW l u).1),aLT ((gW l u).1) (eZ ((gW l u).1)),aNu _ _ (by omega),jQ l ((gW l u).2) (by assumption) (10:Int),rfl,rfl,rfl,rfl,dd (fun c0=>?_) fun c0=>?_⟩
 ·have hA:0<=(coA l u).1/\(coA l u).1<4:=cF l _ (by omega);have hB:0<=(coB l u).1/\(coB l u).1<18:=cF l _ (by omega);have hC:0<=(coC l u).1/\(coC l u).1<5:=cF l _ (by omega);refine⟨dR l ((coO l u).2) (by assumption) (4:Int),rfl,rfl,rfl,rfl,dR l ((coA l u).2) (by assumption) (18:Int),rfl,rfl,rfl,rfl,⟨by omega,by omega⟩,dR l ((coB l u).2) (by assumption) (5:Int),rfl,rfl,rfl,rfl,⟨by omega,by omega⟩,?_⟩;refine ap ?_ (fun _=>rfl) (by first|omega|(simp;omega));refine⟨rfl,?_,?_,?_,trivial⟩<;>(first|(rw[aJq c0]<;>rfl)|(rw[aJr c0]<;>rfl))
 ·refine⟨rfl,?_,?_,?_,trivial⟩<;>(first|(rw[aJq c0]<;>rfl)|(rw[aJr c0]<;>rfl))
abbrev aFl (l:List Int):AV × List (Nat × Rs):=(.tup [.own 1,vI (cW l)],[(1,.arr 42 3 true ((bN l (bL l)).1.map aE))])
abbrev aJx (l:List Int):Prop:=Cn 5 [.one (.sl 5 1 (l.map aY))] (aFl l).1 (aFl l).2
theorem aSB (l:List Int)(hl:l.length<=1048576):aJx l:=by
 refine cq Try.func5 (aQ (zI l) []<| aQ (uU l (bL l)) [(0,1000)]<| .loop Nat (Q1 Nat) ([6,7]++rg 13 13) [] (fun k=>[(7,vI (k:Int)),(6,vI (orP (bN l (bL l)).1 k))]) (fun k=>[]) (fun k=>k<=(bN l (bL l)).1.length) (fun k=>(bN l (bL l)).1.length - k) (fun k=> .len ((bN l (bL l)).1.length)<| .br (.len ((bN l (bL l)).1.length)<| .elem _ aE ((bN l (bL l)).1) (fun e24=> .back [])) (.loop Nat (Q1 Nat) ([8]++rg 26 11) [] (fun n=>[(8,vI (n:Int))]) (fun n=>[]) (fun n=>n<=4/\iB (orP (bN l (bL l)).1 k) (4 - n) n=iB (orP (bN l (bL l)).1 k) 4 0) (fun n=>4 - n) (fun n=> .br (.lit<| .lit<| .lit<| .lit<| .lit<| .br (.back []) (aQ (eB l ((bN l (bL l)).2) (8:Int)) [(0,1000)]<| .br (aQ (cD l ((aA l ((bN l (bL l)).2) (8:Int)).2) (7:Int)) [(0,1000)]<| .fin [(1,1201)]) (.fin [(1,1201)]))) (aQ (eB l ((bN l (bL l)).2) (8:Int)) [(0,1000)]<| .br (aQ (cD l ((aA l ((bN l (bL l)).2) (8:Int)).2) (7:Int)) [(0,1000)]<| .fin [(1,1201)]) (.fin [(1,1201)])))))) (p:=Lx (l.map aY)<| aJ8 l/\l.map aY=l.map aY/\(aH5 l (bL l)/\l.map aY=l.map aY/\(((bL l).i:Nat):Int)=(((bL l).i:Nat):Int)/\((bL l).h)=((bL l).h)/\((∃(k:Nat),0=(k:Int)/\0=(orP (bN l (bL l)).1 k)/\k<=(bN l (bL l)).1.length)/\ ∀(k:Nat),k<=(bN l (bL l)).1.length->Lm aE ((bN l (bL l)).1)/\Br ((k:Int)<(((bN l (bL l)).1.length:Nat):Int)) (0<=(k:Int)/\Lm aE ((bN l (bL l)).1)/\(k:Int)<(((bN l (bL l)).1.length:Nat):Int)/\Em aE ((bN l (bL l)).1) k fun e24=>bS ((k:Int)+1)/\ ∃(k' :Nat),((k:Int)+1)=(k' :Int)/\(bJ .or .i64 (orP (bN l (bL l)).1 k) e24.dst)=(orP (bN l (bL l)).1 k')/\k' <=(bN l (bL l)).1.length/\(bN l (bL l)).1.length - k' <(bN l (bL l)).1.length - k) ((∃(n:Nat),0=(n:Int)/\n<=4/\iB (orP (bN l (bL l)).1 k) (4 - n) n=iB (orP (bN l (bL l)).1 k) 4 0)/\ ∀(n:Nat),(n<=4/\iB (orP (bN l (bL l)).1 k) (4 - n) n=iB (orP (bN l (bL l)).1 k) 4 0)->Br ((n:Int)<4) ((0<=(n:Int)/\(n:Int)<=64)/\Br ((bJ .and .i64 ((orP (bN l (bL l)).1 k)/2^n) (1:Int))=1) (bS ((n:Int)+1)/\ ∃(n' :Nat),((n:Int)+1)=(n' :Int)/\(n' <=4/\iB (orP (bN l (bL l)).1 k) (4 - n') n' =iB (orP (bN l (bL l)).1 k) 4 0)/\4 - n' <4 - n) (fG l ((bN l (bL l)).2) (8:Int)/\(8:Int)=8/\l.map aY=l.map aY/\(((bN l (bL l)).2.i:Nat):Int)=(((bN l (bL l)).2.i:Nat):Int)/\((bN l (bL l)).2.h)=((bN l (bL l)).2.h)/\Br ((aA l ((bN l (bL l)).2) (8:Int)).1=0) (cK l ((aA l ((bN l (bL l)).2) (8:Int)).2) (7:Int)/\(7:Int)=7/\l.map aY=l.map aY/\(((aA l ((bN l (bL l)).2) (8:Int)).2.i:Nat):Int)=((((aA l ((bN l (bL l)).2) (8:Int)).2).i:Nat):Int)/\((aA l ((bN l (bL l)).2) (8:Int)).2.h)=(((aA l ((bN l (bL l)).2) (8:Int)).2).h)/\bS (((aA l ((aA l ((bN l (bL l)).2) (8:Int)).2) (7:Int)).1) - 1)/\(((aA l ((aA l ((bN l (bL l)).2) (8:Int)).2) (7:Int)).1) - 1)=(cW l)/\(bN l (bL l)).1.map aE=(bN l (bL l)).1.map aE/\True) ((n:Int)=(cW l)/\(bN l (bL l)).1.map aE=(bN l (bL l)).1.map aE/\True))) (fG l ((bN l (bL l)).2) (8:Int)/\(8:Int)=8/\l.map aY=l.map aY/\(((bN l (bL l)).2.i:Nat):Int)=(((bN l (bL l)).2.i:Nat):Int)/\((bN l (bL l)).2.h)=((bN l (bL l)).2.h)/\Br ((aA l ((bN l (bL l)).2) (8:Int)).1=0) (cK l ((aA l ((bN l (bL l)).2) (8:Int)).2) (7:Int)/\(7:Int)=7/\l.map aY=l.map aY/\(((aA l ((bN l (bL l)).2) (8:Int)).2.i:Nat):Int)=((((aA l ((bN l (bL l)).2) (8:Int)).2).i:Nat):Int)/\((aA l ((bN l (bL l)).2) (8:Int)).2.h)=(((aA l ((bN l (bL l)).2) (8:Int)).2).h)/\bS (((aA l ((aA l ((bN l (bL l)).2) (8:Int)).2) (7:Int)).1) - 1)/\(((aA l ((aA l ((bN l (bL l)).2) (8:Int)).2) (7:Int)).1) - 1)=(cW l)/\(bN l (bL l)).1.map aE=(bN l (bL l)).1.map aE/\True) ((n:Int)=(cW l)/\(bN l (bL l)).1.map aE=(bN l (bL l)).1.map aE/\True)))))) (by kernel_rfl) ?_;refine lx fun n0=>?_;have hcl:(bN l (bL l)).1.length<=29:=aJt l (bL l);have hN:=aJw l;have hB7:0<=(aA l (aA l (bN l (bL l)).2 8).2 7).1/\(aA l (aA l (bN l (bL l)).2 8).2 7).1<7:=cF l _ (by omega);refine⟨aRj l (by assumption),rfl,aRR l (bL l) (by assumption),rfl,rfl,rfl,⟨0,(by first|rfl|(rw[orP,bB h24];done)),(by first|rfl|(rw[orP,bB h24];done)),aAc _⟩,fun k hk=>?_⟩;refine⟨aA0 _,dd (fun c0=>?_) fun c0=>?_⟩
 ·refine⟨by omega,aA0 _,by omega,rfl,by omega,fun e24 h24=>?_⟩;refine⟨⟨by omega,by omega⟩,?_⟩;exact⟨k+1,(by first|rfl|(rw[orP,bB h24];done)),(by first|rfl|(rw[orP,bB h24];done)),by omega,by omega⟩
 ·have ek:(bN l (bL l)).1.length=k:=by omega
  refine⟨⟨0,rfl,aAc _,rfl⟩,fun n ⟨hn,ho⟩=>?_⟩;refine dd (fun g28=>?_) fun g28=>?_
  ·refine⟨⟨by omega,by omega⟩,dd (fun c1=>?_) fun c1=>?_⟩
   ·refine⟨⟨by omega,by omega⟩,?_⟩;exact⟨n+1,rfl,⟨by omega,by rw[<-aNx (by omega) (by assumption)];exact ho⟩,by omega⟩
   ·have en:iB (orP (bN l (bL l)).1 k) 4 0=n:=by rw[<-ho];first|(rw[show n=4 by omega];exact aDX _)|exact aEq c1
    have eM:iB (zeM l) 4 0=n:=by show iB (orP (bN l (bL l)).1 (bN l (bL l)).1.length) 4 0=n;rw[ek];exact en
    refine⟨jQ l ((bN l (bL l)).2) (by assumption) (8:Int),rfl,rfl,rfl,rfl,dd (fun c2=>?_) fun c2=>?_⟩
    ·refine⟨dR l ((aA l ((bN l (bL l)).2) (8:Int)).2) (by assumption) (7:Int),rfl,rfl,rfl,rfl,⟨by omega,by omega⟩,?_,rfl,trivial⟩
     ·first|(rw[aJu c2]<;>rfl)|(rw[aJv c2,eM]<;>rfl)
    ·refine⟨?_,rfl,trivial⟩
     ·first|(rw[aJu c2]<;>rfl)|(rw[aJv c2,eM]<;>rfl)
  ·have en:iB (orP (bN l (bL l)).1 k) 4 0=n:=by rw[<-ho];first|(rw[show n=4 by omega];exact aDX _)|exact aEq c1
   have eM:iB (zeM l) 4 0=n:=by show iB (orP (bN l (bL l)).1 (bN l (bL l)).1.length) 4 0=n;rw[ek];exact en
   refine⟨jQ l ((bN l (bL l)).2) (by assumption) (8:Int),rfl,rfl,rfl,rfl,dd (fun c2=>?_) fun c2=>?_⟩
   ·refine⟨dR l ((aA l ((bN l (bL l)).2) (8:Int)).2) (by assumption) (7:Int),rfl,rfl,rfl,rfl,⟨by omega,by omega⟩,?_,rfl,trivial⟩
    ·first|(rw[aJu c2]<;>rfl)|(rw[aJv c2,eM]<;>rfl)
   ·refine⟨?_,rfl,trivial⟩
    ·first|(rw[aJu c2]<;>rfl)|(rw[aJv c2,eM]<;>rfl)
def xS (r:List Int)(s:Int):List Int:=if 0<s then r.set (s - 1).toNat (IntKind.i64.wrap (r.getD (s - 1).toNat 0+1)) else r
def aDs (r:List Int)(s:Int):List Int:=if 0<s then r.set (s - 1).toNat (IntKind.i64.wrap (r.getD (s - 1).toNat 0 - 1)) else r
def fJ (al:Int)(p m:List Int):List Int:=m.foldl aDs (p.foldl xS (List.replicate al.toNat 0))
def lQ (v:Int)(r:List Int)(s:Int):List Int:=if 0<s then r.set (s - 1).toNat v else r
def dL (al:Int)(p m:List Int):List Int:=m.foldl (lQ (-1)) (p.foldl (lQ 1) (List.replicate al.toNat 0))
abbrev cQ (n:Int):Int:=(1:Int)*2^n.toNat - 1
abbrev orB (s:Nat)(i:Nat):Int:=bJ .or .i64 (s:Int) ((1:Int)*2^i)
abbrev or2 (s i j:Nat):Int:=bJ .or .i64 (orB s i) ((1:Int)*2^j)
def sV (row:List Int->List Int->List Int)(hd:Nat->Int)(al:Int):Nat->List (List Int)
 | 0=>[]
 | k+1=>sV row hd al k++[row [hd k] [al]]
def aEs (s i:Nat):Bool:=decide (bJ .and .i64 ((s:Int)/2^i) (1:Int)=0)
def elS (row:List Int->List Int->List Int)(i j:Nat):Nat->List (List Int)
 | 0=>[]
 | s+1=>elS row i j s++(if aEs s i=true/\aEs s j=true then [row [(s:Int),or2 s i j] [orB s i,orB s j]] else [])
def elJ (row:List Int->List Int->List Int)(T i:Nat):Nat->List (List Int)
 | 0=>[]
 | m+1=>elJ row T i m++elS row i (i+1+m) T
def vR (row:List Int->List Int->List Int)(T n:Nat):Nat->List (List Int)
 | 0=>[]
 | i+1=>vR row T n i++elJ row T i (n - (i+1))
def aNy (row:List Int->List Int->List Int)(hd:Nat->Int)(al:Int)(n:Nat):List (List Int):=sV row hd al n++vR row (2^n) n n
def hdI (n:Int)(i:Nat):Int:=bJ .andNot .i64 (cQ n) ((1:Int)*2^i)
def hdS (n:Int)(i:Nat):Int:=cQ n - 1*2^i
def bR (n:Int):List (List Int):=if 1<=n/\n<=4 then aNy (fJ (cQ n)) (hdI n) (cQ n) n.toNat else []
def cE (n:Int):List (List Int):=if 1<=n/\n<=4 then aNy (dL (cQ n)) (hdS n) (cQ n) n.toNat else []
theorem vS (n:Int):bR n=cE n:=by
 by_cases h:1<=n/\n<=4
 ·have:n=1\/n=2\/n=3\/n=4:=by omega
  rcases this with rfl | rfl | rfl | rfl<;>decide+kernel
 rw[bR,cE,if_neg h,if_neg h]
theorem aH6 {α:Type}{l:List α}{k:Nat}{x y:α}(h:l[k]? =some x):l.getD k y=x:=by simp[aD6,h]
theorem jG {α β:Type}{f:β->α->β}{l:List α}{k:Nat}{x:α}{z:β}(h:l[k]? =some x):(l.take (k+1)).foldl f z=f ((l.take k).foldl f z) x:=by rw[bQ h,List.foldl_append];rfl
theorem aNz {r:List Int}{s y:Int}(h:0<s)(hy:r[(s - 1).toNat]? =some y):xS r s=r.set (s - 1).toNat (IntKind.i64.wrap (y+1)):=by rw[xS,if_pos h,aH6 hy]
theorem aOA {r:List Int}{s y:Int}(h:0<s)(hy:r[(s - 1).toNat]? =some y):aDs r s=r.set (s - 1).toNat (IntKind.i64.wrap (y - 1)):=by rw[aDs,if_pos h,aH6 hy]
theorem aPd {r:List Int}{s:Int}(h: ¬0<s):xS r s=r:=by rw[xS,if_neg h]
theorem aPe {r:List Int}{s:Int}(h: ¬0<s):aDs r s=r:=by rw[aDs,if_neg h]
theorem rF {r:List Int}{s v:Int}(h:0<s):lQ v r s=r.set (s - 1).toNat v:=by rw[lQ,if_pos h]
theorem aFn {r:List Int}{s v:Int}(h: ¬0<s):lQ v r s=r:=by rw[lQ,if_neg h]
theorem aS6 {b:Int}: ∀s∈([]:List Int),s<=b:=by simp
theorem aIn {a b:Int}(h:a<=b): ∀s∈[a],s<=b:=by simpa using h
theorem aPf {a c b:Int}(h:a<=b)(h' :c<=b): ∀s∈[a,c],s<=b:=by simpa using ⟨h,h'⟩
theorem aSD: ∀(n:_root_.Fin 5) (i j:_root_.Fin 4) (s:_root_.Fin 16),i.1<n.1->j.1<n.1->s.1<2^n.1->orB s.1 i.1<=1*2^n.1 - 1/\or2 s.1 i.1 j.1<=1*2^n.1 - 1:=by decide+kernel
theorem aFo {n i j s:Nat}(hn:n<=4)(hi:i<n)(hj:j<n)(hs:s<2^n):orB s i<=1*2^n - 1/\or2 s i j<=1*2^n - 1:=by
 have h16:2^n<=2^4:=Nat.pow_le_pow_right (by omega) hn;exact aSD ⟨n,by omega⟩ ⟨i,by omega⟩ ⟨j,by omega⟩ ⟨s,by omega⟩ hi hj hs
theorem aPg: ∀(n:_root_.Fin 5) (i:_root_.Fin 4),i.1<n.1->hdI (n.1:Int) i.1<=1*2^n.1 - 1:=by decide+kernel
theorem aRS {n:Int}{i:Nat}(h:1<=n/\n<=4)(hi:(i:Int)<n):hdI n i<=cQ n:=by
 have:=aPg ⟨n.toNat,by omega⟩ ⟨i,by omega⟩ (by show i<n.toNat;omega);rw[show (((⟨n.toNat,by omega⟩:_root_.Fin 5).1:Nat):Int)=n from by show (n.toNat:Int)=n;omega] at this;exact this
theorem vT {n:Int}(h:1<=n/\n<=4):((2^n.toNat:Nat):Int)=1*2^n.toNat/\2<=2^n.toNat/\2^n.toNat<=16:=by
 refine⟨by simp,?_,?_⟩
 ·have:2^1<=2^n.toNat:=Nat.pow_le_pow_right (by decide) (by omega);exact this
 have:2^n.toNat<=2^4:=Nat.pow_le_pow_right (by decide) (by omega);exact this
theorem aJy {n:Int}{i:Nat}(h:n<=4)(hi:(i:Int)<n):(1:Int)<=2^i/\(2:Int)^i<=2^n.toNat:=⟨rD (by omega) i,aA6 (by omega) (by omega)⟩
abbrev kU (al:Int)(p:List Int)(m:List Int)(out:List (List Int)):List AV × List (Nat × Rs) × AV × List (Nat × Rs):=([.p none (.sl 3 1 (p.map aC)),.p none (.sl 3 1 (m.map aC)),.rp none [.int .i64 al],.ptr 0 0],[(0,.box 28 [.own 1]),(1,.arr 27 1 true (out.map aD))],.tup [],[(0,.box 28 [.own 2]),(2,.arr 27 1 true ((out++[fJ al p m]).map aD))])
abbrev uV (al:Int)(p:List Int)(m:List Int)(out:List (List Int)):Prop:=Cm 23 (kU al p m out).1 (kU al p m out).2.1 (kU al p m out).2.2.1 (kU al p m out).2.2.2
theorem aEt (al:Int)(p m:List Int)(out:List (List Int))(hal:0<=al/\al<=15)(hp: ∀s∈p,s<=al)(hm: ∀s∈m,s<=al)(ho:out.length<=1000)(hpl:p.length<=100)(hml:m.length<=100):uV al p m out:=by
 refine cqx Try.func23 (.mk ((al).toNat) [.int .i64 (0:Int)] ((List.replicate ((al).toNat) (0:Int)).map aC)<| .len p.length<| .loop (Nat × (List Int)) (Q2 Nat (List Int)) ([6,8]++rg 15 14) [1200] (fun yy0=>[(15,vI (yy0.1:Int)),(6,.own 1200)]) (fun yy0=>[(1200,some (.arr 3 1 true (yy0.2.map aC)))]) (fun yy0=>yy0.1<=p.length/\yy0.2=(p.take yy0.1).foldl xS (List.replicate al.toNat 0)/\yy0.2.length=al.toNat) (fun yy0=>p.length - yy0.1) (fun yy0=> .br (.elem _ aC p (fun e17=> .br (.len yy0.2.length<| .elem _ aC yy0.2 (fun e25=> .raw<| .len yy0.2.length<| .set Int aC yy0.2 (fun s5_7=>IntKind.i64.wrap (e25+1)) (fun s5_7=> .back [(1200,1200)]))) (.back [(1200,1200)]))) (.len m.length<| .loop (Nat × (List Int)) (Q2 Nat (List Int)) ([6,10]++rg 31 14) [1200] (fun yy1=>[(31,vI (yy1.1:Int)),(6,.own 1200)]) (fun yy1=>[(1200,some (.arr 3 1 true (yy1.2.map aC)))]) (fun yy1=>yy1.1<=m.length/\yy1.2=(m.take yy1.1).foldl aDs (p.foldl xS (List.replicate al.toNat 0))/\yy1.2.length=al.toNat) (fun yy1=>m.length - yy1.1) (fun yy1=> .br (.elem _ aC m (fun e33=> .br (.len yy1.2.length<| .elem _ aC yy1.2 (fun e41=> .raw<| .len yy1.2.length<| .set Int aC yy1.2 (fun s11_7=>IntKind.i64.wrap (e41 - 1)) (fun s11_7=> .back [(1200,1200)]))) (.back [(1200,1200)]))) (.appx (List Int) aD out yy1.2<| .fin [(0,0),(2,4800)]))))) (p:=al=(((al).toNat:Nat):Int)/\al=(((al).toNat:Nat):Int)/\8*((al).toNat)<=281474976710656/\((al).toNat)<=9223372036854775807/\List.replicate ((al).toNat) [.int .i64 (0:Int)]=(List.replicate ((al).toNat) (0:Int)).map aC/\(Lm aC p/\((∃(k:Nat) (r:List Int),0=(k:Int)/\(List.replicate ((al).toNat) (0:Int)).map aC=r.map aC/\k<=p.length/\r=(p.take k).foldl xS (List.replicate al.toNat 0)/\r.length=al.toNat)/\ ∀(k:Nat) (r:List Int),(k<=p.length/\r=(p.take k).foldl xS (List.replicate al.toNat 0)/\r.length=al.toNat)->Br ((k:Int)<(p.length:Int)) (0<=(k:Int)/\Em aC p k fun e17=>Br (0<e17) (bS (e17 - 1)/\(0<=(e17 - 1)/\Lm aC r/\(e17 - 1)<(r.length:Int)/\Em aC r ((e17 - 1).toNat) fun e25=>0<=(e17 - 1)/\Lm aC r/\(e17 - 1)<(r.length:Int)/\(r.map aC=r.map aC/\(e17 - 1).toNat<r.length/\ ∀s5_7,r[(e17 - 1).toNat]? =some s5_7->lS (aC s5_7)=true/\0+1<=(aC s5_7).length/\(aC s5_7).take 0++[.int .i64 (IntKind.i64.wrap (e25+1))]++(aC s5_7).drop (0+1)=aC (IntKind.i64.wrap (e25+1))/\bS ((k:Int)+1)/\ ∃(k' :Nat) (r' :List Int),((k:Int)+1)=(k' :Int)/\(r.set ((e17 - 1).toNat) (IntKind.i64.wrap (e25+1))).map aC=r'.map aC/\(k' <=p.length/\r' =(p.take k').foldl xS (List.replicate al.toNat 0)/\r'.length=al.toNat)/\p.length - k' <p.length - k))) (bS ((k:Int)+1)/\ ∃(k' :Nat) (r' :List Int),((k:Int)+1)=(k' :Int)/\r.map aC=r'.map aC/\(k' <=p.length/\r' =(p.take k').foldl xS (List.replicate al.toNat 0)/\r'.length=al.toNat)/\p.length - k' <p.length - k)) (Lm aC m/\((∃(k2:Nat) (r2:List Int),0=(k2:Int)/\r.map aC=r2.map aC/\k2<=m.length/\r2=(m.take k2).foldl aDs (p.foldl xS (List.replicate al.toNat 0))/\r2.length=al.toNat)/\ ∀(k2:Nat) (r2:List Int),(k2<=m.length/\r2=(m.take k2).foldl aDs (p.foldl xS (List.replicate al.toNat 0))/\r2.length=al.toNat)->Br ((k2:Int)<(m.length:Int)) (0<=(k2:Int)/\Em aC m k2 fun e33=>Br (0<e33) (bS (e33 - 1)/\(0<=(e33 - 1)/\Lm aC r2/\(e33 - 1)<(r2.length:Int)/\Em aC r2 ((e33 - 1).toNat) fun e41=>0<=(e33 - 1)/\Lm aC r2/\(e33 - 1)<(r2.length:Int)/\(r2.map aC=r2.map aC/\(e33 - 1).toNat<r2.length/\ ∀s11_7,r2[(e33 - 1).toNat]? =some s11_7->lS (aC s11_7)=true/\0+1<=(aC s11_7).length/\(aC s11_7).take 0++[.int .i64 (IntKind.i64.wrap (e41 - 1))]++(aC s11_7).drop (0+1)=aC (IntKind.i64.wrap (e41 - 1))/\bS ((k2:Int)+1)/\ ∃(k2' :Nat) (r2' :List Int),((k2:Int)+1)=(k2' :Int)/\(r2.set ((e33 - 1).toNat) (IntKind.i64.wrap (e41 - 1))).map aC=r2'.map aC/\(k2' <=m.length/\r2' =(m.take k2').foldl aDs (p.foldl xS (List.replicate al.toNat 0))/\r2'.length=al.toNat)/\m.length - k2' <m.length - k2))) (bS ((k2:Int)+1)/\ ∃(k2' :Nat) (r2' :List Int),((k2:Int)+1)=(k2' :Int)/\r2.map aC=r2'.map aC/\(k2' <=m.length/\r2' =(m.take k2').foldl aDs (p.foldl xS (List.replicate al.toNat 0))/\r2'.length=al.toNat)/\m.length - k2' <m.length - k2)) (out.map aD=out.map aD/\r2.map aC=r2.map aC/\(out.length+1)*24<=140737488355328/\(out++[r2]).map aD=(out++[fJ al p m]).map aD/\True)))))) (by kernel_rfl) ?_;refine⟨by omega,by omega,by omega,by omega,by (rw[aHK];done),aA0 _,⟨0,List.replicate ((al).toNat) (0:Int),rfl,rfl,aAc _,rfl,aL3⟩,fun k r ⟨hk,hr,hl⟩=>?_⟩;refine dd (fun c0=>?_) fun c0=>?_
 ·refine⟨by omega,rfl,by omega,fun e17 h17=>?_⟩;have hx:=hp _ (aAm h17);refine dd (fun c1=>?_) fun c1=>?_
  ·refine⟨⟨by omega,by omega⟩,by omega,aA0 _,by omega,rfl,by omega,fun e25 h25=>?_⟩;refine⟨by omega,aA0 _,by omega,rfl,by omega,fun s5_7 hs5_7=>⟨rfl,aAu rfl,rfl,?_⟩⟩;refine⟨⟨by omega,by omega⟩,?_⟩;exact⟨k+1,_,rfl,rfl,⟨by omega,by (rw[jG h17,<-hr,aNz c1 h25]),by (rw[aD8];exact hl)⟩,by omega⟩
  ·refine⟨⟨by omega,by omega⟩,?_⟩;exact⟨k+1,_,rfl,rfl,⟨by omega,by (rw[jG h17,<-hr,aPd c1];done),by exact hl⟩,by omega⟩
 ·refine⟨aA0 _,⟨0,r,rfl,rfl,aAc _,by rw[hr,aCu (by omega)];rfl,hl⟩,fun k2 r2 ⟨hk2,hr2,hl2⟩=>?_⟩;refine dd (fun c2=>?_) fun c2=>?_
  ·refine⟨by omega,rfl,by omega,fun e33 h33=>?_⟩;have hx:=hm _ (aAm h33);refine dd (fun c3=>?_) fun c3=>?_
   ·refine⟨⟨by omega,by omega⟩,by omega,aA0 _,by omega,rfl,by omega,fun e41 h41=>?_⟩;refine⟨by omega,aA0 _,by omega,rfl,by omega,fun s11_7 hs11_7=>⟨rfl,aAu rfl,rfl,?_⟩⟩;refine⟨⟨by omega,by omega⟩,?_⟩;exact⟨k2+1,_,rfl,rfl,⟨by omega,by (rw[jG h33,<-hr2,aOA c3 h41]),by (rw[aD8];exact hl2)⟩,by omega⟩
   ·refine⟨⟨by omega,by omega⟩,?_⟩;exact⟨k2+1,_,rfl,rfl,⟨by omega,by (rw[jG h33,<-hr2,aPe c3];done),by exact hl2⟩,by omega⟩
  ·refine⟨rfl,rfl,by omega,?_,trivial⟩
   ·rw[hr2,aCu (by omega)];rfl
abbrev kV (n:Int)(p:List Int)(m:List Int):AV × List (Nat × Rs):=(.own 0,[(0,.arr 3 1 true ((dL (cQ n) p m).map aC))])
abbrev nK (n:Int)(p:List Int)(m:List Int):Prop:=Cn 21 [.one (.int .i64 n),.one (.sl 3 1 (p.map aC)),.one (.sl 3 1 (m.map aC))] (kV n p m).1 (kV n p m).2
theorem vU (n:Int)(p m:List Int)(hn:1<=n/\n<=4)(hp: ∀s∈p,s<=cQ n)(hm: ∀s∈m,s<=cQ n)(hpl:p.length<=100)(hml:m.length<=100):nK n p m:=by
 refine cq Try.func21 (.mk ((((1:Int)*2^(Int.toNat n)) - 1).toNat) [.int .i64 (0:Int)] ((List.replicate ((((1:Int)*2^(Int.toNat n)) - 1).toNat) (0:Int)).map aC)<| .loop (Nat × (List Int)) (Q2 Nat (List Int)) ([7,8]++rg 14 18) [1300] (fun yy0=>[(8,vI (yy0.1:Int)),(7,.own 1300)]) (fun yy0=>[(1300,some (.arr 3 1 true (yy0.2.map aC)))]) (fun yy0=>yy0.1<=p.length/\yy0.2=(p.take yy0.1).foldl (lQ 1) (List.replicate (cQ n).toNat 0)/\yy0.2.length=(cQ n).toNat) (fun yy0=>p.length - yy0.1) (fun yy0=> .len p.length<| .br (.elem _ aC p (fun e22=> .br (.elem _ aC p (fun e28=> .len yy0.2.length<| .set Int aC yy0.2 (fun s6_7=>(1:Int)) (fun s6_7=> .back [(1300,1300)]))) (.back [(1300,1300)]))) (.loop (Nat × (List Int)) (Q2 Nat (List Int)) ([7,9]++rg 32 18) [1300] (fun yy1=>[(9,vI (yy1.1:Int)),(7,.own 1300)]) (fun yy1=>[(1300,some (.arr 3 1 true (yy1.2.map aC)))]) (fun yy1=>yy1.1<=m.length/\yy1.2=(m.take yy1.1).foldl (lQ (-1)) (p.foldl (lQ 1) (List.replicate (cQ n).toNat 0))/\yy1.2.length=(cQ n).toNat) (fun yy1=>m.length - yy1.1) (fun yy1=> .len m.length<| .br (.elem _ aC m (fun e40=> .br (.elem _ aC m (fun e46=> .len yy1.2.length<| .set Int aC yy1.2 (fun s11_7=>(-1:Int)) (fun s11_7=> .back [(1300,1300)]))) (.back [(1300,1300)]))) (.fin [(0,1300)]))))) (p:=Lx (p.map aC)<| Lx (m.map aC)<| (0<=n/\n<=64)/\(bS ((1:Int)*2^(Int.toNat n))/\(bS (((1:Int)*2^(Int.toNat n)) - 1)/\((((1:Int)*2^(Int.toNat n)) - 1)=(((((1:Int)*2^(Int.toNat n)) - 1).toNat:Nat):Int)/\(((1:Int)*2^(Int.toNat n)) - 1)=(((((1:Int)*2^(Int.toNat n)) - 1).toNat:Nat):Int)/\8*((((1:Int)*2^(Int.toNat n)) - 1).toNat)<=281474976710656/\((((1:Int)*2^(Int.toNat n)) - 1).toNat)<=9223372036854775807/\List.replicate ((((1:Int)*2^(Int.toNat n)) - 1).toNat) [.int .i64 (0:Int)]=(List.replicate ((((1:Int)*2^(Int.toNat n)) - 1).toNat) (0:Int)).map aC/\((∃(k:Nat) (r:List Int),0=(k:Int)/\(List.replicate ((((1:Int)*2^(Int.toNat n)) - 1).toNat) (0:Int)).map aC=r.map aC/\k<=p.length/\r=(p.take k).foldl (lQ 1) (List.replicate (cQ n).toNat 0)/\r.length=(cQ n).toNat)/\ ∀(k:Nat) (r:List Int),(k<=p.length/\r=(p.take k).foldl (lQ 1) (List.replicate (cQ n).toNat 0)/\r.length=(cQ n).toNat)->Lm aC p/\Br ((k:Int)<(p.length:Int)) (0<=(k:Int)/\Em aC p k fun e22=>Br (0<e22) (0<=(k:Int)/\Em aC p k fun e28=>bS (e28 - 1)/\(0<=(e28 - 1)/\Lm aC r/\(e28 - 1)<(r.length:Int)/\(r.map aC=r.map aC/\(e28 - 1).toNat<r.length/\ ∀s6_7,r[(e28 - 1).toNat]? =some s6_7->lS (aC s6_7)=true/\0+1<=(aC s6_7).length/\(aC s6_7).take 0++[.int .i64 (1:Int)]++(aC s6_7).drop (0+1)=aC (1:Int)/\bS ((k:Int)+1)/\ ∃(k' :Nat) (r' :List Int),((k:Int)+1)=(k' :Int)/\(r.set ((e28 - 1).toNat) (1:Int)).map aC=r'.map aC/\(k' <=p.length/\r' =(p.take k').foldl (lQ 1) (List.replicate (cQ n).toNat 0)/\r'.length=(cQ n).toNat)/\p.length - k' <p.length - k))) (bS ((k:Int)+1)/\ ∃(k' :Nat) (r' :List Int),((k:Int)+1)=(k' :Int)/\r.map aC=r'.map aC/\(k' <=p.length/\r' =(p.take k').foldl (lQ 1) (List.replicate (cQ n).toNat 0)/\r'.length=(cQ n).toNat)/\p.length - k' <p.length - k)) ((∃(k2:Nat) (r2:List Int),0=(k2:Int)/\r.map aC=r2.map aC/\k2<=m.length/\r2=(m.take k2).foldl (lQ (-1)) (p.foldl (lQ 1) (List.replicate (cQ n).toNat 0))/\r2.length=(cQ n).toNat)/\ ∀(k2:Nat) (r2:List Int),(k2<=m.length/\r2=(m.take k2).foldl (lQ (-1)) (p.foldl (lQ 1) (List.replicate (cQ n).toNat 0))/\r2.length=(cQ n).toNat)->Lm aC m/\Br ((k2:Int)<(m.length:Int)) (0<=(k2:Int)/\Em aC m k2 fun e40=>Br (0<e40) (0<=(k2:Int)/\Em aC m k2 fun e46=>bS (e46 - 1)/\(0<=(e46 - 1)/\Lm aC r2/\(e46 - 1)<(r2.length:Int)/\(r2.map aC=r2.map aC/\(e46 - 1).toNat<r2.length/\ ∀s11_7,r2[(e46 - 1).toNat]? =some s11_7->lS (aC s11_7)=true/\0+1<=(aC s11_7).length/\(aC s11_7).take 0++[.int .i64 (-1:Int)]++(aC s11_7).drop (0+1)=aC (-1:Int)/\bS ((k2:Int)+1)/\ ∃(k2' :Nat) (r2' :List Int),((k2:Int)+1)=(k2' :Int)/\(r2.set ((e46 - 1).toNat) (-1:Int)).map aC=r2'.map aC/\(k2' <=m.length/\r2' =(m.take k2').foldl (lQ (-1)) (p.foldl (lQ 1) (List.replicate (cQ n).toNat 0))/\r2'.length=(cQ n).toNat)/\m.length - k2' <m.length - k2))) (bS ((k2:Int)+1)/\ ∃(k2' :Nat) (r2' :List Int),((k2:Int)+1)=(k2' :Int)/\r2.map aC=r2'.map aC/\(k2' <=m.length/\r2' =(m.take k2').foldl (lQ (-1)) (p.foldl (lQ 1) (List.replicate (cQ n).toNat 0))/\r2'.length=(cQ n).toNat)/\m.length - k2' <m.length - k2)) (r2.map aC=(dL (cQ n) p m).map aC/\True))))))) (by kernel_rfl) ?_;refine lx fun n0=>lx fun n1=>?_;obtain⟨b1,b2,b3⟩:=vT hn;have hal:cQ n=1*2^n.toNat - 1:=rfl;refine⟨⟨by omega,by omega⟩,by exact eP (by omega),by exact⟨by omega,by omega⟩,by omega,by omega,by omega,by omega,by (rw[aHK];done),⟨0,List.replicate ((((1:Int)*2^(Int.toNat n)) - 1).toNat) (0:Int),rfl,rfl,aAc _,rfl,aL3⟩,fun k r ⟨hk,hr,hl⟩=>?_⟩;refine⟨aA0 _,dd (fun c0=>?_) fun c0=>?_⟩
 ·refine⟨by omega,rfl,by omega,fun e22 h22=>?_⟩;have hx:=hp _ (aAm h22);refine dd (fun c1=>?_) fun c1=>?_
  ·refine⟨by omega,rfl,by omega,fun e28 h28=>?_⟩;obtain rfl:=(bE h22 h28).symm;refine⟨by exact⟨by omega,by omega⟩,by omega,aA0 _,by omega,rfl,by omega,fun s6_7 hs6_7=>⟨rfl,aAu rfl,rfl,?_⟩⟩;refine⟨by exact⟨by omega,by omega⟩,?_⟩;exact⟨k+1,_,rfl,rfl,⟨by omega,by (rw[jG h22,<-hr,rF c1]),by (rw[aD8];exact hl)⟩,by omega⟩
  ·refine⟨by exact⟨by omega,by omega⟩,?_⟩;exact⟨k+1,_,rfl,rfl,⟨by omega,by (rw[jG h22,<-hr,aFn c1];done),by exact hl⟩,by omega⟩
 ·refine⟨⟨0,r,rfl,rfl,aAc _,by rw[hr,aCu (by omega)];rfl,hl⟩,fun k2 r2 ⟨hk2,hr2,hl2⟩=>?_⟩;refine⟨aA0 _,dd (fun c2=>?_) fun c2=>?_⟩
  ·refine⟨by omega,rfl,by omega,fun e40 h40=>?_⟩;have hx:=hm _ (aAm h40);refine dd (fun c3=>?_) fun c3=>?_
   ·refine⟨by omega,rfl,by omega,fun e46 h46=>?_⟩;obtain rfl:=(bE h40 h46).symm;refine⟨by exact⟨by omega,by omega⟩,by omega,aA0 _,by omega,rfl,by omega,fun s11_7 hs11_7=>⟨rfl,aAu rfl,rfl,?_⟩⟩;refine⟨by exact⟨by omega,by omega⟩,?_⟩;exact⟨k2+1,_,rfl,rfl,⟨by omega,by (rw[jG h40,<-hr2,rF c3]),by (rw[aD8];exact hl2)⟩,by omega⟩
   ·refine⟨by exact⟨by omega,by omega⟩,?_⟩;exact⟨k2+1,_,rfl,rfl,⟨by omega,by (rw[jG h40,<-hr2,aFn c3];done),by exact hl2⟩,by omega⟩
  ·apply et1
   ·rw[hr2,aCu (by omega)];rfl
abbrev nL (n:Int):AV × List (Nat × Rs):=(.own 0,[(0,.arr 27 1 true ((cE n).map aD))])
abbrev pT (n:Int):Prop:=Cn 11 [.one (.int .i64 n)] (nL n).1 (nL n).2
theorem aA8 (n:Int):pT n:=by
 refine cq Try.func11 (.call (vB (decide (1<=n/\n<=4))) []<| .br (.fin [(0,900)]) (.loop (Nat × (List (List Int))) (Q2 Nat (List (List Int))) ([3,5,9]++rg 17 17) [900,2800,3000,3100,3200,3300] (fun yy0=>[(3,.own 900),(5,vI (yy0.1:Int))]) (fun yy0=>[(900,some (.arr 27 1 true (yy0.2.map aD)))]) (fun yy0=>(yy0.1:Int)<=n/\yy0.2=sV (dL (cQ n)) (hdS n) (cQ n) yy0.1/\yy0.2.length<=yy0.1) (fun yy0=>n.toNat - yy0.1) (fun yy0=> .br (dT (kV n ([(((1:Int)*2^(Int.toNat n)) - 1) - ((1:Int)*2^yy0.1)]:List Int) ([((1:Int)*2^(Int.toNat n)) - 1]:List Int))<| .appx (List Int) aD yy0.2 (dL (cQ n) ([(((1:Int)*2^(Int.toNat n)) - 1) - ((1:Int)*2^yy0.1)]:List Int) ([((1:Int)*2^(Int.toNat n)) - 1]:List Int))<| .back [(900,3300)]) (.loop (Nat × (List (List Int))) (Q2 Nat (List (List Int))) ([3,6,7,8]++rg 34 52) [900,7300,8200,8300,8400,8500] (fun yy1=>[(3,.own 900),(6,vI (yy1.1:Int))]) (fun yy1=>[(900,some (.arr 27 1 true (yy1.2.map aD)))]) (fun yy1=>(yy1.1:Int)<=n/\yy1.2=sV (dL (cQ n)) (hdS n) (cQ n) n.toNat++vR (dL (cQ n)) (2^n.toNat) n.toNat yy1.1/\yy1.2.length<=4+yy1.1*64) (fun yy1=>n.toNat - yy1.1) (fun yy1=> .br (.loop (Nat × (List (List Int))) (Q2 Nat (List (List Int))) ([3,7,8]++rg 41 45) [900,7300,8200,8300,8400,8500] (fun yy2=>[(3,.own 900),(7,vI ((yy1.1+1+yy2.1:Nat):Int))]) (fun yy2=>[(900,some (.arr 27 1 true (yy2.2.map aD)))]) (fun yy2=>((yy1.1+1+yy2.1:Nat):Int)<=n/\yy2.2=sV (dL (cQ n)) (hdS n) (cQ n) n.toNat++vR (dL (cQ n)) (2^n.toNat) n.toNat yy1.1++elJ (dL (cQ n)) (2^n.toNat) yy1.1 yy2.1/\yy2.2.length<=4+yy1.1*64+yy2.1*16) (fun yy2=>n.toNat - (yy1.1+1+yy2.1)) (fun yy2=> .br (.loop (Nat × (List (List Int))) (Q2 Nat (List (List Int))) ([3,8]++rg 46 40) [900,7300,8200,8300,8400,8500] (fun yy3=>[(3,.own 900),(8,vI (yy3.1:Int))]) (fun yy3=>[(900,some (.arr 27 1 true (yy3.2.map aD)))]) (fun yy3=>yy3.1<=2^n.toNat/\yy3.2=sV (dL (cQ n)) (hdS n) (cQ n) n.toNat++vR (dL (cQ n)) (2^n.toNat) n.toNat yy1.1++elJ (dL (cQ n)) (2^n.toNat) yy1.1 yy2.1++elS (dL (cQ n)) yy1.1 (yy1.1+1+yy2.1) yy3.1/\yy3.2.length<=4+yy1.1*64+yy2.1*16+yy3.1) (fun yy3=>2^n.toNat - yy3.1) (fun yy3=> .br (.br (.lit<| .lit<| .lit<| .lit<| .lit<| .br (dT (kV n ([(yy3.1:Int),bJ .or .i64 (bJ .or .i64 (yy3.1:Int) ((1:Int)*2^yy1.1)) ((1:Int)*2^(yy1.1+1+yy2.1))]:List Int) ([bJ .or .i64 (yy3.1:Int) ((1:Int)*2^yy1.1),bJ .or .i64 (yy3.1:Int) ((1:Int)*2^(yy1.1+1+yy2.1))]:List Int))<| .appx (List Int) aD yy3.2 (dL (cQ n) ([(yy3.1:Int),bJ .or .i64 (bJ .or .i64 (yy3.1:Int) ((1:Int)*2^yy1.1)) ((1:Int)*2^(yy1.1+1+yy2.1))]:List Int) ([bJ .or .i64 (yy3.1:Int) ((1:Int)*2^yy1.1),bJ .or .i64 (yy3.1:Int) ((1:Int)*2^(yy1.1+1+yy2.1))]:List Int))<| .back [(900,8500)]) (.back [(900,900)])) (.back [(900,900)])) (.back [(900,900)]))) (.back [(900,900)]))) (.fin [(0,900)])))))) (p:=gU n (1:Int) (4:Int)/\Nb (1<=n/\n<=4) ([]=(cE n).map aD/\True) ((0<=n/\n<=64)/\(bS ((1:Int)*2^(Int.toNat n))/\(bS (((1:Int)*2^(Int.toNat n)) - 1)/\((∃(i:Nat) (o0:List (List Int)),0=(i:Int)/\[]=o0.map aD/\(i:Int)<=n/\o0=sV (dL (cQ n)) (hdS n) (cQ n) i/\o0.length<=i)/\ ∀(i:Nat) (o0:List (List Int)),((i:Int)<=n/\o0=sV (dL (cQ n)) (hdS n) (cQ n) i/\o0.length<=i)->Br ((i:Int)<n) ((0<=(i:Int)/\(i:Int)<=64)/\bS ((1:Int)*2^i)/\bS ((((1:Int)*2^(Int.toNat n)) - 1) - ((1:Int)*2^i))/\nK n ([(((1:Int)*2^(Int.toNat n)) - 1) - ((1:Int)*2^i)]:List Int) ([((1:Int)*2^(Int.toNat n)) - 1]:List Int)/\o0.map aD=o0.map aD/\(dL (cQ n) ([(((1:Int)*2^(Int.toNat n)) - 1) - ((1:Int)*2^i)]:List Int) ([((1:Int)*2^(Int.toNat n)) - 1]:List Int)).map aC=(dL (cQ n) ([(((1:Int)*2^(Int.toNat n)) - 1) - ((1:Int)*2^i)]:List Int) ([((1:Int)*2^(Int.toNat n)) - 1]:List Int)).map aC/\(o0.length+1)*24<=140737488355328/\bS ((i:Int)+1)/\ ∃(i' :Nat) (o0' :List (List Int)),((i:Int)+1)=(i' :Int)/\(o0++[dL (cQ n) ([(((1:Int)*2^(Int.toNat n)) - 1) - ((1:Int)*2^i)]:List Int) ([((1:Int)*2^(Int.toNat n)) - 1]:List Int)]).map aD=o0'.map aD/\((i' :Int)<=n/\o0' =sV (dL (cQ n)) (hdS n) (cQ n) i' /\o0'.length<=i')/\n.toNat - i' <n.toNat - i) ((∃(i:Nat) (o1:List (List Int)),0=(i:Int)/\o0.map aD=o1.map aD/\(i:Int)<=n/\o1=sV (dL (cQ n)) (hdS n) (cQ n) n.toNat++vR (dL (cQ n)) (2^n.toNat) n.toNat i/\o1.length<=4+i*64)/\ ∀(i:Nat) (o1:List (List Int)),((i:Int)<=n/\o1=sV (dL (cQ n)) (hdS n) (cQ n) n.toNat++vR (dL (cQ n)) (2^n.toNat) n.toNat i/\o1.length<=4+i*64)->Br ((i:Int)<n) (bS ((i:Int)+1)/\((∃(j:Nat) (o2:List (List Int)),((i:Int)+1)=((i+1+j:Nat):Int)/\o1.map aD=o2.map aD/\((i+1+j:Nat):Int)<=n/\o2=sV (dL (cQ n)) (hdS n) (cQ n) n.toNat++vR (dL (cQ n)) (2^n.toNat) n.toNat i++elJ (dL (cQ n)) (2^n.toNat) i j/\o2.length<=4+i*64+j*16)/\ ∀(j:Nat) (o2:List (List Int)),(((i+1+j:Nat):Int)<=n/\o2=sV (dL (cQ n)) (hdS n) (cQ n) n.toNat++vR (dL (cQ n)) (2^n.toNat) n.toNat i++elJ (dL (cQ n)) (2^n.toNat) i j/\o2.length<=4+i*64+j*16)->Br (((i+1+j:Nat):Int)<n) ((∃(s:Nat) (o3:List (List Int)),0=(s:Int)/\o2.map aD=o3.map aD/\s<=2^n.toNat/\o3=sV (dL (cQ n)) (hdS n) (cQ n) n.toNat++vR (dL (cQ n)) (2^n.toNat) n.toNat i++elJ (dL (cQ n)) (2^n.toNat) i j++elS (dL (cQ n)) i (i+1+j) s/\o3.length<=4+i*64+j*16+s)/\ ∀(s:Nat) (o3:List (List Int)),(s<=2^n.toNat/\o3=sV (dL (cQ n)) (hdS n) (cQ n) n.toNat++vR (dL (cQ n)) (2^n.toNat) n.toNat i++elJ (dL (cQ n)) (2^n.toNat) i j++elS (dL (cQ n)) i (i+1+j) s/\o3.length<=4+i*64+j*16+s)->Br ((s:Int)<=(((1:Int)*2^(Int.toNat n)) - 1)) ((0<=(i:Int)/\(i:Int)<=64)/\Br ((bJ .and .i64 ((s:Int)/2^i) (1:Int))=0) ((0<=((i+1+j:Nat):Int)/\((i+1+j:Nat):Int)<=64)/\Br ((bJ .and .i64 ((s:Int)/2^(i+1+j)) (1:Int))=0) ((0<=(i:Int)/\(i:Int)<=64)/\bS ((1:Int)*2^i)/\(0<=((i+1+j:Nat):Int)/\((i+1+j:Nat):Int)<=64)/\bS ((1:Int)*2^(i+1+j))/\(0<=(i:Int)/\(i:Int)<=64)/\bS ((1:Int)*2^i)/\(0<=((i+1+j:Nat):Int)/\((i+1+j:Nat):Int)<=64)/\bS ((1:Int)*2^(i+1+j))/\nK n ([(s:Int),bJ .or .i64 (bJ .or .i64 (s:Int) ((1:Int)*2^i)) ((1:Int)*2^(i+1+j))]:List Int) ([bJ .or .i64 (s:Int) ((1:Int)*2^i),bJ .or .i64 (s:Int) ((1:Int)*2^(i+1+j))]:List Int)/\o3.map aD=o3.map aD/\(dL (cQ n) ([(s:Int),bJ .or .i64 (bJ .or .i64 (s:Int) ((1:Int)*2^i)) ((1:Int)*2^(i+1+j))]:List Int) ([bJ .or .i64 (s:Int) ((1:Int)*2^i),bJ .or .i64 (s:Int) ((1:Int)*2^(i+1+j))]:List Int)).map aC=(dL (cQ n) ([(s:Int),bJ .or .i64 (bJ .or .i64 (s:Int) ((1:Int)*2^i)) ((1:Int)*2^(i+1+j))]:List Int) ([bJ .or .i64 (s:Int) ((1:Int)*2^i),bJ .or .i64 (s:Int) ((1:Int)*2^(i+1+j))]:List Int)).map aC/\(o3.length+1)*24<=140737488355328/\bS ((s:Int)+1)/\ ∃(s' :Nat) (o3' :List (List Int)),((s:Int)+1)=(s' :Int)/\(o3++[dL (cQ n) ([(s:Int),bJ .or .i64 (bJ .or .i64 (s:Int) ((1:Int)*2^i)) ((1:Int)*2^(i+1+j))]:List Int) ([bJ .or .i64 (s:Int) ((1:Int)*2^i),bJ .or .i64 (s:Int) ((1:Int)*2^(i+1+j))]:List Int)]).map aD=o3'.map aD/\(s' <=2^n.toNat/\o3' =sV (dL (cQ n)) (hdS n) (cQ n) n.toNat++vR (dL (cQ n)) (2^n.toNat) n.toNat i++elJ (dL (cQ n)) (2^n.toNat) i j++elS (dL (cQ n)) i (i+1+j) s' /\o3'.length<=4+i*64+j*16+s')/\2^n.toNat - s' <2^n.toNat - s) (bS ((s:Int)+1)/\ ∃(s' :Nat) (o3' :List (List Int)),((s:Int)+1)=(s' :Int)/\o3.map aD=o3'.map aD/\(s' <=2^n.toNat/\o3' =sV (dL (cQ n)) (hdS n) (cQ n) n.toNat++vR (dL (cQ n)) (2^n.toNat) n.toNat i++elJ (dL (cQ n)) (2^n.toNat) i j++elS (dL (cQ n)) i (i+1+j) s' /\o3'.length<=4+i*64+j*16+s')/\2^n.toNat - s' <2^n.toNat - s)) (bS ((s:Int)+1)/\ ∃(s' :Nat) (o3' :List (List Int)),((s:Int)+1)=(s' :Int)/\o3.map aD=o3'.map aD/\(s' <=2^n.toNat/\o3' =sV (dL (cQ n)) (hdS n) (cQ n) n.toNat++vR (dL (cQ n)) (2^n.toNat) n.toNat i++elJ (dL (cQ n)) (2^n.toNat) i j++elS (dL (cQ n)) i (i+1+j) s' /\o3'.length<=4+i*64+j*16+s')/\2^n.toNat - s' <2^n.toNat - s)) (bS (((i+1+j:Nat):Int)+1)/\ ∃(j' :Nat) (o2' :List (List Int)),(((i+1+j:Nat):Int)+1)=((i+1+j' :Nat):Int)/\o3.map aD=o2'.map aD/\(((i+1+j' :Nat):Int)<=n/\o2' =sV (dL (cQ n)) (hdS n) (cQ n) n.toNat++vR (dL (cQ n)) (2^n.toNat) n.toNat i++elJ (dL (cQ n)) (2^n.toNat) i j' /\o2'.length<=4+i*64+j' *16)/\n.toNat - (i+1+j')<n.toNat - (i+1+j))) (bS ((i:Int)+1)/\ ∃(i' :Nat) (o1' :List (List Int)),((i:Int)+1)=(i' :Int)/\o2.map aD=o1'.map aD/\((i' :Int)<=n/\o1' =sV (dL (cQ n)) (hdS n) (cQ n) n.toNat++vR (dL (cQ n)) (2^n.toNat) n.toNat i' /\o1'.length<=4+i' *64)/\n.toNat - i' <n.toNat - i))) (o1.map aD=(cE n).map aD/\True))))))) (by kernel_rfl) ?_;refine⟨lM _ _ _,dn (fun c0=>?_) fun c0=>?_⟩
 ·apply et1
  ·(rw[cE,if_neg (by omega)]<;>rfl)
 ·obtain⟨b1,b2,b3⟩:=vT (n:=n) (by omega);have hal:cQ n=1*2^n.toNat - 1:=rfl;refine⟨⟨by omega,by omega⟩,by exact eP (by omega),by exact⟨by omega,by omega⟩,⟨0,([]:List (List Int)),rfl,rfl,by omega,rfl,aAc _⟩,fun i o0 ⟨hi,ho,hL⟩=>?_⟩;refine dd (fun c1=>?_) fun c1=>?_
  ·have hw:=aJy (n:=n) (i:=i) (by omega) (by omega);refine⟨⟨by omega,by omega⟩,by exact eP (by omega),by exact⟨by omega,by omega⟩,vU _ ([(((1:Int)*2^(Int.toNat n)) - 1) - ((1:Int)*2^i)]:List Int) ([((1:Int)*2^(Int.toNat n)) - 1]:List Int) (by omega) (by exact aIn (by omega)) (by exact aIn (by omega)) (by simp) (by simp),rfl,rfl,by omega,by exact⟨by omega,by omega⟩,?_⟩;exact⟨i+1,_,rfl,rfl,⟨by omega,by rw[ho];rfl,by simp;omega⟩,by omega⟩
  ·refine⟨⟨0,o0,rfl,rfl,by omega,by rw[ho,show i=n.toNat by omega];simp[vR],by omega⟩,fun i o1 ⟨hi1,ho1,hL1⟩=>?_⟩;refine dd (fun c2=>?_) fun c2=>?_
   ·refine⟨by exact⟨by omega,by omega⟩,⟨0,o1,by rfl,by rfl,by omega,by rw[ho1];simp[elJ],by omega⟩,fun j o2 ⟨hj,ho2,hL2⟩=>?_⟩;refine dd (fun c3=>?_) fun c3=>?_
    ·refine⟨⟨0,o2,rfl,rfl,aAc _,by rw[ho2];simp[elS],by omega⟩,fun s o3 ⟨hs,ho3,hL3⟩=>?_⟩;refine dd (fun c4=>?_) fun c4=>?_
     ·refine⟨⟨by omega,by omega⟩,dd (fun g56=>?_) fun g56=>?_⟩
      ·refine⟨⟨by omega,by omega⟩,dd (fun c5=>?_) fun c5=>?_⟩
       ·obtain⟨v1,v2⟩:=aFo (n:=n.toNat) (i:=i) (j:=i+1+j) (s:=s) (by omega) (by omega) (by omega) (by omega);obtain⟨v3,v4⟩:=aFo (n:=n.toNat) (i:=i+1+j) (j:=i) (s:=s) (by omega) (by omega) (by omega) (by omega);refine⟨⟨by omega,by omega⟩,by exact eP (by omega),⟨by omega,by omega⟩,by exact eP (by omega),⟨by omega,by omega⟩,by exact eP (by omega),⟨by omega,by omega⟩,by exact eP (by omega),vU _ ([(s:Int),bJ .or .i64 (bJ .or .i64 (s:Int) ((1:Int)*2^i)) ((1:Int)*2^(i+1+j))]:List Int) ([bJ .or .i64 (s:Int) ((1:Int)*2^i),bJ .or .i64 (s:Int) ((1:Int)*2^(i+1+j))]:List Int) (by omega) (by exact aPf (by omega) (by omega)) (by exact aPf (by omega) (by omega)) (by simp) (by simp),rfl,rfl,by omega,by exact⟨by omega,by omega⟩,?_⟩;exact⟨s+1,_,rfl,rfl,⟨by omega,by (rw[ho3,elS,if_pos ⟨decide_eq_true g56,decide_eq_true c5⟩];simp only[aE2];done),by (simp;omega)⟩,by omega⟩
       ·refine⟨by exact⟨by omega,by omega⟩,?_⟩;exact⟨s+1,_,rfl,rfl,⟨by omega,by (rw[ho3,elS,if_neg (by rintro⟨q1,q2⟩;simp only[aEs,aH9] at q1 q2;contradiction),aJp]),by omega⟩,by omega⟩
      ·refine⟨by exact⟨by omega,by omega⟩,?_⟩;exact⟨s+1,_,rfl,rfl,⟨by omega,by (rw[ho3,elS,if_neg (by rintro⟨q1,q2⟩;simp only[aEs,aH9] at q1 q2;contradiction),aJp]),by omega⟩,by omega⟩
     ·refine⟨by exact⟨by omega,by omega⟩,?_⟩;exact⟨j+1,_,by rfl,by rfl,⟨by omega,by rw[ho3,show s=2^n.toNat by omega,elJ,<-aE2],by omega⟩,by omega⟩
    ·refine⟨by exact⟨by omega,by omega⟩,?_⟩;exact⟨i+1,_,rfl,rfl,⟨by omega,by rw[ho2,show j=n.toNat - (i+1) by omega,vR,aE2],by omega⟩,by omega⟩
   ·apply et1
    ·(rw[ho1,show i=n.toNat by omega,cE,if_pos (by omega)];rfl)
def nN (l:List Int):Int:=if 0<l.length then l.getD 0 0 else 0
theorem aJz {l:List Int}(h:aCq l):0<=nN l/\nN l<=255:=by
 unfold nN;split
 ·rename_i hl;have e:l.getD 0 0=l[0]:=by rw[aD6,aBM hl];rfl
  have:=h _ (aL5 hl);rw[e];exact this
 omega
theorem aSE {l:List Int}(h:l.length=0):nN l=0:=by rw[nN,if_neg (by omega)]
theorem aQE {l:List Int}{x:Int}(h:l[0]? =some x):nN l=x:=by rw[nN,if_pos (aBa.1 h).1,bB h]
def wtV (k:Nat):Nat->Int
 | 0=>0
 | v+1=>wtV k v+bJ .and .i64 (((k:Int)+1)/2^v) 1
def zY (n:Nat)(r:List Int):Nat->Int
 | 0=>0
 | k+1=>zY n r k+r.getD k 0*wtV k n
theorem aFp (x:Int):0<=bJ .and .i64 x 1/\bJ .and .i64 x 1<=1:=by
 unfold bJ
 have e:(BitVec.ofInt 64 x&&&BitVec.ofInt 64 1).toNat<=1:=by
  rw[BitVec.toNat_and];exact Nat.le_trans Nat.and_le_right (by decide)
 show 0<=IntKind.i64.wrap ((BitVec.ofInt 64 x&&&BitVec.ofInt 64 1).toNat:Nat)/\IntKind.i64.wrap ((BitVec.ofInt 64 x&&&BitVec.ofInt 64 1).toNat:Nat)<=1;rw[IntWalk.i64_in _ ⟨by omega,by omega⟩];omega
theorem aBd (k:Nat): ∀v,0<=wtV k v/\wtV k v<=v
 | 0=>by rw[wtV];omega
 | v+1=>by
   have h1:=aBd k v;have h2:=aFp (((k:Int)+1)/2^v);rw[wtV];omega
def aOB (n:Nat)(r:List Int):Bool:=decide (r.length<=15)&&(r.all (fun x=>decide (-1<=x/\x<=1))&&decide (zY n r r.length<=0))
theorem aEu {n:Int}(h:n<=5): ∀r∈bR n,(1<=n/\n<=4)/\aOB n.toNat r=true:=by
 by_cases hn:1<=n/\n<=4
 ·have:n=1\/n=2\/n=3\/n=4:=by omega
  rcases this with rfl | rfl | rfl | rfl<;>decide+kernel
 rw[bR,if_neg hn];intro r hr;simp at hr
theorem aBN {n:Nat}{r:List Int}(h:aOB n r=true):r.length<=15/\(∀(k:Nat) (x:Int),r[k]? =some x-> -1<=x/\x<=1)/\zY n r r.length<=0:=by
 simp only[aOB,aA1,aH9,aDW] at h;exact⟨h.1,fun k x hx=>h.2.1 x (aAm hx),h.2.2⟩
theorem xT {x y:Int}{b:Nat}(hx: -1<=x/\x<=1)(hy:0<=y/\y<=b): -(b:Int)<=x*y/\x*y<=b:=by
 have:x= -1\/x=0\/x=1:=by omega
 rcases this with rfl | rfl | rfl<;>omega
theorem aFq {n:Nat}{r:List Int}(h: ∀(k:Nat) (x:Int),r[k]? =some x-> -1<=x/\x<=1)(hn:n<=4): ∀k,k<=r.length-> -(4*k:Int)<=zY n r k/\zY n r k<=4*k
 | 0,_=>by rw[zY];omega
 | k+1,hk=>by
   have h1:=aFq h hn k (by omega);have hx:r[k]? =some r[k]:=aBM (by omega);have h2:=xT (h k _ hx) (aBd k n);rw[zY,bB hx];omega
theorem aPh: ∀z:_root_.Fin 256,(0<=fL ((z.1:Int)+1)/\fL ((z.1:Int)+1)<=12)/\(z.1:Int)+1<=(1:Int)*2^(fL ((z.1:Int)+1)).toNat/\(fL ((z.1:Int)+1)=0\/(1:Int)*2^(fL ((z.1:Int)+1) - 1).toNat<(z.1:Int)+1):=by decide+kernel
theorem aKA {x:Int}(h:0<=x/\x<=255):(0<=fL (1+x)/\fL (1+x)<=12)/\1+x<=1*2^(fL (1+x)).toNat/\(fL (1+x)=0\/(1:Int)*2^(fL (1+x) - 1).toNat<1+x):=by
 have k:=aPh ⟨x.toNat,by omega⟩;rw[show (((⟨x.toNat,by omega⟩:_root_.Fin 256).1:Nat):Int)+1=1+x by show (x.toNat:Int)+1=1+x;omega] at k;exact k
abbrev mP (l:List Int):Prop:=Cn 13 [.one (.sl 5 1 (l.map aY)),.one (.int .i64 (0:Int))] (vI (nN l)) []
theorem vV (l:List Int)(h0:aCq l)(hl:l.length<=1048576):mP l:=by
 refine cq Try.func13 (.len l.length<| .br (.elem _ aY l (fun e11=> .fin [])) (.len l.length<| .fin [])) (p:=Lx (l.map aY)<| Lm aY l/\Br (0<(l.length:Int)) (0<=(0:Int)/\Em aY l (((0:Int)).toNat) fun e11=>bS e11/\e11=(nN l)/\True) (bS ((0:Int)*37)/\Lm aY l/\bS ((l.length:Int)*11)/\bS (((0:Int)*37)+((l.length:Int)*11))/\(256:Int)≠0/\(Int.tmod (((0:Int)*37)+((l.length:Int)*11)) (256:Int))=(nN l)/\True)) (by kernel_rfl) ?_;refine lx fun n0=>?_;refine⟨aA0 _,dd (fun c0=>?_) fun c0=>?_⟩
 ·refine⟨by omega,rfl,by omega,fun e11 h11=>?_⟩;have hb1:=(h0 e11 (aAm h11)).1;have hb2:=(h0 e11 (aAm h11)).2;refine⟨⟨by omega,by omega⟩,?_,trivial⟩
  ·first|(rw[aQE h11];done)|(rw[z,show l.length=0 by omega];done)|(rw[z];exact hz1)|(rw[z];exact hz0)|(rw[z];simp;omega)
 ·have z:=aSE (l:=l) (by omega);have hl0:l.length=0:=by omega
  have hz0:((l.length:Int)*11).tmod 256=0:=by rw[hl0];rfl
  have hz1:Int.tmod ((0:Int)*37+(l.length:Int)*11) 256=0:=by rw[hl0];rfl
  refine⟨⟨by omega,by omega⟩,aA0 _,⟨by omega,by omega⟩,⟨by omega,by omega⟩,by omega,?_,trivial⟩
  ·first|(rw[aQE h11];done)|(rw[z,show l.length=0 by omega];done)|(rw[z];exact hz1)|(rw[z];exact hz0)|(rw[z];simp;omega)
theorem mQ {α:Type}{a b:List α}{k:Nat}{x y:α}(hx:a[k]? =some x)(hy:b[k]? =some y)(h: ¬x=y): ¬a=b:=by
 intro e;rw[e,hy] at hx;injection hx with hx;exact h hx.symm
theorem mR {α:Type}{a b:List α}{k:Nat}(hl:(a.length:Int)=(b.length:Int))(hk:a.length<=k)(h:a.take k=b.take k):a=b:=by
 rwa [aCu hk,aCu (by omega)] at h
abbrev pU (a:List Int)(b:List Int):Prop:=Cn 8 [.one (.sl 3 1 (a.map aC)),.one (.sl 3 1 (b.map aC))] (vB (decide (a=b))) []
theorem aA9 (a b:List Int):pU a b:=by
 refine cq Try.func8 (.len a.length<| .len b.length<| .br (.fin []) (.loop Nat (Q1 Nat) ([5]++rg 11 15) [] (fun k=>[(5,vI (k:Int))]) (fun k=>[]) (fun k=>k<=a.length/\a.take k=b.take k) (fun k=>a.length - k) (fun k=> .len a.length<| .br (.elem _ aC a (fun e19=> .elem _ aC b (fun e23=> .br (.fin []) (.back [])))) (.fin [])))) (p:=Lx (a.map aC)<| Lx (b.map aC)<| Lm aC a/\(Lm aC b/\Nb ((a.length:Int)=(b.length:Int)) ((false)=(decide (a=b))/\True) ((∃(k:Nat),0=(k:Int)/\k<=a.length/\a.take k=b.take k)/\ ∀(k:Nat),(k<=a.length/\a.take k=b.take k)->Lm aC a/\Br ((k:Int)<(a.length:Int)) (0<=(k:Int)/\Em aC a k fun e19=>0<=(k:Int)/\Em aC b k fun e23=>Nb (e19=e23) ((false)=(decide (a=b))/\True) (bS ((k:Int)+1)/\ ∃(k' :Nat),((k:Int)+1)=(k' :Int)/\(k' <=a.length/\a.take k' =b.take k')/\a.length - k' <a.length - k)) ((true)=(decide (a=b))/\True)))) (by kernel_rfl) ?_;refine lx fun n0=>lx fun n1=>?_;refine⟨aA0 _,aA0 _,dn (fun c0=>?_) fun c0=>?_⟩
 ·apply et1
  ·first|(exact(decide_eq_false (fun e=>by rw[e] at c0;exact c0 rfl)).symm)|(exact(decide_eq_false (mQ h19 h23 (by omega))).symm)|(exact(decide_eq_true (mR (by omega) (by omega) ht)).symm)
 ·refine⟨⟨0,rfl,aAc _,rfl⟩,fun k ⟨hk,ht⟩=>?_⟩;refine⟨aA0 _,dd (fun c1=>?_) fun c1=>?_⟩
  ·refine⟨by omega,rfl,by omega,fun e19 h19=>?_⟩;refine⟨by omega,rfl,by omega,fun e23 h23=>?_⟩;refine dn (fun c2=>?_) fun c2=>?_
   ·apply et1
    ·first|(exact(decide_eq_false (fun e=>by rw[e] at c0;exact c0 rfl)).symm)|(exact(decide_eq_false (mQ h19 h23 (by omega))).symm)|(exact(decide_eq_true (mR (by omega) (by omega) ht)).symm)
   ·refine⟨⟨by omega,by omega⟩,?_⟩;exact⟨k+1,rfl,⟨by omega,by rw[bQ h19,bQ h23,ht,show e19=e23 by omega]⟩,by omega⟩
  ·apply et1
   ·first|(exact(decide_eq_false (fun e=>by rw[e] at c0;exact c0 rfl)).symm)|(exact(decide_eq_false (mQ h19 h23 (by omega))).symm)|(exact(decide_eq_true (mR (by omega) (by omega) ht)).symm)
abbrev pV (a:List (List Int))(b:List (List Int)):Prop:=Cn 9 [.one (.sl 27 1 (a.map aD)),.one (.sl 27 1 (b.map aD))] (vB (decide (a=b))) []
theorem aAa (a b:List (List Int))(ha:a.length<=1048576):pV a b:=by
 refine cq Try.func9 (.len a.length<| .len b.length<| .br (.fin []) (.loop Nat (Q1 Nat) ([5]++rg 11 16) [] (fun k=>[(5,vI (k:Int))]) (fun k=>[]) (fun k=>k<=a.length/\a.take k=b.take k) (fun k=>a.length - k) (fun k=> .len a.length<| .br (.elem _ aD a (fun e19=> .elem _ aD b (fun e23=> .call (vB (decide (e19=e23))) []<| .br (.fin []) (.back [])))) (.fin [])))) (p:=Lx (a.map aD)<| Lx (b.map aD)<| Lm aD a/\(Lm aD b/\Nb ((a.length:Int)=(b.length:Int)) ((false)=(decide (a=b))/\True) ((∃(k:Nat),0=(k:Int)/\k<=a.length/\a.take k=b.take k)/\ ∀(k:Nat),(k<=a.length/\a.take k=b.take k)->Lm aD a/\Br ((k:Int)<(a.length:Int)) (0<=(k:Int)/\Em aD a k fun e19=>0<=(k:Int)/\Em aD b k fun e23=>pU e19 e23/\Nr (decide (e19=e23)) ((false)=(decide (a=b))/\True) (bS ((k:Int)+1)/\ ∃(k' :Nat),((k:Int)+1)=(k' :Int)/\(k' <=a.length/\a.take k' =b.take k')/\a.length - k' <a.length - k)) ((true)=(decide (a=b))/\True)))) (by kernel_rfl) ?_;refine lx fun n0=>lx fun n1=>?_;refine⟨aA0 _,aA0 _,dn (fun c0=>?_) fun c0=>?_⟩
 ·apply et1
  ·first|(exact(decide_eq_false (fun e=>by rw[e] at c0;exact c0 rfl)).symm)|(exact(decide_eq_false (mQ h19 h23 (by simpa using c2))).symm)|(exact(decide_eq_true (mR (by omega) (by omega) ht)).symm)
 ·refine⟨⟨0,rfl,aAc _,rfl⟩,fun k ⟨hk,ht⟩=>?_⟩;refine⟨aA0 _,dd (fun c1=>?_) fun c1=>?_⟩
  ·refine⟨by omega,rfl,by omega,fun e19 h19=>?_⟩;refine⟨by omega,rfl,by omega,fun e23 h23=>?_⟩;refine⟨aA9 e19 e23,dm (fun c2=>?_) fun c2=>?_⟩
   ·apply et1
    ·first|(exact(decide_eq_false (fun e=>by rw[e] at c0;exact c0 rfl)).symm)|(exact(decide_eq_false (mQ h19 h23 (by simpa using c2))).symm)|(exact(decide_eq_true (mR (by omega) (by omega) ht)).symm)
   ·refine⟨⟨by omega,by omega⟩,?_⟩;exact⟨k+1,rfl,⟨by omega,by rw[bQ h19,bQ h23,ht,show e19=e23 by simpa using c2]⟩,by omega⟩
  ·apply et1
   ·first|(exact(decide_eq_false (fun e=>by rw[e] at c0;exact c0 rfl)).symm)|(exact(decide_eq_false (mQ h19 h23 (by simpa using c2))).symm)|(exact(decide_eq_true (mR (by omega) (by omega) ht)).symm)
end Go.Proofs.Ytafmaholhcgakaa
