/-
  Contracts and plain laws, joined: part 7.
-/
import Derived.Test.YtafmaholhcgakaaGreatlb5
import Derived.Test.YtafmaholhcgakaaGreatlb4
import Derived.Test.YtafmaholhcgakaaGreatlb3
namespace Go.Proofs.YtafmaholhcgakaaGreat
open Go.ChangeShapes Go.WideShapes Go.ChangeAt Go.RowKit
set_option linter.unusedVariables false
set_option linter.unusedSimpArgs false
set_option maxRecDepth 100000
set_option maxHeartbeats 4000000
abbrev yH (d:aL)(x:aO):AV × List (Nat × Rs):=(.own 0,[(0,.arr 3 1 true ((wA d x).map intD))])
abbrev aD3 (d:aL)(x:aO):Prop:=Cn 158 [.agg [.sl 88 3 (d.tables.map aG)],.agg [.str x.name,.int .i64 x.column,.str x.into,.int .i64 x.intoColumn]] (yH d x).1 (yH d x).2
theorem aOY (d:aL)(x:aO)(hc:bO d<=1048576):aD3 d x:=by
 refine cq Tryz.func158 (.call (vB (gE d x)) []<| .br (.fin [(0,1500)]) (.call (.tup [.agg [.p none (.str ((aE d x.name).1.name)),vI ((aE d x.name).1.arity),.p none (.sl 34 1 ((aE d x.name).1.rows.map aD))],vB ((aE d x.name).2)]) []<| .call (.tup [.agg [.p none (.str ((aE d x.into).1.name)),vI ((aE d x.into).1.arity),.p none (.sl 34 1 ((aE d x.into).1.rows.map aD))],vB ((aE d x.into).2)]) []<| .loop (Nat × (List Int)) (Q2 Nat (List Int)) ([5,10,11,12,13,14,15]++rg 35 55) [1500,8800,8900] (fun yy0=>[(10,vI (yy0.1:Int)),(5,.own 1500)]) (fun yy0=>[(1500,some (.arr 3 1 true (yy0.2.map intD)))]) (fun yy0=>yy0.1<=10/\yy0.2=nS d x yy0.1) (fun yy0=>10 - yy0.1) (fun yy0=> .br (.loop (Nat × Bool) (Q2 Nat Bool) ([11,13]++rg 39 21) [] (fun yy1=>[(13,vI (yy1.1:Int)),(11,vB yy1.2)]) (fun yy1=>[]) (fun yy1=>yy1.1<=(aE d x.name).1.rows.length/\yy1.2=decide ((yy0.1:Int)∈gL ((aE d x.name).1.rows.take yy1.1) x.column)) (fun yy1=>(aE d x.name).1.rows.length - yy1.1) (fun yy1=> .len ((aE d x.name).1.rows.length)<| .br (.br (.back []) (.elem _ aD ((aE d x.name).1.rows) (fun e51=> .elem _ intD e51 (fun e55=> .back [])))) (.loop (Nat × Bool) (Q2 Nat Bool) ([12,14]++rg 60 21) [] (fun yy2=>[(14,vI (yy2.1:Int)),(12,vB yy2.2)]) (fun yy2=>[]) (fun yy2=>yy2.1<=(aE d x.into).1.rows.length/\yy2.2=decide ((yy0.1:Int)∈gL ((aE d x.into).1.rows.take yy2.1) x.intoColumn)) (fun yy2=>(aE d x.into).1.rows.length - yy2.1) (fun yy2=> .len ((aE d x.into).1.rows.length)<| .br (.br (.back []) (.elem _ aD ((aE d x.into).1.rows) (fun e72=> .elem _ intD e72 (fun e76=> .back [])))) (.br (.lit<| .lit<| .br (.app Int intD yy0.2 ([(yy0.1:Int)]:List Int)<| .back [(1500,8900)]) (.back [(1500,1500)])) (.back [(1500,1500)])))))) (.fin [(0,1500)])))) (p:=Lx (d.tables.map aG)<| uY d x/\Nr (gE d x) ([]=(wA d x).map intD/\True) (vX Tryz.prog 94 [.agg [.sl 88 3 (d.tables.map aG)],.one (.str x.name)] (.tup [.agg [.p none (.str ((aE d x.name).1.name)),vI ((aE d x.name).1.arity),.p none (.sl 34 1 ((aE d x.name).1.rows.map aD))],vB ((aE d x.name).2)]) []/\(vX Tryz.prog 94 [.agg [.sl 88 3 (d.tables.map aG)],.one (.str x.into)] (.tup [.agg [.p none (.str ((aE d x.into).1.name)),vI ((aE d x.into).1.arity),.p none (.sl 34 1 ((aE d x.into).1.rows.map aD))],vB ((aE d x.into).2)]) []/\((∃(v:Nat) (out:List Int),0=(v:Int)/\[]=out.map intD/\v<=10/\out=nS d x v)/\ ∀(v:Nat) (out:List Int),(v<=10/\out=nS d x v)->Br ((v:Int)<=9) ((∃(k:Nat) (p:Bool),0=(k:Int)/\(false)=p/\k<=(aE d x.name).1.rows.length/\p=decide ((v:Int)∈gL ((aE d x.name).1.rows.take k) x.column))/\ ∀(k:Nat) (p:Bool),(k<=(aE d x.name).1.rows.length/\p=decide ((v:Int)∈gL ((aE d x.name).1.rows.take k) x.column))->Lm aD ((aE d x.name).1.rows)/\Br ((k:Int)<(((aE d x.name).1.rows.length:Nat):Int)) (Bb (p) (bW ((k:Int)+1)/\ ∃(k' :Nat) (p' :Bool),((k:Int)+1)=(k' :Int)/\(true)=p' /\(k' <=(aE d x.name).1.rows.length/\p' =decide ((v:Int)∈gL ((aE d x.name).1.rows.take k') x.column))/\(aE d x.name).1.rows.length - k' <(aE d x.name).1.rows.length - k) (0<=(k:Int)/\Em aD ((aE d x.name).1.rows) k fun e51=>0<=x.column/\Em intD e51 ((x.column).toNat) fun e55=>bW ((k:Int)+1)/\ ∃(k' :Nat) (p' :Bool),((k:Int)+1)=(k' :Int)/\(decide (e55=(v:Int)))=p' /\(k' <=(aE d x.name).1.rows.length/\p' =decide ((v:Int)∈gL ((aE d x.name).1.rows.take k') x.column))/\(aE d x.name).1.rows.length - k' <(aE d x.name).1.rows.length - k)) ((∃(j:Nat) (q:Bool),0=(j:Int)/\(false)=q/\j<=(aE d x.into).1.rows.length/\q=decide ((v:Int)∈gL ((aE d x.into).1.rows.take j) x.intoColumn))/\ ∀(j:Nat) (q:Bool),(j<=(aE d x.into).1.rows.length/\q=decide ((v:Int)∈gL ((aE d x.into).1.rows.take j) x.intoColumn))->Lm aD ((aE d x.into).1.rows)/\Br ((j:Int)<(((aE d x.into).1.rows.length:Nat):Int)) (Bb (q) (bW ((j:Int)+1)/\ ∃(j' :Nat) (q' :Bool),((j:Int)+1)=(j' :Int)/\(true)=q' /\(j' <=(aE d x.into).1.rows.length/\q' =decide ((v:Int)∈gL ((aE d x.into).1.rows.take j') x.intoColumn))/\(aE d x.into).1.rows.length - j' <(aE d x.into).1.rows.length - j) (0<=(j:Int)/\Em aD ((aE d x.into).1.rows) j fun e72=>0<=x.intoColumn/\Em intD e72 ((x.intoColumn).toNat) fun e76=>bW ((j:Int)+1)/\ ∃(j' :Nat) (q' :Bool),((j:Int)+1)=(j' :Int)/\(decide (e76=(v:Int)))=q' /\(j' <=(aE d x.into).1.rows.length/\q' =decide ((v:Int)∈gL ((aE d x.into).1.rows.take j') x.intoColumn))/\(aE d x.into).1.rows.length - j' <(aE d x.into).1.rows.length - j)) (Bb (p) (Nr (q) (Ap intD out ([(v:Int)]:List Int) 8 (bW ((v:Int)+1)/\ ∃(v' :Nat) (out' :List Int),((v:Int)+1)=(v' :Int)/\(out++[(v:Int)]).map intD=out'.map intD/\(v' <=10/\out' =nS d x v')/\10 - v' <10 - v)) (bW ((v:Int)+1)/\ ∃(v' :Nat) (out' :List Int),((v:Int)+1)=(v' :Int)/\out.map intD=out'.map intD/\(v' <=10/\out' =nS d x v')/\10 - v' <10 - v)) (bW ((v:Int)+1)/\ ∃(v' :Nat) (out' :List Int),((v:Int)+1)=(v' :Int)/\out.map intD=out'.map intD/\(v' <=10/\out' =nS d x v')/\10 - v' <10 - v)))) (out.map intD=(wA d x).map intD/\True))))) (by kernel_rfl) ?_;refine lx fun n0=>?_;refine⟨aF4 _ _ (by omega),dm (fun c0=>?_) fun c0=>?_⟩
 ·have hbad:wA d x= []:=by rw[wA,if_neg (by simpa using c0)]
  apply et1
  ·(rw[hbad]<;>rfl)
 ·have hok:gE d x=true:=by simpa using c0
  obtain⟨hTa,hTb,hca,hcb⟩:=yB hok;have hA8:=bP hTa;have hB8:=bP hTb;refine⟨iV (pG _ x.name (by omega)) rfl,iV (pG _ x.into (by omega)) rfl,⟨0,([]:List Int),rfl,rfl,by omega,rfl⟩,fun v out ⟨hvv,ho⟩=>?_⟩;have hol:=aOL d x v;rw[<-ho] at hol;refine dd (fun c1=>?_) fun c1=>?_
  ·refine⟨⟨0,false,rfl,rfl,aAU _,rfl⟩,fun k p ⟨hk,hp⟩=>?_⟩;refine⟨aAJ _,dd (fun c2=>?_) fun c2=>?_⟩
   ·obtain⟨ra,hra⟩:=cP (l:=(aE d x.name).1.rows) (k:=k) (by omega);refine db (fun g47=>?_) fun g47=>?_
    ·refine⟨⟨by omega,by omega⟩,?_⟩;exact⟨k+1,_,rfl,rfl,⟨by omega,by rw[mK _ _ hra,tM,<-hp,g47];rfl⟩,by omega⟩
    ·refine⟨by omega,rfl,by omega,fun e51 h51=>?_⟩;have hl51:=kM hTa (aAx h51);refine⟨by omega,rfl,by omega,fun e55 h55=>?_⟩;refine⟨⟨by omega,by omega⟩,?_⟩;exact⟨k+1,_,rfl,rfl,⟨by omega,by obtain rfl:=bF h51 hra;rw[mK _ _ hra,tM,<-hp,g47,aT h55,Bool.false_or];exact decide_eq_decide.2 ⟨Eq.symm,Eq.symm⟩⟩,by omega⟩
   ·have hP:p=decide ((v:Int)∈gL (aE d x.name).1.rows x.column):=by rw[hp,aCy (by omega)]
    refine⟨⟨0,false,rfl,rfl,aAU _,rfl⟩,fun j q ⟨hj,hq⟩=>?_⟩;refine⟨aAJ _,dd (fun c3=>?_) fun c3=>?_⟩
    ·obtain⟨rb,hrb⟩:=cP (l:=(aE d x.into).1.rows) (k:=j) (by omega);refine db (fun g68=>?_) fun g68=>?_
     ·refine⟨⟨by omega,by omega⟩,?_⟩;exact⟨j+1,_,rfl,rfl,⟨by omega,by rw[mK _ _ hrb,tM,<-hq,g68];rfl⟩,by omega⟩
     ·refine⟨by omega,rfl,by omega,fun e72 h72=>?_⟩;have hl72:=kM hTb (aAx h72);refine⟨by omega,rfl,by omega,fun e76 h76=>?_⟩;refine⟨⟨by omega,by omega⟩,?_⟩;exact⟨j+1,_,rfl,rfl,⟨by omega,by obtain rfl:=bF h72 hrb;rw[mK _ _ hrb,tM,<-hq,g68,aT h76,Bool.false_or];exact decide_eq_decide.2 ⟨Eq.symm,Eq.symm⟩⟩,by omega⟩
    ·have hQ:q=decide ((v:Int)∈gL (aE d x.into).1.rows x.intoColumn):=by rw[hq,aCy (by omega)]
     refine db (fun g82=>?_) fun g82=>?_
     ·refine dm (fun c4=>?_) fun c4=>?_
      ·refine ap ?_ (fun _=>rfl) (by (simp;omega));refine⟨⟨by omega,by omega⟩,?_⟩;exact⟨v+1,_,rfl,rfl,⟨by omega,by rw[ho,aOK (by rw[aBn,<-hP,<-hQ,g82,c4];rfl)]⟩,by omega⟩
      ·refine⟨⟨by omega,by omega⟩,?_⟩;exact⟨v+1,_,rfl,rfl,⟨by omega,by rw[ho,aKB (by rw[aBn,<-hP,<-hQ,g82,c4];rfl)]⟩,by omega⟩
     ·refine⟨⟨by omega,by omega⟩,?_⟩;exact⟨v+1,_,rfl,rfl,⟨by omega,by rw[ho,aKB (by rw[aBn,<-hP,<-hQ,g82];rfl)]⟩,by omega⟩
  ·have hE:wA d x=out:=by rw[wA,if_pos hok,ho,show v=10 by omega]
   apply et1
   ·(rw[hE]<;>rfl)
abbrev vD (d:aL)(x:aO):Prop:=Cn 99 [.agg [.sl 88 3 (d.tables.map aG)],.agg [.str x.name,.int .i64 x.column,.str x.into,.int .i64 x.intoColumn]] (vB (iJ d x)) []
theorem aFb (d:aL)(x:aO)(hc:bO d<=1048576):vD d x:=by
 refine cq Tryz.func99 (.call (vB (gE d x)) []<| .br (cH (yH d x)<| .len ((wA d x).length)<| .fin []) (.fin [])) (p:=Lx (d.tables.map aG)<| uY d x/\Bb (gE d x) (aD3 d x/\Lm intD (wA d x)/\(decide ((((wA d x).length:Nat):Int)=0))=(iJ d x)/\True) ((false)=(iJ d x)/\True)) (by kernel_rfl) ?_;refine lx fun n0=>?_;refine⟨aF4 _ _ (by omega),db (fun g8=>?_) fun g8=>?_⟩
 ·refine⟨aOY _ _ (by omega),aAJ _,?_,trivial⟩
  ·(rw[iJ,g8,aJz,aOO g8];rfl)
 ·apply et1
  ·(simp[iJ, *];done)
def fR (d:aL)(l:List aU)(m:List aO):Bool:=l.all (iN d)&&(m.all (iJ d)&&(decide ((l.length:Int)<=8)&&decide ((m.length:Int)<=8)))
abbrev aD4 (d:aL)(l:List aU)(m:List aO):Prop:=Cn 36 [.agg [.sl 88 3 (d.tables.map aG)],.one (.sl 77 3 (l.map aF)),.one (.sl 81 4 (m.map aJ))] (vB (fR d l m)) []
theorem aOZ (d:aL)(l:List aU)(m:List aO)(hc:bO d<=1048576):aD4 d l m:=by
 refine cq Tryz.func36 (.len l.length<| .loop Nat (Q1 Nat) ([8]++rg 13 9) [800] (fun k=>[(13,vI (k:Int))]) (fun k=>[]) (fun k=>k<=l.length/\(l.take k).all (iN d)=true) (fun k=>l.length - k) (fun k=> .br (.elem _ aF l (fun e15=> .call (vB (iN d e15)) []<| .br (.fin []) (.back []))) (.len m.length<| .loop Nat (Q1 Nat) ([10]++rg 24 9) [1000] (fun j=>[(24,vI (j:Int))]) (fun j=>[]) (fun j=>j<=m.length/\(m.take j).all (iJ d)=true) (fun j=>m.length - j) (fun j=> .br (.elem _ aJ m (fun e26=> .call (vB (iJ d e26)) []<| .br (.fin []) (.back []))) (.len l.length<| .br (.len m.length<| .fin []) (.fin [])))))) (p:=Lx (d.tables.map aG)<| Lx (l.map aF)<| Lx (m.map aJ)<| Lm aF l/\((∃(k:Nat),0=(k:Int)/\k<=l.length/\(l.take k).all (iN d)=true)/\ ∀(k:Nat),(k<=l.length/\(l.take k).all (iN d)=true)->Br ((k:Int)<(l.length:Int)) (0<=(k:Int)/\Em aF l k fun e15=>aBt d e15/\Nr (iN d e15) ((false)=(fR d l m)/\True) (bW ((k:Int)+1)/\ ∃(k' :Nat),((k:Int)+1)=(k' :Int)/\(k' <=l.length/\(l.take k').all (iN d)=true)/\l.length - k' <l.length - k)) (Lm aJ m/\((∃(j:Nat),0=(j:Int)/\j<=m.length/\(m.take j).all (iJ d)=true)/\ ∀(j:Nat),(j<=m.length/\(m.take j).all (iJ d)=true)->Br ((j:Int)<(m.length:Int)) (0<=(j:Int)/\Em aJ m j fun e26=>aBu d e26/\Nr (iJ d e26) ((false)=(fR d l m)/\True) (bW ((j:Int)+1)/\ ∃(j' :Nat),((j:Int)+1)=(j' :Int)/\(j' <=m.length/\(m.take j').all (iJ d)=true)/\m.length - j' <m.length - j)) (Lm aF l/\Br ((l.length:Int)<=8) (Lm aJ m/\(decide ((m.length:Int)<=8))=(fR d l m)/\True) ((false)=(fR d l m)/\True)))))) (by kernel_rfl) ?_;refine lx fun n0=>lx fun n1=>lx fun n2=>?_;refine⟨aAJ _,⟨0,rfl,aAU _,rfl⟩,fun k ⟨hk,ha⟩=>?_⟩;refine dd (fun c0=>?_) fun c0=>?_
 ·refine⟨by omega,rfl,by omega,fun e15 h15=>?_⟩;refine⟨aL6 _ _ (by omega),dm (fun c1=>?_) fun c1=>?_⟩
  ·have hL:l.all (iN d)=false:=fP h15 (by simpa using c1);apply et1
   ·(simp[fR,hL];done)
  ·refine⟨⟨by omega,by omega⟩,?_⟩;exact⟨k+1,rfl,⟨by omega,cI h15 ha (by simpa using c1)⟩,by omega⟩
 ·have hL:=cK (by omega) ha;refine⟨aAJ _,⟨0,rfl,aAU _,rfl⟩,fun j ⟨hj,hb⟩=>?_⟩;refine dd (fun c2=>?_) fun c2=>?_
  ·refine⟨by omega,rfl,by omega,fun e26 h26=>?_⟩;refine⟨aL7 _ _ (by omega),dm (fun c3=>?_) fun c3=>?_⟩
   ·have hM:m.all (iJ d)=false:=fP h26 (by simpa using c3);apply et1
    ·(simp[fR,hL,hM];done)
   ·refine⟨⟨by omega,by omega⟩,?_⟩;exact⟨j+1,rfl,⟨by omega,cI h26 hb (by simpa using c3)⟩,by omega⟩
  ·have hM:=cK (by omega) hb;refine⟨aAJ _,dd (fun g36=>?_) fun g36=>?_⟩
   ·refine⟨aAJ _,?_,trivial⟩
    ·(simp[fR,hL,hM, *];done)
   ·apply et1
    ·(simp[fR,hL,hM, *];done)
abbrev yI (d:aL)(l:List aU)(m:List aO):Prop:=Cn 39 [.agg [.sl 88 3 (d.tables.map aG)],.one (.sl 77 3 (l.map aF)),.one (.sl 81 4 (m.map aJ))] (vB (fR d l m)) []
theorem aHZ (d:aL)(l:List aU)(m:List aO)(hc:bO d<=1048576):yI d l m:=by
 refine cq Tryz.func39 (.len l.length<| .br (.fin []) (.len m.length<| .lit<| .lit<| .br (.fin []) (.loop Nat (Q1 Nat) ([7]++rg 17 13) [] (fun k=>[(7,vI (k:Int))]) (fun k=>[]) (fun k=>k<=l.length/\(l.take k).all (iN d)=true) (fun k=>l.length - k) (fun k=> .len l.length<| .br (.elem _ aF l (fun e26=> .call (vB (iN d e26)) []<| .br (.fin []) (.back []))) (.loop Nat (Q1 Nat) ([8]++rg 30 13) [] (fun j=>[(8,vI (j:Int))]) (fun j=>[]) (fun j=>j<=m.length/\(m.take j).all (iJ d)=true) (fun j=>m.length - j) (fun j=> .len m.length<| .br (.elem _ aJ m (fun e39=> .call (vB (iJ d e39)) []<| .br (.fin []) (.back []))) (.fin []))))))) (p:=Lx (d.tables.map aG)<| Lx (l.map aF)<| Lx (m.map aJ)<| Lm aF l/\Br (8<(l.length:Int)) ((false)=(fR d l m)/\True) (Lm aJ m/\Br (8<(m.length:Int)) ((false)=(fR d l m)/\True) ((∃(k:Nat),0=(k:Int)/\k<=l.length/\(l.take k).all (iN d)=true)/\ ∀(k:Nat),(k<=l.length/\(l.take k).all (iN d)=true)->Lm aF l/\Br ((k:Int)<(l.length:Int)) (0<=(k:Int)/\Em aF l k fun e26=>vC d e26/\Nr (iN d e26) ((false)=(fR d l m)/\True) (bW ((k:Int)+1)/\ ∃(k' :Nat),((k:Int)+1)=(k' :Int)/\(k' <=l.length/\(l.take k').all (iN d)=true)/\l.length - k' <l.length - k)) ((∃(j:Nat),0=(j:Int)/\j<=m.length/\(m.take j).all (iJ d)=true)/\ ∀(j:Nat),(j<=m.length/\(m.take j).all (iJ d)=true)->Lm aJ m/\Br ((j:Int)<(m.length:Int)) (0<=(j:Int)/\Em aJ m j fun e39=>vD d e39/\Nr (iJ d e39) ((false)=(fR d l m)/\True) (bW ((j:Int)+1)/\ ∃(j' :Nat),((j:Int)+1)=(j' :Int)/\(j' <=m.length/\(m.take j').all (iJ d)=true)/\m.length - j' <m.length - j)) ((true)=(fR d l m)/\True))))) (by kernel_rfl) ?_;refine lx fun n0=>lx fun n1=>lx fun n2=>?_;refine⟨aAJ _,dd (fun g12=>?_) fun g12=>?_⟩
 ·have hbad:(decide ((l.length:Int)<=8)&&decide ((m.length:Int)<=8))=false:=by (simp;omega)
  apply et1
  ·(rw[fR,hbad];simp;done)
 ·refine⟨aAJ _,dd (fun c0=>?_) fun c0=>?_⟩
  ·have hbad:(decide ((l.length:Int)<=8)&&decide ((m.length:Int)<=8))=false:=by (simp;omega)
   apply et1
   ·(rw[fR,hbad];simp;done)
  ·have hz:(decide ((l.length:Int)<=8)&&decide ((m.length:Int)<=8))=true:=by simp;omega
   refine⟨⟨0,rfl,aAU _,rfl⟩,fun k ⟨hk,ha⟩=>?_⟩;refine⟨aAJ _,dd (fun c1=>?_) fun c1=>?_⟩
   ·refine⟨by omega,rfl,by omega,fun e26 h26=>?_⟩;refine⟨aFa _ _ (by omega),dm (fun c2=>?_) fun c2=>?_⟩
    ·have hL:l.all (iN d)=false:=fP h26 (by simpa using c2);apply et1
     ·(rw[fR,hL];rfl)
    ·refine⟨⟨by omega,by omega⟩,?_⟩;exact⟨k+1,rfl,⟨by omega,cI h26 ha (by simpa using c2)⟩,by omega⟩
   ·have hL:=cK (by omega) ha;refine⟨⟨0,rfl,aAU _,rfl⟩,fun j ⟨hj,hb⟩=>?_⟩;refine⟨aAJ _,dd (fun c3=>?_) fun c3=>?_⟩
    ·refine⟨by omega,rfl,by omega,fun e39 h39=>?_⟩;refine⟨aFb _ _ (by omega),dm (fun c4=>?_) fun c4=>?_⟩
     ·have hM:m.all (iJ d)=false:=fP h39 (by simpa using c4);apply et1
      ·(rw[fR,hL,hM,hz];rfl)
     ·refine⟨⟨by omega,by omega⟩,?_⟩;exact⟨j+1,rfl,⟨by omega,cI h39 hb (by simpa using c4)⟩,by omega⟩
    ·have hM:=cK (by omega) hb;apply et1
     ·(rw[fR,hL,hM,hz];rfl)
def eG (s:aV):Bool:=(dJ s.database s.catalogue.version).2&&(decide ((dJ s.database s.catalogue.version).1=s.catalogue)&&fR s.database s.dependencies s.inclusions)
abbrev aD5 (s:aV):Prop:=Cn 10 [.agg [.sl 88 3 (s.database.tables.map aG),.int .i64 s.catalogue.version,.sl 91 4 (s.catalogue.tables.map aB),.sl 77 3 (s.dependencies.map aF),.sl 81 4 (s.inclusions.map aJ)]] (vB (eG s)) []
theorem aO0 (s:aV)(hc:eC s<=1048576):aD5 s:=by
 refine cq Tryz.func10 (cH (aAj s.database s.catalogue.version)<| .br (.call (vB (decide (((dJ s.database s.catalogue.version).1)=s.catalogue))) []<| .lit<| .br (.call (vB (fR s.database s.dependencies s.inclusions)) []<| .fin []) (.fin [])) (.fin [])) (p:=Lx (s.database.tables.map aG)<| Lx (s.catalogue.tables.map aB)<| Lx (s.dependencies.map aF)<| Lx (s.inclusions.map aJ)<| aFP s.database s.catalogue.version/\Bb ((dJ s.database s.catalogue.version).2) (aB6 ((dJ s.database s.catalogue.version).1) s.catalogue/\Br (((dJ s.database s.catalogue.version).1)=s.catalogue) (aD4 s.database s.dependencies s.inclusions/\(fR s.database s.dependencies s.inclusions)=(eG s)/\True) ((false)=(eG s)/\True)) ((false)=(eG s)/\True)) (by kernel_rfl) ?_;refine lx fun n0=>lx fun n1=>lx fun n2=>lx fun n3=>?_;have hS:eC s=bO s.database+dN s.catalogue+cD s.dependencies+cW s.inclusions:=rfl;have hsm:=zQ s.database s.catalogue.version;refine⟨aQ3 s.database s.catalogue.version,db (fun g15=>?_) fun g15=>?_⟩
 ·refine⟨aLU _ _,dd (fun g21=>?_) fun g21=>?_⟩
  ·refine⟨aOZ s.database _ _ (by omega),?_,trivial⟩
   ·(simp[eG, *];done)
  ·apply et1
   ·(simp[eG, *];done)
 ·apply et1
  ·(simp[eG, *];done)
abbrev aD6 (s:aV):Prop:=Cn 11 [.agg [.sl 88 3 (s.database.tables.map aG),.int .i64 s.catalogue.version,.sl 91 4 (s.catalogue.tables.map aB),.sl 77 3 (s.dependencies.map aF),.sl 81 4 (s.inclusions.map aJ)]] (vB (eG s)) []
theorem aO1 (s:aV)(hc:eC s<=1048576):aD6 s:=by
 refine cq Tryz.func11 (cH (uS s.database s.catalogue.version)<| .br (.call (vB (decide (((dJ s.database s.catalogue.version).1)=s.catalogue))) []<| .lit<| .br (.call (vB (fR s.database s.dependencies s.inclusions)) []<| .fin []) (.fin [])) (.fin [])) (p:=Lx (s.database.tables.map aG)<| Lx (s.catalogue.tables.map aB)<| Lx (s.dependencies.map aF)<| Lx (s.inclusions.map aJ)<| aAk s.database s.catalogue.version/\Bb ((dJ s.database s.catalogue.version).2) (aB8 ((dJ s.database s.catalogue.version).1) s.catalogue/\Br (((dJ s.database s.catalogue.version).1)=s.catalogue) (yI s.database s.dependencies s.inclusions/\(fR s.database s.dependencies s.inclusions)=(eG s)/\True) ((false)=(eG s)/\True)) ((false)=(eG s)/\True)) (by kernel_rfl) ?_;refine lx fun n0=>lx fun n1=>lx fun n2=>lx fun n3=>?_;have hS:eC s=bO s.database+dN s.catalogue+cD s.dependencies+cW s.inclusions:=rfl;have hsm:=zQ s.database s.catalogue.version;refine⟨aJw s.database s.catalogue.version,db (fun g15=>?_) fun g15=>?_⟩
 ·refine⟨aLV _ _ (by omega),dd (fun g21=>?_) fun g21=>?_⟩
  ·refine⟨aHZ s.database _ _ (by omega),?_,trivial⟩
   ·(simp[eG, *];done)
  ·apply et1
   ·(simp[eG, *];done)
 ·apply et1
  ·(simp[eG, *];done)
abbrev aAp (x:aQ):AV × List (Nat × Rs):=(.agg [.p none (.str x.name),vI x.arity,vI x.rowCount,.own 0],[(0,.arr 138 3 true (x.groups.map aH))])
abbrev aFc (x:aQ):Prop:=Cn 151 [.agg [.str x.name,.int .i64 x.arity,.int .i64 x.rowCount,.sl 138 3 (x.groups.map aH)]] (aAp x).1 (aAp x).2
theorem aQi (x:aQ)(hc:dE x<=1048576):aFc x:=by
 refine cq Tryz.func151 (.loop (Nat × (List aS)) (Q2 Nat (List aS)) ([4,5,6]++rg 14 57) [300,500,2100,2800,2900,3600,5100,6100,6200,6300,6800,6900,9000,9001] (fun yy0=>[(4,vI (yy0.1:Int))]) (fun yy0=>[(300,some (.box 91 [.p none (.str x.name),vI x.arity,vI x.rowCount,.own 9000])),(9000,some (.arr 138 3 true (yy0.2.map aH)))]) (fun yy0=>yy0.1<=x.groups.length/\yy0.2=x.groups.take yy0.1) (fun yy0=>x.groups.length - yy0.1) (fun yy0=> .len x.groups.length<| .br (.elem _ aH x.groups (fun e25=> .app Int intD ([]:List Int) e25.columns<| .elem _ aH x.groups (fun e33=> .app Int intD ([]:List Int) e33.counts<| .loop (Nat × (List (List Int))) (Q2 Nat (List (List Int))) ([6]++rg 38 27) [500,5100,6100,6200,6300,9001] (fun yy1=>[(6,vI (yy1.1:Int))]) (fun yy1=>[(500,some (.box 138 [.own 2800,.own 9001,.own 3600])),(9001,some (.arr 34 1 true (yy1.2.map aD)))]) (fun yy1=>yy1.1<=e25.values.length/\yy1.2=e25.values.take yy1.1) (fun yy1=>e25.values.length - yy1.1) (fun yy1=> .elem _ aH x.groups (fun e42=> .len e42.values.length<| .br (.elem _ aH x.groups (fun e55=> .elem _ aD e55.values (fun e59=> .app Int intD ([]:List Int) e59<| .appx (List Int) aD yy1.2 (([]:List Int)++e59)<| .back [(500,500),(9001,6300)]))) (.appx aS aH yy0.2 (⟨([]:List Int)++e25.columns,yy1.2,([]:List Int)++e33.counts⟩:aS)<| .back [(300,300),(9000,6900)])))))) (.fin [(0,9000)]))) (p:=Lx (x.groups.map aH)<| (∃(k:Nat) (out:List aS),0=(k:Int)/\x.name=x.name/\x.arity=x.arity/\x.rowCount=x.rowCount/\[]=out.map aH/\k<=x.groups.length/\out=x.groups.take k)/\ ∀(k:Nat) (out:List aS),(k<=x.groups.length/\out=x.groups.take k)->Lm aH x.groups/\Br ((k:Int)<(x.groups.length:Int)) (0<=(k:Int)/\Em aH x.groups k fun e25=>Ap intD ([]:List Int) e25.columns 8 (0<=(k:Int)/\Em aH x.groups k fun e33=>Ap intD ([]:List Int) e33.counts 8 ((∃(i:Nat) (v:List (List Int)),0=(i:Int)/\[]=v.map aD/\i<=e25.values.length/\v=e25.values.take i)/\ ∀(i:Nat) (v:List (List Int)),(i<=e25.values.length/\v=e25.values.take i)->0<=(k:Int)/\Em aH x.groups k fun e42=>Lm aD e42.values/\Br ((i:Int)<(e42.values.length:Int)) (0<=(k:Int)/\Em aH x.groups k fun e55=>0<=(i:Int)/\Em aD e55.values i fun e59=>Ap intD ([]:List Int) e59 8 (v.map aD=v.map aD/\(([]:List Int)++e59).map intD=(([]:List Int)++e59).map intD/\(v.length+1)*24<=140737488355328/\bW ((i:Int)+1)/\ ∃(i' :Nat) (v' :List (List Int)),((i:Int)+1)=(i' :Int)/\(v++[([]:List Int)++e59]).map aD=v'.map aD/\(i' <=e25.values.length/\v' =e25.values.take i')/\e25.values.length - i' <e25.values.length - i)) (out.map aH=out.map aH/\(([]:List Int)++e25.columns).map intD=(⟨([]:List Int)++e25.columns,v,([]:List Int)++e33.counts⟩:aS).columns.map intD/\v.map aD=(⟨([]:List Int)++e25.columns,v,([]:List Int)++e33.counts⟩:aS).values.map aD/\(([]:List Int)++e33.counts).map intD=(⟨([]:List Int)++e25.columns,v,([]:List Int)++e33.counts⟩:aS).counts.map intD/\(out.length+1)*72<=140737488355328/\bW ((k:Int)+1)/\ ∃(k' :Nat) (out' :List aS),((k:Int)+1)=(k' :Int)/\x.name=x.name/\x.arity=x.arity/\x.rowCount=x.rowCount/\(out++[(⟨([]:List Int)++e25.columns,v,([]:List Int)++e33.counts⟩:aS)]).map aH=out'.map aH/\(k' <=x.groups.length/\out' =x.groups.take k')/\x.groups.length - k' <x.groups.length - k)))) (x.name=x.name/\x.arity=x.arity/\x.rowCount=x.rowCount/\out.map aH=x.groups.map aH/\True)) (by kernel_rfl) ?_;refine lx fun n0=>?_;have q2:dE x=x.name.size+iW x.groups:=rfl;have q5:=lH x.groups;refine⟨⟨0,([]:List aS),rfl,rfl,rfl,rfl,rfl,aAU _,rfl⟩,fun k out ⟨hk,ho⟩=>?_⟩;refine⟨aAJ _,dd (fun c0=>?_) fun c0=>?_⟩
 ·refine⟨by omega,rfl,by omega,fun e25 h25=>?_⟩
  try (obtain rfl:=(bF h25 h25).symm)
  have q1:=kC h25;have q3:gZ e25=gT e25.columns+cV e25.values+gT e25.counts:=rfl;have q6:gT e25.columns=e25.columns.length:=rfl;have q7:gT e25.counts=e25.counts.length:=rfl;have q8:=iG e25.values;refine ap ?_ (fun _=>rfl) (by (simp;omega));refine⟨by omega,rfl,by omega,fun e33 h33=>?_⟩
  try (obtain rfl:=(bF h25 h33).symm)
  refine ap ?_ (fun _=>rfl) (by (simp;omega));refine⟨⟨0,([]:List (List Int)),rfl,rfl,aAU _,rfl⟩,fun i v ⟨hi,hv⟩=>?_⟩;refine⟨by omega,rfl,by omega,fun e42 h42=>?_⟩
  try (obtain rfl:=(bF h25 h42).symm)
  refine⟨aAJ _,dd (fun c1=>?_) fun c1=>?_⟩
  ·refine⟨by omega,rfl,by omega,fun e55 h55=>?_⟩
   try (obtain rfl:=(bF h25 h55).symm)
   refine⟨by omega,rfl,by omega,fun e59 h59=>?_⟩;have hp3:=zN h59;refine ap ?_ (fun _=>rfl) (by (simp;omega));refine⟨rfl,rfl,by (simp[hv];omega),⟨by omega,by omega⟩,?_⟩;exact⟨i+1,_,rfl,rfl,⟨by omega,by rw[hv,bS h59];rfl⟩,by omega⟩
  ·have hvv:v=e25.values:=by rw[hv,aCy (by omega)]
   refine⟨rfl,rfl,rfl,rfl,by (simp[ho];omega),⟨by omega,by omega⟩,?_⟩;exact⟨k+1,_,rfl,rfl,rfl,rfl,rfl,⟨by omega,by rw[ho,bS h25,hvv];rfl⟩,by omega⟩
 ·refine⟨rfl,rfl,rfl,?_,trivial⟩
  ·(rw[ho,aCy (by omega)])
def pW (n:ByteArray)(x:aQ):Bool:=(x.name.toList==n.toList)&&dW x
def cT (c:dH)(n:ByteArray):aQ × Bool:=match c.tables.find? (pW n) with | some x=>(x,true) | none=>(sC,false)
theorem aCq {c:dH}{n:ByteArray}{x:aQ}(h:c.tables.find? (pW n)=some x):cT c n=(x,true):=by rw[cT,h]
theorem aKH {c:dH}{n:ByteArray}(h:c.tables.find? (pW n)=none):cT c n=(sC,false):=by rw[cT,h]
abbrev aD7 (c:dH)(n:ByteArray):AV × List (Nat × Rs):=(.tup [.agg [.p none (.str ((cT c n).1.name)),vI ((cT c n).1.arity),vI ((cT c n).1.rowCount),.own 0],vB ((cT c n).2)],[(0,.arr 138 3 true ((cT c n).1.groups.map aH))])
abbrev aKI (c:dH)(n:ByteArray):Prop:=Cn 115 [.agg [.int .i64 c.version,.sl 91 4 (c.tables.map aB)],.one (.str n)] (aD7 c n).1 (aD7 c n).2
theorem aO2 (c:dH)(n:ByteArray)(hc:dN c<=1048576):aKI c n:=by
 refine cq Tryz.func115 (.len c.tables.length<| .loop Nat (Q1 Nat) ([7]++rg 11 12++[25]) [700] (fun k=>[(11,vI (k:Int))]) (fun k=>[]) (fun k=>k<=c.tables.length/\(c.tables.take k).all (fun y=> !pW n y)=true) (fun k=>c.tables.length - k) (fun k=> .br (.elem _ aB c.tables (fun e13=> .br (.call (vB (dW e13)) []<| .lit<| .br (cH (aAi e13)<| .fin [(0,2400)]) (.back [])) (.back []))) (.fin []))) (p:=Lx (c.tables.map aB)<| Lm aB c.tables/\((∃(k:Nat),0=(k:Int)/\k<=c.tables.length/\(c.tables.take k).all (fun y=> !pW n y)=true)/\ ∀(k:Nat),(k<=c.tables.length/\(c.tables.take k).all (fun y=> !pW n y)=true)->Br ((k:Int)<(c.tables.length:Int)) (0<=(k:Int)/\Em aB c.tables k fun e13=>Bb (e13.name.toList==n.toList) (aFM e13/\Bb (dW e13) (aFL e13/\e13.name=((cT c n).1.name)/\e13.arity=((cT c n).1.arity)/\e13.rowCount=((cT c n).1.rowCount)/\(true)=((cT c n).2)/\e13.groups.map aH=(cT c n).1.groups.map aH/\True) (bW ((k:Int)+1)/\ ∃(k' :Nat),((k:Int)+1)=(k' :Int)/\(k' <=c.tables.length/\(c.tables.take k').all (fun y=> !pW n y)=true)/\c.tables.length - k' <c.tables.length - k)) (bW ((k:Int)+1)/\ ∃(k' :Nat),((k:Int)+1)=(k' :Int)/\(k' <=c.tables.length/\(c.tables.take k').all (fun y=> !pW n y)=true)/\c.tables.length - k' <c.tables.length - k)) (ByteArray.empty=((cT c n).1.name)/\0=((cT c n).1.arity)/\0=((cT c n).1.rowCount)/\(false)=((cT c n).2)/\[]=(cT c n).1.groups.map aH/\True))) (by kernel_rfl) ?_;refine lx fun n0=>?_;have hS:dN c=gW c.tables:=rfl;refine⟨aAJ _,⟨0,rfl,aAU _,rfl⟩,fun k ⟨hk,ha⟩=>?_⟩;refine dd (fun c0=>?_) fun c0=>?_
 ·refine⟨by omega,rfl,by omega,fun e13 h13=>?_⟩
  try (obtain rfl:=(bF h13 h13).symm)
  have q1:=pO h13;refine db (fun g19=>?_) fun g19=>?_
  ·refine⟨aQZ _ (by omega),db (fun c1=>?_) fun c1=>?_⟩
   ·have hf:=aIT (p:=pW n) h13 ha (by simp[pW,g19,c1]);refine⟨aQY _ (by omega),?_,?_,?_,?_,?_,trivial⟩<;>((rw[aCq hf]<;>rfl))
   ·refine⟨⟨by omega,by omega⟩,?_⟩;exact⟨k+1,rfl,⟨by omega,cI h13 ha (by (simp[pW,g19,c1];done))⟩,by omega⟩
  ·refine⟨⟨by omega,by omega⟩,?_⟩;exact⟨k+1,rfl,⟨by omega,cI h13 ha (by (simp[pW,g19];done))⟩,by omega⟩
 ·have hall:=aIU (cK (by omega) ha);refine⟨?_,?_,?_,?_,?_,trivial⟩<;>((rw[aKH hall]<;>rfl))
abbrev aD8 (c:dH)(n:ByteArray):AV × List (Nat × Rs):=(.tup [.agg [.p none (.str ((cT c n).1.name)),vI ((cT c n).1.arity),vI ((cT c n).1.rowCount),.own 0],vB ((cT c n).2)],[(0,.arr 138 3 true ((cT c n).1.groups.map aH))])
abbrev aKJ (c:dH)(n:ByteArray):Prop:=Cn 117 [.agg [.int .i64 c.version,.sl 91 4 (c.tables.map aB)],.one (.str n)] (aD8 c n).1 (aD8 c n).2
theorem aO3 (c:dH)(n:ByteArray)(hc:dN c<=1048576):aKJ c n:=by
 refine cq Tryz.func117 (.loop Nat (Q1 Nat) (rg 6 24) [] (fun k=>[(6,vI (k:Int))]) (fun k=>[]) (fun k=>k<=c.tables.length/\(c.tables.take k).all (fun y=> !pW n y)=true) (fun k=>c.tables.length - k) (fun k=> .len c.tables.length<| .br (.elem _ aB c.tables (fun e17=> .br (.elem _ aB c.tables (fun e26=> .call (vB (dW e26)) []<| .lit<| .br (.elem _ aB c.tables (fun e33=>cH (aAp e33)<| .fin [(0,3500)])) (.back []))) (.back []))) (.fin []))) (p:=Lx (c.tables.map aB)<| (∃(k:Nat),0=(k:Int)/\k<=c.tables.length/\(c.tables.take k).all (fun y=> !pW n y)=true)/\ ∀(k:Nat),(k<=c.tables.length/\(c.tables.take k).all (fun y=> !pW n y)=true)->Lm aB c.tables/\Br ((k:Int)<(c.tables.length:Int)) (0<=(k:Int)/\Em aB c.tables k fun e17=>Bb (e17.name.toList==n.toList) (0<=(k:Int)/\Em aB c.tables k fun e26=>aF9 e26/\Bb (dW e26) (0<=(k:Int)/\Em aB c.tables k fun e33=>aFc e33/\e33.name=((cT c n).1.name)/\e33.arity=((cT c n).1.arity)/\e33.rowCount=((cT c n).1.rowCount)/\(true)=((cT c n).2)/\e33.groups.map aH=(cT c n).1.groups.map aH/\True) (bW ((k:Int)+1)/\ ∃(k' :Nat),((k:Int)+1)=(k' :Int)/\(k' <=c.tables.length/\(c.tables.take k').all (fun y=> !pW n y)=true)/\c.tables.length - k' <c.tables.length - k)) (bW ((k:Int)+1)/\ ∃(k' :Nat),((k:Int)+1)=(k' :Int)/\(k' <=c.tables.length/\(c.tables.take k').all (fun y=> !pW n y)=true)/\c.tables.length - k' <c.tables.length - k)) (ByteArray.empty=((cT c n).1.name)/\0=((cT c n).1.arity)/\0=((cT c n).1.rowCount)/\(false)=((cT c n).2)/\[]=(cT c n).1.groups.map aH/\True)) (by kernel_rfl) ?_;refine lx fun n0=>?_;have hS:dN c=gW c.tables:=rfl;refine⟨⟨0,rfl,aAU _,rfl⟩,fun k ⟨hk,ha⟩=>?_⟩;refine⟨aAJ _,dd (fun c0=>?_) fun c0=>?_⟩
 ·refine⟨by omega,rfl,by omega,fun e17 h17=>?_⟩
  try (obtain rfl:=(bF h17 h17).symm)
  have q1:=pO h17;refine db (fun g22=>?_) fun g22=>?_
  ·refine⟨by omega,rfl,by omega,fun e26 h26=>?_⟩
   try (obtain rfl:=(bF h17 h26).symm)
   refine⟨aQf _ (by omega),db (fun c1=>?_) fun c1=>?_⟩
   ·have hf:=aIT (p:=pW n) h17 ha (by simp[pW,g22,c1]);refine⟨by omega,rfl,by omega,fun e33 h33=>?_⟩
    try (obtain rfl:=(bF h17 h33).symm)
    refine⟨aQi _ (by omega),?_,?_,?_,?_,?_,trivial⟩<;>((rw[aCq hf]<;>rfl))
   ·refine⟨⟨by omega,by omega⟩,?_⟩;exact⟨k+1,rfl,⟨by omega,cI h17 ha (by (simp[pW,g22,c1];done))⟩,by omega⟩
  ·refine⟨⟨by omega,by omega⟩,?_⟩;exact⟨k+1,rfl,⟨by omega,cI h17 ha (by (simp[pW,g22];done))⟩,by omega⟩
 ·have hall:=aIU (cK (by omega) ha);refine⟨?_,?_,?_,?_,?_,trivial⟩<;>((rw[aKH hall]<;>rfl))
theorem aFd {α:Type}{p q:α->Bool}: ∀{l:List α},(∀x∈l,p x=q x)->l.find? p=l.find? q
 | [],_=>rfl
 | x::l,h=>by
   rw[List.find?_cons,List.find?_cons,h x (by simp),aFd fun y hy=>h y (by simp[hy])]
theorem aCr {t:aP}(h:aR t=true):dW (aX t)=true/\(aX t).name=t.name/\(aX t).arity=t.arity/\(aX t).rowCount=(t.rows.length:Nat):=by
 have h1:=(xZ h).1
 have e:iH (aX t)=t:=by
  rw[iH,h1,iY h]
 refine⟨by rw[dW,e,h];simp,?_,?_,?_⟩<;>rw[iY h]
theorem aQj {s:aV}(h:eG s=true):iI s.database=true/\s.catalogue.tables=s.database.tables.map aX:=by
 simp only[eG,aAS,aLF] at h;obtain⟨h1,h2,_⟩:=h;cases e:(iI s.database&&dV s.catalogue.version 1 999) with
 | false=>rw[rG e] at h1;cases h1
 | true=>
   rw[oF e] at h2;simp only[aAS] at e;exact⟨e.1,by rw[<-h2]⟩
theorem aL8 {s:aV}{n:ByteArray}(h:eG s=true)(hn:(aE s.database n).2=true):cT s.catalogue n=(aX (aE s.database n).1,true):=by
 obtain⟨h1,h2⟩:=aQj h;have hall:=aFT h1
 have hc:(s.database.tables.find? fun t=>pW n (aX t))=s.database.tables.find? (isN n):=aFd fun t ht=>by
  obtain⟨q1,q2,_,_⟩:=aCr (aDP.1 hall t ht);rw[pW,q1,q2,Bool.and_true]
 have hf:s.catalogue.tables.find? (pW n)=(s.database.tables.find? (isN n)).map aX:=by
  rw[h2,List.find?_map,<-hc];rfl
 cases e:s.database.tables.find? (isN n) with
 | none=>rw[yA (.inr e)] at hn;cases hn
 | some t=>
   rw[aCm h1 e];exact aCq (by rw[hf,e];rfl)
def dU (d:aL)(q:aI):Bool:=aZ q&&q.atoms.all fun a=>(aE d a.name).2&&decide ((aE d a.name).1.arity=(a.vars.length:Nat))
def kS (s:aV)(q:aI)(m:Int):Bool:=eG s&&(dU s.database q&&dV m 1 (dC q))
def eH (s:aV)(q:aI)(i:Nat):aQ:=(cT s.catalogue (q.atoms.getD i cS).name).1
theorem kI {d:aL}{q:aI}(h:dU d q=true):aZ q=true/\ ∀a∈q.atoms,(aE d a.name).2=true/\(aE d a.name).1.arity=(a.vars.length:Nat):=by
 simp only[dU,aAS] at h;exact⟨h.1,fun a ha=>by simpa using aDP.1 h.2 a ha⟩
theorem iC {s:aV}{q:aI}{m:Int}(h:kS s q m=true):eG s=true/\dU s.database q=true/\aZ q=true/\1<=m/\m<=1*2^q.atoms.length - 1/\m<=15/\gG q m=true/\(1<=q.atoms.length/\q.atoms.length<=4):=by
 simp only[kS,aAS] at h;have h1:=dB h.2.2;have h2:=(kI h.2.1).1;have h3:=bM h2;have h4:=fY h3.2.1;rw[lJ h2] at h1;exact⟨h.1,h.2.1,h2,h1.1,h1.2,by omega,by rw[gG,h2,gN (by omega) h1.2];rfl,h3.2.1⟩
theorem aMu {s:aV}{q:aI}:kS s q (dC q)=kS s q 1:=by
 cases h:dU s.database q with
 | false=>simp[kS,h]
 | true=>
   have h2:=(kI h).1;have h3:=fY (bM h2).2.1;rw[kS,kS,h,lJ h2,gN h3.1 (Int.le_refl _),gN (Int.le_refl _) h3.1]
theorem aSx {s:aV}{q:aI}{i:Nat}{a:bH}(h:eG s=true)(hq:dU s.database q=true)(ha:q.atoms[i]? =some a):dW (eH s q i)=true/\(eH s q i).arity=(a.vars.length:Nat)/\0<=(eH s q i).rowCount/\(eH s q i).rowCount<=8/\eH s q i=aX (aE s.database a.name).1/\(cT s.catalogue a.name).2=true:=by
 obtain⟨h1,h2⟩:=(kI hq).2 a (aAx ha);have h3:=aL8 h h1;have h4:=(jO h1).1;obtain⟨q1,q2,q3,q4⟩:=aCr h4;have h5:=bP h4;have e:eH s q i=aX (aE s.database a.name).1:=by rw[eH,aT ha,h3]
 rw[e];exact⟨q1,q3.trans h2,by omega,by omega,rfl,by rw[h3]⟩
abbrev aFe (d:aL)(q:aI):Prop:=Cn 113 [.agg [.sl 88 3 (d.tables.map aG)],.agg [.int .i64 q.variableCount,.sl 146 2 (q.atoms.map aN)]] (vB (dU d q)) []
theorem aQk (d:aL)(q:aI)(hc:bO d<=1048576):aFe d q:=by
 refine cq Tryz.func113 (.call (vB (aZ q)) []<| .br (.fin []) (.len q.atoms.length<| .loop Nat (Q1 Nat) ([6,7,8]++rg 15 22) [600,700] (fun k=>[(15,vI (k:Int))]) (fun k=>[]) (fun k=>k<=q.atoms.length/\(q.atoms.take k).all (fun a=>(aE d a.name).2&&decide ((aE d a.name).1.arity=(a.vars.length:Nat)))=true) (fun k=>q.atoms.length - k) (fun k=> .br (.elem _ aN q.atoms (fun e17=> .call (.tup [.agg [.p none (.str ((aE d e17.name).1.name)),vI ((aE d e17.name).1.arity),.p none (.sl 34 1 ((aE d e17.name).1.rows.map aD))],vB ((aE d e17.name).2)]) []<| .br (.fin []) (.len e17.vars.length<| .lit<| .lit<| .br (.fin []) (.back [])))) (.fin [])))) (p:=Lx (d.tables.map aG)<| Lx (q.atoms.map aN)<| aAo q/\Nr (aZ q) ((false)=(dU d q)/\True) (Lm aN q.atoms/\((∃(k:Nat),0=(k:Int)/\k<=q.atoms.length/\(q.atoms.take k).all (fun a=>(aE d a.name).2&&decide ((aE d a.name).1.arity=(a.vars.length:Nat)))=true)/\ ∀(k:Nat),(k<=q.atoms.length/\(q.atoms.take k).all (fun a=>(aE d a.name).2&&decide ((aE d a.name).1.arity=(a.vars.length:Nat)))=true)->Br ((k:Int)<(q.atoms.length:Int)) (0<=(k:Int)/\Em aN q.atoms k fun e17=>vX Tryz.prog 86 [.agg [.sl 88 3 (d.tables.map aG)],.one (.str e17.name)] (.tup [.agg [.p none (.str ((aE d e17.name).1.name)),vI ((aE d e17.name).1.arity),.p none (.sl 34 1 ((aE d e17.name).1.rows.map aD))],vB ((aE d e17.name).2)]) []/\Nr ((aE d e17.name).2) ((false)=(dU d q)/\True) (Lm intD e17.vars/\Nb (((aE d e17.name).1.arity)=(e17.vars.length:Int)) ((false)=(dU d q)/\True) (bW ((k:Int)+1)/\ ∃(k' :Nat),((k:Int)+1)=(k' :Int)/\(k' <=q.atoms.length/\(q.atoms.take k').all (fun a=>(aE d a.name).2&&decide ((aE d a.name).1.arity=(a.vars.length:Nat)))=true)/\q.atoms.length - k' <q.atoms.length - k))) ((true)=(dU d q)/\True)))) (by kernel_rfl) ?_;refine lx fun n0=>lx fun n1=>?_;refine⟨aKG q,dm (fun c0=>?_) fun c0=>?_⟩
 ·apply et1
  ·(rw[dU,c0];rfl)
 ·refine⟨aAJ _,⟨0,rfl,aAU _,rfl⟩,fun k ⟨hk,ha⟩=>?_⟩;refine dd (fun c1=>?_) fun c1=>?_
  ·refine⟨by omega,rfl,by omega,fun e17 h17=>?_⟩
   try (obtain rfl:=(bF h17 h17).symm)
   refine⟨iV (rH _ e17.name (by omega)) rfl,dm (fun g28=>?_) fun g28=>?_⟩
   ·have hA:((aE d e17.name).2&&decide ((aE d e17.name).1.arity=(e17.vars.length:Nat)))=false:=by (rw[g28];rfl)
    apply et1
    ·(rw[dU,fP h17 hA,Bool.and_false];done)
   ·refine⟨aAJ _,dn (fun c2=>?_) fun c2=>?_⟩
    ·have hA:((aE d e17.name).2&&decide ((aE d e17.name).1.arity=(e17.vars.length:Nat)))=false:=by (rw[g28];simp[c2];done)
     apply et1
     ·(rw[dU,fP h17 hA,Bool.and_false];done)
    ·have hA:((aE d e17.name).2&&decide ((aE d e17.name).1.arity=(e17.vars.length:Nat)))=true:=by rw[g28];simp[c2]
     refine⟨⟨by omega,by omega⟩,?_⟩;exact⟨k+1,rfl,⟨by omega,cI h17 ha hA⟩,by omega⟩
  ·apply et1
   ·(rw[dU,c0,cK (by omega) ha];rfl)
abbrev sG (q:aI):Prop:=Cn 65 [.agg [.int .i64 q.variableCount,.sl 146 2 (q.atoms.map aN)]] (vI (dC q)) []
theorem aCs (q:aI):sG q:=by
 refine cq Tryz.func65 (.call (vB (aZ q)) []<| .br (.fin []) (.len q.atoms.length<| .fin [])) (p:=Lx (q.atoms.map aN)<| aAo q/\Nr (aZ q) (0=(dC q)/\True) (Lm aN q.atoms/\(0<=(q.atoms.length:Int)/\(q.atoms.length:Int)<=64)/\bW ((1:Int)*2^q.atoms.length)/\bW (((1:Int)*2^q.atoms.length) - 1)/\(((1:Int)*2^q.atoms.length) - 1)=(dC q)/\True)) (by kernel_rfl) ?_;refine lx fun n0=>?_;refine⟨aKG q,dm (fun c0=>?_) fun c0=>?_⟩
 ·apply et1
  ·(rw[aKE c0];done)
 ·have w:=fY (bM c0).2.1;have w2:=(bM c0).2.1;refine⟨aAJ _,⟨by omega,by omega⟩,⟨by omega,by omega⟩,⟨by omega,by omega⟩,?_,trivial⟩
  ·(rw[lJ c0];done)
abbrev aAq (d:aL)(q:aI):Prop:=Cn 116 [.agg [.sl 88 3 (d.tables.map aG)],.agg [.int .i64 q.variableCount,.sl 146 2 (q.atoms.map aN)]] (vB (dU d q)) []
theorem aKK (d:aL)(q:aI)(hc:bO d<=1048576):aAq d q:=by
 refine cq Tryz.func116 (.call (vB (aZ q)) []<| .br (.fin []) (.loop Nat (Q1 Nat) ([5,6,7]++rg 11 32) [600] (fun k=>[(5,vI (k:Int))]) (fun k=>[]) (fun k=>k<=q.atoms.length/\(q.atoms.take k).all (fun a=>(aE d a.name).2&&decide ((aE d a.name).1.arity=(a.vars.length:Nat)))=true) (fun k=>q.atoms.length - k) (fun k=> .len q.atoms.length<| .br (.elem _ aN q.atoms (fun e23=> .call (.tup [.agg [.p none (.str ((aE d e23.name).1.name)),vI ((aE d e23.name).1.arity),.p none (.sl 34 1 ((aE d e23.name).1.rows.map aD))],vB ((aE d e23.name).2)]) []<| .br (.fin []) (.elem _ aN q.atoms (fun e37=> .len e37.vars.length<| .lit<| .lit<| .br (.fin []) (.back []))))) (.fin [])))) (p:=Lx (d.tables.map aG)<| Lx (q.atoms.map aN)<| lD q/\Nr (aZ q) ((false)=(dU d q)/\True) ((∃(k:Nat),0=(k:Int)/\k<=q.atoms.length/\(q.atoms.take k).all (fun a=>(aE d a.name).2&&decide ((aE d a.name).1.arity=(a.vars.length:Nat)))=true)/\ ∀(k:Nat),(k<=q.atoms.length/\(q.atoms.take k).all (fun a=>(aE d a.name).2&&decide ((aE d a.name).1.arity=(a.vars.length:Nat)))=true)->Lm aN q.atoms/\Br ((k:Int)<(q.atoms.length:Int)) (0<=(k:Int)/\Em aN q.atoms k fun e23=>vX Tryz.prog 94 [.agg [.sl 88 3 (d.tables.map aG)],.one (.str e23.name)] (.tup [.agg [.p none (.str ((aE d e23.name).1.name)),vI ((aE d e23.name).1.arity),.p none (.sl 34 1 ((aE d e23.name).1.rows.map aD))],vB ((aE d e23.name).2)]) []/\Nr ((aE d e23.name).2) ((false)=(dU d q)/\True) (0<=(k:Int)/\Em aN q.atoms k fun e37=>Lm intD e37.vars/\Nb (((aE d e23.name).1.arity)=(e37.vars.length:Int)) ((false)=(dU d q)/\True) (bW ((k:Int)+1)/\ ∃(k' :Nat),((k:Int)+1)=(k' :Int)/\(k' <=q.atoms.length/\(q.atoms.take k').all (fun a=>(aE d a.name).2&&decide ((aE d a.name).1.arity=(a.vars.length:Nat)))=true)/\q.atoms.length - k' <q.atoms.length - k))) ((true)=(dU d q)/\True))) (by kernel_rfl) ?_;refine lx fun n0=>lx fun n1=>?_;refine⟨rI q,dm (fun c0=>?_) fun c0=>?_⟩
 ·apply et1
  ·(rw[dU,c0];rfl)
 ·refine⟨⟨0,rfl,aAU _,rfl⟩,fun k ⟨hk,ha⟩=>?_⟩;refine⟨aAJ _,dd (fun c1=>?_) fun c1=>?_⟩
  ·refine⟨by omega,rfl,by omega,fun e23 h23=>?_⟩
   try (obtain rfl:=(bF h23 h23).symm)
   refine⟨iV (pG _ e23.name (by omega)) rfl,dm (fun g31=>?_) fun g31=>?_⟩
   ·have hA:((aE d e23.name).2&&decide ((aE d e23.name).1.arity=(e23.vars.length:Nat)))=false:=by (rw[g31];rfl)
    apply et1
    ·(rw[dU,fP h23 hA,Bool.and_false];done)
   ·refine⟨by omega,rfl,by omega,fun e37 h37=>?_⟩
    try (obtain rfl:=(bF h23 h37).symm)
    refine⟨aAJ _,dn (fun c2=>?_) fun c2=>?_⟩
    ·have hA:((aE d e23.name).2&&decide ((aE d e23.name).1.arity=(e23.vars.length:Nat)))=false:=by (rw[g31];simp[c2];done)
     apply et1
     ·(rw[dU,fP h23 hA,Bool.and_false];done)
    ·have hA:((aE d e23.name).2&&decide ((aE d e23.name).1.arity=(e23.vars.length:Nat)))=true:=by rw[g31];simp[c2]
     refine⟨⟨by omega,by omega⟩,?_⟩;exact⟨k+1,rfl,⟨by omega,cI h23 ha hA⟩,by omega⟩
  ·apply et1
   ·(rw[dU,c0,cK (by omega) ha];rfl)
abbrev lE (q:aI):Prop:=Cn 67 [.agg [.int .i64 q.variableCount,.sl 146 2 (q.atoms.map aN)]] (vI (dC q)) []
theorem qI (q:aI):lE q:=by
 refine cq Tryz.func67 (.call (vB (aZ q)) []<| .br (.fin []) (.len q.atoms.length<| .fin [])) (p:=Lx (q.atoms.map aN)<| lD q/\Nr (aZ q) (0=(dC q)/\True) (Lm aN q.atoms/\(0<=(q.atoms.length:Int)/\(q.atoms.length:Int)<=64)/\bW ((1:Int)*2^q.atoms.length)/\bW (((1:Int)*2^q.atoms.length) - 1)/\(((1:Int)*2^q.atoms.length) - 1)=(dC q)/\True)) (by kernel_rfl) ?_;refine lx fun n0=>?_;refine⟨rI q,dm (fun c0=>?_) fun c0=>?_⟩
 ·apply et1
  ·(rw[aKE c0];done)
 ·have w:=fY (bM c0).2.1;have w2:=(bM c0).2.1;refine⟨aAJ _,⟨by omega,by omega⟩,⟨by omega,by omega⟩,⟨by omega,by omega⟩,?_,trivial⟩
  ·(rw[lJ c0];done)
abbrev oG (m:Int):AV × List (Nat × Rs):=(.own 0,[(0,.arr 3 1 true ((bK m).map intD))])
abbrev rJ (m:Int):Prop:=Cn 59 [.one (.int .i64 m)] (oG m).1 (oG m).2
theorem aBv (m:Int):rJ m:=by
 refine cq Tryz.func59 (.call (vB (dV m (0:Int) (15:Int))) []<| .br (.fin []) (.loop (Nat × (List Int)) (Q2 Nat (List Int)) ([3,4]++rg 8 14) [800,2000,2100] (fun yy0=>[(4,vI (yy0.1:Int)),(3,.own 800)]) (fun yy0=>[(800,some (.arr 3 1 true (yy0.2.map intD)))]) (fun yy0=>yy0.1<=4/\yy0.2=dG (bR m) yy0.1) (fun yy0=>4 - yy0.1) (fun yy0=> .br (.br (.app Int intD yy0.2 ([(yy0.1:Int)]:List Int)<| .back [(800,2100)]) (.back [(800,800)])) (.fin [(0,800)])))) (p:=eW m (0:Int) (15:Int)/\Nr (dV m (0:Int) (15:Int)) ([]=(bK m).map intD/\True) ((∃(i:Nat) (out:List Int),0=(i:Int)/\[]=out.map intD/\i<=4/\out=dG (bR m) i)/\ ∀(i:Nat) (out:List Int),(i<=4/\out=dG (bR m) i)->Br ((i:Int)<4) ((0<=(i:Int)/\(i:Int)<=64)/\Br ((cJ .and .i64 (m/2^i) (1:Int))=1) (Ap intD out ([(i:Int)]:List Int) 8 (bW ((i:Int)+1)/\ ∃(i' :Nat) (out' :List Int),((i:Int)+1)=(i' :Int)/\(out++[(i:Int)]).map intD=out'.map intD/\(i' <=4/\out' =dG (bR m) i')/\4 - i' <4 - i)) (bW ((i:Int)+1)/\ ∃(i' :Nat) (out' :List Int),((i:Int)+1)=(i' :Int)/\out.map intD=out'.map intD/\(i' <=4/\out' =dG (bR m) i')/\4 - i' <4 - i)) (out.map intD=(bK m).map intD/\True))) (by kernel_rfl) ?_;refine⟨jJ _ _ _,dm (fun c0=>?_) fun c0=>?_⟩
 ·apply et1
  ·(rw[aKD c0];rfl)
 ·refine⟨⟨0,([]:List Int),rfl,rfl,by omega,rfl⟩,fun i out ⟨hi,ho⟩=>?_⟩;refine dd (fun c1=>?_) fun c1=>?_
  ·refine⟨⟨by omega,by omega⟩,dd (fun c2=>?_) fun c2=>?_⟩
   ·refine ap ?_ (fun _=>rfl) (by (rw[ho];have:=tP (bR m) i;simp only[aHl,List.length_nil];omega));refine⟨⟨by omega,by omega⟩,?_⟩;exact⟨i+1,_,rfl,rfl,⟨by omega,by (rw[ho,lB (eI c2)];done)⟩,by omega⟩
   ·refine⟨⟨by omega,by omega⟩,?_⟩;exact⟨i+1,_,rfl,rfl,⟨by omega,by (rw[ho,nJ (eK c2)];done)⟩,by omega⟩
  ·apply et1
   ·(rw[zU c0,ho,show i=4 by omega])
abbrev aAr (q:aI)(m:Int):Prop:=Cn 123 [.agg [.int .i64 q.variableCount,.sl 146 2 (q.atoms.map aN)],.one (.int .i64 m)] (vB (gG q m)) []
theorem aKL (q:aI)(m:Int):aAr q m:=by
 refine cq Tryz.func123 (.call (vB (aZ q)) []<| .br (.len q.atoms.length<| .call (vB (dV m (0:Int) (((1:Int)*2^q.atoms.length) - 1))) []<| .fin []) (.fin [])) (p:=Lx (q.atoms.map aN)<| lD q/\Bb (aZ q) (Lm aN q.atoms/\(0<=(q.atoms.length:Int)/\(q.atoms.length:Int)<=64)/\bW ((1:Int)*2^q.atoms.length)/\bW (((1:Int)*2^q.atoms.length) - 1)/\dZ m (0:Int) (((1:Int)*2^q.atoms.length) - 1)/\(dV m (0:Int) (((1:Int)*2^q.atoms.length) - 1))=(gG q m)/\True) ((false)=(gG q m)/\True)) (by kernel_rfl) ?_;refine lx fun n0=>?_;refine⟨rI q,db (fun g7=>?_) fun g7=>?_⟩
 ·have w:=fY (bM g7).2.1;have w2:=(bM g7).2.1;refine⟨aAJ _,⟨by omega,by omega⟩,⟨by omega,by omega⟩,⟨by omega,by omega⟩,gX _ _ _,?_,trivial⟩
  ·(rw[gG,g7];rfl)
 ·apply et1
  ·(rw[gG,g7];rfl)
abbrev sH (q:aI)(m:Int):AV × List (Nat × Rs):=(.own 0,[(0,.arr 3 1 true ((dS q m).map intD))])
abbrev yJ (q:aI)(m:Int):Prop:=Cn 131 [.agg [.int .i64 q.variableCount,.sl 146 2 (q.atoms.map aN)],.one (.int .i64 m)] (sH q m).1 (sH q m).2
theorem aH0 (q:aI)(m:Int)(hq:aZ q=true):yJ q m:=by
 refine cq Tryz.func131 (.loop (Nat × (List Int)) (Q2 Nat (List Int)) (rg 5 35) [800,900,3700,3800] (fun yy0=>[(6,vI (yy0.1:Int)),(5,.own 900)]) (fun yy0=>[(900,some (.arr 3 1 true (yy0.2.map intD)))]) (fun yy0=>(yy0.1:Int)<=q.variableCount/\yy0.2=dG (inM q m) yy0.1) (fun yy0=>q.variableCount.toNat - yy0.1) (fun yy0=> .br (.len q.atoms.length<| .loop Nat (Q1 Nat) ([7,8]++rg 19 16++[39]) [800] (fun i=>[(19,vI (i:Int))]) (fun i=>[]) (fun i=>i<=q.atoms.length/\vA q m i yy0.1=false) (fun i=>q.atoms.length - i) (fun i=> .br (.elem _ aN q.atoms (fun e22=> .br (.call (vB (decide ((yy0.1:Int)∈e22.vars))) []<| .lit<| .br (.app Int intD yy0.2 ([(yy0.1:Int)]:List Int)<| .back [(900,3800)]) (.back [])) (.back []))) (.back [(900,900)]))) (.fin [(0,900)]))) (p:=Lx (q.atoms.map aN)<| (∃(v:Nat) (out:List Int),0=(v:Int)/\[]=out.map intD/\(v:Int)<=q.variableCount/\out=dG (inM q m) v)/\ ∀(v:Nat) (out:List Int),((v:Int)<=q.variableCount/\out=dG (inM q m) v)->Br ((v:Int)<q.variableCount) (Lm aN q.atoms/\((∃(i:Nat),0=(i:Int)/\i<=q.atoms.length/\vA q m i v=false)/\ ∀(i:Nat),(i<=q.atoms.length/\vA q m i v=false)->Br ((i:Int)<(q.atoms.length:Int)) (0<=(i:Int)/\Em aN q.atoms i fun e22=>(0<=(i:Int)/\(i:Int)<=64)/\Br ((cJ .and .i64 (m/2^i) (1:Int))=1) (aFW e22.vars (v:Int)/\Bb (decide ((v:Int)∈e22.vars)) (Ap intD out ([(v:Int)]:List Int) 8 (bW ((v:Int)+1)/\ ∃(v' :Nat) (out' :List Int),((v:Int)+1)=(v' :Int)/\(out++[(v:Int)]).map intD=out'.map intD/\((v' :Int)<=q.variableCount/\out' =dG (inM q m) v')/\q.variableCount.toNat - v' <q.variableCount.toNat - v)) (bW ((i:Int)+1)/\ ∃(i' :Nat),((i:Int)+1)=(i' :Int)/\(i' <=q.atoms.length/\vA q m i' v=false)/\q.atoms.length - i' <q.atoms.length - i)) (bW ((i:Int)+1)/\ ∃(i' :Nat),((i:Int)+1)=(i' :Int)/\(i' <=q.atoms.length/\vA q m i' v=false)/\q.atoms.length - i' <q.atoms.length - i)) (bW ((v:Int)+1)/\ ∃(v' :Nat) (out' :List Int),((v:Int)+1)=(v' :Int)/\out.map intD=out'.map intD/\((v' :Int)<=q.variableCount/\out' =dG (inM q m) v')/\q.variableCount.toNat - v' <q.variableCount.toNat - v))) (out.map intD=(dS q m).map intD/\True)) (by kernel_rfl) ?_;refine lx fun n0=>?_;have w:=(bM hq).1;have w2:=(bM hq).2.1;refine⟨⟨0,([]:List Int),rfl,rfl,by omega,rfl⟩,fun v out ⟨hv,ho⟩=>?_⟩;refine dd (fun c0=>?_) fun c0=>?_
 ·refine⟨aAJ _,⟨0,rfl,aAU _,rfl⟩,fun i ⟨hi,hn⟩=>?_⟩;refine dd (fun c1=>?_) fun c1=>?_
  ·refine⟨by omega,rfl,by omega,fun e22 h22=>?_⟩;refine⟨⟨by omega,by omega⟩,dd (fun g29=>?_) fun g29=>?_⟩
   ·refine⟨ctI _ _,db (fun c2=>?_) fun c2=>?_⟩
    ·have hT:inM q m v=true:=aIY h22 (eI g29) c2;refine ap ?_ (fun _=>rfl) (by (rw[ho];have:=tP (inM q m) v;simp only[aHl,List.length_nil];omega));refine⟨⟨by omega,by omega⟩,?_⟩;exact⟨v+1,_,rfl,rfl,⟨by omega,by (rw[ho,lB hT];done)⟩,by omega⟩
    ·refine⟨⟨by omega,by omega⟩,?_⟩;exact⟨i+1,rfl,⟨by omega,by rw[zV,hn,aT h22];(rw[c2];simp;done)⟩,by omega⟩
   ·refine⟨⟨by omega,by omega⟩,?_⟩;exact⟨i+1,rfl,⟨by omega,by rw[zV,hn,aT h22];(rw[eK g29];rfl)⟩,by omega⟩
  ·have hF:inM q m v=false:=by rw[inM,show q.atoms.length=i by omega];exact hn
   refine⟨⟨by omega,by omega⟩,?_⟩;exact⟨v+1,_,rfl,rfl,⟨by omega,by (rw[ho,nJ hF];done)⟩,by omega⟩
 ·apply et1
  ·rw[dS,ho,show q.variableCount.toNat=v by omega]
abbrev pX (q:aI)(m:Int):Prop:=Cn 172 [.agg [.int .i64 q.variableCount,.sl 146 2 (q.atoms.map aN)],.one (.int .i64 m)] (vI (m4 (inM q m))) []
theorem aAs (q:aI)(m:Int)(hq:aZ q=true):pX q m:=by
 refine cq Tryz.func172 (.loop (Nat × Int) (Q2 Nat Int) (rg 5 40) [] (fun yy0=>[(6,vI (yy0.1:Int)),(5,vI yy0.2)]) (fun yy0=>[]) (fun yy0=>yy0.1<=q.atoms.length/\yy0.2=m4 (vA q m yy0.1)) (fun yy0=>q.atoms.length - yy0.1) (fun yy0=> .len q.atoms.length<| .br (.loop (Nat × Int) (Q2 Nat Int) ([5,7]++rg 15 30) [] (fun yy1=>[(7,vI (yy1.1:Int)),(5,vI yy1.2)]) (fun yy1=>[]) (fun yy1=>yy1.1<=(q.atoms.getD yy0.1 cS).vars.length/\yy1.2=m4 (aDm q m (q.atoms.getD yy0.1 cS) yy0.1 yy1.1)) (fun yy1=>(q.atoms.getD yy0.1 cS).vars.length - yy1.1) (fun yy1=> .elem _ aN q.atoms (fun e19=> .len e19.vars.length<| .br (.lit<| .lit<| .lit<| .lit<| .lit<| .br (.elem _ aN q.atoms (fun e37=> .elem _ intD e37.vars (fun e41=> .back []))) (.back [])) (.back [])))) (.fin []))) (p:=Lx (q.atoms.map aN)<| (∃(i:Nat) (o:Int),0=(i:Int)/\0=o/\i<=q.atoms.length/\o=m4 (vA q m i))/\ ∀(i:Nat) (o:Int),(i<=q.atoms.length/\o=m4 (vA q m i))->Lm aN q.atoms/\Br ((i:Int)<(q.atoms.length:Int)) ((∃(k:Nat) (p:Int),0=(k:Int)/\o=p/\k<=(q.atoms.getD i cS).vars.length/\p=m4 (aDm q m (q.atoms.getD i cS) i k))/\ ∀(k:Nat) (p:Int),(k<=(q.atoms.getD i cS).vars.length/\p=m4 (aDm q m (q.atoms.getD i cS) i k))->0<=(i:Int)/\Em aN q.atoms i fun e19=>Lm intD e19.vars/\Br ((k:Int)<(e19.vars.length:Int)) ((0<=(i:Int)/\(i:Int)<=64)/\Br ((cJ .and .i64 (m/2^i) (1:Int))=1) (0<=(i:Int)/\Em aN q.atoms i fun e37=>0<=(k:Int)/\Em intD e37.vars k fun e41=>(0<=e41/\e41<=64)/\bW ((1:Int)*2^(Int.toNat e41))/\bW ((k:Int)+1)/\ ∃(k' :Nat) (p' :Int),((k:Int)+1)=(k' :Int)/\(cJ .or .i64 p ((1:Int)*2^(Int.toNat e41)))=p' /\(k' <=(q.atoms.getD i cS).vars.length/\p' =m4 (aDm q m (q.atoms.getD i cS) i k'))/\(q.atoms.getD i cS).vars.length - k' <(q.atoms.getD i cS).vars.length - k) (bW ((i:Int)+1)/\ ∃(i' :Nat) (o' :Int),((i:Int)+1)=(i' :Int)/\p=o' /\(i' <=q.atoms.length/\o' =m4 (vA q m i'))/\q.atoms.length - i' <q.atoms.length - i)) (bW ((i:Int)+1)/\ ∃(i' :Nat) (o' :Int),((i:Int)+1)=(i' :Int)/\p=o' /\(i' <=q.atoms.length/\o' =m4 (vA q m i'))/\q.atoms.length - i' <q.atoms.length - i)) (o=(m4 (inM q m))/\True)) (by kernel_rfl) ?_;refine lx fun n0=>?_;have w:=(bM hq).1;have w2:=(bM hq).2;refine⟨⟨0,(0:Int),rfl,rfl,aAU _,rfl⟩,fun i o ⟨hi,ho⟩=>?_⟩;refine⟨aAJ _,dd (fun c0=>?_) fun c0=>?_⟩
 ·obtain⟨a,ha⟩:=cP (l:=q.atoms) (k:=i) (by omega);have w3:=(gQ (w2.2 a (aAx ha))).2;have hga:q.atoms.getD i cS=a:=aT ha;have hgl:(q.atoms.getD i cS).vars.length=a.vars.length:=by rw[hga]
  refine⟨⟨0,o,rfl,rfl,aAU _,by rw[ho,aOR]⟩,fun k p ⟨hk,hp⟩=>?_⟩;rw[hga] at hp;refine⟨by omega,rfl,by omega,fun e19 h19=>?_⟩;obtain rfl:=(bF ha h19).symm;refine⟨aAJ _,dd (fun g24=>?_) fun g24=>?_⟩
  ·refine⟨⟨by omega,by omega⟩,dd (fun c1=>?_) fun c1=>?_⟩
   ·refine⟨by omega,rfl,by omega,fun e37 h37=>?_⟩;obtain rfl:=(bF ha h37).symm;refine⟨by omega,rfl,by omega,fun e41 h41=>?_⟩;have w8:=w3.2 _ (aAx h41);obtain⟨w4,w5,w6⟩:=sW (x:=e41) (gN (by omega) (by omega));refine⟨⟨by omega,by omega⟩,by exact w4,by exact⟨by omega,by omega⟩,?_⟩;exact⟨k+1,_,rfl,rfl,⟨by omega,by rw[hga,hp,wB (by omega),aOS (eI c1) h41 (by omega)]⟩,by omega⟩
   ·refine⟨by exact⟨by omega,by omega⟩,?_⟩;exact⟨i+1,_,rfl,rfl,⟨by omega,by (rw[hp,aHY ha (.inl (eK c1))];done)⟩,by omega⟩
  ·refine⟨by exact⟨by omega,by omega⟩,?_⟩;exact⟨i+1,_,rfl,rfl,⟨by omega,by (rw[hp,aHY ha (.inr (by omega))];done)⟩,by omega⟩
 ·apply et1
  ·rw[ho,show i=q.atoms.length by omega];rfl
abbrev vE (m:Int):AV × List (Nat × Rs):=(.own 0,[(0,.arr 3 1 true ((dG (bR m) 4).map intD))])
abbrev aBw (m:Int):Prop:=Cn 171 [.one (.int .i64 m)] (vE m).1 (vE m).2
theorem aL9 (m:Int):aBw m:=by
 refine cq Tryz.func171 (.loop (Nat × (List Int)) (Q2 Nat (List Int)) (rg 3 16) [500,1700,1800] (fun yy0=>[(4,vI (yy0.1:Int)),(3,.own 500)]) (fun yy0=>[(500,some (.arr 3 1 true (yy0.2.map intD)))]) (fun yy0=>yy0.1<=4/\yy0.2=dG (bR m) yy0.1) (fun yy0=>4 - yy0.1) (fun yy0=> .br (.br (.app Int intD yy0.2 ([(yy0.1:Int)]:List Int)<| .back [(500,1800)]) (.back [(500,500)])) (.fin [(0,500)]))) (p:=(∃(i:Nat) (out:List Int),0=(i:Int)/\[]=out.map intD/\i<=4/\out=dG (bR m) i)/\ ∀(i:Nat) (out:List Int),(i<=4/\out=dG (bR m) i)->Br ((i:Int)<4) ((0<=(i:Int)/\(i:Int)<=64)/\Br ((cJ .and .i64 (m/2^i) (1:Int))=1) (Ap intD out ([(i:Int)]:List Int) 8 (bW ((i:Int)+1)/\ ∃(i' :Nat) (out' :List Int),((i:Int)+1)=(i' :Int)/\(out++[(i:Int)]).map intD=out'.map intD/\(i' <=4/\out' =dG (bR m) i')/\4 - i' <4 - i)) (bW ((i:Int)+1)/\ ∃(i' :Nat) (out' :List Int),((i:Int)+1)=(i' :Int)/\out.map intD=out'.map intD/\(i' <=4/\out' =dG (bR m) i')/\4 - i' <4 - i)) (out.map intD=(dG (bR m) 4).map intD/\True)) (by kernel_rfl) ?_;refine⟨⟨0,([]:List Int),rfl,rfl,by omega,rfl⟩,fun i out ⟨hi,ho⟩=>?_⟩;refine dd (fun c0=>?_) fun c0=>?_
 ·refine⟨⟨by omega,by omega⟩,dd (fun c1=>?_) fun c1=>?_⟩
  ·refine ap ?_ (fun _=>rfl) (by (rw[ho];have:=tP (bR m) i;simp only[aHl,List.length_nil];omega));refine⟨⟨by omega,by omega⟩,?_⟩;exact⟨i+1,_,rfl,rfl,⟨by omega,by (rw[ho,lB (eI c1)];done)⟩,by omega⟩
  ·refine⟨⟨by omega,by omega⟩,?_⟩;exact⟨i+1,_,rfl,rfl,⟨by omega,by (rw[ho,nJ (eK c1)];done)⟩,by omega⟩
 ·apply et1
  ·rw[ho,show i=4 by omega]
abbrev pI (q:aI)(m:Int):AV × List (Nat × Rs):=(.own 0,[(0,.arr 3 1 true ((cX q m).map intD))])
abbrev sI (q:aI)(m:Int):Prop:=Cn 118 [.agg [.int .i64 q.variableCount,.sl 146 2 (q.atoms.map aN)],.one (.int .i64 m)] (pI q m).1 (pI q m).2
theorem aCt (q:aI)(m:Int):sI q m:=by
 refine cq Tryz.func118 (.call (vB (gG q m)) []<| .br (.fin [(0,900)]) (.call (vI (m4 (inM q m))) []<| cH (vE (m4 (inM q m)))<| .fin [(0,1300)])) (p:=Lx (q.atoms.map aN)<| aAr q m/\Nr (gG q m) ([]=(cX q m).map intD/\True) (pX q m/\aBw (m4 (inM q m))/\(dG (bR (m4 (inM q m))) 4).map intD=(cX q m).map intD/\True)) (by kernel_rfl) ?_;refine lx fun n0=>?_;refine⟨aKL _ m,dm (fun c0=>?_) fun c0=>?_⟩
 ·apply et1
  ·(rw[aKC c0];rfl)
 ·refine⟨aAs q m (by exact(iZ (q:=q) (m:=m) (by assumption)).1),aL9 (m4 (inM q m)),?_,trivial⟩
  ·(rw[tQ c0,aL5 (iZ c0).1])
theorem mU {a b:List Int}{k:Nat}{x:Int}(h:a[k]? =some x):fJ (a.take (k+1)) b=if x∈b then fJ (a.take k) b++[x] else fJ (a.take k) b:=by
 rw[fJ,bS h,List.filter_append];by_cases e:x∈b<;>simp[fJ,e]
theorem aQl (a b:List Int):(fJ a b).length<=a.length:=List.length_filter_le _ _
theorem aH1 (a b:List Int)(k:Nat):(fJ (a.take k) b).length<=a.length:=Nat.le_trans (aQl _ _) (by simp;omega)
theorem aCu (q:aI)(m:Int):(cX q m).length<=4:=by
 cases h:gG q m with
 | false=>rw[aKC h];exact aAU _
 | true=>rw[tQ h];exact aCp q m (iZ h).1
abbrev sJ (a:List Int)(b:List Int):AV × List (Nat × Rs):=(.own 0,[(0,.arr 3 1 true ((fJ a b).map intD))])
abbrev yK (a:List Int)(b:List Int):Prop:=Cn 130 [.one (.sl 3 1 (a.map intD)),.one (.sl 3 1 (b.map intD))] (sJ a b).1 (sJ a b).2
theorem aH2 (a b:List Int)(hl:a.length<=1048576):yK a b:=by
 refine cq Tryz.func130 (.len a.length<| .loop (Nat × (List Int)) (Q2 Nat (List Int)) ([5,7,8]++rg 11 12) [800,2000,2100] (fun yy0=>[(11,vI (yy0.1:Int)),(5,.own 800)]) (fun yy0=>[(800,some (.arr 3 1 true (yy0.2.map intD)))]) (fun yy0=>yy0.1<=a.length/\yy0.2=fJ (a.take yy0.1) b) (fun yy0=>a.length - yy0.1) (fun yy0=> .br (.elem _ intD a (fun e13=> .call (vB (decide (e13∈b))) []<| .br (.app Int intD yy0.2 ([e13]:List Int)<| .back [(800,2100)]) (.back [(800,800)]))) (.fin [(0,800)]))) (p:=Lx (a.map intD)<| Lx (b.map intD)<| Lm intD a/\((∃(k:Nat) (out:List Int),0=(k:Int)/\[]=out.map intD/\k<=a.length/\out=fJ (a.take k) b)/\ ∀(k:Nat) (out:List Int),(k<=a.length/\out=fJ (a.take k) b)->Br ((k:Int)<(a.length:Int)) (0<=(k:Int)/\Em intD a k fun e13=>aFW b e13/\Bb (decide (e13∈b)) (Ap intD out ([e13]:List Int) 8 (bW ((k:Int)+1)/\ ∃(k' :Nat) (out' :List Int),((k:Int)+1)=(k' :Int)/\(out++[e13]).map intD=out'.map intD/\(k' <=a.length/\out' =fJ (a.take k') b)/\a.length - k' <a.length - k)) (bW ((k:Int)+1)/\ ∃(k' :Nat) (out' :List Int),((k:Int)+1)=(k' :Int)/\out.map intD=out'.map intD/\(k' <=a.length/\out' =fJ (a.take k') b)/\a.length - k' <a.length - k)) (out.map intD=(fJ a b).map intD/\True))) (by kernel_rfl) ?_;refine lx fun n0=>lx fun n1=>?_;refine⟨aAJ _,⟨0,([]:List Int),rfl,rfl,aAU _,rfl⟩,fun k out ⟨hk,ho⟩=>?_⟩;refine dd (fun c0=>?_) fun c0=>?_
 ·refine⟨by omega,rfl,by omega,fun e13 h13=>?_⟩;refine⟨ctI _ _,db (fun c1=>?_) fun c1=>?_⟩
  ·refine ap ?_ (fun _=>rfl) (by first|omega|(rw[ho];have:=aH1 a b k;simp only[aHl,List.length_nil];omega));refine⟨⟨by omega,by omega⟩,?_⟩;exact⟨k+1,_,rfl,rfl,⟨by omega,by first|(rw[mU h13,if_pos (of_decide_eq_true c1),ho];done)|(rw[mU h13,if_neg (of_decide_eq_false c1),ho];done)⟩,by omega⟩
  ·refine⟨⟨by omega,by omega⟩,?_⟩;exact⟨k+1,_,rfl,rfl,⟨by omega,by first|(rw[mU h13,if_pos (of_decide_eq_true c1),ho];done)|(rw[mU h13,if_neg (of_decide_eq_false c1),ho];done)⟩,by omega⟩
 ·apply et1
  ·rw[ho,aCy (by omega)]
abbrev aAt (q:aI)(a:Int)(b:Int):AV × List (Nat × Rs):=(.own 0,[(0,.arr 3 1 true ((eD q a b).map intD))])
abbrev aFf (q:aI)(a:Int)(b:Int):Prop:=Cn 179 [.agg [.int .i64 q.variableCount,.sl 146 2 (q.atoms.map aN)],.one (.int .i64 a),.one (.int .i64 b)] (aAt q a b).1 (aAt q a b).2
theorem aQm (q:aI)(a b:Int):aFf q a b:=by
 refine cq Tryz.func179 (cH (pI q a)<| cH (pI q b)<| .loop (Nat × (List Int)) (Q2 Nat (List Int)) ([7,10,11]++rg 18 19) [1100,3500,3600] (fun yy0=>[(10,vI (yy0.1:Int)),(7,.own 1100)]) (fun yy0=>[(1100,some (.arr 3 1 true (yy0.2.map intD)))]) (fun yy0=>yy0.1<=(cX q a).length/\yy0.2=fJ ((cX q a).take yy0.1) (cX q b)) (fun yy0=>(cX q a).length - yy0.1) (fun yy0=> .len ((cX q a).length)<| .br (.len ((cX q a).length)<| .elem _ intD (cX q a) (fun e28=> .call (vB (decide (e28∈(cX q b)))) []<| .br (.len ((cX q a).length)<| .elem _ intD (cX q a) (fun e34=> .app Int intD yy0.2 ([e34]:List Int)<| .back [(1100,3600)])) (.back [(1100,1100)]))) (.fin [(0,1100)]))) (p:=Lx (q.atoms.map aN)<| sI q a/\(sI q b/\((∃(k:Nat) (out:List Int),0=(k:Int)/\[]=out.map intD/\k<=(cX q a).length/\out=fJ ((cX q a).take k) (cX q b))/\ ∀(k:Nat) (out:List Int),(k<=(cX q a).length/\out=fJ ((cX q a).take k) (cX q b))->Lm intD (cX q a)/\Br ((k:Int)<(((cX q a).length:Nat):Int)) (0<=(k:Int)/\Lm intD (cX q a)/\(k:Int)<(((cX q a).length:Nat):Int)/\Em intD (cX q a) k fun e28=>aJy (cX q b) e28/\Bb (decide (e28∈(cX q b))) (0<=(k:Int)/\Lm intD (cX q a)/\(k:Int)<(((cX q a).length:Nat):Int)/\Em intD (cX q a) k fun e34=>Ap intD out ([e34]:List Int) 8 (bW ((k:Int)+1)/\ ∃(k' :Nat) (out' :List Int),((k:Int)+1)=(k' :Int)/\(out++[e34]).map intD=out'.map intD/\(k' <=(cX q a).length/\out' =fJ ((cX q a).take k') (cX q b))/\(cX q a).length - k' <(cX q a).length - k)) (bW ((k:Int)+1)/\ ∃(k' :Nat) (out' :List Int),((k:Int)+1)=(k' :Int)/\out.map intD=out'.map intD/\(k' <=(cX q a).length/\out' =fJ ((cX q a).take k') (cX q b))/\(cX q a).length - k' <(cX q a).length - k)) (out.map intD=(eD q a b).map intD/\True)))) (by kernel_rfl) ?_;refine lx fun n0=>?_;have w1:=aCu q a;refine⟨aCt _ a,aCt _ b,⟨0,([]:List Int),rfl,rfl,aAU _,rfl⟩,fun k out ⟨hk,ho⟩=>?_⟩;refine⟨aAJ _,dd (fun c0=>?_) fun c0=>?_⟩
 ·refine⟨by omega,aAJ _,by omega,rfl,by omega,fun e28 h28=>?_⟩;refine⟨hsI _ _,db (fun c1=>?_) fun c1=>?_⟩
  ·refine⟨by omega,aAJ _,by omega,rfl,by omega,fun e34 h34=>?_⟩;obtain rfl:=(bF h28 h34).symm;refine ap ?_ (fun _=>rfl) (by first|omega|(rw[ho];have:=aH1 (cX q a) (cX q b) k;simp only[aHl,List.length_nil];omega));refine⟨⟨by omega,by omega⟩,?_⟩;exact⟨k+1,_,rfl,rfl,⟨by omega,by first|(rw[mU h28,if_pos (of_decide_eq_true c1),ho];done)|(rw[mU h28,if_neg (of_decide_eq_false c1),ho];done)⟩,by omega⟩
  ·refine⟨⟨by omega,by omega⟩,?_⟩;exact⟨k+1,_,rfl,rfl,⟨by omega,by first|(rw[mU h28,if_pos (of_decide_eq_true c1),ho];done)|(rw[mU h28,if_neg (of_decide_eq_false c1),ho];done)⟩,by omega⟩
 ·apply et1
  ·rw[eD,ho,aCy (by omega)]
theorem aBx {s:aV}{q:aI}{m:Int}(h:kS s q m=true):bK m=dG (bR m) q.atoms.length:=by
 obtain⟨_,_,_,h1,h2,_,_,h3⟩:=iC h;exact aBs ⟨by omega,h2⟩ h3.2
theorem aCv (m:Int):(bK m).length<=4:=by
 cases h:dV m 0 15 with
 | false=>rw[aKD h];exact aAU _
 | true=>rw[zU h];exact tP _ _
theorem aKM {s:aV}{q:aI}{m x:Int}(h:kS s q m=true)(hx:x∈bK m):0<=x/\x.toNat<q.atoms.length/\bR m x.toNat=true:=by
 rw[aBx h] at hx;exact gF.1 hx
abbrev rS (u:Nat->Bool)(v:Nat):Nat->Bool:=fun i=>u i || decide (i=v)
abbrev jV (l:Nat->Bool)(v:Nat):Nat->Bool:=fun i=>l i&& !decide (i=v)
def b1 (b:Bool):Nat:=if b=true then 1 else 0
theorem aD9 (b:Bool):b1 b<=1:=by cases b<;>decide
def fL (p:Nat->Bool):Nat:=b1 (p 0)+b1 (p 1)+b1 (p 2)+b1 (p 3)
theorem yL {p:Nat->Bool}{v:Nat}(hv:v<4)(h:p v=true):fL (jV p v)+1=fL p:=by
 have h4:v=0\/v=1\/v=2\/v=3:=by omega
 have e0:b1 false=0:=rfl;have e1:b1 true=1:=rfl;rcases h4 with rfl | rfl | rfl | rfl<;>simp[fL,jV,h,e0,e1]<;>omega
theorem zX (p:Nat->Bool):fL p<=4:=by
 have h0:=aD9 (p 0);have h1:=aD9 (p 1);have h2:=aD9 (p 2);have h3:=aD9 (p 3);unfold fL;omega
theorem aDw (p:Nat->Bool):m4 p=0↔fL p=0:=by
 rw[m4,fL];cases p 0<;>cases p 1<;>cases p 2<;>cases p 3<;>decide
theorem oH {p:Nat->Bool}(h:fL p=0){v:Nat}(hv:v<4):p v=false:=by
 cases e:p v with
 | false=>rfl
 | true=>have:=yL hv e;omega
theorem aO4 {p:Nat->Bool}(h: ¬fL p=0):dG p 4≠[]:=fun e=>h (by
 have h0: ∀v,v<4->p v=false:=fun v hv=>by
  cases q:p v with
  | false=>rfl
  | true=>
    have:(v:Int)∈dG p 4:=gF.2 ⟨by omega,by simpa using hv,by simpa using q⟩;rw[e] at this;simp at this
 rw[fL,h0 0 (by omega),h0 1 (by omega),h0 2 (by omega),h0 3 (by omega)];rfl)
theorem zY (p:Nat->Bool):bK (m4 p)=dG p 4:=by
 have h:=tO p;rw[zU (gN h.1 h.2)];exact aF5 fun v hv=>aAn hv
theorem aQn {p:Nat->Bool}{n:Nat}(hn:n<=4)(h: ∀v,n<=v->v<4->p v=false):dG p 4=dG p n:=aBp hn h
def oI (a:bH)(v:Int):Int:=cZ (jU v) a.vars
def yM (s:aV)(x:bH)(v:Int)(y:bH):Bool:=((y.name.toList==x.name.toList)&&decide (oI y v=oI x v)) || decide ((⟨y.name,oI y v,x.name,oI x v⟩:aO)∈s.inclusions)
def jI (s:aV)(x:bH)(v:Int)(y:bH):Bool:=decide (v∈y.vars)&&yM s x v y
def oJ (q:aI)(m:Int)(i:Nat):List Int:=fJ (q.atoms.getD i cS).vars (dS q m)
def dO (s:aV)(q:aI)(m:Int)(i:Nat):Bool:= !bR m i&&(decide ((oJ q m i).length=1)&&(bK m).any fun k=>jI s (q.atoms.getD i cS) ((oJ q m i).getD 0 0) (q.atoms.getD k.toNat cS))
theorem aIZ (a:bH)(v:Int):decide (0<=oI a v)=decide (v∈a.vars):=aFS
theorem aLa (p:Nat->Bool)(k:Nat):(dG p k).Nodup:=by
 induction k with
 | zero=>exact List.nodup_nil
 | succ k ih=>
   cases h:p k with
   | true=>
     rw[lB h];refine aKo.2 ⟨ih,by simp,fun a ha b hb=>?_⟩;have:=(gF.1 ha).2.1;simp only[aNQ] at hb;omega
   | false=>rw[nJ h];exact ih
theorem aAu {n:Int}: ∀{l:List Int},uZ n l=true->l.Nodup:=fun {l} h=>by
 rw[List.Nodup,List.pairwise_iff_getElem];intro i j hi hj hij e;have:=aDP.1 h j (aJg.2 hj);simp only[lC,aAS,Bool.not_eq_true',decide_eq_false_iff_not] at this;apply this.2;rw[aEE,aBJ hj,Option.getD_some,<-e];exact List.mem_take_iff_getElem.2 ⟨i,by omega,rfl⟩
theorem aMv {i j:Nat}(hi:i<4)(hj:j<4):bR ((1:Int)*2^i) j=decide (j=i):=by
 have h1:i=0\/i=1\/i=2\/i=3:=by omega
 have h2:j=0\/j=1\/j=2\/j=3:=by omega
 rcases h1 with rfl | rfl | rfl | rfl<;>rcases h2 with rfl | rfl | rfl | rfl<;>decide
theorem aFg {q:aI}{i:Nat}{a:bH}{x:Int}(h:aZ q=true)(ha:q.atoms[i]? =some a):x∈dS q ((1:Int)*2^i)↔x∈a.vars:=by
 obtain⟨_,h2,h3⟩:=bM h;have hi:=(aCx.1 ha).1;rw[zW h];constructor
 ·rintro⟨h0,hm⟩;obtain⟨j,hj,hb⟩:=List.any_eq_true.1 hm;have hj:=aJg.1 hj;rw[aAS,aMv (by omega) (by omega),aLF] at hb;obtain⟨rfl,hv⟩:=hb;rw[aT ha,aLF,Int.toNat_of_nonneg h0] at hv;exact hv
 intro hx;have h0:=(gQ (h3 a (aAx ha))).2.2 x hx;refine⟨h0.1,aIY ha (by rw[aMv (by omega) (by omega)];simp) ?_⟩;rw[Int.toNat_of_nonneg h0.1];simpa using hx
theorem aQo {n i:Nat}(hn:n<=4)(hi:i<n):0<=(1:Int)*2^i/\(1:Int)*2^i<=1*2^n - 1/\1<=(1:Int)*2^i:=by
 have h1:i=0\/i=1\/i=2\/i=3:=by omega
 have h2:n=1\/n=2\/n=3\/n=4:=by omega
 rcases h1 with rfl|rfl|rfl|rfl<;>rcases h2 with rfl|rfl|rfl|rfl<;>first|decide|(exfalso;omega)
theorem aQp {q:aI}{i:Nat}(h:aZ q=true)(hi:i<q.atoms.length):gG q ((1:Int)*2^i)=true:=by
 have h2:=(bM h).2.1;have h3:=aQo h2.2 hi;rw[gG,h,gN h3.1 h3.2.1];rfl
theorem aKN {q:aI}{m:Int}{i:Nat}{a:bH}(h:gG q m=true)(ha:q.atoms[i]? =some a):(eD q m ((1:Int)*2^i)).Perm (oJ q m i):=by
 have hq:=(iZ h).1;have hi:=(aCx.1 ha).1;have hA:=(bM hq).2.2 a (aAx ha);simp only[dQ,aAS] at hA;rw[eD,tQ h,tQ (aQp hq hi),oJ,aT ha];refine(List.perm_ext_iff_of_nodup ((aLa _ _).sublist List.filter_sublist) ((aAu hA.2.2).sublist List.filter_sublist)).2 fun x=>?_;simp only[fJ,aPF,aLF,aFg hq ha];exact And.comm
theorem aSy {q:aI}{m:Int}{i:Nat}{a:bH}(h:gG q m=true)(ha:q.atoms[i]? =some a):(eD q m ((1:Int)*2^i)).length=(oJ q m i).length:=(aKN h ha).length_eq
theorem aSz {q:aI}{m:Int}{i:Nat}{a:bH}(h:gG q m=true)(ha:q.atoms[i]? =some a)(h1:(eD q m ((1:Int)*2^i)).length=1):eD q m ((1:Int)*2^i)=oJ q m i:=by
 have hp:=aKN h ha;obtain⟨x,hx⟩:=List.length_eq_one_iff.1 h1;rw[hx] at hp ⊢;exact(List.perm_singleton.1 hp.symm).symm
def jH (s:aV)(q:aI)(r:List Int->(Nat->Bool)->(Nat->Bool)->Option (List Int))(o:List Int)(u l:Nat->Bool)(x:Int):Option (List Int):=if dO s q (m4 u) x.toNat=true then r (o++[x]) (rS u x.toNat) (jV l x.toNat) else none
def eP (s:aV)(q:aI):Nat->List Int->(Nat->Bool)->(Nat->Bool)->Option (List Int)
 | 0,o,_,_=>some o
 | f+1,o,u,l=>if fL l=0 then some o else (dG l 4).findSome? (jH s q (eP s q f) o u l)
theorem jP {s:aV}{q:aI}{o:List Int}{u l:Nat->Bool}(h:fL l=0): ∀f,eP s q f o u l=some o
 | 0=>rfl
 | f+1=>by rw[eP,if_pos h]
theorem aBy {s:aV}{q:aI}{o:List Int}{u l:Nat->Bool}(h: ¬fL l=0)(f:Nat):eP s q (f+1) o u l=(dG l 4).findSome? (jH s q (eP s q f) o u l):=by rw[eP,if_neg h]
theorem aH3 {g:Int->Option (List Int)}{L:List Int}{k:Nat}{x:Int}(hx:L[k]? =some x)(h:(L.take k).findSome? g=none)(hg:g x=none):(L.take (k+1)).findSome? g=none:=by
 rw[bS hx,List.findSome?_append,h];simp[hg]
theorem aO5 {g:Int->Option (List Int)}{L:List Int}{k:Nat}{x:Int}{r:List Int}(hx:L[k]? =some x)(h:(L.take k).findSome? g=none)(hg:g x=some r):L.findSome? g=some r:=by
 have e:L=L.take k++x::L.drop (k+1):=by
  rw[<-kL hx,List.take_append_drop]
 rw[e,List.findSome?_append,h];simp[hg]
theorem aBz {s:aV}{q:aI}: ∀{f:Nat} {o r:List Int} {u l:Nat->Bool},eP s q f o u l=some r->o.length<=r.length/\r.length<=o.length+f
 | 0,o,r,u,l,h=>by simp only[eP,Option.some.injEq] at h;subst h;exact⟨aKU _,aKU _⟩
 | f+1,o,r,u,l,h=>by
   by_cases hc:fL l=0
   ·rw[jP hc] at h;simp only[Option.some.injEq] at h;subst h;exact⟨aKU _,by omega⟩
   rw[aBy hc] at h;obtain⟨x,_,hx⟩:=List.exists_of_findSome?_eq_some h;unfold jH at hx;split at hx
   ·have:=aBz hx;simp only[aJP,aHl,List.length_nil] at this;omega
   cases hx
abbrev isP (v:Nat):Nat->Bool:=fun i=>decide (i=v)
theorem aI0 {v:Nat}(hv:v<4):(1:Int)*2^v=m4 (isP v):=by
 have h1:v=0\/v=1\/v=2\/v=3:=by omega
 rcases h1 with rfl | rfl | rfl | rfl<;>decide
def aAv (s:aV)(q:aI)(m:Int)(v:Nat):Option (List Int):=eP s q 4 [(v:Int)] (isP v) (jV (bR m) v)
def mY (s:aV)(q:aI)(m st:Int):Bool:=kS s q m&&decide (st∈bK m)
def bV (s:aV)(q:aI)(m st:Int):List Int:=if mY s q m st=true then (aAv s q m st.toNat).getD [] else []
theorem lK {s:aV}{q:aI}{m st:Int}(h:mY s q m st=true):bV s q m st=(aAv s q m st.toNat).getD []:=by rw[bV,if_pos h]
theorem nK {s:aV}{q:aI}{m st:Int}(h:mY s q m st=false):bV s q m st= []:=by rw[bV,if_neg (by rw[h];decide)]
theorem aO6 (s:aV)(q:aI)(m st:Int):(bV s q m st).length<=5:=by
 unfold bV;split
 ·cases e:aAv s q m st.toNat with
  | none=>simp
  | some r=>have:=(aBz e).2;simpa using this
 exact aAU _
theorem aO7 {s:aV}{q:aI}{m st:Int}(h:mY s q m st=true):decide (0<((bV s q m st).length:Int))=(aAv s q m st.toNat).isSome:=by
 rw[lK h];cases e:aAv s q m st.toNat with
 | none=>rfl
 | some r=>
   have:=(aBz e).1;simp only[aHl,List.length_nil] at this;simp only[Option.getD_some,Option.isSome_some,aLF];omega
theorem oQ {s:aV}{q:aI}{m x:Int}(h:kS s q m=true):decide (x∈bK m)=(dV x 0 ((q.atoms.length:Int) - 1)&&bR m x.toNat):=by
 rw[aBx h];apply Bool.eq_iff_iff.2;rw[aLF,gF,aAS];constructor
 ·rintro⟨h0,h1,h2⟩;exact⟨gN h0 (by omega),h2⟩
 rintro⟨h0,h2⟩;have:=dB h0;exact⟨this.1,by omega,h2⟩
def aQq (a b:Int):Int:=if a<b then b else a
def oK (s:aV)(q:aI)(m b x:Int):Int:=if (aAv s q m x.toNat).isSome=true then aQq b (eH s q x.toNat).rowCount else b
def mZ (s:aV)(q:aI)(m:Int):Int:=if kS s q m=true then (bK m).foldl (oK s q m) 0 else -1
theorem yN {s:aV}{q:aI}{m:Int}(h:kS s q m=true):mZ s q m=(bK m).foldl (oK s q m) 0:=by rw[mZ,if_pos h]
theorem aCA {s:aV}{q:aI}{m:Int}(h:kS s q m=false):mZ s q m= -1:=by rw[mZ,if_neg (by rw[h];decide)]
theorem aCB {s:aV}{q:aI}{m:Int}{L:List Int}{k:Nat}{x:Int}(h:L[k]? =some x):(L.take (k+1)).foldl (oK s q m) 0=oK s q m ((L.take k).foldl (oK s q m) 0) x:=by
 rw[bS h,List.foldl_append];rfl
theorem aQr {s:aV}{q:aI}{m:Int}{L:List Int}{x:Int}:(L++[x]).foldl (oK s q m) 0=oK s q m (L.foldl (oK s q m) 0) x:=by
 rw[List.foldl_append];rfl
def aVH (d:aL)(a:bH)(al:Int->Int):Prop:= ∃r∈(aE d a.name).1.rows,∀k,k<a.vars.length->r.getD k 0=al (a.vars.getD k 0)
def aKO (d:aL)(q:aI)(u:Nat->Bool)(al:Int->Int):Prop:= ∀i a,q.atoms[i]? =some a->u i=true->aVH d a al
theorem rK {l:List Int}{k:Nat}(h:k<l.length):l.getD k 0∈l:=by
 rw[aEE,aBJ h];exact aQU h
theorem aLb {d:aL}{a:bH}{al be:Int->Int}(h: ∀v∈a.vars,al v=be v)(hf:aVH d a al):aVH d a be:=by
 obtain⟨r,hr,hk⟩:=hf;exact⟨r,hr,fun k hlt=>by rw[hk k hlt];exact h _ (rK hlt)⟩
theorem aI1 {a:bH}{v:Int}(h:v∈a.vars): ∃k:Nat,oI a v=(k:Int)/\k<a.vars.length/\a.vars.getD k 0=v:=by
 have h0:0<=oI a v:=by
  have:=aIZ a v;rw[decide_eq_true h] at this;exact of_decide_eq_true this
 obtain⟨k,x,hk,hx,hf⟩:=lI.2 h0;have h1:=List.find?_some hf;have e:v=x:=by simpa [jU] using h1
 exact⟨k,hk,(aCx.1 hx).1,by rw[aT hx,e]⟩
theorem aI2 {l:List Int}(h:l.Nodup){i j:Nat}(hi:i<l.length)(hj:j<l.length)(e:l.getD i 0=l.getD j 0):i=j:=by
 rw[aEE,aBJ hi,aEE,aBJ hj] at e;simp only[Option.getD_some] at e;have hp:=List.pairwise_iff_getElem.1 h;rcases Nat.lt_trichotomy i j with q | q | q
 ·exact absurd e (hp i j hi hj q)
 ·exact q
 exact absurd e.symm (hp j i hj hi q)
theorem qJ {q:aI}(hq:aZ q=true){u:Nat->Bool}{z:Int}:z∈dS q (m4 u)↔ ∃j a,q.atoms[j]? =some a/\u j=true/\z∈a.vars:=by
 obtain⟨_,h2,h3⟩:=bM hq;rw[zW hq];constructor
 ·rintro⟨h0,hm⟩;obtain⟨j,hj,hb⟩:=List.any_eq_true.1 hm;have hj:=aJg.1 hj;obtain⟨a,ha⟩:=cP (l:=q.atoms) (k:=j) hj;rw[aAS,aAn (by omega),aT ha,aLF,Int.toNat_of_nonneg h0] at hb;exact⟨j,a,ha,hb.1,hb.2⟩
 rintro⟨j,a,ha,hu,hz⟩;have h0:=(gQ (h3 a (aAx ha))).2.2 z hz;have hj:=(aCx.1 ha).1;exact⟨h0.1,aIY ha (by rw[aAn (by omega),hu]) (by rw[Int.toNat_of_nonneg h0.1];exact decide_eq_true hz)⟩
theorem aQs {s:aV}{q:aI}{u:Nat->Bool}{i:Nat}{a:bH}{al:Int->Int}(hs:eG s=true)(hq:dU s.database q=true)(ha:q.atoms[i]? =some a)(he:dO s q (m4 u) i=true)(hf:aKO s.database q u al):
 ∃be,aKO s.database q (rS u i) be/\ ∀v∈dS q (m4 u),be v=al v:=by
 have hQ:=(kI hq).1;have hA:=(bM hQ).2.2 a (aAx ha)
 have hnd:a.vars.Nodup:=by
  simp only[dQ,aAS] at hA;exact aAu hA.2.2
 simp only[dO,aAS,aLF] at he;obtain⟨_,h1,h2⟩:=he;obtain⟨v,hv⟩:=List.length_eq_one_iff.1 h1;rw[hv] at h2;have hvm:v∈oJ q (m4 u) i:=by rw[hv];exact aNQ.2 rfl
 rw[oJ,aT ha,fJ,aPF] at hvm;have hva:=hvm.1;obtain⟨k,hk,hx⟩:=List.any_eq_true.1 h2;rw[zY,gF] at hk;rw[aT ha] at hx;cases hy:q.atoms[k.toNat]? with
 | none=>
   rw[show q.atoms.getD k.toNat cS=cS by rw[aEE,hy];rfl] at hx;simp[jI,cS] at hx
 | some y=>
   rw[aT hy] at hx;simp only[jI,aAS,aLF] at hx;obtain⟨hvy,hinc⟩:=hx;have hvy:v∈y.vars:=hvy;have hinc:yM s a v y=true:=hinc;obtain⟨ry,hry,hky⟩:=hf k.toNat y hy hk.2.2;obtain⟨cy,ecy,hcy,vcy⟩:=aI1 hvy;obtain⟨cx,ecx,hcx,vcx⟩:=aI1 hva;have hry1:ry.getD cy 0=al v:=by rw[hky cy hcy,vcy]
   have hr: ∃r∈(aE s.database a.name).1.rows,r.getD cx 0=al v:=by
    simp only[yM,Bool.or_eq_true,aAS,aLF] at hinc;rcases hinc with ⟨e1,e2⟩ | hm
    ·have en:y.name=a.name:=by simpa [jD] using e1
     rw[ecy,ecx] at e2;obtain rfl:cy=cx:=by omega
     rw[<-en];exact⟨ry,hry,hry1⟩
    have hF:fR s.database s.dependencies s.inclusions=true:=by
     simp only[eG,aAS] at hs;exact hs.2.2
    simp only[fR,aAS] at hF;have hI:=aDP.1 hF.2.1 _ hm;simp only[iJ,aAS,aLF] at hI;have hm2:al v∈gL (aE s.database y.name).1.rows (oI y v):=aH5.2 ⟨ry,hry,by rw[ecy];exact hry1⟩;have hI2:=hI.2;rw[aBm,List.filter_eq_nil_iff] at hI2;have hm3:=hI2 _ hm2;have hm3:al v∈gL (aE s.database a.name).1.rows (oI a v):=by simpa using hm3
    obtain⟨r,hr,e⟩:=aH5.1 hm3;exact⟨r,hr,by rw[ecx] at e;exact e⟩
   obtain⟨r,hr,hrv⟩:=hr;refine⟨fun z=>if z∈dS q (m4 u) then al z else r.getD (oI a z).toNat 0,?_,fun z hz=>if_pos hz⟩;intro j b hb hj;by_cases hju:u j=true
   ·refine aLb (fun z hz=>?_) (hf j b hb hju);exact(if_pos ((qJ hQ).2 ⟨j,b,hb,hju,hz⟩)).symm
   have e:j=i:=by simpa [rS,hju] using hj
   subst e;obtain rfl:a=b:=by rw[ha] at hb;injection hb
   refine⟨r,hr,fun k hk=>?_⟩
   dsimp only
   split
   ·rename_i hz;have h3:a.vars.getD k 0∈oJ q (m4 u) j:=by rw[oJ,aT ha];exact aPF.2 ⟨rK hk,by simpa using hz⟩
    rw[hv] at h3;have e:=aNQ.1 h3;obtain rfl:k=cx:=aI2 hnd hk hcx (by rw[e,vcx]);rw[e,hrv]
   obtain⟨c,ec,hc,vc⟩:=aI1 (rK hk);obtain rfl:c=k:=aI2 hnd hc hk vc;rw[ec];rfl
theorem aTA {s:aV}{q:aI}(hs:eG s=true)(hq:dU s.database q=true): ∀(f:Nat) {o r:List Int} {u l:Nat->Bool} {al:Int->Int},fL l<=f->(∀j,l j=true->j<q.atoms.length)->eP s q f o u l=some r->aKO s.database q u al-> ∃be,aKO s.database q (fun i=>u i || l i) be/\ ∀v∈dS q (m4 u),be v=al v:=by
 have hQ:=(kI hq).1;have h4:=(bM hQ).2.1;intro f
 induction f with
 | zero=>
   intro o r u l al hc hl h hf
   exact⟨al,fun j a ha hj=>hf j a ha (by
    have hlt:=(aCx.1 ha).1;have hj:(u j || l j)=true:=hj;rw[oH (p:=l) (by omega) (v:=j) (by omega),Bool.or_false] at hj;exact hj),fun _ _=>rfl⟩
 | succ f ih=>
   intro o r u l al hc hl h hf;by_cases h0:fL l=0
   ·exact⟨al,fun j a ha hj=>hf j a ha (by
     have hlt:=(aCx.1 ha).1;have hj:(u j || l j)=true:=hj;rw[oH (p:=l) h0 (v:=j) (by omega),Bool.or_false] at hj;exact hj),fun _ _=>rfl⟩
   rw[aBy h0] at h;obtain⟨x,hx,e⟩:=List.exists_of_findSome?_eq_some h;rw[gF] at hx;obtain⟨a,ha⟩:=cP (l:=q.atoms) (k:=x.toNat) (hl _ hx.2.2);unfold jH at e;split at e
   ·rename_i hex;obtain⟨be,b1,b2⟩:=aQs hs hq ha hex hf;have hcl:=yL hx.2.1 hx.2.2;obtain⟨ga,g1,g2⟩:=ih (by omega) (fun j hj=>hl j (by simp only[jV,aAS] at hj;exact hj.1)) e b1;refine⟨ga,fun j b hb hj=>g1 j b hb ?_,fun v hv=>?_⟩
    ·simp only[rS,jV];by_cases ej:j=x.toNat
     ·simp[ej]
     simpa [ej] using hj
    rw[g2 v ?_,b2 v hv];obtain⟨j,b,hb,hj,hz⟩:=(qJ hQ).1 hv;exact(qJ hQ).2 ⟨j,b,hb,by simp[rS,hj],hz⟩
   cases e
def kT (fit:List Int->Bool)(n:Nat):Nat->List Int->List (List Int)
 | 0,_=>[]
 | f+1,row=>if fit row=true then (if row.length=n then [row] else (List.range 10).flatMap fun v:Nat=>kT fit n f (row++[(v:Int)])) else []
theorem aKP {fit:List Int->Bool}{n:Nat}{x:List Int}(hx:x.length=n)(hv: ∀y∈x,0<=y/\y<=9)(hf: ∀k,fit (x.take k)=true): ∀(f k:Nat),k<=n->n+1<=f+k->x∈kT fit n f (x.take k)
 | 0,k,h1,h2=>by omega
 | f+1,k,h1,h2=>by
   rw[kT,if_pos (hf k)];by_cases e:k=n
   ·rw[if_pos (by rw[aOe];omega),aCy (by omega)];exact aNQ.2 rfl
   rw[if_neg (by rw[aOe];omega)];obtain⟨y,hy⟩:=cP (l:=x) (k:=k) (by omega);have hb:=hv y (aAx hy);refine List.mem_flatMap.2 ⟨y.toNat,aJg.2 (by omega),?_⟩;have ih:=aKP hx hv hf f (k+1) (by omega) (by omega);rw[bS hy] at ih;rw[Int.toNat_of_nonneg hb.1];exact ih
def sX (t:aP)(a:bH)(vars row:List Int):Bool:=t.rows.any fun r=>(List.range a.vars.length).all fun k=>(List.range row.length).all fun j=> !decide (vars.getD j 0=a.vars.getD k 0) || decide (row.getD j 0=r.getD k 0)
def aO8 (d:aL)(q:aI)(m:Int)(row:List Int):Bool:=(bK m).all fun i=>sX (aE d (q.atoms.getD i.toNat cS).name).1 (q.atoms.getD i.toNat cS) (dS q m) row
def aLc (d:aL)(q:aI)(m:Int):List (List Int):=kT (aO8 d q m) (dS q m).length 5 []
def aAw (d:aL)(q:aI)(m:Int):Int:=if (dU d q&&dV m 1 (dC q))=true then ((aLc d q m).length:Int) else -1
theorem aMw: ∀{l m:List (List Int)},l.Nodup->(∀x∈l,x∈m)->l.length<=m.length
 | [],m,_,_=>aAU _
 | x::l,m,hn,h=>by
   have hx:=h x aLu;have hc:=List.nodup_cons.1 hn;have ih:=aMw (l:=l) (m:=m.erase x) hc.2 fun y hy=>(List.mem_erase_of_ne (fun e=>hc.1 (by rw[<-e];exact hy))).2 (h y (aML _ hy));rw[List.length_erase_of_mem hx] at ih;have:=List.length_pos_of_mem hx;rw[aHl];omega
theorem aQt {r s:List Int}(hl:r.length=s.length)(h: ∀k,k<r.length->r.getD k 0=s.getD k 0):r=s:=by
 apply List.ext_getElem hl;intro k h1 h2;have:=h k h1
 rwa [aEE,aBJ h1,aEE,aBJ h2] at this
theorem aO9 {d:aL}{q:aI}{u:Nat->Bool}{al:Int->Int}(hQ:aZ q=true)(hf:aKO d q u al)(k:Nat)(hu: ∀j,u j=true->j<q.atoms.length):aO8 d q (m4 u) (((dS q (m4 u)).map al).take k)=true:=by
 rw[aO8,aDP];intro i hi;rw[zY,gF] at hi;obtain⟨a,ha⟩:=cP (l:=q.atoms) (k:=i.toNat) (hu _ hi.2.2);rw[aT ha];obtain⟨r,hr,hk⟩:=hf _ a ha hi.2.2;refine List.any_eq_true.2 ⟨r,hr,aDP.2 fun c hc=>aDP.2 fun j hj=>?_⟩;have hc:=aJg.1 hc;have hj:=aJg.1 hj;rw[Bool.or_eq_true,Bool.not_eq_true',decide_eq_false_iff_not,aLF];by_cases e:(dS q (m4 u)).getD j 0=a.vars.getD c 0
 ·right;rw[hk c hc,<-e];rw[aOe,aAJ] at hj;rw[aEE,List.getElem?_take_of_lt (by omega),aOz,aEE,aBJ (show j<(dS q (m4 u)).length by omega)];rfl
 exact .inl e
theorem aTB {d:aL}{q:aI}{u:Nat->Bool}{al:Int->Int}(hq:dU d q=true)(hf:aKO d q u al){z:Int}(hz:z∈dS q (m4 u)):0<=al z/\al z<=9:=by
 obtain⟨j,a,ha,hu,hm⟩:=(qJ (kI hq).1).1 hz;obtain⟨r,hr,hk⟩:=hf j a ha hu;obtain⟨h1,h2⟩:=(kI hq).2 a (aAx ha);have hT:=(jO h1).1;obtain⟨c,hc,e⟩:=List.mem_iff_getElem.1 hm;have e2:a.vars.getD c 0=z:=by rw[aEE,aBJ hc];exact e
 have e3:=hk c hc;rw[e2] at e3;rw[<-e3];have hl:=kM hT hr;have hkk:=aDP.1 (kH hT).1 r hr;simp only[jG,aAS,aLF] at hkk;exact dB (aDP.1 hkk.1 _ (rK (by omega)))
theorem aLd {t:aP}(h:aR t=true):t.rows.Nodup:=(aFN (kH h).2.2).imp fun {a b} hab e=>by rw[e,tI] at hab;exact absurd hab (by omega)
theorem aTC {m:Int}{n j:Nat}(h0:0<=m)(h:m<=1*2^n - 1)(hj:n<=j):bR m j=false:=by
 have h1:((2^n:Nat):Int)<=((2^j:Nat):Int):=by exact_mod_cast Nat.pow_le_pow_right (by decide) hj
 simp only[Int.natCast_pow] at h1
 have key:m/2^j=0:=Int.ediv_eq_zero_of_lt h0 (by
  have e:((2:Nat):Int)=2:=rfl;rw[e] at h1;omega)
 rw[bR,key];decide
theorem aTD {s:aV}{q:aI}{m x:Int}(h:kS s q m=true)(hx:x∈bK m)(ho:(aAv s q m x.toNat).isSome=true):(eH s q x.toNat).rowCount<=aAw s.database q m:=by
 obtain⟨hs,hq,hQ,m1,m2,m15,hM,hl4⟩:=iC h;obtain⟨r0,ho⟩:=Option.isSome_iff_exists.1 ho;have hm:=zT (m:=m) ⟨by omega,m15⟩;have hin:=oQ (x:=x) h;rw[decide_eq_true hx] at hin;have hin:=hin.symm;rw[aAS] at hin;have hxb:=dB hin.1;obtain⟨a,ha⟩:=cP (l:=q.atoms) (k:=x.toNat) (by omega);have hst:=(aSx hs hq ha).2.2.2.2.1;obtain⟨hn,har⟩:=(kI hq).2 a (aAx ha);have hT:=(jO hn).1;have hA:=(bM hQ).2.2 a (aAx ha)
 have hnd:a.vars.Nodup:=by
  simp only[dQ,aAS] at hA;exact aAu hA.2.2
 have hrc:(eH s q x.toNat).rowCount=((aE s.database a.name).1.rows.length:Nat):=by rw[hst];exact(aCr hT).2.2.2
 have hub: ∀j,bR m j=true->j<q.atoms.length:=fun j hj=>by
  by_cases e:j<q.atoms.length
  ·exact e
  rw[aTC (n:=q.atoms.length) (by omega) m2 (by omega)] at hj;cases hj
 have key: ∀r:List Int,∃be:Int->Int,r∈(aE s.database a.name).1.rows->(aKO s.database q (bR m) be/\ ∀k,k<a.vars.length->be (a.vars.getD k 0)=r.getD k 0):=by
  intro r;by_cases hr:r∈(aE s.database a.name).1.rows
  ·have hpos: ∀k,k<a.vars.length->(oI a (a.vars.getD k 0)).toNat=k:=fun k hk=>by
    obtain⟨c,ec,hc,vc⟩:=aI1 (rK hk);rw[ec];exact aI2 hnd hc hk vc
   have f0:aKO s.database q (isP x.toNat) fun z=>r.getD (oI a z).toNat 0:=fun j b hb hj=>by
    have e:j=x.toNat:=by simpa using hj
    subst e;obtain rfl:a=b:=by rw[ha] at hb;injection hb
    exact⟨r,hr,fun k hk=>by show _=r.getD (oI a (a.vars.getD k 0)).toNat 0;rw[hpos k hk]⟩
   obtain⟨be,b1,b2⟩:=aTA hs hq 4 (zX _) (fun j hj=>by
    simp only[jV,aAS] at hj;exact hub j hj.1) ho f0
   refine⟨be,fun _=>⟨fun j b hb hj=>b1 j b hb ?_,fun k hk=>?_⟩⟩
   ·by_cases e:j=x.toNat
    ·simp[e]
    simpa [jV,e] using hj
   rw[b2 _ ((qJ hQ).2 ⟨x.toNat,a,ha,by simp,rK hk⟩)];show r.getD (oI a (a.vars.getD k 0)).toNat 0=_;rw[hpos k hk]
  exact⟨fun _=>0,fun q=>absurd q hr⟩
 obtain⟨g,hg⟩:=Classical.skolem.1 key;have hle:=aMw (l:=(aE s.database a.name).1.rows.map fun r=>(dS q m).map (g r)) (m:=aLc s.database q m) ?_ ?_
 ·rw[aAJ] at hle
  rw[hrc,aAw,if_pos (by
   simp only[kS,aAS] at h;rw[h.2.1,h.2.2];rfl)]
  omega
 ·refine List.pairwise_map.2 (List.Pairwise.imp_of_mem (fun {r r'} hr hr' hne e=>hne ?_) (aLd hT));have h1:=kM hT hr;have h2:=kM hT hr';refine aQt (by omega) fun k hk=>?_;have hka:k<a.vars.length:=by omega
  rw[<-(hg r hr).2 k hka,<-(hg r' hr').2 k hka];have hz:a.vars.getD k 0∈dS q m:=by rw[hm];exact(qJ hQ).2 ⟨x.toNat,a,ha,hin.2,rK hka⟩
  exact List.map_inj_left.1 e _ hz
 intro y hy;obtain⟨r,hr,rfl⟩:=aH5.1 hy;have hf:=(hg r hr).1;rw[aLc]
 have:=aKP (fit:=aO8 s.database q m) (n:=(dS q m).length) (x:=(dS q m).map (g r)) (aAJ _) (fun y hy=>by
  obtain⟨z,hz,rfl⟩:=aH5.1 hy;rw[hm] at hz;exact aTB hq hf hz) (fun k=>by
  rw[hm];exact aO9 hQ hf k hub) 5 0 (aAU _) (by have:=aCp q m hQ;omega)
 simpa using this
theorem aVI {s:aV}{q:aI}{m:Int}(h:kS s q m=true):mZ s q m<=aAw s.database q m:=by
 rw[yN h]
 have h0:0<=aAw s.database q m:=by
  simp only[kS,aAS] at h;rw[aAw,if_pos (by rw[h.2.1,h.2.2];rfl)];omega
 have key: ∀(l:List Int) (b:Int),(∀x∈l,x∈bK m)->b<=aAw s.database q m->l.foldl (oK s q m) b<=aAw s.database q m:=by
  intro l
  induction l with
  | nil=>intro b _ hb;exact hb
  | cons x l ih=>
    intro b hl hb;rw[List.foldl_cons];refine ih _ (fun y hy=>hl y (aML _ hy)) ?_;unfold oK;split
    ·rename_i ho;have:=aTD h (hl x aLu) ho;unfold aQq;split<;>assumption
    exact hb
 exact key _ _ (fun _ hx=>hx) h0
theorem aTE (s:aV)(q:aI)(m:Int):mZ s q m<=aAw s.database q m:=by
 cases h:kS s q m with
 | true=>exact aVI h
 | false=>
   rw[aCA h,aAw];split<;>omega
theorem aOa {s:aV}{q:aI}: ∀(f:Nat) {o r:List Int} {u l:Nat->Bool},fL l<=f->eP s q f o u l=some r-> ∃t,r=o++t/\(∀i x,t[i]? =some x->0<=x/\x.toNat<4/\l x.toNat=true/\dO s q (m4 (fun j=>u j || decide ((j:Int)∈t.take i))) x.toNat=true)/\ ∀j,j<4->l j=true->(j:Int)∈t:=by
 intro f
 induction f with
 | zero=>
   intro o r u l hc h;simp only[eP,Option.some.injEq] at h;exact⟨[],by rw[h,aOt],by simp,fun j hj hl=>by rw[oH (p:=l) (by omega) hj] at hl;cases hl⟩
 | succ f ih=>
   intro o r u l hc h;by_cases h0:fL l=0
   ·rw[jP h0] at h;simp only[Option.some.injEq] at h;exact⟨[],by rw[h,aOt],by simp,fun j hj hl=>by rw[oH (p:=l) h0 hj] at hl;cases hl⟩
   rw[aBy h0] at h;obtain⟨x,hx,e⟩:=List.exists_of_findSome?_eq_some h;rw[gF] at hx;unfold jH at e;split at e
   ·rename_i hex;have hcl:=yL hx.2.1 hx.2.2;obtain⟨t,t1,t2,t3⟩:=ih (by omega) e;refine⟨x::t,by rw[t1,aGP];rfl,fun i y hy=>?_,fun j hj hl=>?_⟩
    ·cases i with
     | zero=>
       simp only[List.getElem?_cons_zero,Option.some.injEq] at hy;subst hy;refine⟨hx.1,hx.2.1,hx.2.2,?_⟩;rw[<-hex]
       congr 1
       exact tN fun j _=>by simp
     | succ i=>
       simp only[List.getElem?_cons_succ] at hy;obtain⟨a1,a2,a3,a4⟩:=t2 i y hy;simp only[jV,aAS] at a3;refine⟨a1,a2,a3.1,?_⟩;rw[<-a4]
       congr 1
       refine tN fun j _=>?_;simp only[rS,List.take_succ_cons,aG7];rw[Bool.or_assoc]
       congr 1
       rw[<-Bool.decide_or];exact decide_eq_decide.2 ⟨fun q=>q.elim (fun e=> .inl (by omega)) .inr,fun q=>q.elim (fun e=> .inl (by omega)) .inr⟩
    by_cases ej:j=x.toNat
    ·exact aG7.2 (.inl (by omega))
    exact aML _ (t3 j hj (by simp[jV,hl,ej]))
   cases e
structure Cu where
 i:Nat
 h:Int
def aKQ (h:Int):Int:=IntKind.i64.wrap (IntKind.i64.wrap (h*6364136223846793005)+1442695040888963407)
def aTF (h:Int):Int:=cJ .and .i64 (cJ .xor .i64 (h/2^33) (h/2^45)) 255
def yO (l:List Int):Nat->Int
 | 0=>10101+(l.length:Int)
 | k+1=>cJ .and .i64 (IntKind.i64.wrap (IntKind.i64.wrap (IntKind.i64.wrap (yO l k*131)+IntKind.i64.wrap (l.getD k 0))+7)) 1073741823
def bJ (l:List Int):Cu:=⟨0,yO l (min l.length 4000)⟩
def bC (l:List Int)(u:Cu):Int × Cu:=if (u.i:Int)<(l.length:Int) then (cJ .and .i64 (IntKind.i64.wrap (aTF (aKQ u.h)+IntKind.i64.wrap (l.getD u.i 0))) 255,⟨u.i+1,aKQ u.h⟩) else (aTF (aKQ u.h),⟨u.i,aKQ u.h⟩)
theorem aKR (m:Int)(k:Nat)(hk:k<=9223372036854775807):0<=cJ .and .i64 m (k:Int)/\cJ .and .i64 m (k:Int)<=(k:Int):=by
 have e2:(BitVec.ofInt 64 (k:Int)).toNat=k:=by simp;omega
 have hle:(BitVec.ofInt 64 m).toNat&&&k<=k:=Nat.and_le_right;unfold cJ;show 0<=IntKind.i64.wrap ((BitVec.ofInt 64 m&&&BitVec.ofInt 64 (k:Int)).toNat:Nat)/\IntKind.i64.wrap ((BitVec.ofInt 64 m&&&BitVec.ofInt 64 (k:Int)).toNat:Nat)<=_;rw[BitVec.toNat_and,e2,IntWalk.i64_in _ ⟨by omega,by omega⟩];omega
theorem aTG {l:List Int}{k:Nat}{x:Int}(h:l[k]? =some x):yO l (k+1)=cJ .and .i64 (IntKind.i64.wrap (IntKind.i64.wrap (IntKind.i64.wrap (yO l k*131)+IntKind.i64.wrap x)+7)) 1073741823:=by rw[yO,aEE,h];rfl
theorem aTH {l:List Int}{u:Cu}{x:Int}(h:(u.i:Int)<(l.length:Int))(hx:l[u.i]? =some x):bC l u=(cJ .and .i64 (IntKind.i64.wrap (aTF (aKQ u.h)+IntKind.i64.wrap x)) 255,⟨u.i+1,aKQ u.h⟩):=by
 rw[bC,if_pos h,aEE,hx];rfl
theorem aQu {l:List Int}{u:Cu}(h: ¬(u.i:Int)<(l.length:Int)):bC l u=(aTF (aKQ u.h),⟨u.i,aKQ u.h⟩):=by rw[bC,if_neg h]
theorem pJ (l:List Int)(u:Cu):0<=(bC l u).1/\(bC l u).1<=255:=by
 unfold bC;split
 ·exact aKR _ 255 (by decide)
 exact aKR _ 255 (by decide)
def aA (l:List Int)(u:Cu)(n:Int):Int × Cu:=
 if n<=0 then (0,u) else if n<=256 then (Int.tmod (bC l u).1 n,(bC l u).2) else
  (Int.tmod ((bC l u).1*16777216+(bC l (bC l u).2).1*65536+(bC l (bC l (bC l u).2).2).1*256+(bC l (bC l (bC l (bC l u).2).2).2).1) n,(bC l (bC l (bC l (bC l u).2).2).2).2)
theorem aI3 {x n:Int}(hx:0<=x)(hn:0<n):0<=Int.tmod x n/\Int.tmod x n<n:=⟨Int.tmod_nonneg n hx,Int.tmod_lt_of_pos x hn⟩
theorem dK (l:List Int)(u:Cu){n:Int}(hn:0<n):0<=(aA l u n).1/\(aA l u n).1<n:=by
 unfold aA;rw[if_neg (by omega)];have h1:=pJ l u;have h2:=pJ l (bC l u).2;have h3:=pJ l (bC l (bC l u).2).2;have h4:=pJ l (bC l (bC l (bC l u).2).2).2;split
 ·exact aI3 (by omega) hn
 exact aI3 (by omega) hn
theorem aTI (l:List Int)(u:Cu){n:Int}(h:n<=0):aA l u n=(0,u):=by rw[aA,if_pos h]
theorem aTJ (l:List Int)(u:Cu){n:Int}(h: ¬n<=0)(h2:n<=256):aA l u n=(Int.tmod (bC l u).1 n,(bC l u).2):=by rw[aA,if_neg h,if_pos h2]
theorem aTK (l:List Int)(u:Cu){n:Int}(h: ¬n<=0)(h2: ¬n<=256):aA l u n=(Int.tmod ((bC l u).1*16777216+(bC l (bC l u).2).1*65536+(bC l (bC l (bC l u).2).2).1*256+(bC l (bC l (bC l (bC l u).2).2).2).1) n,(bC l (bC l (bC l (bC l u).2).2).2).2):=by rw[aA,if_neg h,if_neg h2]
def tR {σ:Type}(f:σ->σ):Nat->σ->σ
 | 0,s=>s
 | k+1,s=>f (tR f k s)
def kE (f:Cu->Int × Cu):Nat->Cu->List Int × Cu
 | 0,u=>([],u)
 | k+1,u=>((kE f k u).1++[(f (kE f k u).2).1],(f (kE f k u).2).2)
theorem aFi (f:Cu->Int × Cu)(u:Cu): ∀k,(kE f k u).1.length=k
 | 0=>rfl
 | k+1=>by rw[kE,aJP,aFi f u k];rfl
abbrev nL (l:List Int)(u:Cu):List AV × List (Nat × Rs) × AV × List (Nat × Rs):=([.ptr 0 0],[(0,.box 115 [.p none (.sl 5 1 (l.map bD)),vI (u.i:Int),vI u.h])],vI ((bC l u).1),[(0,.box 115 [.p none (.sl 5 1 (l.map bD)),vI (((bC l u).2.i:Nat):Int),vI ((bC l u).2.h)])])
abbrev tS (l:List Int)(u:Cu):Prop:=Cm 127 (nL l u).1 (nL l u).2.1 (nL l u).2.2.1 (nL l u).2.2.2
theorem aFj (l:List Int)(u:Cu)(hl:l.length<=1048576):tS l u:=by
 refine cqx Tryz.func127 (.raw<| .raw<| .len l.length<| .br (.elem _ bD l (fun e44=> .raw<| .raw<| .fin [(0,0)])) (.fin [(0,0)])) (p:=(0<=(33:Int)/\(33:Int)<=64)/\(0<=(45:Int)/\(45:Int)<=64)/\Lm bD l/\Br ((u.i:Int)<(l.length:Int)) (0<=(u.i:Int)/\Em bD l u.i fun e44=>bW ((u.i:Int)+1)/\(cJ .and .i64 (IntKind.i64.wrap ((cJ .and .i64 (cJ .xor .i64 ((IntKind.i64.wrap ((IntKind.i64.wrap (u.h*6364136223846793005))+1442695040888963407))/2^33) ((IntKind.i64.wrap ((IntKind.i64.wrap (u.h*6364136223846793005))+1442695040888963407))/2^45)) (255:Int))+(IntKind.i64.wrap e44))) (255:Int))=((bC l u).1)/\l.map bD=l.map bD/\((u.i:Int)+1)=(((bC l u).2.i:Nat):Int)/\(IntKind.i64.wrap ((IntKind.i64.wrap (u.h*6364136223846793005))+1442695040888963407))=((bC l u).2.h)/\True) ((cJ .and .i64 (cJ .xor .i64 ((IntKind.i64.wrap ((IntKind.i64.wrap (u.h*6364136223846793005))+1442695040888963407))/2^33) ((IntKind.i64.wrap ((IntKind.i64.wrap (u.h*6364136223846793005))+1442695040888963407))/2^45)) (255:Int))=((bC l u).1)/\l.map bD=l.map bD/\(u.i:Int)=(((bC l u).2.i:Nat):Int)/\(IntKind.i64.wrap ((IntKind.i64.wrap (u.h*6364136223846793005))+1442695040888963407))=((bC l u).2.h)/\True)) (by kernel_rfl) ?_;refine⟨⟨by omega,by omega⟩,⟨by omega,by omega⟩,aAJ _,dd (fun c0=>?_) fun c0=>?_⟩
 ·refine⟨by omega,rfl,by omega,fun e44 h44=>?_⟩;refine⟨⟨by omega,by omega⟩,?_,rfl,?_,?_,trivial⟩<;>((rw[aTH c0 h44]<;>rfl))
 ·refine⟨?_,rfl,?_,?_,trivial⟩<;>((rw[aQu c0]<;>rfl))
abbrev cM (l:List Int)(u:Cu)(n:Int):List AV × List (Nat × Rs) × AV × List (Nat × Rs):=([.ptr 0 0,vI n],[(0,.box 115 [.p none (.sl 5 1 (l.map bD)),vI (u.i:Int),vI u.h])],vI ((aA l u n).1),[(0,.box 115 [.p none (.sl 5 1 (l.map bD)),vI (((aA l u n).2.i:Nat):Int),vI ((aA l u n).2.h)])])
abbrev cY (l:List Int)(u:Cu)(n:Int):Prop:=Cm 72 (cM l u n).1 (cM l u n).2.1 (cM l u n).2.2.1 (cM l u n).2.2.2
theorem eL (l:List Int)(u:Cu)(hl:l.length<=1048576)(n:Int):cY l u n:=by
 refine cqx Tryz.func72 (.br (.fin [(0,0)]) (.br (aW (nL l u) [(0,0)]<| .fin [(0,0)]) (aW (nL l u) [(0,0)]<| aW (nL l ((bC l u).2)) [(0,0)]<| aW (nL l ((bC l ((bC l u).2)).2)) [(0,0)]<| aW (nL l ((bC l ((bC l ((bC l u).2)).2)).2)) [(0,0)]<| .fin [(0,0)]))) (p:=Br (n<=0) (0=((aA l u n).1)/\l.map bD=l.map bD/\(u.i:Int)=(((aA l u n).2.i:Nat):Int)/\u.h=((aA l u n).2.h)/\True) (Br (n<=256) (tS l u/\l.map bD=l.map bD/\(u.i:Int)=(u.i:Int)/\u.h=u.h/\n≠0/\(Int.tmod ((bC l u).1) n)=((aA l u n).1)/\l.map bD=l.map bD/\(((bC l u).2.i:Nat):Int)=(((aA l u n).2.i:Nat):Int)/\((bC l u).2.h)=((aA l u n).2.h)/\True) (tS l u/\l.map bD=l.map bD/\(u.i:Int)=(u.i:Int)/\u.h=u.h/\tS l ((bC l u).2)/\l.map bD=l.map bD/\(((bC l u).2.i:Nat):Int)=(((bC l u).2.i:Nat):Int)/\((bC l u).2.h)=((bC l u).2.h)/\tS l ((bC l ((bC l u).2)).2)/\l.map bD=l.map bD/\(((bC l ((bC l u).2)).2.i:Nat):Int)=((((bC l ((bC l u).2)).2).i:Nat):Int)/\((bC l ((bC l u).2)).2.h)=(((bC l ((bC l u).2)).2).h)/\tS l ((bC l ((bC l ((bC l u).2)).2)).2)/\l.map bD=l.map bD/\(((bC l ((bC l ((bC l u).2)).2)).2.i:Nat):Int)=((((bC l ((bC l ((bC l u).2)).2)).2).i:Nat):Int)/\((bC l ((bC l ((bC l u).2)).2)).2.h)=(((bC l ((bC l ((bC l u).2)).2)).2).h)/\bW (((bC l u).1)*16777216)/\bW (((bC l ((bC l u).2)).1)*65536)/\bW ((((bC l u).1)*16777216)+(((bC l ((bC l u).2)).1)*65536))/\bW (((bC l ((bC l ((bC l u).2)).2)).1)*256)/\bW (((((bC l u).1)*16777216)+(((bC l ((bC l u).2)).1)*65536))+(((bC l ((bC l ((bC l u).2)).2)).1)*256))/\bW ((((((bC l u).1)*16777216)+(((bC l ((bC l u).2)).1)*65536))+(((bC l ((bC l ((bC l u).2)).2)).1)*256))+((bC l ((bC l ((bC l ((bC l u).2)).2)).2)).1))/\n≠0/\(Int.tmod ((((((bC l u).1)*16777216)+(((bC l ((bC l u).2)).1)*65536))+(((bC l ((bC l ((bC l u).2)).2)).1)*256))+((bC l ((bC l ((bC l ((bC l u).2)).2)).2)).1)) n)=((aA l u n).1)/\l.map bD=l.map bD/\(((bC l ((bC l ((bC l ((bC l u).2)).2)).2)).2.i:Nat):Int)=(((aA l u n).2.i:Nat):Int)/\((bC l ((bC l ((bC l ((bC l u).2)).2)).2)).2.h)=((aA l u n).2.h)/\True))) (by kernel_rfl) ?_;have w1:=pJ l u;have w2:=pJ l (bC l u).2;have w3:=pJ l (bC l (bC l u).2).2;have w4:=pJ l (bC l (bC l (bC l u).2).2).2;refine dd (fun c0=>?_) fun c0=>?_
 ·refine⟨?_,rfl,?_,?_,trivial⟩<;>((rw[aTI l u c0]<;>rfl))
 ·refine dd (fun c1=>?_) fun c1=>?_
  ·refine⟨aFj l u (by assumption),rfl,rfl,rfl,by omega,?_,rfl,?_,?_,trivial⟩<;>((rw[aTJ l u c0 c1]<;>rfl))
  ·refine⟨aFj l u (by assumption),rfl,rfl,rfl,aFj l ((bC l u).2) (by assumption),rfl,rfl,rfl,aFj l ((bC l ((bC l u).2)).2) (by assumption),rfl,rfl,rfl,aFj l ((bC l ((bC l ((bC l u).2)).2)).2) (by assumption),rfl,rfl,rfl,⟨by omega,by omega⟩,⟨by omega,by omega⟩,⟨by omega,by omega⟩,⟨by omega,by omega⟩,⟨by omega,by omega⟩,⟨by omega,by omega⟩,by omega,?_,rfl,?_,?_,trivial⟩<;>((rw[aTK l u c0 c1]<;>rfl))
abbrev eX (l:List Int)(u:Cu)(n:Int):List AV × List (Nat × Rs) × AV × List (Nat × Rs):=([.ptr 0 0,vI n],[(0,.box 115 [.p none (.sl 5 1 (l.map bD)),vI (u.i:Int),vI u.h])],vB (decide ((aA l u n).1=0)),[(0,.box 115 [.p none (.sl 5 1 (l.map bD)),vI (((aA l u n).2.i:Nat):Int),vI ((aA l u n).2.h)])])
abbrev gH (l:List Int)(u:Cu)(n:Int):Prop:=Cm 71 (eX l u n).1 (eX l u n).2.1 (eX l u n).2.2.1 (eX l u n).2.2.2
theorem lS (l:List Int)(u:Cu)(hl:l.length<=1048576)(n:Int):gH l u n:=by
 refine cqx Tryz.func71 (aW (cM l u n) [(0,0)]<| .fin [(0,0)]) (p:=cY l u n/\n=n/\l.map bD=l.map bD/\(u.i:Int)=(u.i:Int)/\u.h=u.h/\(decide (((aA l u n).1)=0))=(decide ((aA l u n).1=0))/\l.map bD=l.map bD/\(((aA l u n).2.i:Nat):Int)=(((aA l u n).2.i:Nat):Int)/\((aA l u n).2.h)=((aA l u n).2.h)/\True) (by kernel_rfl) ?_;refine⟨eL l u (by assumption) n,rfl,rfl,rfl,rfl,?_,rfl,rfl,rfl,trivial⟩
 ·rfl
def bI (l:List Int)(u:Cu)(xs:List Int):Int × Cu:=(xs.getD (aA l u xs.length).1.toNat 0,(aA l u xs.length).2)
theorem aTL {l:List Int}{u:Cu}{xs:List Int}{x:Int}(h:xs[(aA l u xs.length).1.toNat]? =some x):bI l u xs=(x,(aA l u xs.length).2):=by rw[bI,aEE,h];rfl
theorem aQv (l:List Int)(u:Cu){xs:List Int}(h:0<xs.length):(bI l u xs).1∈xs:=by
 have hb:=dK l u (n:=xs.length) (by omega);have hlt:(aA l u xs.length).1.toNat<xs.length:=by omega
 rw[bI,aEE,aBJ hlt];exact aQU hlt
abbrev fS (l:List Int)(u:Cu)(xs:List Int):List AV × List (Nat × Rs) × AV × List (Nat × Rs):=([.ptr 0 0,.own 1],[(0,.box 115 [.p none (.sl 5 1 (l.map bD)),vI (u.i:Int),vI u.h]),(1,.arr 3 1 true (xs.map intD))],vI ((bI l u xs).1),[(0,.box 115 [.p none (.sl 5 1 (l.map bD)),vI (((bI l u xs).2.i:Nat):Int),vI ((bI l u xs).2.h)])])
abbrev iK (l:List Int)(u:Cu)(xs:List Int):Prop:=Cm 77 (fS l u xs).1 (fS l u xs).2.1 (fS l u xs).2.2.1 (fS l u xs).2.2.2
theorem nM (l:List Int)(u:Cu)(hl:l.length<=1048576)(xs:List Int)(hx:0<xs.length):iK l u xs:=by
 refine cqx Tryz.func77 (.len xs.length<| aW (cM l u (xs.length:Int)) [(0,0)]<| .len xs.length<| .elem _ intD xs (fun e11=> .fin [(0,0)])) (p:=Lm intD xs/\cY l u (xs.length:Int)/\(xs.length:Int)=(xs.length:Int)/\l.map bD=l.map bD/\(u.i:Int)=(u.i:Int)/\u.h=u.h/\0<=((aA l u (xs.length:Int)).1)/\Lm intD xs/\((aA l u (xs.length:Int)).1)<(xs.length:Int)/\Em intD xs (((aA l u (xs.length:Int)).1).toNat) fun e11=>e11=((bI l u xs).1)/\l.map bD=l.map bD/\(((aA l u (xs.length:Int)).2.i:Nat):Int)=(((bI l u xs).2.i:Nat):Int)/\((aA l u (xs.length:Int)).2.h)=((bI l u xs).2.h)/\True) (by kernel_rfl) ?_;have hb:=dK l u (n:=xs.length) (by omega);refine⟨aAJ _,eL l u (by assumption) (xs.length:Int),rfl,rfl,rfl,rfl,by omega,aAJ _,by omega,rfl,by omega,fun e11 h11=>?_⟩;refine⟨?_,rfl,?_,?_,trivial⟩<;>(first|rfl|(rw[aTL (by assumption)]<;>rfl))
abbrev zZ (l:List Int):List AV × List (Nat × Rs) × AV × List (Nat × Rs):=([.p none (.sl 5 1 (l.map bD))],[],.ptr 0 0,[(0,.box 115 [.p none (.sl 5 1 (l.map bD)),vI (((bJ l).i:Nat):Int),vI ((bJ l).h)])])
abbrev aI4 (l:List Int):Prop:=Cm 31 (zZ l).1 (zZ l).2.1 (zZ l).2.2.1 (zZ l).2.2.2
theorem aTh (l:List Int)(hl:l.length<=1048576):aI4 l:=by
 refine cqx Tryz.func31 (.len l.length<| .loop Nat (Q1 Nat) ([3,4]++rg 8 20) [] (fun k=>[(4,vI (k:Int)),(3,vI (yO l k))]) (fun k=>[]) (fun k=>k<=l.length/\k<=4000) (fun k=>4000 - k) (fun k=> .len l.length<| .br (.lit<| .lit<| .br (.raw<| .elem _ bD l (fun e22=> .raw<| .raw<| .raw<| .back [])) (.fin [(0,3100)])) (.fin [(0,3100)]))) (p:=Lm bD l/\(bW ((10101:Int)+(l.length:Int))/\((∃(k:Nat),0=(k:Int)/\((10101:Int)+(l.length:Int))=(yO l k)/\k<=l.length/\k<=4000)/\ ∀(k:Nat),(k<=l.length/\k<=4000)->Lm bD l/\Br ((k:Int)<(l.length:Int)) (Br ((k:Int)<4000) (0<=(k:Int)/\Em bD l k fun e22=>bW ((k:Int)+1)/\ ∃(k' :Nat),((k:Int)+1)=(k' :Int)/\(cJ .and .i64 (IntKind.i64.wrap ((IntKind.i64.wrap ((IntKind.i64.wrap ((yO l k)*131))+(IntKind.i64.wrap e22)))+7)) (1073741823:Int))=(yO l k')/\(k' <=l.length/\k' <=4000)/\4000 - k' <4000 - k) (l.map bD=l.map bD/\0=(((bJ l).i:Nat):Int)/\(yO l k)=((bJ l).h)/\True)) (l.map bD=l.map bD/\0=(((bJ l).i:Nat):Int)/\(yO l k)=((bJ l).h)/\True)))) (by kernel_rfl) ?_;refine⟨aAJ _,⟨by omega,by omega⟩,⟨0,(by rfl),(by rfl),aAU _,aAU _⟩,fun k ⟨hk,hk2⟩=>?_⟩;refine⟨aAJ _,dd (fun g12=>?_) fun g12=>?_⟩
 ·refine dd (fun c0=>?_) fun c0=>?_
  ·refine⟨by omega,rfl,by omega,fun e22 h22=>?_⟩;refine⟨⟨by omega,by omega⟩,?_⟩;exact⟨k+1,(by rfl),(by (rw[aTG h22];done)),⟨by omega,by omega⟩,by omega⟩
  ·refine⟨rfl,?_,?_,trivial⟩<;>(first|rfl|(rw[bJ,show min l.length 4000=k by omega]<;>rfl))
 ·refine⟨rfl,?_,?_,trivial⟩<;>(first|rfl|(rw[bJ,show min l.length 4000=k by omega]<;>rfl))
def aQw (x:Int):Prop:=0<=x/\x<=255
theorem aLe {n:Int}(h:(Lit.int .u8 n).wf=true):aQw n:=by
 simp[Lit.wf,IntKind.min,IntKind.max,IntKind.bits,IntKind.signed] at h;exact⟨by omega,by omega⟩
def aLf (l:List Int):Prop:= ∀x∈l,aQw x
def aQx:Rd Int:=fun _ cs n=>cs= [.int .u8 n]/\aQw n
theorem aOb {H:Type}{enc:TypeId × Value->H}{P:Program}{w:World}{base:Nat}{spare:Nat->Bool}{held:Bool}{t:TypeId}{fuel:Nat}{cs:List Value}{x:DataW H × List MemPlace}(ht:P.underlying t=some (.int .u8))(h:DataW.trod enc P w base spare held fuel t cs=some x): ∃n,aQx w cs n:=by
 obtain⟨n,rfl,_,hw⟩:=DataW.trod_int ht h;exact⟨n,rfl,aLe hw⟩
def RByteS:Rd (List Int):=fun w cs l=>lQ (Lv w) w [.sl 5 1 (l.map bD)] cs/\aLf l
theorem openByteS {H:Type}{enc:TypeId × Value->H}{w:World}{base:Nat}{spare:Nat->Bool}{held:Bool}{fuel:Nat}{cs:List Value}{x:DataW H × List MemPlace}(h:DataW.trod enc Tryz.prog w base spare held fuel 22 cs=some x): ∃l,RByteS w cs l:=by
 obtain⟨l,hl⟩:=aKr (k:=1) (R:=aQx) Tryz.underlying22 (by kernel_rfl) (by omega) (fun _ _ _ h=>aOb Tryz.underlying5 h) h;have hf:aLf l:=hl.all_ (fun _ _ _ h=>h.2);obtain⟨A,c,rfl,_⟩:=id hl;exact⟨l,aJL (aPQ (R:=aQx) (enc:=bD) (fun cs x h=>by obtain⟨rfl,_⟩:=h;exact aJL aSG aMS) hl) aMS,hf⟩
end Go.Proofs.YtafmaholhcgakaaGreat
