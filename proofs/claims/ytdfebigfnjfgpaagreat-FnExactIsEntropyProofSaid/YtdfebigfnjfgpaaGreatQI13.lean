/-
  Contracts and plain laws, joined: part 14.
-/
import Derived.Test.YtdfebigfnjfgpaaGreatQI10
import Derived.Test.YtdfebigfnjfgpaaGreatQI12
import Derived.Test.YtdfebigfnjfgpaaGreatQI9
import Derived.Test.YtdfebigfnjfgpaaGreatQI8
import Derived.Test.YtdfebigfnjfgpaaGreatQI7
import Derived.Test.YtdfebigfnjfgpaaGreatQI11
namespace Go.Proofs.YtdfebigfnjfgpaaGreat
open Go.ChangeShapes Go.WideShapes Go.ChangeAt Go.RowKit
set_option linter.unusedVariables false
set_option linter.unusedSimpArgs false
set_option maxRecDepth 100000
set_option maxHeartbeats 4000000
abbrev yS (d:aS) (x:aW):AV × List (Nat × Rs):=(.own 0,[(0,.arr 3 1 true ((wD d x).map intD))])
abbrev aEA (d:aS) (x:aW):Prop:=cT Tryz.prog 216 [.agg [.sl 167 3 (d.tables.map aR)],.agg [.str x.name,.int .i64 x.column,.str x.into,.int .i64 x.intoColumn]] (yS d x).1 (yS d x).2
theorem aOm (d:aS) (x:aW) (hc:bN d≤1048576):aEA d x:=by
 refine aT bE aL Tryz.func216 (by kernel_rfl) (.call (vB (eS d x)) []<| .br (.fin [(0,1500)]) (.call (.tup [.agg [.p none (.str (((aG d x.name).1).name)),vI (((aG d x.name).1).arity),.p none (.sl 39 1 ((((aG d x.name).1).rows).map aA))],vB ((aG d x.name).2)]) []<| .call (.tup [.agg [.p none (.str (((aG d x.into).1).name)),vI (((aG d x.into).1).arity),.p none (.sl 39 1 ((((aG d x.into).1).rows).map aA))],vB ((aG d x.into).2)]) []<| .loop (Nat × (List Int)) (Q2 Nat (List Int)) [5,10,11,12,13,14,15,35,36,37,38,39,40,41,42,43,44,45,46,47,48,49,50,51,52,53,54,55,56,57,58,59,60,61,62,63,64,65,66,67,68,69,70,71,72,73,74,75,76,77,78,79,80,81,82,83,84,85,86,87,88,89] [1500,8800,8900] (fun yy0=>[(10,vI (yy0.1:Int)),(5,.own 1500)]) (fun yy0=>[(1500,some (.arr 3 1 true (yy0.2.map intD)))]) (fun yy0=>yy0.1≤10∧yy0.2=oI d x yy0.1) (fun yy0=>10 - yy0.1) (fun yy0=> .br (.loop (Nat × Bool) (Q2 Nat Bool) [11,13,39,40,41,42,43,44,45,46,47,48,49,50,51,52,53,54,55,56,57,58,59] [] (fun yy1=>[(13,vI (yy1.1:Int)),(11,vB yy1.2)]) (fun yy1=>[]) (fun yy1=>yy1.1≤(aG d x.name).1.rows.length∧yy1.2=decide ((yy0.1:Int)∈jC ((aG d x.name).1.rows.take yy1.1) x.column)) (fun yy1=>(aG d x.name).1.rows.length - yy1.1) (fun yy1=> .len ((((aG d x.name).1).rows).length)<| .br (.br (.back []) (.elem _ aA (((aG d x.name).1).rows) (fun e51=> .elem _ intD e51 (fun e55=> .back [])))) (.loop (Nat × Bool) (Q2 Nat Bool) [12,14,60,61,62,63,64,65,66,67,68,69,70,71,72,73,74,75,76,77,78,79,80] [] (fun yy2=>[(14,vI (yy2.1:Int)),(12,vB yy2.2)]) (fun yy2=>[]) (fun yy2=>yy2.1≤(aG d x.into).1.rows.length∧yy2.2=decide ((yy0.1:Int)∈jC ((aG d x.into).1.rows.take yy2.1) x.intoColumn)) (fun yy2=>(aG d x.into).1.rows.length - yy2.1) (fun yy2=> .len ((((aG d x.into).1).rows).length)<| .br (.br (.back []) (.elem _ aA (((aG d x.into).1).rows) (fun e72=> .elem _ intD e72 (fun e76=> .back [])))) (.br (.lit<| .lit<| .br (.app Int intD yy0.2 ([(yy0.1:Int)]:List Int)<| .back [(1500,8900)]) (.back [(1500,1500)])) (.back [(1500,1500)])))))) (.fin [(0,1500)])))) (p:=(d.tables.map aR).length≤9223372036854775807→vE d x∧(((!(eS d x))=true→[]=(wD d x).map intD∧True)∧((!(eS d x))=false→cT Tryz.prog 168 [.agg [.sl 167 3 (d.tables.map aR)],.one (.str x.name)] (.tup [.agg [.p none (.str (((aG d x.name).1).name)),vI (((aG d x.name).1).arity),.p none (.sl 39 1 ((((aG d x.name).1).rows).map aA))],vB ((aG d x.name).2)]) []∧(cT Tryz.prog 168 [.agg [.sl 167 3 (d.tables.map aR)],.one (.str x.into)] (.tup [.agg [.p none (.str (((aG d x.into).1).name)),vI (((aG d x.into).1).arity),.p none (.sl 39 1 ((((aG d x.into).1).rows).map aA))],vB ((aG d x.into).2)]) []∧((∃(v:Nat) (out:List Int),(0:Int)=(v:Int)∧[]=out.map intD∧v≤10∧out=oI d x v)∧ ∀(v:Nat) (out:List Int),(v≤10∧out=oI d x v)→((decide ((v:Int)≤(9:Int)))=true→(∃(k:Nat) (p:Bool),(0:Int)=(k:Int)∧(false)=p∧k≤(aG d x.name).1.rows.length∧p=decide ((v:Int)∈jC ((aG d x.name).1.rows.take k) x.column))∧ ∀(k:Nat) (p:Bool),(k≤(aG d x.name).1.rows.length∧p=decide ((v:Int)∈jC ((aG d x.name).1.rows.take k) x.column))→Lm aA (((aG d x.name).1).rows)∧(((decide ((k:Int)<(((((aG d x.name).1).rows).length:Nat):Int)))=true→((p)=true→cC ((k:Int)+(1:Int))∧ ∃(k' :Nat) (p' :Bool),((k:Int)+(1:Int))=(k' :Int)∧(true)=p' ∧(k' ≤(aG d x.name).1.rows.length∧p' =decide ((v:Int)∈jC ((aG d x.name).1.rows.take k') x.column))∧(aG d x.name).1.rows.length - k' <(aG d x.name).1.rows.length - k)∧((p)=false→0≤(k:Int)∧Em aA (((aG d x.name).1).rows) k fun e51=>0≤x.column∧Em intD e51 ((x.column).toNat) fun e55=>cC ((k:Int)+(1:Int))∧ ∃(k' :Nat) (p' :Bool),((k:Int)+(1:Int))=(k' :Int)∧(decide (e55=(v:Int)))=p' ∧(k' ≤(aG d x.name).1.rows.length∧p' =decide ((v:Int)∈jC ((aG d x.name).1.rows.take k') x.column))∧(aG d x.name).1.rows.length - k' <(aG d x.name).1.rows.length - k))∧((decide ((k:Int)<(((((aG d x.name).1).rows).length:Nat):Int)))=false→(∃(j:Nat) (q:Bool),(0:Int)=(j:Int)∧(false)=q∧j≤(aG d x.into).1.rows.length∧q=decide ((v:Int)∈jC ((aG d x.into).1.rows.take j) x.intoColumn))∧ ∀(j:Nat) (q:Bool),(j≤(aG d x.into).1.rows.length∧q=decide ((v:Int)∈jC ((aG d x.into).1.rows.take j) x.intoColumn))→Lm aA (((aG d x.into).1).rows)∧(((decide ((j:Int)<(((((aG d x.into).1).rows).length:Nat):Int)))=true→((q)=true→cC ((j:Int)+(1:Int))∧ ∃(j' :Nat) (q' :Bool),((j:Int)+(1:Int))=(j' :Int)∧(true)=q' ∧(j' ≤(aG d x.into).1.rows.length∧q' =decide ((v:Int)∈jC ((aG d x.into).1.rows.take j') x.intoColumn))∧(aG d x.into).1.rows.length - j' <(aG d x.into).1.rows.length - j)∧((q)=false→0≤(j:Int)∧Em aA (((aG d x.into).1).rows) j fun e72=>0≤x.intoColumn∧Em intD e72 ((x.intoColumn).toNat) fun e76=>cC ((j:Int)+(1:Int))∧ ∃(j' :Nat) (q' :Bool),((j:Int)+(1:Int))=(j' :Int)∧(decide (e76=(v:Int)))=q' ∧(j' ≤(aG d x.into).1.rows.length∧q' =decide ((v:Int)∈jC ((aG d x.into).1.rows.take j') x.intoColumn))∧(aG d x.into).1.rows.length - j' <(aG d x.into).1.rows.length - j))∧((decide ((j:Int)<(((((aG d x.into).1).rows).length:Nat):Int)))=false→((p)=true→((!q)=true→out.map intD=out.map intD∧[[.int .i64 (v:Int)]]=([(v:Int)]:List Int).map intD∧(∀x,eL (intD x)=true)∧(out.length+([(v:Int)]:List Int).length)*8≤140737488355328∧cC ((v:Int)+(1:Int))∧ ∃(v' :Nat) (out' :List Int),((v:Int)+(1:Int))=(v' :Int)∧(out++[(v:Int)]).map intD=out'.map intD∧(v' ≤10∧out' =oI d x v')∧10 - v' <10 - v)∧((!q)=false→cC ((v:Int)+(1:Int))∧ ∃(v' :Nat) (out' :List Int),((v:Int)+(1:Int))=(v' :Int)∧out.map intD=out'.map intD∧(v' ≤10∧out' =oI d x v')∧10 - v' <10 - v))∧((p)=false→cC ((v:Int)+(1:Int))∧ ∃(v' :Nat) (out' :List Int),((v:Int)+(1:Int))=(v' :Int)∧out.map intD=out'.map intD∧(v' ≤10∧out' =oI d x v')∧10 - v' <10 - v))))))∧((decide ((v:Int)≤(9:Int)))=false→out.map intD=(wD d x).map intD∧True)))))) (by kernel_rfl) ?_
 intro n0
 simp only [List.length_map] at n0
 refine ⟨aGX _ _ (by omega),fun c0=>?_,fun c0=>?_⟩
 ·replace c0:=nt c0
  have hbad:wD d x= []:=by rw [wD,if_neg (by simpa using c0)]
  refine ⟨?_,trivial⟩
  ·first | (rw [hbad]<;>rfl) | (rw [hE]<;>rfl)
 ·replace c0:=nf c0
  have hok:eS d x=true:=by simpa using c0
  obtain ⟨hTa,hTb,hca,hcb⟩:=yJ hok
  have hA8:=cN hTa
  have hB8:=cN hTb
  refine ⟨kO (rV _ x.name (by omega)) rfl,kO (rV _ x.into (by omega)) rfl,⟨0,([]:List Int),rfl,rfl,by omega,rfl⟩,fun v out ⟨hvv,ho⟩=>?_⟩
  have hol:=aO2 d x v
  rw [←ho] at hol
  refine ⟨fun c1=>?_,fun c1=>?_⟩
  ·replace c1:=yq c1
   refine ⟨⟨0,false,rfl,rfl,Nat.zero_le _,rfl⟩,fun k p ⟨hk,hp⟩=>?_⟩
   refine ⟨List.length_map _,fun c2=>?_,fun c2=>?_⟩
   ·replace c2:=yq c2
    obtain ⟨ra,hra⟩:=dG (l:=(aG d x.name).1.rows) (k:=k) (by omega)
    refine ⟨fun g47=>?_,fun g47=>?_⟩
    ·refine ⟨⟨by omega,by omega⟩,?_⟩
     exact ⟨k+1,_,rfl,rfl,⟨by omega,by rw [mY _ _ hra,uA,←hp,g47];rfl⟩,by omega⟩
    ·refine ⟨by omega,rfl,by omega,fun e51 h51=>?_⟩
     have hl51:=pH hTa (List.mem_of_getElem? h51)
     refine ⟨by omega,rfl,by omega,fun e55 h55=>?_⟩
     refine ⟨⟨by omega,by omega⟩,?_⟩
     exact ⟨k+1,_,rfl,rfl,⟨by omega,by obtain rfl:=aY h51 hra;rw [mY _ _ hra,uA,←hp,g47,bC h55,Bool.false_or];exact decide_eq_decide.2 ⟨Eq.symm,Eq.symm⟩⟩,by omega⟩
   ·replace c2:=nq c2
    have hP:p=decide ((v:Int)∈jC (aG d x.name).1.rows x.column):=by rw [hp,List.take_of_length_le (by omega)]
    refine ⟨⟨0,false,rfl,rfl,Nat.zero_le _,rfl⟩,fun j q ⟨hj,hq⟩=>?_⟩
    refine ⟨List.length_map _,fun c3=>?_,fun c3=>?_⟩
    ·replace c3:=yq c3
     obtain ⟨rb,hrb⟩:=dG (l:=(aG d x.into).1.rows) (k:=j) (by omega)
     refine ⟨fun g68=>?_,fun g68=>?_⟩
     ·refine ⟨⟨by omega,by omega⟩,?_⟩
      exact ⟨j+1,_,rfl,rfl,⟨by omega,by rw [mY _ _ hrb,uA,←hq,g68];rfl⟩,by omega⟩
     ·refine ⟨by omega,rfl,by omega,fun e72 h72=>?_⟩
      have hl72:=pH hTb (List.mem_of_getElem? h72)
      refine ⟨by omega,rfl,by omega,fun e76 h76=>?_⟩
      refine ⟨⟨by omega,by omega⟩,?_⟩
      exact ⟨j+1,_,rfl,rfl,⟨by omega,by obtain rfl:=aY h72 hrb;rw [mY _ _ hrb,uA,←hq,g68,bC h76,Bool.false_or];exact decide_eq_decide.2 ⟨Eq.symm,Eq.symm⟩⟩,by omega⟩
    ·replace c3:=nq c3
     have hQ:q=decide ((v:Int)∈jC (aG d x.into).1.rows x.intoColumn):=by rw [hq,List.take_of_length_le (by omega)]
     refine ⟨fun g82=>?_,fun g82=>?_⟩
     ·refine ⟨fun c4=>?_,fun c4=>?_⟩
      ·replace c4:=nt c4
       refine ⟨rfl,rfl,fun _=>rfl,by first | omega | (simp [ho];omega) | (simp;omega),?_⟩
       refine ⟨⟨by omega,by omega⟩,?_⟩
       exact ⟨v+1,_,rfl,rfl,⟨by omega,by rw [ho,aO1 (by rw [aCU,←hP,←hQ,g82,c4];rfl)]⟩,by omega⟩
      ·replace c4:=nf c4
       refine ⟨⟨by omega,by omega⟩,?_⟩
       exact ⟨v+1,_,rfl,rfl,⟨by omega,by rw [ho,aLL (by rw [aCU,←hP,←hQ,g82,c4];rfl)]⟩,by omega⟩
     ·refine ⟨⟨by omega,by omega⟩,?_⟩
      exact ⟨v+1,_,rfl,rfl,⟨by omega,by rw [ho,aLL (by rw [aCU,←hP,←hQ,g82];rfl)]⟩,by omega⟩
  ·replace c1:=nq c1
   have hE:wD d x=out:=by rw [wD,if_pos hok,ho,show v=10 by omega]
   refine ⟨?_,trivial⟩
   ·first | (rw [hbad]<;>rfl) | (rw [hE]<;>rfl)
abbrev aC1 (d:aS) (x:aW):Prop:=cT Tryz.prog 194 [.agg [.sl 167 3 (d.tables.map aR)],.agg [.str x.name,.int .i64 x.column,.str x.into,.int .i64 x.intoColumn]] (vB (jN d x)) []
theorem aM5 (d:aS) (x:aW) (hc:bN d≤1048576):aC1 d x:=by
 refine aT bE aL Tryz.func194 (by kernel_rfl) (.call (vB (eS d x)) []<| .br (bV (yS d x)<| .len ((wD d x).length)<| .fin []) (.fin [])) (p:=(d.tables.map aR).length≤9223372036854775807→vE d x∧(((eS d x)=true→aEA d x∧Lm intD (wD d x)∧(decide ((((wD d x).length:Nat):Int)=(0:Int)))=(jN d x)∧True)∧((eS d x)=false→(false)=(jN d x)∧True))) (by kernel_rfl) ?_
 intro n0
 simp only [List.length_map] at n0
 refine ⟨aGX _ _ (by omega),fun g8=>?_,fun g8=>?_⟩
 ·refine ⟨aOm _ _ (by omega),List.length_map _,?_,trivial⟩
  ·first | (simp [jN, *];done) | (rw [jN,g8,pZ,aIr g8];rfl)
 ·refine ⟨?_,trivial⟩
  ·first | (simp [jN, *];done) | (rw [jN,g8,pZ,aIr g8];rfl)
def fI (d:aS) (l:List aX) (m:List aW):Bool:=l.all (jM d)&&(m.all (jN d)&&(decide ((l.length:Int)≤8)&&decide ((m.length:Int)≤8)))
abbrev aEB (d:aS) (l:List aX) (m:List aW):Prop:=cT Tryz.prog 148 [.agg [.sl 167 3 (d.tables.map aR)],.one (.sl 131 3 (l.map aM)),.one (.sl 133 4 (m.map aQ))] (vB (fI d l m)) []
theorem aOn (d:aS) (l:List aX) (m:List aW) (hc:bN d≤1048576):aEB d l m:=by
 refine aT bE aL Tryz.func148 (by kernel_rfl) (.len l.length<| .loop Nat (Q1 Nat) [8,13,14,15,16,17,18,19,20,21] [800] (fun k=>[(13,vI (k:Int))]) (fun k=>[]) (fun k=>k≤l.length∧(l.take k).all (jM d)=true) (fun k=>l.length - k) (fun k=> .br (.elem _ aM l (fun e15=> .call (vB (jM d e15)) []<| .br (.fin []) (.back []))) (.len m.length<| .loop Nat (Q1 Nat) [10,24,25,26,27,28,29,30,31,32] [1000] (fun j=>[(24,vI (j:Int))]) (fun j=>[]) (fun j=>j≤m.length∧(m.take j).all (jN d)=true) (fun j=>m.length - j) (fun j=> .br (.elem _ aQ m (fun e26=> .call (vB (jN d e26)) []<| .br (.fin []) (.back []))) (.len l.length<| .br (.len m.length<| .fin []) (.fin [])))))) (p:=(d.tables.map aR).length≤9223372036854775807→(l.map aM).length≤9223372036854775807→(m.map aQ).length≤9223372036854775807→Lm aM l∧((∃(k:Nat),(0:Int)=(k:Int)∧k≤l.length∧(l.take k).all (jM d)=true)∧ ∀(k:Nat),(k≤l.length∧(l.take k).all (jM d)=true)→((decide ((k:Int)<((l.length:Nat):Int)))=true→0≤(k:Int)∧Em aM l k fun e15=>aCY d e15∧(((!(jM d e15))=true→(false)=(fI d l m)∧True)∧((!(jM d e15))=false→cC ((k:Int)+(1:Int))∧ ∃(k' :Nat),((k:Int)+(1:Int))=(k' :Int)∧(k' ≤l.length∧(l.take k').all (jM d)=true)∧l.length - k' <l.length - k)))∧((decide ((k:Int)<((l.length:Nat):Int)))=false→Lm aQ m∧((∃(j:Nat),(0:Int)=(j:Int)∧j≤m.length∧(m.take j).all (jN d)=true)∧ ∀(j:Nat),(j≤m.length∧(m.take j).all (jN d)=true)→((decide ((j:Int)<((m.length:Nat):Int)))=true→0≤(j:Int)∧Em aQ m j fun e26=>aC0 d e26∧(((!(jN d e26))=true→(false)=(fI d l m)∧True)∧((!(jN d e26))=false→cC ((j:Int)+(1:Int))∧ ∃(j' :Nat),((j:Int)+(1:Int))=(j' :Int)∧(j' ≤m.length∧(m.take j').all (jN d)=true)∧m.length - j' <m.length - j)))∧((decide ((j:Int)<((m.length:Nat):Int)))=false→Lm aM l∧(((decide (((l.length:Nat):Int)≤(8:Int)))=true→Lm aQ m∧(decide (((m.length:Nat):Int)≤(8:Int)))=(fI d l m)∧True)∧((decide (((l.length:Nat):Int)≤(8:Int)))=false→(false)=(fI d l m)∧True))))))) (by kernel_rfl) ?_
 intro n0 n1 n2
 simp only [List.length_map] at n0 n1 n2
 refine ⟨List.length_map _,⟨0,rfl,Nat.zero_le _,rfl⟩,fun k ⟨hk,ha⟩=>?_⟩
 refine ⟨fun c0=>?_,fun c0=>?_⟩
 ·replace c0:=yq c0
  refine ⟨by omega,rfl,by omega,fun e15 h15=>?_⟩
  refine ⟨aM2 _ _ (by omega),fun c1=>?_,fun c1=>?_⟩
  ·replace c1:=nt c1
   have hL:l.all (jM d)=false:=bU h15 (by simpa using c1)
   refine ⟨?_,trivial⟩
   ·first | (simp [fI,hL];done) | (simp [fI,hL,hM];done) | (simp [fI,hL,hM, *];done)
  ·replace c1:=nf c1
   refine ⟨⟨by omega,by omega⟩,?_⟩
   exact ⟨k+1,rfl,⟨by omega,cR h15 ha (by simpa using c1)⟩,by omega⟩
 ·replace c0:=nq c0
  have hL:=bB (by omega) ha
  refine ⟨List.length_map _,⟨0,rfl,Nat.zero_le _,rfl⟩,fun j ⟨hj,hb⟩=>?_⟩
  refine ⟨fun c2=>?_,fun c2=>?_⟩
  ·replace c2:=yq c2
   refine ⟨by omega,rfl,by omega,fun e26 h26=>?_⟩
   refine ⟨aM4 _ _ (by omega),fun c3=>?_,fun c3=>?_⟩
   ·replace c3:=nt c3
    have hM:m.all (jN d)=false:=bU h26 (by simpa using c3)
    refine ⟨?_,trivial⟩
    ·first | (simp [fI,hL];done) | (simp [fI,hL,hM];done) | (simp [fI,hL,hM, *];done)
   ·replace c3:=nf c3
    refine ⟨⟨by omega,by omega⟩,?_⟩
    exact ⟨j+1,rfl,⟨by omega,cR h26 hb (by simpa using c3)⟩,by omega⟩
  ·replace c2:=nq c2
   have hM:=bB (by omega) hb
   refine ⟨List.length_map _,fun g36=>?_,fun g36=>?_⟩
   ·replace g36:=yq g36
    refine ⟨List.length_map _,?_,trivial⟩
    ·first | (simp [fI,hL];done) | (simp [fI,hL,hM];done) | (simp [fI,hL,hM, *];done)
   ·replace g36:=nq g36
    refine ⟨?_,trivial⟩
    ·first | (simp [fI,hL];done) | (simp [fI,hL,hM];done) | (simp [fI,hL,hM, *];done)
abbrev aEC (d:aS) (l:List aX) (m:List aW):Prop:=cT Tryz.prog 167 [.agg [.sl 167 3 (d.tables.map aR)],.one (.sl 131 3 (l.map aM)),.one (.sl 133 4 (m.map aQ))] (vB (fI d l m)) []
theorem aOo (d:aS) (l:List aX) (m:List aW) (hc:bN d≤1048576):aEC d l m:=by
 refine aT bE aL Tryz.func167 (by kernel_rfl) (.len l.length<| .br (.fin []) (.len m.length<| .lit<| .lit<| .br (.fin []) (.loop Nat (Q1 Nat) [7,17,18,19,20,21,22,23,24,25,26,27,28,29] [] (fun k=>[(7,vI (k:Int))]) (fun k=>[]) (fun k=>k≤l.length∧(l.take k).all (jM d)=true) (fun k=>l.length - k) (fun k=> .len l.length<| .br (.elem _ aM l (fun e26=> .call (vB (jM d e26)) []<| .br (.fin []) (.back []))) (.loop Nat (Q1 Nat) [8,30,31,32,33,34,35,36,37,38,39,40,41,42] [] (fun j=>[(8,vI (j:Int))]) (fun j=>[]) (fun j=>j≤m.length∧(m.take j).all (jN d)=true) (fun j=>m.length - j) (fun j=> .len m.length<| .br (.elem _ aQ m (fun e39=> .call (vB (jN d e39)) []<| .br (.fin []) (.back []))) (.fin []))))))) (p:=(d.tables.map aR).length≤9223372036854775807→(l.map aM).length≤9223372036854775807→(m.map aQ).length≤9223372036854775807→Lm aM l∧(((decide ((8:Int)<((l.length:Nat):Int)))=true→(false)=(fI d l m)∧True)∧((decide ((8:Int)<((l.length:Nat):Int)))=false→Lm aQ m∧(((decide ((8:Int)<((m.length:Nat):Int)))=true→(false)=(fI d l m)∧True)∧((decide ((8:Int)<((m.length:Nat):Int)))=false→(∃(k:Nat),(0:Int)=(k:Int)∧k≤l.length∧(l.take k).all (jM d)=true)∧ ∀(k:Nat),(k≤l.length∧(l.take k).all (jM d)=true)→Lm aM l∧(((decide ((k:Int)<((l.length:Nat):Int)))=true→0≤(k:Int)∧Em aM l k fun e26=>aCZ d e26∧(((!(jM d e26))=true→(false)=(fI d l m)∧True)∧((!(jM d e26))=false→cC ((k:Int)+(1:Int))∧ ∃(k' :Nat),((k:Int)+(1:Int))=(k' :Int)∧(k' ≤l.length∧(l.take k').all (jM d)=true)∧l.length - k' <l.length - k)))∧((decide ((k:Int)<((l.length:Nat):Int)))=false→(∃(j:Nat),(0:Int)=(j:Int)∧j≤m.length∧(m.take j).all (jN d)=true)∧ ∀(j:Nat),(j≤m.length∧(m.take j).all (jN d)=true)→Lm aQ m∧(((decide ((j:Int)<((m.length:Nat):Int)))=true→0≤(j:Int)∧Em aQ m j fun e39=>aC1 d e39∧(((!(jN d e39))=true→(false)=(fI d l m)∧True)∧((!(jN d e39))=false→cC ((j:Int)+(1:Int))∧ ∃(j' :Nat),((j:Int)+(1:Int))=(j' :Int)∧(j' ≤m.length∧(m.take j').all (jN d)=true)∧m.length - j' <m.length - j)))∧((decide ((j:Int)<((m.length:Nat):Int)))=false→(true)=(fI d l m)∧True))))))))) (by kernel_rfl) ?_
 intro n0 n1 n2
 simp only [List.length_map] at n0 n1 n2
 refine ⟨List.length_map _,fun g12=>?_,fun g12=>?_⟩
 ·replace g12:=yq g12
  have hbad:(decide ((l.length:Int)≤8)&&decide ((m.length:Int)≤8))=false:=by first | (simp;omega) | (simp [*];omega)
  refine ⟨?_,trivial⟩
  ·first | (rw [fI,hbad];simp;done) | (rw [fI,hL,hM,hz];rfl) | (rw [fI,hL];rfl) | (rw [fI,hL,hM];rfl)
 ·replace g12:=nq g12
  refine ⟨List.length_map _,fun c0=>?_,fun c0=>?_⟩
  ·replace c0:=yq c0
   have hbad:(decide ((l.length:Int)≤8)&&decide ((m.length:Int)≤8))=false:=by first | (simp;omega) | (simp [*];omega)
   refine ⟨?_,trivial⟩
   ·first | (rw [fI,hbad];simp;done) | (rw [fI,hL,hM,hz];rfl) | (rw [fI,hL];rfl) | (rw [fI,hL,hM];rfl)
  ·replace c0:=nq c0
   have hz:(decide ((l.length:Int)≤8)&&decide ((m.length:Int)≤8))=true:=by simp;omega
   refine ⟨⟨0,rfl,Nat.zero_le _,rfl⟩,fun k ⟨hk,ha⟩=>?_⟩
   refine ⟨List.length_map _,fun c1=>?_,fun c1=>?_⟩
   ·replace c1:=yq c1
    refine ⟨by omega,rfl,by omega,fun e26 h26=>?_⟩
    refine ⟨aM3 _ _ (by omega),fun c2=>?_,fun c2=>?_⟩
    ·replace c2:=nt c2
     have hL:l.all (jM d)=false:=bU h26 (by simpa using c2)
     refine ⟨?_,trivial⟩
     ·first | (rw [fI,hbad];simp;done) | (rw [fI,hL,hM,hz];rfl) | (rw [fI,hL];rfl) | (rw [fI,hL,hM];rfl)
    ·replace c2:=nf c2
     refine ⟨⟨by omega,by omega⟩,?_⟩
     exact ⟨k+1,rfl,⟨by omega,cR h26 ha (by simpa using c2)⟩,by omega⟩
   ·replace c1:=nq c1
    have hL:=bB (by omega) ha
    refine ⟨⟨0,rfl,Nat.zero_le _,rfl⟩,fun j ⟨hj,hb⟩=>?_⟩
    refine ⟨List.length_map _,fun c3=>?_,fun c3=>?_⟩
    ·replace c3:=yq c3
     refine ⟨by omega,rfl,by omega,fun e39 h39=>?_⟩
     refine ⟨aM5 _ _ (by omega),fun c4=>?_,fun c4=>?_⟩
     ·replace c4:=nt c4
      have hM:m.all (jN d)=false:=bU h39 (by simpa using c4)
      refine ⟨?_,trivial⟩
      ·first | (rw [fI,hbad];simp;done) | (rw [fI,hL,hM,hz];rfl) | (rw [fI,hL];rfl) | (rw [fI,hL,hM];rfl)
     ·replace c4:=nf c4
      refine ⟨⟨by omega,by omega⟩,?_⟩
      exact ⟨j+1,rfl,⟨by omega,cR h39 hb (by simpa using c4)⟩,by omega⟩
    ·replace c3:=nq c3
     have hM:=bB (by omega) hb
     refine ⟨?_,trivial⟩
     ·first | (rw [fI,hbad];simp;done) | (rw [fI,hL,hM,hz];rfl) | (rw [fI,hL];rfl) | (rw [fI,hL,hM];rfl)
def fJ (s:StoreD):Bool:=(gA s.database s.catalogue.version).2&&(decide ((gA s.database s.catalogue.version).1=s.catalogue)&&fI s.database s.dependencies s.inclusions)
abbrev aED (s:StoreD):Prop:=cT Tryz.prog 112 [.agg [.sl 167 3 (s.database.tables.map aR),.int .i64 s.catalogue.version,.sl 161 4 (s.catalogue.tables.map aE),.sl 131 3 (s.dependencies.map aM),.sl 133 4 (s.inclusions.map aQ)]] (vB (fJ s)) []
theorem aOp (s:StoreD) (hc:eG s≤1048576):aED s:=by
 refine aT bE aL Tryz.func112 (by kernel_rfl) (bV (aBF s.database s.catalogue.version)<| .br (.call (vB (decide (((gA s.database s.catalogue.version).1)=s.catalogue))) []<| .lit<| .br (.call (vB (fI s.database s.dependencies s.inclusions)) []<| .fin []) (.fin [])) (.fin [])) (p:=(s.database.tables.map aR).length≤9223372036854775807→(s.catalogue.tables.map aE).length≤9223372036854775807→(s.dependencies.map aM).length≤9223372036854775807→(s.inclusions.map aQ).length≤9223372036854775807→aGH s.database s.catalogue.version∧((((gA s.database s.catalogue.version).2)=true→aCD ((gA s.database s.catalogue.version).1) s.catalogue∧(((decide (((gA s.database s.catalogue.version).1)=s.catalogue))=true→aEB s.database s.dependencies s.inclusions∧(fI s.database s.dependencies s.inclusions)=(fJ s)∧True)∧((decide (((gA s.database s.catalogue.version).1)=s.catalogue))=false→(false)=(fJ s)∧True)))∧(((gA s.database s.catalogue.version).2)=false→(false)=(fJ s)∧True))) (by kernel_rfl) ?_
 intro n0 n1 n2 n3
 simp only [List.length_map] at n0 n1 n2 n3
 have hS:eG s=bN s.database+bT s.catalogue+cH s.dependencies+dL s.inclusions:=rfl
 have hsm:=aIl s.database s.catalogue.version
 refine ⟨aQo s.database s.catalogue.version,fun g15=>?_,fun g15=>?_⟩
 ·refine ⟨aMO _ _,fun g21=>?_,fun g21=>?_⟩
  ·replace g21:=yq g21
   refine ⟨aOn s.database _ _ (by omega),?_,trivial⟩
   ·first | (simp [fJ, *];done) | (simp_all [fJ];done)
  ·replace g21:=nq g21
   refine ⟨?_,trivial⟩
   ·first | (simp [fJ, *];done) | (simp_all [fJ];done)
 ·refine ⟨?_,trivial⟩
  ·first | (simp [fJ, *];done) | (simp_all [fJ];done)
abbrev aEE (s:StoreD):Prop:=cT Tryz.prog 132 [.agg [.sl 167 3 (s.database.tables.map aR),.int .i64 s.catalogue.version,.sl 161 4 (s.catalogue.tables.map aE),.sl 131 3 (s.dependencies.map aM),.sl 133 4 (s.inclusions.map aQ)]] (vB (fJ s)) []
theorem aOq (s:StoreD) (hc:eG s≤1048576):aEE s:=by
 refine aT bE aL Tryz.func132 (by kernel_rfl) (bV (aBG s.database s.catalogue.version)<| .br (.call (vB (decide (((gA s.database s.catalogue.version).1)=s.catalogue))) []<| .lit<| .br (.call (vB (fI s.database s.dependencies s.inclusions)) []<| .fin []) (.fin [])) (.fin [])) (p:=(s.database.tables.map aR).length≤9223372036854775807→(s.catalogue.tables.map aE).length≤9223372036854775807→(s.dependencies.map aM).length≤9223372036854775807→(s.inclusions.map aQ).length≤9223372036854775807→aGI s.database s.catalogue.version∧((((gA s.database s.catalogue.version).2)=true→aCF ((gA s.database s.catalogue.version).1) s.catalogue∧(((decide (((gA s.database s.catalogue.version).1)=s.catalogue))=true→aEC s.database s.dependencies s.inclusions∧(fI s.database s.dependencies s.inclusions)=(fJ s)∧True)∧((decide (((gA s.database s.catalogue.version).1)=s.catalogue))=false→(false)=(fJ s)∧True)))∧(((gA s.database s.catalogue.version).2)=false→(false)=(fJ s)∧True))) (by kernel_rfl) ?_
 intro n0 n1 n2 n3
 simp only [List.length_map] at n0 n1 n2 n3
 have hS:eG s=bN s.database+bT s.catalogue+cH s.dependencies+dL s.inclusions:=rfl
 have hsm:=aIl s.database s.catalogue.version
 refine ⟨aQp s.database s.catalogue.version,fun g15=>?_,fun g15=>?_⟩
 ·refine ⟨aMP _ _ (by omega),fun g21=>?_,fun g21=>?_⟩
  ·replace g21:=yq g21
   refine ⟨aOo s.database _ _ (by omega),?_,trivial⟩
   ·first | (simp [fJ, *];done) | (simp_all [fJ];done)
  ·replace g21:=nq g21
   refine ⟨?_,trivial⟩
   ·first | (simp [fJ, *];done) | (simp_all [fJ];done)
 ·refine ⟨?_,trivial⟩
  ·first | (simp [fJ, *];done) | (simp_all [fJ];done)
abbrev aBP (x:aH):AV × List (Nat × Rs):=(.agg [.p none (.str x.name),vI x.arity,vI x.rowCount,.own 0],[(0,.arr 203 3 true (x.groups.map aB))])
abbrev aGf (x:aH):Prop:=cT Tryz.prog 173 [.agg [.str x.name,.int .i64 x.arity,.int .i64 x.rowCount,.sl 203 3 (x.groups.map aB)]] (aBP x).1 (aBP x).2
theorem aRM (x:aH) (hc:bA x≤1048576):aGf x:=by
 refine aT bE aL Tryz.func173 (by kernel_rfl) (.loop (Nat × (List aP)) (Q2 Nat (List aP)) [4,5,6,14,15,16,17,18,19,20,21,22,23,24,25,26,27,28,29,30,31,32,33,34,35,36,37,38,39,40,41,42,43,44,45,46,47,48,49,50,51,52,53,54,55,56,57,58,59,60,61,62,63,64,65,66,67,68,69,70] [300,500,2100,2800,2900,3600,5100,6100,6200,6300,6800,6900,9000,9001] (fun yy0=>[(4,vI (yy0.1:Int))]) (fun yy0=>[(300,some (.box 161 [.p none (.str x.name),vI x.arity,vI x.rowCount,.own 9000])),(9000,some (.arr 203 3 true (yy0.2.map aB)))]) (fun yy0=>yy0.1≤x.groups.length∧yy0.2=x.groups.take yy0.1) (fun yy0=>x.groups.length - yy0.1) (fun yy0=> .len x.groups.length<| .br (.elem _ aB x.groups (fun e25=> .app Int intD ([]:List Int) e25.columns<| .elem _ aB x.groups (fun e33=> .app Int intD ([]:List Int) e33.counts<| .loop (Nat × (List (List Int))) (Q2 Nat (List (List Int))) [6,38,39,40,41,42,43,44,45,46,47,48,49,50,51,52,53,54,55,56,57,58,59,60,61,62,63,64] [500,5100,6100,6200,6300,9001] (fun yy1=>[(6,vI (yy1.1:Int))]) (fun yy1=>[(500,some (.box 203 [.own 2800,.own 9001,.own 3600])),(9001,some (.arr 39 1 true (yy1.2.map aA)))]) (fun yy1=>yy1.1≤e25.values.length∧yy1.2=e25.values.take yy1.1) (fun yy1=>e25.values.length - yy1.1) (fun yy1=> .elem _ aB x.groups (fun e42=> .len e42.values.length<| .br (.elem _ aB x.groups (fun e55=> .elem _ aA e55.values (fun e59=> .app Int intD ([]:List Int) e59<| .appx (List Int) aA yy1.2 (([]:List Int)++e59)<| .back [(500,500),(9001,6300)]))) (.appx aP aB yy0.2 (⟨([]:List Int)++e25.columns,yy1.2,([]:List Int)++e33.counts⟩:aP)<| .back [(300,300),(9000,6900)])))))) (.fin [(0,9000)]))) (p:=(x.groups.map aB).length≤9223372036854775807→(∃(k:Nat) (out:List aP),(0:Int)=(k:Int)∧x.name=x.name∧x.arity=x.arity∧x.rowCount=x.rowCount∧[]=out.map aB∧k≤x.groups.length∧out=x.groups.take k)∧ ∀(k:Nat) (out:List aP),(k≤x.groups.length∧out=x.groups.take k)→Lm aB x.groups∧(((decide ((k:Int)<((x.groups.length:Nat):Int)))=true→0≤(k:Int)∧Em aB x.groups k fun e25=>[]=([]:List Int).map intD∧e25.columns.map intD=e25.columns.map intD∧(∀x,eL (intD x)=true)∧(([]:List Int).length+e25.columns.length)*8≤140737488355328∧(0≤(k:Int)∧Em aB x.groups k fun e33=>[]=([]:List Int).map intD∧e33.counts.map intD=e33.counts.map intD∧(∀x,eL (intD x)=true)∧(([]:List Int).length+e33.counts.length)*8≤140737488355328∧((∃(i:Nat) (v:List (List Int)),(0:Int)=(i:Int)∧[]=v.map aA∧i≤e25.values.length∧v=e25.values.take i)∧ ∀(i:Nat) (v:List (List Int)),(i≤e25.values.length∧v=e25.values.take i)→0≤(k:Int)∧Em aB x.groups k fun e42=>Lm aA e42.values∧(((decide ((i:Int)<((e42.values.length:Nat):Int)))=true→0≤(k:Int)∧Em aB x.groups k fun e55=>0≤(i:Int)∧Em aA e55.values i fun e59=>[]=([]:List Int).map intD∧e59.map intD=e59.map intD∧(∀x,eL (intD x)=true)∧(([]:List Int).length+e59.length)*8≤140737488355328∧v.map aA=v.map aA∧(([]:List Int)++e59).map intD=(([]:List Int)++e59).map intD∧(v.length+1)*24≤140737488355328∧cC ((i:Int)+(1:Int))∧ ∃(i' :Nat) (v' :List (List Int)),((i:Int)+(1:Int))=(i' :Int)∧(v++[([]:List Int)++e59]).map aA=v'.map aA∧(i' ≤e25.values.length∧v' =e25.values.take i')∧e25.values.length - i' <e25.values.length - i)∧((decide ((i:Int)<((e42.values.length:Nat):Int)))=false→out.map aB=out.map aB∧(([]:List Int)++e25.columns).map intD=((⟨([]:List Int)++e25.columns,v,([]:List Int)++e33.counts⟩:aP).columns).map intD∧v.map aA=((⟨([]:List Int)++e25.columns,v,([]:List Int)++e33.counts⟩:aP).values).map aA∧(([]:List Int)++e33.counts).map intD=((⟨([]:List Int)++e25.columns,v,([]:List Int)++e33.counts⟩:aP).counts).map intD∧(out.length+1)*72≤140737488355328∧cC ((k:Int)+(1:Int))∧ ∃(k' :Nat) (out' :List aP),((k:Int)+(1:Int))=(k' :Int)∧x.name=x.name∧x.arity=x.arity∧x.rowCount=x.rowCount∧(out++[(⟨([]:List Int)++e25.columns,v,([]:List Int)++e33.counts⟩:aP)]).map aB=out'.map aB∧(k' ≤x.groups.length∧out' =x.groups.take k')∧x.groups.length - k' <x.groups.length - k)))))∧((decide ((k:Int)<((x.groups.length:Nat):Int)))=false→x.name=x.name∧x.arity=x.arity∧x.rowCount=x.rowCount∧out.map aB=x.groups.map aB∧True))) (by kernel_rfl) ?_
 intro n0
 simp only [List.length_map] at n0
 have q2:bA x=x.name.size+dY x.groups:=rfl
 have q5:=iA x.groups
 refine ⟨⟨0,([]:List aP),rfl,rfl,rfl,rfl,rfl,Nat.zero_le _,rfl⟩,fun k out ⟨hk,ho⟩=>?_⟩
 refine ⟨List.length_map _,fun c0=>?_,fun c0=>?_⟩
 ·replace c0:=yq c0
  refine ⟨by omega,rfl,by omega,fun e25 h25=>?_⟩
  try (obtain rfl:=(aY h25 h25).symm)
  have q1:=iT h25
  have q3:cA e25=cG e25.columns+cX e25.values+cG e25.counts:=rfl
  have q6:cG e25.columns=e25.columns.length:=rfl
  have q7:cG e25.counts=e25.counts.length:=rfl
  have q8:=gG e25.values
  refine ⟨rfl,rfl,fun _=>rfl,by first | omega | (simp;omega) | (simp [ho];omega) | (simp [hv];omega),?_⟩
  refine ⟨by omega,rfl,by omega,fun e33 h33=>?_⟩
  try (obtain rfl:=(aY h25 h33).symm)
  refine ⟨rfl,rfl,fun _=>rfl,by first | omega | (simp;omega) | (simp [ho];omega) | (simp [hv];omega),?_⟩
  refine ⟨⟨0,([]:List (List Int)),rfl,rfl,Nat.zero_le _,rfl⟩,fun i v ⟨hi,hv⟩=>?_⟩
  refine ⟨by omega,rfl,by omega,fun e42 h42=>?_⟩
  try (obtain rfl:=(aY h25 h42).symm)
  refine ⟨List.length_map _,fun c1=>?_,fun c1=>?_⟩
  ·replace c1:=yq c1
   refine ⟨by omega,rfl,by omega,fun e55 h55=>?_⟩
   try (obtain rfl:=(aY h25 h55).symm)
   refine ⟨by omega,rfl,by omega,fun e59 h59=>?_⟩
   have hp3:=aAI h59
   refine ⟨rfl,rfl,fun _=>rfl,by first | omega | (simp;omega) | (simp [ho];omega) | (simp [hv];omega),?_⟩
   refine ⟨rfl,rfl,by first | omega | (simp;omega) | (simp [ho];omega) | (simp [hv];omega),⟨by omega,by omega⟩,?_⟩
   exact ⟨i+1,_,rfl,rfl,⟨by omega,by rw [hv,bO h59];rfl⟩,by omega⟩
  ·replace c1:=nq c1
   have hvv:v=e25.values:=by rw [hv,List.take_of_length_le (by omega)]
   refine ⟨rfl,rfl,rfl,rfl,by first | omega | (simp;omega) | (simp [ho];omega) | (simp [hv];omega),⟨by omega,by omega⟩,?_⟩
   exact ⟨k+1,_,rfl,rfl,rfl,rfl,rfl,⟨by omega,by rw [ho,bO h25,hvv];rfl⟩,by omega⟩
 ·replace c0:=nq c0
  refine ⟨rfl,rfl,rfl,?_,trivial⟩
  ·first | rfl | (rw [ho,List.take_of_length_le (by omega)])
def qA (n:ByteArray) (x:aH):Bool:=(x.name.toList==n.toList)&&bX x
def dH (c:cU) (n:ByteArray):aH × Bool:=match c.tables.find? (qA n) with | some x=>(x,true) | none=>(eE,false)
theorem fB {c:cU} {n:ByteArray} {x:aH} (h:c.tables.find? (qA n)=some x):dH c n=(x,true):=by rw [dH,h]
theorem gB {c:cU} {n:ByteArray} (h:c.tables.find? (qA n)=none):dH c n=(eE,false):=by rw [dH,h]
theorem aLU (c:cU) (n:ByteArray):bA (dH c n).1≤bT c:=by
 have hS:bT c=eM c.tables:=rfl
 cases h:c.tables.find? (qA n) with
 | none=>rw [gB h];exact Nat.zero_le _
 | some x=>
   rw [fB h,hS]
   obtain ⟨i,hi⟩:=List.getElem?_of_mem (List.mem_of_find?_eq_some h)
   exact lE hi
abbrev aEF (c:cU) (n:ByteArray):AV × List (Nat × Rs):=(.tup [.agg [.p none (.str (((dH c n).1).name)),vI (((dH c n).1).arity),vI (((dH c n).1).rowCount),.own 0],vB ((dH c n).2)],[(0,.arr 203 3 true ((((dH c n).1).groups).map aB))])
abbrev aLV (c:cU) (n:ByteArray):Prop:=cT Tryz.prog 116 [.agg [.int .i64 c.version,.sl 161 4 (c.tables.map aE)],.one (.str n)] (aEF c n).1 (aEF c n).2
theorem aOr (c:cU) (n:ByteArray) (hc:bT c≤1048576):aLV c n:=by
 refine aT bE aL Tryz.func116 (by kernel_rfl) (.len c.tables.length<| .loop Nat (Q1 Nat) [7,11,12,13,14,15,16,17,18,19,20,21,22,25] [700] (fun k=>[(11,vI (k:Int))]) (fun k=>[]) (fun k=>k≤c.tables.length∧(c.tables.take k).all (fun y=> !qA n y)=true) (fun k=>c.tables.length - k) (fun k=> .br (.elem _ aE c.tables (fun e13=> .br (.call (vB (bX e13)) []<| .lit<| .br (bV (aBD e13)<| .fin [(0,2400)]) (.back [])) (.back []))) (.fin []))) (p:=(c.tables.map aE).length≤9223372036854775807→Lm aE c.tables∧((∃(k:Nat),(0:Int)=(k:Int)∧k≤c.tables.length∧(c.tables.take k).all (fun y=> !qA n y)=true)∧ ∀(k:Nat),(k≤c.tables.length∧(c.tables.take k).all (fun y=> !qA n y)=true)→((decide ((k:Int)<((c.tables.length:Nat):Int)))=true→0≤(k:Int)∧Em aE c.tables k fun e13=>((e13.name.toList==n.toList)=true→aBE e13∧(((bX e13)=true→aGD e13∧e13.name=(((dH c n).1).name)∧e13.arity=(((dH c n).1).arity)∧e13.rowCount=(((dH c n).1).rowCount)∧(true)=((dH c n).2)∧e13.groups.map aB=(((dH c n).1).groups).map aB∧True)∧((bX e13)=false→cC ((k:Int)+(1:Int))∧ ∃(k' :Nat),((k:Int)+(1:Int))=(k' :Int)∧(k' ≤c.tables.length∧(c.tables.take k').all (fun y=> !qA n y)=true)∧c.tables.length - k' <c.tables.length - k)))∧((e13.name.toList==n.toList)=false→cC ((k:Int)+(1:Int))∧ ∃(k' :Nat),((k:Int)+(1:Int))=(k' :Int)∧(k' ≤c.tables.length∧(c.tables.take k').all (fun y=> !qA n y)=true)∧c.tables.length - k' <c.tables.length - k))∧((decide ((k:Int)<((c.tables.length:Nat):Int)))=false→ByteArray.empty=(((dH c n).1).name)∧(0:Int)=(((dH c n).1).arity)∧(0:Int)=(((dH c n).1).rowCount)∧(false)=((dH c n).2)∧[]=(((dH c n).1).groups).map aB∧True))) (by kernel_rfl) ?_
 intro n0
 simp only [List.length_map] at n0
 have hS:bT c=eM c.tables:=rfl
 refine ⟨List.length_map _,⟨0,rfl,Nat.zero_le _,rfl⟩,fun k ⟨hk,ha⟩=>?_⟩
 refine ⟨fun c0=>?_,fun c0=>?_⟩
 ·replace c0:=yq c0
  refine ⟨by omega,rfl,by omega,fun e13 h13=>?_⟩
  try (obtain rfl:=(aY h13 h13).symm)
  have q1:=lE h13
  refine ⟨fun g19=>?_,fun g19=>?_⟩
  ·refine ⟨aLB _ (by omega),fun c1=>?_,fun c1=>?_⟩
   ·have hf:=aJf (p:=qA n) h13 ha (by simp [qA,g19,c1])
    refine ⟨aQk _ (by omega),?_,?_,?_,?_,?_,trivial⟩
    ·first | (rw [fB hf]<;>rfl) | (rw [gB hall]<;>rfl)
    ·first | (rw [fB hf]<;>rfl) | (rw [gB hall]<;>rfl)
    ·first | (rw [fB hf]<;>rfl) | (rw [gB hall]<;>rfl)
    ·first | (rw [fB hf]<;>rfl) | (rw [gB hall]<;>rfl)
    ·first | (rw [fB hf]<;>rfl) | (rw [gB hall]<;>rfl)
   ·refine ⟨⟨by omega,by omega⟩,?_⟩
    exact ⟨k+1,rfl,⟨by omega,cR h13 ha (by first | (simp [qA,g19,c1];done) | (simp [qA,g19];done))⟩,by omega⟩
  ·refine ⟨⟨by omega,by omega⟩,?_⟩
   exact ⟨k+1,rfl,⟨by omega,cR h13 ha (by first | (simp [qA,g19,c1];done) | (simp [qA,g19];done))⟩,by omega⟩
 ·replace c0:=nq c0
  have hall:=aEz (bB (by omega) ha)
  refine ⟨?_,?_,?_,?_,?_,trivial⟩
  ·first | (rw [fB hf]<;>rfl) | (rw [gB hall]<;>rfl)
  ·first | (rw [fB hf]<;>rfl) | (rw [gB hall]<;>rfl)
  ·first | (rw [fB hf]<;>rfl) | (rw [gB hall]<;>rfl)
  ·first | (rw [fB hf]<;>rfl) | (rw [gB hall]<;>rfl)
  ·first | (rw [fB hf]<;>rfl) | (rw [gB hall]<;>rfl)
abbrev aEG (c:cU) (n:ByteArray):AV × List (Nat × Rs):=(.tup [.agg [.p none (.str (((dH c n).1).name)),vI (((dH c n).1).arity),vI (((dH c n).1).rowCount),.own 0],vB ((dH c n).2)],[(0,.arr 203 3 true ((((dH c n).1).groups).map aB))])
abbrev aLW (c:cU) (n:ByteArray):Prop:=cT Tryz.prog 141 [.agg [.int .i64 c.version,.sl 161 4 (c.tables.map aE)],.one (.str n)] (aEG c n).1 (aEG c n).2
theorem aOs (c:cU) (n:ByteArray) (hc:bT c≤1048576):aLW c n:=by
 refine aT bE aL Tryz.func141 (by kernel_rfl) (.loop Nat (Q1 Nat) [6,7,8,9,10,11,12,13,14,15,16,17,18,19,20,21,22,23,24,25,26,27,28,29] [] (fun k=>[(6,vI (k:Int))]) (fun k=>[]) (fun k=>k≤c.tables.length∧(c.tables.take k).all (fun y=> !qA n y)=true) (fun k=>c.tables.length - k) (fun k=> .len c.tables.length<| .br (.elem _ aE c.tables (fun e17=> .br (.elem _ aE c.tables (fun e26=> .call (vB (bX e26)) []<| .lit<| .br (.elem _ aE c.tables (fun e33=>bV (aBP e33)<| .fin [(0,3500)])) (.back []))) (.back []))) (.fin []))) (p:=(c.tables.map aE).length≤9223372036854775807→(∃(k:Nat),(0:Int)=(k:Int)∧k≤c.tables.length∧(c.tables.take k).all (fun y=> !qA n y)=true)∧ ∀(k:Nat),(k≤c.tables.length∧(c.tables.take k).all (fun y=> !qA n y)=true)→Lm aE c.tables∧(((decide ((k:Int)<((c.tables.length:Nat):Int)))=true→0≤(k:Int)∧Em aE c.tables k fun e17=>((e17.name.toList==n.toList)=true→0≤(k:Int)∧Em aE c.tables k fun e26=>vH e26∧(((bX e26)=true→0≤(k:Int)∧Em aE c.tables k fun e33=>aGf e33∧e33.name=(((dH c n).1).name)∧e33.arity=(((dH c n).1).arity)∧e33.rowCount=(((dH c n).1).rowCount)∧(true)=((dH c n).2)∧e33.groups.map aB=(((dH c n).1).groups).map aB∧True)∧((bX e26)=false→cC ((k:Int)+(1:Int))∧ ∃(k' :Nat),((k:Int)+(1:Int))=(k' :Int)∧(k' ≤c.tables.length∧(c.tables.take k').all (fun y=> !qA n y)=true)∧c.tables.length - k' <c.tables.length - k)))∧((e17.name.toList==n.toList)=false→cC ((k:Int)+(1:Int))∧ ∃(k' :Nat),((k:Int)+(1:Int))=(k' :Int)∧(k' ≤c.tables.length∧(c.tables.take k').all (fun y=> !qA n y)=true)∧c.tables.length - k' <c.tables.length - k))∧((decide ((k:Int)<((c.tables.length:Nat):Int)))=false→ByteArray.empty=(((dH c n).1).name)∧(0:Int)=(((dH c n).1).arity)∧(0:Int)=(((dH c n).1).rowCount)∧(false)=((dH c n).2)∧[]=(((dH c n).1).groups).map aB∧True))) (by kernel_rfl) ?_
 intro n0
 simp only [List.length_map] at n0
 have hS:bT c=eM c.tables:=rfl
 refine ⟨⟨0,rfl,Nat.zero_le _,rfl⟩,fun k ⟨hk,ha⟩=>?_⟩
 refine ⟨List.length_map _,fun c0=>?_,fun c0=>?_⟩
 ·replace c0:=yq c0
  refine ⟨by omega,rfl,by omega,fun e17 h17=>?_⟩
  try (obtain rfl:=(aY h17 h17).symm)
  have q1:=lE h17
  refine ⟨fun g22=>?_,fun g22=>?_⟩
  ·refine ⟨by omega,rfl,by omega,fun e26 h26=>?_⟩
   try (obtain rfl:=(aY h17 h26).symm)
   refine ⟨aG5 _ (by omega),fun c1=>?_,fun c1=>?_⟩
   ·have hf:=aJf (p:=qA n) h17 ha (by simp [qA,g22,c1])
    refine ⟨by omega,rfl,by omega,fun e33 h33=>?_⟩
    try (obtain rfl:=(aY h17 h33).symm)
    refine ⟨aRM _ (by omega),?_,?_,?_,?_,?_,trivial⟩
    ·first | (rw [fB hf]<;>rfl) | (rw [gB hall]<;>rfl)
    ·first | (rw [fB hf]<;>rfl) | (rw [gB hall]<;>rfl)
    ·first | (rw [fB hf]<;>rfl) | (rw [gB hall]<;>rfl)
    ·first | (rw [fB hf]<;>rfl) | (rw [gB hall]<;>rfl)
    ·first | (rw [fB hf]<;>rfl) | (rw [gB hall]<;>rfl)
   ·refine ⟨⟨by omega,by omega⟩,?_⟩
    exact ⟨k+1,rfl,⟨by omega,cR h17 ha (by first | (simp [qA,g22,c1];done) | (simp [qA,g22];done))⟩,by omega⟩
  ·refine ⟨⟨by omega,by omega⟩,?_⟩
   exact ⟨k+1,rfl,⟨by omega,cR h17 ha (by first | (simp [qA,g22,c1];done) | (simp [qA,g22];done))⟩,by omega⟩
 ·replace c0:=nq c0
  have hall:=aEz (bB (by omega) ha)
  refine ⟨?_,?_,?_,?_,?_,trivial⟩
  ·first | (rw [fB hf]<;>rfl) | (rw [gB hall]<;>rfl)
  ·first | (rw [fB hf]<;>rfl) | (rw [gB hall]<;>rfl)
  ·first | (rw [fB hf]<;>rfl) | (rw [gB hall]<;>rfl)
  ·first | (rw [fB hf]<;>rfl) | (rw [gB hall]<;>rfl)
  ·first | (rw [fB hf]<;>rfl) | (rw [gB hall]<;>rfl)
def eN (d:aS) (q:QueryD):Bool:=cK q&&q.atoms.all fun a=>(aG d a.name).2&&decide ((aG d a.name).1.arity=(a.vars.length:Nat))
def wR (s:StoreD) (q:QueryD) (m:Int):Bool:=fJ s&&(eN s.database q&&eB m 1 (nG q))
def gC (s:StoreD) (q:QueryD) (i:Nat):aH:=(dH s.catalogue (q.atoms.getD i jI).name).1
theorem aOt {d:aS} {q:QueryD} (h:eN d q=true):cK q=true∧ ∀a∈q.atoms,(aG d a.name).2=true∧(aG d a.name).1.arity=(a.vars.length:Nat):=by
 simp only [eN,Bool.and_eq_true] at h
 exact ⟨h.1,fun a ha=>by simpa using List.all_eq_true.1 h.2 a ha⟩
theorem aDT {s:StoreD} {q:QueryD} {m:Int} (h:wR s q m=true):fJ s=true∧eN s.database q=true∧cK q=true∧1≤m∧m≤(1:Int)*2^q.atoms.length - 1∧m≤15∧jO q m=true∧(1≤q.atoms.length∧q.atoms.length≤4):=by
 simp only [wR,Bool.and_eq_true] at h
 have h1:=eU h.2.2
 have h2:=(aOt h.2.1).1
 have h3:=gU h2
 have h4:=mZ h3.2.1
 rw [uB h2] at h1
 exact ⟨h.1,h.2.1,h2,h1.1,h1.2,by omega,by rw [jO,h2,aAh (by omega) h1.2];rfl,h3.2.1⟩
end Go.Proofs.YtdfebigfnjfgpaaGreat
