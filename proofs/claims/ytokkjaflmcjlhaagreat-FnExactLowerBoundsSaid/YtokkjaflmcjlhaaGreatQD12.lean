/-
  Contracts and plain laws, joined: part 13.
-/
import Derived.Test.YtokkjaflmcjlhaaGreatQD10
import Derived.Test.YtokkjaflmcjlhaaGreatQD11
import Derived.Test.YtokkjaflmcjlhaaGreatQD9
import Derived.Test.YtokkjaflmcjlhaaGreatQD8
import Derived.Test.YtokkjaflmcjlhaaGreatQD7
namespace Go.Proofs.YtokkjaflmcjlhaaGreat
open Go.ChangeShapes Go.WideShapes Go.ChangeAt Go.RowKit
set_option linter.unusedVariables false
set_option linter.unusedSimpArgs false
set_option maxRecDepth 100000
set_option maxHeartbeats 4000000
abbrev zD (d:aT) (x:aG):AV × List (Nat × Rs):=(.own 0,[(0,.arr 3 1 true ((wM d x).map intD))])
abbrev aDo (d:aT) (x:aG):Prop:=cU Tryz.prog 215 [.agg [.sl 162 3 (d.tables.map aL)],.agg [.str x.name,.int .i64 x.column,.str x.into,.int .i64 x.intoColumn]] (zD d x).1 (zD d x).2
theorem aNx (d:aT) (x:aG) (hc:bD d≤1048576):aDo d x:=by
 refine aV bF aS Tryz.func215 (by kernel_rfl) (.call (vB (dX d x)) []<| .br (.fin [(0,1500)]) (.call (.tup [.agg [.p none (.str (((aJ d x.name).1).name)),vI (((aJ d x.name).1).arity),.p none (.sl 32 1 ((((aJ d x.name).1).rows).map aF))],vB ((aJ d x.name).2)]) []<| .call (.tup [.agg [.p none (.str (((aJ d x.into).1).name)),vI (((aJ d x.into).1).arity),.p none (.sl 32 1 ((((aJ d x.into).1).rows).map aF))],vB ((aJ d x.into).2)]) []<| .loop (Nat × (List Int)) (Q2 Nat (List Int)) [5,10,11,12,13,14,15,35,36,37,38,39,40,41,42,43,44,45,46,47,48,49,50,51,52,53,54,55,56,57,58,59,60,61,62,63,64,65,66,67,68,69,70,71,72,73,74,75,76,77,78,79,80,81,82,83,84,85,86,87,88,89] [1500,8800,8900] (fun yy0=>[(10,vI (yy0.1:Int)),(5,.own 1500)]) (fun yy0=>[(1500,some (.arr 3 1 true (yy0.2.map intD)))]) (fun yy0=>yy0.1≤10∧yy0.2=nQ d x yy0.1) (fun yy0=>10 - yy0.1) (fun yy0=> .br (.loop (Nat × Bool) (Q2 Nat Bool) [11,13,39,40,41,42,43,44,45,46,47,48,49,50,51,52,53,54,55,56,57,58,59] [] (fun yy1=>[(13,vI (yy1.1:Int)),(11,vB yy1.2)]) (fun yy1=>[]) (fun yy1=>yy1.1≤(aJ d x.name).1.rows.length∧yy1.2=decide ((yy0.1:Int)∈iC ((aJ d x.name).1.rows.take yy1.1) x.column)) (fun yy1=>(aJ d x.name).1.rows.length - yy1.1) (fun yy1=> .len ((((aJ d x.name).1).rows).length)<| .br (.br (.back []) (.elem _ aF (((aJ d x.name).1).rows) (fun e51=> .elem _ intD e51 (fun e55=> .back [])))) (.loop (Nat × Bool) (Q2 Nat Bool) [12,14,60,61,62,63,64,65,66,67,68,69,70,71,72,73,74,75,76,77,78,79,80] [] (fun yy2=>[(14,vI (yy2.1:Int)),(12,vB yy2.2)]) (fun yy2=>[]) (fun yy2=>yy2.1≤(aJ d x.into).1.rows.length∧yy2.2=decide ((yy0.1:Int)∈iC ((aJ d x.into).1.rows.take yy2.1) x.intoColumn)) (fun yy2=>(aJ d x.into).1.rows.length - yy2.1) (fun yy2=> .len ((((aJ d x.into).1).rows).length)<| .br (.br (.back []) (.elem _ aF (((aJ d x.into).1).rows) (fun e72=> .elem _ intD e72 (fun e76=> .back [])))) (.br (.lit<| .lit<| .br (.app Int intD yy0.2 ([(yy0.1:Int)]:List Int)<| .back [(1500,8900)]) (.back [(1500,1500)])) (.back [(1500,1500)])))))) (.fin [(0,1500)])))) (p:=(d.tables.map aL).length≤9223372036854775807→vF d x∧(((!(dX d x))=true→[]=(wM d x).map intD∧True)∧((!(dX d x))=false→cU Tryz.prog 132 [.agg [.sl 162 3 (d.tables.map aL)],.one (.str x.name)] (.tup [.agg [.p none (.str (((aJ d x.name).1).name)),vI (((aJ d x.name).1).arity),.p none (.sl 32 1 ((((aJ d x.name).1).rows).map aF))],vB ((aJ d x.name).2)]) []∧(cU Tryz.prog 132 [.agg [.sl 162 3 (d.tables.map aL)],.one (.str x.into)] (.tup [.agg [.p none (.str (((aJ d x.into).1).name)),vI (((aJ d x.into).1).arity),.p none (.sl 32 1 ((((aJ d x.into).1).rows).map aF))],vB ((aJ d x.into).2)]) []∧((∃(v:Nat) (out:List Int),(0:Int)=(v:Int)∧[]=out.map intD∧v≤10∧out=nQ d x v)∧ ∀(v:Nat) (out:List Int),(v≤10∧out=nQ d x v)→((decide ((v:Int)≤(9:Int)))=true→(∃(k:Nat) (p:Bool),(0:Int)=(k:Int)∧(false)=p∧k≤(aJ d x.name).1.rows.length∧p=decide ((v:Int)∈iC ((aJ d x.name).1.rows.take k) x.column))∧ ∀(k:Nat) (p:Bool),(k≤(aJ d x.name).1.rows.length∧p=decide ((v:Int)∈iC ((aJ d x.name).1.rows.take k) x.column))→Lm aF (((aJ d x.name).1).rows)∧(((decide ((k:Int)<(((((aJ d x.name).1).rows).length:Nat):Int)))=true→((p)=true→cG ((k:Int)+(1:Int))∧ ∃(k' :Nat) (p' :Bool),((k:Int)+(1:Int))=(k' :Int)∧(true)=p' ∧(k' ≤(aJ d x.name).1.rows.length∧p' =decide ((v:Int)∈iC ((aJ d x.name).1.rows.take k') x.column))∧(aJ d x.name).1.rows.length - k' <(aJ d x.name).1.rows.length - k)∧((p)=false→0≤(k:Int)∧Em aF (((aJ d x.name).1).rows) k fun e51=>0≤x.column∧Em intD e51 ((x.column).toNat) fun e55=>cG ((k:Int)+(1:Int))∧ ∃(k' :Nat) (p' :Bool),((k:Int)+(1:Int))=(k' :Int)∧(decide (e55=(v:Int)))=p' ∧(k' ≤(aJ d x.name).1.rows.length∧p' =decide ((v:Int)∈iC ((aJ d x.name).1.rows.take k') x.column))∧(aJ d x.name).1.rows.length - k' <(aJ d x.name).1.rows.length - k))∧((decide ((k:Int)<(((((aJ d x.name).1).rows).length:Nat):Int)))=false→(∃(j:Nat) (q:Bool),(0:Int)=(j:Int)∧(false)=q∧j≤(aJ d x.into).1.rows.length∧q=decide ((v:Int)∈iC ((aJ d x.into).1.rows.take j) x.intoColumn))∧ ∀(j:Nat) (q:Bool),(j≤(aJ d x.into).1.rows.length∧q=decide ((v:Int)∈iC ((aJ d x.into).1.rows.take j) x.intoColumn))→Lm aF (((aJ d x.into).1).rows)∧(((decide ((j:Int)<(((((aJ d x.into).1).rows).length:Nat):Int)))=true→((q)=true→cG ((j:Int)+(1:Int))∧ ∃(j' :Nat) (q' :Bool),((j:Int)+(1:Int))=(j' :Int)∧(true)=q' ∧(j' ≤(aJ d x.into).1.rows.length∧q' =decide ((v:Int)∈iC ((aJ d x.into).1.rows.take j') x.intoColumn))∧(aJ d x.into).1.rows.length - j' <(aJ d x.into).1.rows.length - j)∧((q)=false→0≤(j:Int)∧Em aF (((aJ d x.into).1).rows) j fun e72=>0≤x.intoColumn∧Em intD e72 ((x.intoColumn).toNat) fun e76=>cG ((j:Int)+(1:Int))∧ ∃(j' :Nat) (q' :Bool),((j:Int)+(1:Int))=(j' :Int)∧(decide (e76=(v:Int)))=q' ∧(j' ≤(aJ d x.into).1.rows.length∧q' =decide ((v:Int)∈iC ((aJ d x.into).1.rows.take j') x.intoColumn))∧(aJ d x.into).1.rows.length - j' <(aJ d x.into).1.rows.length - j))∧((decide ((j:Int)<(((((aJ d x.into).1).rows).length:Nat):Int)))=false→((p)=true→((!q)=true→out.map intD=out.map intD∧[[.int .i64 (v:Int)]]=([(v:Int)]:List Int).map intD∧(∀x,eK (intD x)=true)∧(out.length+([(v:Int)]:List Int).length)*8≤140737488355328∧cG ((v:Int)+(1:Int))∧ ∃(v' :Nat) (out' :List Int),((v:Int)+(1:Int))=(v' :Int)∧(out++[(v:Int)]).map intD=out'.map intD∧(v' ≤10∧out' =nQ d x v')∧10 - v' <10 - v)∧((!q)=false→cG ((v:Int)+(1:Int))∧ ∃(v' :Nat) (out' :List Int),((v:Int)+(1:Int))=(v' :Int)∧out.map intD=out'.map intD∧(v' ≤10∧out' =nQ d x v')∧10 - v' <10 - v))∧((p)=false→cG ((v:Int)+(1:Int))∧ ∃(v' :Nat) (out' :List Int),((v:Int)+(1:Int))=(v' :Int)∧out.map intD=out'.map intD∧(v' ≤10∧out' =nQ d x v')∧10 - v' <10 - v))))))∧((decide ((v:Int)≤(9:Int)))=false→out.map intD=(wM d x).map intD∧True)))))) (by kernel_rfl) ?_
 intro n0
 simp only [List.length_map] at n0
 refine ⟨aFx _ _ (by omega),fun c0=>?_,fun c0=>?_⟩
 ·replace c0:=nt c0
  have hbad:wM d x= []:=by rw [wM,if_neg (by simpa using c0)]
  refine ⟨?_,trivial⟩
  ·first | (rw [hbad]<;>rfl) | (rw [hE]<;>rfl)
 ·replace c0:=nf c0
  have hok:dX d x=true:=by simpa using c0
  obtain ⟨hTa,hTb,hca,hcb⟩:=yW hok
  have hA8:=cD hTa
  have hB8:=cD hTb
  refine ⟨jJ (rS _ x.name (by omega)) rfl,jJ (rS _ x.into (by omega)) rfl,⟨0,([]:List Int),rfl,rfl,by omega,rfl⟩,fun v out ⟨hvv,ho⟩=>?_⟩
  have hol:=aNl d x v
  rw [←ho] at hol
  refine ⟨fun c1=>?_,fun c1=>?_⟩
  ·replace c1:=yq c1
   refine ⟨⟨0,false,rfl,rfl,Nat.zero_le _,rfl⟩,fun k p ⟨hk,hp⟩=>?_⟩
   refine ⟨List.length_map _,fun c2=>?_,fun c2=>?_⟩
   ·replace c2:=yq c2
    obtain ⟨ra,hra⟩:=bY (l:=(aJ d x.name).1.rows) (k:=k) (by omega)
    refine ⟨fun g47=>?_,fun g47=>?_⟩
    ·refine ⟨⟨by omega,by omega⟩,?_⟩
     exact ⟨k+1,_,rfl,rfl,⟨by omega,by rw [mH _ _ hra,tU,←hp,g47];rfl⟩,by omega⟩
    ·refine ⟨by omega,rfl,by omega,fun e51 h51=>?_⟩
     have hl51:=oR hTa (List.mem_of_getElem? h51)
     refine ⟨by omega,rfl,by omega,fun e55 h55=>?_⟩
     refine ⟨⟨by omega,by omega⟩,?_⟩
     exact ⟨k+1,_,rfl,rfl,⟨by omega,by obtain rfl:=aX h51 hra;rw [mH _ _ hra,tU,←hp,g47,aZ h55,Bool.false_or];exact decide_eq_decide.2 ⟨Eq.symm,Eq.symm⟩⟩,by omega⟩
   ·replace c2:=nq c2
    have hP:p=decide ((v:Int)∈iC (aJ d x.name).1.rows x.column):=by rw [hp,List.take_of_length_le (by omega)]
    refine ⟨⟨0,false,rfl,rfl,Nat.zero_le _,rfl⟩,fun j q ⟨hj,hq⟩=>?_⟩
    refine ⟨List.length_map _,fun c3=>?_,fun c3=>?_⟩
    ·replace c3:=yq c3
     obtain ⟨rb,hrb⟩:=bY (l:=(aJ d x.into).1.rows) (k:=j) (by omega)
     refine ⟨fun g68=>?_,fun g68=>?_⟩
     ·refine ⟨⟨by omega,by omega⟩,?_⟩
      exact ⟨j+1,_,rfl,rfl,⟨by omega,by rw [mH _ _ hrb,tU,←hq,g68];rfl⟩,by omega⟩
     ·refine ⟨by omega,rfl,by omega,fun e72 h72=>?_⟩
      have hl72:=oR hTb (List.mem_of_getElem? h72)
      refine ⟨by omega,rfl,by omega,fun e76 h76=>?_⟩
      refine ⟨⟨by omega,by omega⟩,?_⟩
      exact ⟨j+1,_,rfl,rfl,⟨by omega,by obtain rfl:=aX h72 hrb;rw [mH _ _ hrb,tU,←hq,g68,aZ h76,Bool.false_or];exact decide_eq_decide.2 ⟨Eq.symm,Eq.symm⟩⟩,by omega⟩
    ·replace c3:=nq c3
     have hQ:q=decide ((v:Int)∈iC (aJ d x.into).1.rows x.intoColumn):=by rw [hq,List.take_of_length_le (by omega)]
     refine ⟨fun g82=>?_,fun g82=>?_⟩
     ·refine ⟨fun c4=>?_,fun c4=>?_⟩
      ·replace c4:=nt c4
       refine ⟨rfl,rfl,fun _=>rfl,by first | omega | (simp [ho];omega) | (simp;omega),?_⟩
       refine ⟨⟨by omega,by omega⟩,?_⟩
       exact ⟨v+1,_,rfl,rfl,⟨by omega,by rw [ho,aNk (by rw [aCF,←hP,←hQ,g82,c4];rfl)]⟩,by omega⟩
      ·replace c4:=nf c4
       refine ⟨⟨by omega,by omega⟩,?_⟩
       exact ⟨v+1,_,rfl,rfl,⟨by omega,by rw [ho,aK1 (by rw [aCF,←hP,←hQ,g82,c4];rfl)]⟩,by omega⟩
     ·refine ⟨⟨by omega,by omega⟩,?_⟩
      exact ⟨v+1,_,rfl,rfl,⟨by omega,by rw [ho,aK1 (by rw [aCF,←hP,←hQ,g82];rfl)]⟩,by omega⟩
  ·replace c1:=nq c1
   have hE:wM d x=out:=by rw [wM,if_pos hok,ho,show v=10 by omega]
   refine ⟨?_,trivial⟩
   ·first | (rw [hbad]<;>rfl) | (rw [hE]<;>rfl)
abbrev aCP (d:aT) (x:aG):Prop:=cU Tryz.prog 137 [.agg [.sl 162 3 (d.tables.map aL)],.agg [.str x.name,.int .i64 x.column,.str x.into,.int .i64 x.intoColumn]] (vB (iL d x)) []
theorem aLg (d:aT) (x:aG) (hc:bD d≤1048576):aCP d x:=by
 refine aV bF aS Tryz.func137 (by kernel_rfl) (.call (vB (dX d x)) []<| .br (bP (zD d x)<| .len ((wM d x).length)<| .fin []) (.fin [])) (p:=(d.tables.map aL).length≤9223372036854775807→vF d x∧(((dX d x)=true→aDo d x∧Lm intD (wM d x)∧(decide ((((wM d x).length:Nat):Int)=(0:Int)))=(iL d x)∧True)∧((dX d x)=false→(false)=(iL d x)∧True))) (by kernel_rfl) ?_
 intro n0
 simp only [List.length_map] at n0
 refine ⟨aFx _ _ (by omega),fun g8=>?_,fun g8=>?_⟩
 ·refine ⟨aNx _ _ (by omega),List.length_map _,?_,trivial⟩
  ·first | (simp [iL, *];done) | (rw [iL,g8,pL,aID g8];rfl)
 ·refine ⟨?_,trivial⟩
  ·first | (simp [iL, *];done) | (rw [iL,g8,pL,aID g8];rfl)
def eL (d:aT) (l:List aM) (m:List aG):Bool:=l.all (iK d)&&(m.all (iL d)&&(decide ((l.length:Int)≤8)&&decide ((m.length:Int)≤8)))
abbrev aDp (d:aT) (l:List aM) (m:List aG):Prop:=cU Tryz.prog 75 [.agg [.sl 162 3 (d.tables.map aL)],.one (.sl 168 3 (l.map aD)),.one (.sl 170 4 (m.map aE))] (vB (eL d l m)) []
theorem aNy (d:aT) (l:List aM) (m:List aG) (hc:bD d≤1048576):aDp d l m:=by
 refine aV bF aS Tryz.func75 (by kernel_rfl) (.len l.length<| .loop Nat (Q1 Nat) [8,13,14,15,16,17,18,19,20,21] [800] (fun k=>[(13,vI (k:Int))]) (fun k=>[]) (fun k=>k≤l.length∧(l.take k).all (iK d)=true) (fun k=>l.length - k) (fun k=> .br (.elem _ aD l (fun e15=> .call (vB (iK d e15)) []<| .br (.fin []) (.back []))) (.len m.length<| .loop Nat (Q1 Nat) [10,24,25,26,27,28,29,30,31,32] [1000] (fun j=>[(24,vI (j:Int))]) (fun j=>[]) (fun j=>j≤m.length∧(m.take j).all (iL d)=true) (fun j=>m.length - j) (fun j=> .br (.elem _ aE m (fun e26=> .call (vB (iL d e26)) []<| .br (.fin []) (.back []))) (.len l.length<| .br (.len m.length<| .fin []) (.fin [])))))) (p:=(d.tables.map aL).length≤9223372036854775807→(l.map aD).length≤9223372036854775807→(m.map aE).length≤9223372036854775807→Lm aD l∧((∃(k:Nat),(0:Int)=(k:Int)∧k≤l.length∧(l.take k).all (iK d)=true)∧ ∀(k:Nat),(k≤l.length∧(l.take k).all (iK d)=true)→((decide ((k:Int)<((l.length:Nat):Int)))=true→0≤(k:Int)∧Em aD l k fun e15=>aCM d e15∧(((!(iK d e15))=true→(false)=(eL d l m)∧True)∧((!(iK d e15))=false→cG ((k:Int)+(1:Int))∧ ∃(k' :Nat),((k:Int)+(1:Int))=(k' :Int)∧(k' ≤l.length∧(l.take k').all (iK d)=true)∧l.length - k' <l.length - k)))∧((decide ((k:Int)<((l.length:Nat):Int)))=false→Lm aE m∧((∃(j:Nat),(0:Int)=(j:Int)∧j≤m.length∧(m.take j).all (iL d)=true)∧ ∀(j:Nat),(j≤m.length∧(m.take j).all (iL d)=true)→((decide ((j:Int)<((m.length:Nat):Int)))=true→0≤(j:Int)∧Em aE m j fun e26=>aCO d e26∧(((!(iL d e26))=true→(false)=(eL d l m)∧True)∧((!(iL d e26))=false→cG ((j:Int)+(1:Int))∧ ∃(j' :Nat),((j:Int)+(1:Int))=(j' :Int)∧(j' ≤m.length∧(m.take j').all (iL d)=true)∧m.length - j' <m.length - j)))∧((decide ((j:Int)<((m.length:Nat):Int)))=false→Lm aD l∧(((decide (((l.length:Nat):Int)≤(8:Int)))=true→Lm aE m∧(decide (((m.length:Nat):Int)≤(8:Int)))=(eL d l m)∧True)∧((decide (((l.length:Nat):Int)≤(8:Int)))=false→(false)=(eL d l m)∧True))))))) (by kernel_rfl) ?_
 intro n0 n1 n2
 simp only [List.length_map] at n0 n1 n2
 refine ⟨List.length_map _,⟨0,rfl,Nat.zero_le _,rfl⟩,fun k ⟨hk,ha⟩=>?_⟩
 refine ⟨fun c0=>?_,fun c0=>?_⟩
 ·replace c0:=yq c0
  refine ⟨by omega,rfl,by omega,fun e15 h15=>?_⟩
  refine ⟨aLd _ _ (by omega),fun c1=>?_,fun c1=>?_⟩
  ·replace c1:=nt c1
   have hL:l.all (iK d)=false:=cE h15 (by simpa using c1)
   refine ⟨?_,trivial⟩
   ·first | (simp [eL,hL];done) | (simp [eL,hL,hM];done) | (simp [eL,hL,hM, *];done)
  ·replace c1:=nf c1
   refine ⟨⟨by omega,by omega⟩,?_⟩
   exact ⟨k+1,rfl,⟨by omega,cY h15 ha (by simpa using c1)⟩,by omega⟩
 ·replace c0:=nq c0
  have hL:=bJ (by omega) ha
  refine ⟨List.length_map _,⟨0,rfl,Nat.zero_le _,rfl⟩,fun j ⟨hj,hb⟩=>?_⟩
  refine ⟨fun c2=>?_,fun c2=>?_⟩
  ·replace c2:=yq c2
   refine ⟨by omega,rfl,by omega,fun e26 h26=>?_⟩
   refine ⟨aLf _ _ (by omega),fun c3=>?_,fun c3=>?_⟩
   ·replace c3:=nt c3
    have hM:m.all (iL d)=false:=cE h26 (by simpa using c3)
    refine ⟨?_,trivial⟩
    ·first | (simp [eL,hL];done) | (simp [eL,hL,hM];done) | (simp [eL,hL,hM, *];done)
   ·replace c3:=nf c3
    refine ⟨⟨by omega,by omega⟩,?_⟩
    exact ⟨j+1,rfl,⟨by omega,cY h26 hb (by simpa using c3)⟩,by omega⟩
  ·replace c2:=nq c2
   have hM:=bJ (by omega) hb
   refine ⟨List.length_map _,fun g36=>?_,fun g36=>?_⟩
   ·replace g36:=yq g36
    refine ⟨List.length_map _,?_,trivial⟩
    ·first | (simp [eL,hL];done) | (simp [eL,hL,hM];done) | (simp [eL,hL,hM, *];done)
   ·replace g36:=nq g36
    refine ⟨?_,trivial⟩
    ·first | (simp [eL,hL];done) | (simp [eL,hL,hM];done) | (simp [eL,hL,hM, *];done)
abbrev aDq (d:aT) (l:List aM) (m:List aG):Prop:=cU Tryz.prog 65 [.agg [.sl 162 3 (d.tables.map aL)],.one (.sl 168 3 (l.map aD)),.one (.sl 170 4 (m.map aE))] (vB (eL d l m)) []
theorem aNz (d:aT) (l:List aM) (m:List aG) (hc:bD d≤1048576):aDq d l m:=by
 refine aV bF aS Tryz.func65 (by kernel_rfl) (.len l.length<| .br (.fin []) (.len m.length<| .lit<| .lit<| .br (.fin []) (.loop Nat (Q1 Nat) [7,17,18,19,20,21,22,23,24,25,26,27,28,29] [] (fun k=>[(7,vI (k:Int))]) (fun k=>[]) (fun k=>k≤l.length∧(l.take k).all (iK d)=true) (fun k=>l.length - k) (fun k=> .len l.length<| .br (.elem _ aD l (fun e26=> .call (vB (iK d e26)) []<| .br (.fin []) (.back []))) (.loop Nat (Q1 Nat) [8,30,31,32,33,34,35,36,37,38,39,40,41,42] [] (fun j=>[(8,vI (j:Int))]) (fun j=>[]) (fun j=>j≤m.length∧(m.take j).all (iL d)=true) (fun j=>m.length - j) (fun j=> .len m.length<| .br (.elem _ aE m (fun e39=> .call (vB (iL d e39)) []<| .br (.fin []) (.back []))) (.fin []))))))) (p:=(d.tables.map aL).length≤9223372036854775807→(l.map aD).length≤9223372036854775807→(m.map aE).length≤9223372036854775807→Lm aD l∧(((decide ((8:Int)<((l.length:Nat):Int)))=true→(false)=(eL d l m)∧True)∧((decide ((8:Int)<((l.length:Nat):Int)))=false→Lm aE m∧(((decide ((8:Int)<((m.length:Nat):Int)))=true→(false)=(eL d l m)∧True)∧((decide ((8:Int)<((m.length:Nat):Int)))=false→(∃(k:Nat),(0:Int)=(k:Int)∧k≤l.length∧(l.take k).all (iK d)=true)∧ ∀(k:Nat),(k≤l.length∧(l.take k).all (iK d)=true)→Lm aD l∧(((decide ((k:Int)<((l.length:Nat):Int)))=true→0≤(k:Int)∧Em aD l k fun e26=>aCN d e26∧(((!(iK d e26))=true→(false)=(eL d l m)∧True)∧((!(iK d e26))=false→cG ((k:Int)+(1:Int))∧ ∃(k' :Nat),((k:Int)+(1:Int))=(k' :Int)∧(k' ≤l.length∧(l.take k').all (iK d)=true)∧l.length - k' <l.length - k)))∧((decide ((k:Int)<((l.length:Nat):Int)))=false→(∃(j:Nat),(0:Int)=(j:Int)∧j≤m.length∧(m.take j).all (iL d)=true)∧ ∀(j:Nat),(j≤m.length∧(m.take j).all (iL d)=true)→Lm aE m∧(((decide ((j:Int)<((m.length:Nat):Int)))=true→0≤(j:Int)∧Em aE m j fun e39=>aCP d e39∧(((!(iL d e39))=true→(false)=(eL d l m)∧True)∧((!(iL d e39))=false→cG ((j:Int)+(1:Int))∧ ∃(j' :Nat),((j:Int)+(1:Int))=(j' :Int)∧(j' ≤m.length∧(m.take j').all (iL d)=true)∧m.length - j' <m.length - j)))∧((decide ((j:Int)<((m.length:Nat):Int)))=false→(true)=(eL d l m)∧True))))))))) (by kernel_rfl) ?_
 intro n0 n1 n2
 simp only [List.length_map] at n0 n1 n2
 refine ⟨List.length_map _,fun g12=>?_,fun g12=>?_⟩
 ·replace g12:=yq g12
  have hbad:(decide ((l.length:Int)≤8)&&decide ((m.length:Int)≤8))=false:=by first | (simp;omega) | (simp [*];omega)
  refine ⟨?_,trivial⟩
  ·first | (rw [eL,hbad];simp;done) | (rw [eL,hL,hM,hz];rfl) | (rw [eL,hL];rfl) | (rw [eL,hL,hM];rfl)
 ·replace g12:=nq g12
  refine ⟨List.length_map _,fun c0=>?_,fun c0=>?_⟩
  ·replace c0:=yq c0
   have hbad:(decide ((l.length:Int)≤8)&&decide ((m.length:Int)≤8))=false:=by first | (simp;omega) | (simp [*];omega)
   refine ⟨?_,trivial⟩
   ·first | (rw [eL,hbad];simp;done) | (rw [eL,hL,hM,hz];rfl) | (rw [eL,hL];rfl) | (rw [eL,hL,hM];rfl)
  ·replace c0:=nq c0
   have hz:(decide ((l.length:Int)≤8)&&decide ((m.length:Int)≤8))=true:=by simp;omega
   refine ⟨⟨0,rfl,Nat.zero_le _,rfl⟩,fun k ⟨hk,ha⟩=>?_⟩
   refine ⟨List.length_map _,fun c1=>?_,fun c1=>?_⟩
   ·replace c1:=yq c1
    refine ⟨by omega,rfl,by omega,fun e26 h26=>?_⟩
    refine ⟨aLe _ _ (by omega),fun c2=>?_,fun c2=>?_⟩
    ·replace c2:=nt c2
     have hL:l.all (iK d)=false:=cE h26 (by simpa using c2)
     refine ⟨?_,trivial⟩
     ·first | (rw [eL,hbad];simp;done) | (rw [eL,hL,hM,hz];rfl) | (rw [eL,hL];rfl) | (rw [eL,hL,hM];rfl)
    ·replace c2:=nf c2
     refine ⟨⟨by omega,by omega⟩,?_⟩
     exact ⟨k+1,rfl,⟨by omega,cY h26 ha (by simpa using c2)⟩,by omega⟩
   ·replace c1:=nq c1
    have hL:=bJ (by omega) ha
    refine ⟨⟨0,rfl,Nat.zero_le _,rfl⟩,fun j ⟨hj,hb⟩=>?_⟩
    refine ⟨List.length_map _,fun c3=>?_,fun c3=>?_⟩
    ·replace c3:=yq c3
     refine ⟨by omega,rfl,by omega,fun e39 h39=>?_⟩
     refine ⟨aLg _ _ (by omega),fun c4=>?_,fun c4=>?_⟩
     ·replace c4:=nt c4
      have hM:m.all (iL d)=false:=cE h39 (by simpa using c4)
      refine ⟨?_,trivial⟩
      ·first | (rw [eL,hbad];simp;done) | (rw [eL,hL,hM,hz];rfl) | (rw [eL,hL];rfl) | (rw [eL,hL,hM];rfl)
     ·replace c4:=nf c4
      refine ⟨⟨by omega,by omega⟩,?_⟩
      exact ⟨j+1,rfl,⟨by omega,cY h39 hb (by simpa using c4)⟩,by omega⟩
    ·replace c3:=nq c3
     have hM:=bJ (by omega) hb
     refine ⟨?_,trivial⟩
     ·first | (rw [eL,hbad];simp;done) | (rw [eL,hL,hM,hz];rfl) | (rw [eL,hL];rfl) | (rw [eL,hL,hM];rfl)
def eO (s:StoreD):Bool:=(fC s.database s.catalogue.version).2&&(decide ((fC s.database s.catalogue.version).1=s.catalogue)&&eL s.database s.dependencies s.inclusions)
abbrev aDr (s:StoreD):Prop:=cU Tryz.prog 73 [.agg [.sl 162 3 (s.database.tables.map aL),.int .i64 s.catalogue.version,.sl 121 4 (s.catalogue.tables.map aA),.sl 168 3 (s.dependencies.map aD),.sl 170 4 (s.inclusions.map aE)]] (vB (eO s)) []
theorem aOA (s:StoreD) (hc:cJ s≤1048576):aDr s:=by
 refine aV bF aS Tryz.func73 (by kernel_rfl) (bP (aBC s.database s.catalogue.version)<| .br (.call (vB (decide (((fC s.database s.catalogue.version).1)=s.catalogue))) []<| .lit<| .br (.call (vB (eL s.database s.dependencies s.inclusions)) []<| .fin []) (.fin [])) (.fin [])) (p:=(s.database.tables.map aL).length≤9223372036854775807→(s.catalogue.tables.map aA).length≤9223372036854775807→(s.dependencies.map aD).length≤9223372036854775807→(s.inclusions.map aE).length≤9223372036854775807→aFh s.database s.catalogue.version∧((((fC s.database s.catalogue.version).2)=true→aBp ((fC s.database s.catalogue.version).1) s.catalogue∧(((decide (((fC s.database s.catalogue.version).1)=s.catalogue))=true→aDp s.database s.dependencies s.inclusions∧(eL s.database s.dependencies s.inclusions)=(eO s)∧True)∧((decide (((fC s.database s.catalogue.version).1)=s.catalogue))=false→(false)=(eO s)∧True)))∧(((fC s.database s.catalogue.version).2)=false→(false)=(eO s)∧True))) (by kernel_rfl) ?_
 intro n0 n1 n2 n3
 simp only [List.length_map] at n0 n1 n2 n3
 have hS:cJ s=bD s.database+bL s.catalogue+bU s.dependencies+cT s.inclusions:=rfl
 have hsm:=aHz s.database s.catalogue.version
 refine ⟨aPx s.database s.catalogue.version,fun g15=>?_,fun g15=>?_⟩
 ·refine ⟨aL2 _ _,fun g21=>?_,fun g21=>?_⟩
  ·replace g21:=yq g21
   refine ⟨aNy s.database _ _ (by omega),?_,trivial⟩
   ·first | (simp [eO, *];done) | (simp_all [eO];done)
  ·replace g21:=nq g21
   refine ⟨?_,trivial⟩
   ·first | (simp [eO, *];done) | (simp_all [eO];done)
 ·refine ⟨?_,trivial⟩
  ·first | (simp [eO, *];done) | (simp_all [eO];done)
abbrev aDs (s:StoreD):Prop:=cU Tryz.prog 62 [.agg [.sl 162 3 (s.database.tables.map aL),.int .i64 s.catalogue.version,.sl 121 4 (s.catalogue.tables.map aA),.sl 168 3 (s.dependencies.map aD),.sl 170 4 (s.inclusions.map aE)]] (vB (eO s)) []
theorem aOB (s:StoreD) (hc:cJ s≤1048576):aDs s:=by
 refine aV bF aS Tryz.func62 (by kernel_rfl) (bP (aBD s.database s.catalogue.version)<| .br (.call (vB (decide (((fC s.database s.catalogue.version).1)=s.catalogue))) []<| .lit<| .br (.call (vB (eL s.database s.dependencies s.inclusions)) []<| .fin []) (.fin [])) (.fin [])) (p:=(s.database.tables.map aL).length≤9223372036854775807→(s.catalogue.tables.map aA).length≤9223372036854775807→(s.dependencies.map aD).length≤9223372036854775807→(s.inclusions.map aE).length≤9223372036854775807→aFi s.database s.catalogue.version∧((((fC s.database s.catalogue.version).2)=true→aBr ((fC s.database s.catalogue.version).1) s.catalogue∧(((decide (((fC s.database s.catalogue.version).1)=s.catalogue))=true→aDq s.database s.dependencies s.inclusions∧(eL s.database s.dependencies s.inclusions)=(eO s)∧True)∧((decide (((fC s.database s.catalogue.version).1)=s.catalogue))=false→(false)=(eO s)∧True)))∧(((fC s.database s.catalogue.version).2)=false→(false)=(eO s)∧True))) (by kernel_rfl) ?_
 intro n0 n1 n2 n3
 simp only [List.length_map] at n0 n1 n2 n3
 have hS:cJ s=bD s.database+bL s.catalogue+bU s.dependencies+cT s.inclusions:=rfl
 have hsm:=aHz s.database s.catalogue.version
 refine ⟨aPy s.database s.catalogue.version,fun g15=>?_,fun g15=>?_⟩
 ·refine ⟨aL3 _ _ (by omega),fun g21=>?_,fun g21=>?_⟩
  ·replace g21:=yq g21
   refine ⟨aNz s.database _ _ (by omega),?_,trivial⟩
   ·first | (simp [eO, *];done) | (simp_all [eO];done)
  ·replace g21:=nq g21
   refine ⟨?_,trivial⟩
   ·first | (simp [eO, *];done) | (simp_all [eO];done)
 ·refine ⟨?_,trivial⟩
  ·first | (simp [eO, *];done) | (simp_all [eO];done)
abbrev aBJ (x:aC):AV × List (Nat × Rs):=(.agg [.p none (.str x.name),vI x.arity,vI x.rowCount,.own 0],[(0,.arr 218 3 true (x.groups.map aB))])
abbrev aGI (x:aC):Prop:=cU Tryz.prog 206 [.agg [.str x.name,.int .i64 x.arity,.int .i64 x.rowCount,.sl 218 3 (x.groups.map aB)]] (aBJ x).1 (aBJ x).2
theorem aQN (x:aC) (hc:bA x≤1048576):aGI x:=by
 refine aV bF aS Tryz.func206 (by kernel_rfl) (.loop (Nat × (List aH)) (Q2 Nat (List aH)) [4,5,6,14,15,16,17,18,19,20,21,22,23,24,25,26,27,28,29,30,31,32,33,34,35,36,37,38,39,40,41,42,43,44,45,46,47,48,49,50,51,52,53,54,55,56,57,58,59,60,61,62,63,64,65,66,67,68,69,70] [300,500,2100,2800,2900,3600,5100,6100,6200,6300,6800,6900,9000,9001] (fun yy0=>[(4,vI (yy0.1:Int))]) (fun yy0=>[(300,some (.box 121 [.p none (.str x.name),vI x.arity,vI x.rowCount,.own 9000])),(9000,some (.arr 218 3 true (yy0.2.map aB)))]) (fun yy0=>yy0.1≤x.groups.length∧yy0.2=x.groups.take yy0.1) (fun yy0=>x.groups.length - yy0.1) (fun yy0=> .len x.groups.length<| .br (.elem _ aB x.groups (fun e25=> .app Int intD ([]:List Int) e25.columns<| .elem _ aB x.groups (fun e33=> .app Int intD ([]:List Int) e33.counts<| .loop (Nat × (List (List Int))) (Q2 Nat (List (List Int))) [6,38,39,40,41,42,43,44,45,46,47,48,49,50,51,52,53,54,55,56,57,58,59,60,61,62,63,64] [500,5100,6100,6200,6300,9001] (fun yy1=>[(6,vI (yy1.1:Int))]) (fun yy1=>[(500,some (.box 218 [.own 2800,.own 9001,.own 3600])),(9001,some (.arr 32 1 true (yy1.2.map aF)))]) (fun yy1=>yy1.1≤e25.values.length∧yy1.2=e25.values.take yy1.1) (fun yy1=>e25.values.length - yy1.1) (fun yy1=> .elem _ aB x.groups (fun e42=> .len e42.values.length<| .br (.elem _ aB x.groups (fun e55=> .elem _ aF e55.values (fun e59=> .app Int intD ([]:List Int) e59<| .appx (List Int) aF yy1.2 (([]:List Int)++e59)<| .back [(500,500),(9001,6300)]))) (.appx aH aB yy0.2 (⟨([]:List Int)++e25.columns,yy1.2,([]:List Int)++e33.counts⟩:aH)<| .back [(300,300),(9000,6900)])))))) (.fin [(0,9000)]))) (p:=(x.groups.map aB).length≤9223372036854775807→(∃(k:Nat) (out:List aH),(0:Int)=(k:Int)∧x.name=x.name∧x.arity=x.arity∧x.rowCount=x.rowCount∧[]=out.map aB∧k≤x.groups.length∧out=x.groups.take k)∧ ∀(k:Nat) (out:List aH),(k≤x.groups.length∧out=x.groups.take k)→Lm aB x.groups∧(((decide ((k:Int)<((x.groups.length:Nat):Int)))=true→0≤(k:Int)∧Em aB x.groups k fun e25=>[]=([]:List Int).map intD∧e25.columns.map intD=e25.columns.map intD∧(∀x,eK (intD x)=true)∧(([]:List Int).length+e25.columns.length)*8≤140737488355328∧(0≤(k:Int)∧Em aB x.groups k fun e33=>[]=([]:List Int).map intD∧e33.counts.map intD=e33.counts.map intD∧(∀x,eK (intD x)=true)∧(([]:List Int).length+e33.counts.length)*8≤140737488355328∧((∃(i:Nat) (v:List (List Int)),(0:Int)=(i:Int)∧[]=v.map aF∧i≤e25.values.length∧v=e25.values.take i)∧ ∀(i:Nat) (v:List (List Int)),(i≤e25.values.length∧v=e25.values.take i)→0≤(k:Int)∧Em aB x.groups k fun e42=>Lm aF e42.values∧(((decide ((i:Int)<((e42.values.length:Nat):Int)))=true→0≤(k:Int)∧Em aB x.groups k fun e55=>0≤(i:Int)∧Em aF e55.values i fun e59=>[]=([]:List Int).map intD∧e59.map intD=e59.map intD∧(∀x,eK (intD x)=true)∧(([]:List Int).length+e59.length)*8≤140737488355328∧v.map aF=v.map aF∧(([]:List Int)++e59).map intD=(([]:List Int)++e59).map intD∧(v.length+1)*24≤140737488355328∧cG ((i:Int)+(1:Int))∧ ∃(i' :Nat) (v' :List (List Int)),((i:Int)+(1:Int))=(i' :Int)∧(v++[([]:List Int)++e59]).map aF=v'.map aF∧(i' ≤e25.values.length∧v' =e25.values.take i')∧e25.values.length - i' <e25.values.length - i)∧((decide ((i:Int)<((e42.values.length:Nat):Int)))=false→out.map aB=out.map aB∧(([]:List Int)++e25.columns).map intD=((⟨([]:List Int)++e25.columns,v,([]:List Int)++e33.counts⟩:aH).columns).map intD∧v.map aF=((⟨([]:List Int)++e25.columns,v,([]:List Int)++e33.counts⟩:aH).values).map aF∧(([]:List Int)++e33.counts).map intD=((⟨([]:List Int)++e25.columns,v,([]:List Int)++e33.counts⟩:aH).counts).map intD∧(out.length+1)*72≤140737488355328∧cG ((k:Int)+(1:Int))∧ ∃(k' :Nat) (out' :List aH),((k:Int)+(1:Int))=(k' :Int)∧x.name=x.name∧x.arity=x.arity∧x.rowCount=x.rowCount∧(out++[(⟨([]:List Int)++e25.columns,v,([]:List Int)++e33.counts⟩:aH)]).map aB=out'.map aB∧(k' ≤x.groups.length∧out' =x.groups.take k')∧x.groups.length - k' <x.groups.length - k)))))∧((decide ((k:Int)<((x.groups.length:Nat):Int)))=false→x.name=x.name∧x.arity=x.arity∧x.rowCount=x.rowCount∧out.map aB=x.groups.map aB∧True))) (by kernel_rfl) ?_
 intro n0
 simp only [List.length_map] at n0
 have q2:bA x=x.name.size+cR x.groups:=rfl
 have q5:=iF x.groups
 refine ⟨⟨0,([]:List aH),rfl,rfl,rfl,rfl,rfl,Nat.zero_le _,rfl⟩,fun k out ⟨hk,ho⟩=>?_⟩
 refine ⟨List.length_map _,fun c0=>?_,fun c0=>?_⟩
 ·replace c0:=yq c0
  refine ⟨by omega,rfl,by omega,fun e25 h25=>?_⟩
  try (obtain rfl:=(aX h25 h25).symm)
  have q1:=iR h25
  have q3:bH e25=bZ e25.columns+cI e25.values+bZ e25.counts:=rfl
  have q6:bZ e25.columns=e25.columns.length:=rfl
  have q7:bZ e25.counts=e25.counts.length:=rfl
  have q8:=gA e25.values
  refine ⟨rfl,rfl,fun _=>rfl,by first | omega | (simp;omega) | (simp [ho];omega) | (simp [hv];omega),?_⟩
  refine ⟨by omega,rfl,by omega,fun e33 h33=>?_⟩
  try (obtain rfl:=(aX h25 h33).symm)
  refine ⟨rfl,rfl,fun _=>rfl,by first | omega | (simp;omega) | (simp [ho];omega) | (simp [hv];omega),?_⟩
  refine ⟨⟨0,([]:List (List Int)),rfl,rfl,Nat.zero_le _,rfl⟩,fun i v ⟨hi,hv⟩=>?_⟩
  refine ⟨by omega,rfl,by omega,fun e42 h42=>?_⟩
  try (obtain rfl:=(aX h25 h42).symm)
  refine ⟨List.length_map _,fun c1=>?_,fun c1=>?_⟩
  ·replace c1:=yq c1
   refine ⟨by omega,rfl,by omega,fun e55 h55=>?_⟩
   try (obtain rfl:=(aX h25 h55).symm)
   refine ⟨by omega,rfl,by omega,fun e59 h59=>?_⟩
   have hp3:=aAN h59
   refine ⟨rfl,rfl,fun _=>rfl,by first | omega | (simp;omega) | (simp [ho];omega) | (simp [hv];omega),?_⟩
   refine ⟨rfl,rfl,by first | omega | (simp;omega) | (simp [ho];omega) | (simp [hv];omega),⟨by omega,by omega⟩,?_⟩
   exact ⟨i+1,_,rfl,rfl,⟨by omega,by rw [hv,cN h59];rfl⟩,by omega⟩
  ·replace c1:=nq c1
   have hvv:v=e25.values:=by rw [hv,List.take_of_length_le (by omega)]
   refine ⟨rfl,rfl,rfl,rfl,by first | omega | (simp;omega) | (simp [ho];omega) | (simp [hv];omega),⟨by omega,by omega⟩,?_⟩
   exact ⟨k+1,_,rfl,rfl,rfl,rfl,rfl,⟨by omega,by rw [ho,cN h25,hvv];rfl⟩,by omega⟩
 ·replace c0:=nq c0
  refine ⟨rfl,rfl,rfl,?_,trivial⟩
  ·first | rfl | (rw [ho,List.take_of_length_le (by omega)])
def pR (n:ByteArray) (x:aC):Bool:=(x.name.toList==n.toList)&&dK x
def dM (c:bS) (n:ByteArray):aC × Bool:=match c.tables.find? (pR n) with | some x=>(x,true) | none=>(dP,false)
theorem eM {c:bS} {n:ByteArray} {x:aC} (h:c.tables.find? (pR n)=some x):dM c n=(x,true):=by rw [dM,h]
theorem fG {c:bS} {n:ByteArray} (h:c.tables.find? (pR n)=none):dM c n=(dP,false):=by rw [dM,h]
abbrev aDt (c:bS) (n:ByteArray):AV × List (Nat × Rs):=(.tup [.agg [.p none (.str (((dM c n).1).name)),vI (((dM c n).1).arity),vI (((dM c n).1).rowCount),.own 0],vB ((dM c n).2)],[(0,.arr 218 3 true ((((dM c n).1).groups).map aB))])
abbrev aK6 (c:bS) (n:ByteArray):Prop:=cU Tryz.prog 122 [.agg [.int .i64 c.version,.sl 121 4 (c.tables.map aA)],.one (.str n)] (aDt c n).1 (aDt c n).2
theorem aOC (c:bS) (n:ByteArray) (hc:bL c≤1048576):aK6 c n:=by
 refine aV bF aS Tryz.func122 (by kernel_rfl) (.len c.tables.length<| .loop Nat (Q1 Nat) [7,11,12,13,14,15,16,17,18,19,20,21,22,25] [700] (fun k=>[(11,vI (k:Int))]) (fun k=>[]) (fun k=>k≤c.tables.length∧(c.tables.take k).all (fun y=> !pR n y)=true) (fun k=>c.tables.length - k) (fun k=> .br (.elem _ aA c.tables (fun e13=> .br (.call (vB (dK e13)) []<| .lit<| .br (bP (aBB e13)<| .fin [(0,2400)]) (.back [])) (.back []))) (.fin []))) (p:=(c.tables.map aA).length≤9223372036854775807→Lm aA c.tables∧((∃(k:Nat),(0:Int)=(k:Int)∧k≤c.tables.length∧(c.tables.take k).all (fun y=> !pR n y)=true)∧ ∀(k:Nat),(k≤c.tables.length∧(c.tables.take k).all (fun y=> !pR n y)=true)→((decide ((k:Int)<((c.tables.length:Nat):Int)))=true→0≤(k:Int)∧Em aA c.tables k fun e13=>((e13.name.toList==n.toList)=true→aFf e13∧(((dK e13)=true→aFe e13∧e13.name=(((dM c n).1).name)∧e13.arity=(((dM c n).1).arity)∧e13.rowCount=(((dM c n).1).rowCount)∧(true)=((dM c n).2)∧e13.groups.map aB=(((dM c n).1).groups).map aB∧True)∧((dK e13)=false→cG ((k:Int)+(1:Int))∧ ∃(k' :Nat),((k:Int)+(1:Int))=(k' :Int)∧(k' ≤c.tables.length∧(c.tables.take k').all (fun y=> !pR n y)=true)∧c.tables.length - k' <c.tables.length - k)))∧((e13.name.toList==n.toList)=false→cG ((k:Int)+(1:Int))∧ ∃(k' :Nat),((k:Int)+(1:Int))=(k' :Int)∧(k' ≤c.tables.length∧(c.tables.take k').all (fun y=> !pR n y)=true)∧c.tables.length - k' <c.tables.length - k))∧((decide ((k:Int)<((c.tables.length:Nat):Int)))=false→ByteArray.empty=(((dM c n).1).name)∧(0:Int)=(((dM c n).1).arity)∧(0:Int)=(((dM c n).1).rowCount)∧(false)=((dM c n).2)∧[]=(((dM c n).1).groups).map aB∧True))) (by kernel_rfl) ?_
 intro n0
 simp only [List.length_map] at n0
 have hS:bL c=dE c.tables:=rfl
 refine ⟨List.length_map _,⟨0,rfl,Nat.zero_le _,rfl⟩,fun k ⟨hk,ha⟩=>?_⟩
 refine ⟨fun c0=>?_,fun c0=>?_⟩
 ·replace c0:=yq c0
  refine ⟨by omega,rfl,by omega,fun e13 h13=>?_⟩
  try (obtain rfl:=(aX h13 h13).symm)
  have q1:=mB h13
  refine ⟨fun g19=>?_,fun g19=>?_⟩
  ·refine ⟨aPt _ (by omega),fun c1=>?_,fun c1=>?_⟩
   ·have hf:=aJB (p:=pR n) h13 ha (by simp [pR,g19,c1])
    refine ⟨aPs _ (by omega),?_,?_,?_,?_,?_,trivial⟩
    ·first | (rw [eM hf]<;>rfl) | (rw [fG hall]<;>rfl)
    ·first | (rw [eM hf]<;>rfl) | (rw [fG hall]<;>rfl)
    ·first | (rw [eM hf]<;>rfl) | (rw [fG hall]<;>rfl)
    ·first | (rw [eM hf]<;>rfl) | (rw [fG hall]<;>rfl)
    ·first | (rw [eM hf]<;>rfl) | (rw [fG hall]<;>rfl)
   ·refine ⟨⟨by omega,by omega⟩,?_⟩
    exact ⟨k+1,rfl,⟨by omega,cY h13 ha (by first | (simp [pR,g19,c1];done) | (simp [pR,g19];done))⟩,by omega⟩
  ·refine ⟨⟨by omega,by omega⟩,?_⟩
   exact ⟨k+1,rfl,⟨by omega,cY h13 ha (by first | (simp [pR,g19,c1];done) | (simp [pR,g19];done))⟩,by omega⟩
 ·replace c0:=nq c0
  have hall:=aEZ (bJ (by omega) ha)
  refine ⟨?_,?_,?_,?_,?_,trivial⟩
  ·first | (rw [eM hf]<;>rfl) | (rw [fG hall]<;>rfl)
  ·first | (rw [eM hf]<;>rfl) | (rw [fG hall]<;>rfl)
  ·first | (rw [eM hf]<;>rfl) | (rw [fG hall]<;>rfl)
  ·first | (rw [eM hf]<;>rfl) | (rw [fG hall]<;>rfl)
  ·first | (rw [eM hf]<;>rfl) | (rw [fG hall]<;>rfl)
abbrev aDu (c:bS) (n:ByteArray):AV × List (Nat × Rs):=(.tup [.agg [.p none (.str (((dM c n).1).name)),vI (((dM c n).1).arity),vI (((dM c n).1).rowCount),.own 0],vB ((dM c n).2)],[(0,.arr 218 3 true ((((dM c n).1).groups).map aB))])
abbrev aK7 (c:bS) (n:ByteArray):Prop:=cU Tryz.prog 166 [.agg [.int .i64 c.version,.sl 121 4 (c.tables.map aA)],.one (.str n)] (aDu c n).1 (aDu c n).2
theorem aOD (c:bS) (n:ByteArray) (hc:bL c≤1048576):aK7 c n:=by
 refine aV bF aS Tryz.func166 (by kernel_rfl) (.loop Nat (Q1 Nat) [6,7,8,9,10,11,12,13,14,15,16,17,18,19,20,21,22,23,24,25,26,27,28,29] [] (fun k=>[(6,vI (k:Int))]) (fun k=>[]) (fun k=>k≤c.tables.length∧(c.tables.take k).all (fun y=> !pR n y)=true) (fun k=>c.tables.length - k) (fun k=> .len c.tables.length<| .br (.elem _ aA c.tables (fun e17=> .br (.elem _ aA c.tables (fun e26=> .call (vB (dK e26)) []<| .lit<| .br (.elem _ aA c.tables (fun e33=>bP (aBJ e33)<| .fin [(0,3500)])) (.back []))) (.back []))) (.fin []))) (p:=(c.tables.map aA).length≤9223372036854775807→(∃(k:Nat),(0:Int)=(k:Int)∧k≤c.tables.length∧(c.tables.take k).all (fun y=> !pR n y)=true)∧ ∀(k:Nat),(k≤c.tables.length∧(c.tables.take k).all (fun y=> !pR n y)=true)→Lm aA c.tables∧(((decide ((k:Int)<((c.tables.length:Nat):Int)))=true→0≤(k:Int)∧Em aA c.tables k fun e17=>((e17.name.toList==n.toList)=true→0≤(k:Int)∧Em aA c.tables k fun e26=>aGG e26∧(((dK e26)=true→0≤(k:Int)∧Em aA c.tables k fun e33=>aGI e33∧e33.name=(((dM c n).1).name)∧e33.arity=(((dM c n).1).arity)∧e33.rowCount=(((dM c n).1).rowCount)∧(true)=((dM c n).2)∧e33.groups.map aB=(((dM c n).1).groups).map aB∧True)∧((dK e26)=false→cG ((k:Int)+(1:Int))∧ ∃(k' :Nat),((k:Int)+(1:Int))=(k' :Int)∧(k' ≤c.tables.length∧(c.tables.take k').all (fun y=> !pR n y)=true)∧c.tables.length - k' <c.tables.length - k)))∧((e17.name.toList==n.toList)=false→cG ((k:Int)+(1:Int))∧ ∃(k' :Nat),((k:Int)+(1:Int))=(k' :Int)∧(k' ≤c.tables.length∧(c.tables.take k').all (fun y=> !pR n y)=true)∧c.tables.length - k' <c.tables.length - k))∧((decide ((k:Int)<((c.tables.length:Nat):Int)))=false→ByteArray.empty=(((dM c n).1).name)∧(0:Int)=(((dM c n).1).arity)∧(0:Int)=(((dM c n).1).rowCount)∧(false)=((dM c n).2)∧[]=(((dM c n).1).groups).map aB∧True))) (by kernel_rfl) ?_
 intro n0
 simp only [List.length_map] at n0
 have hS:bL c=dE c.tables:=rfl
 refine ⟨⟨0,rfl,Nat.zero_le _,rfl⟩,fun k ⟨hk,ha⟩=>?_⟩
 refine ⟨List.length_map _,fun c0=>?_,fun c0=>?_⟩
 ·replace c0:=yq c0
  refine ⟨by omega,rfl,by omega,fun e17 h17=>?_⟩
  try (obtain rfl:=(aX h17 h17).symm)
  have q1:=mB h17
  refine ⟨fun g22=>?_,fun g22=>?_⟩
  ·refine ⟨by omega,rfl,by omega,fun e26 h26=>?_⟩
   try (obtain rfl:=(aX h17 h26).symm)
   refine ⟨aQK _ (by omega),fun c1=>?_,fun c1=>?_⟩
   ·have hf:=aJB (p:=pR n) h17 ha (by simp [pR,g22,c1])
    refine ⟨by omega,rfl,by omega,fun e33 h33=>?_⟩
    try (obtain rfl:=(aX h17 h33).symm)
    refine ⟨aQN _ (by omega),?_,?_,?_,?_,?_,trivial⟩
    ·first | (rw [eM hf]<;>rfl) | (rw [fG hall]<;>rfl)
    ·first | (rw [eM hf]<;>rfl) | (rw [fG hall]<;>rfl)
    ·first | (rw [eM hf]<;>rfl) | (rw [fG hall]<;>rfl)
    ·first | (rw [eM hf]<;>rfl) | (rw [fG hall]<;>rfl)
    ·first | (rw [eM hf]<;>rfl) | (rw [fG hall]<;>rfl)
   ·refine ⟨⟨by omega,by omega⟩,?_⟩
    exact ⟨k+1,rfl,⟨by omega,cY h17 ha (by first | (simp [pR,g22,c1];done) | (simp [pR,g22];done))⟩,by omega⟩
  ·refine ⟨⟨by omega,by omega⟩,?_⟩
   exact ⟨k+1,rfl,⟨by omega,cY h17 ha (by first | (simp [pR,g22,c1];done) | (simp [pR,g22];done))⟩,by omega⟩
 ·replace c0:=nq c0
  have hall:=aEZ (bJ (by omega) ha)
  refine ⟨?_,?_,?_,?_,?_,trivial⟩
  ·first | (rw [eM hf]<;>rfl) | (rw [fG hall]<;>rfl)
  ·first | (rw [eM hf]<;>rfl) | (rw [fG hall]<;>rfl)
  ·first | (rw [eM hf]<;>rfl) | (rw [fG hall]<;>rfl)
  ·first | (rw [eM hf]<;>rfl) | (rw [fG hall]<;>rfl)
  ·first | (rw [eM hf]<;>rfl) | (rw [fG hall]<;>rfl)
def dR (d:aT) (q:QueryD):Bool:=bM q&&q.atoms.all fun a=>(aJ d a.name).2&&decide ((aJ d a.name).1.arity=(a.vars.length:Nat))
def kU (s:StoreD) (q:QueryD) (m:Int):Bool:=eO s&&(dR s.database q&&dY m 1 (eG q))
def fK (s:StoreD) (q:QueryD) (i:Nat):aC:=(dM s.catalogue (q.atoms.getD i dL).name).1
theorem aIE {d:aT} {q:QueryD} (h:dR d q=true):bM q=true∧ ∀a∈q.atoms,(aJ d a.name).2=true∧(aJ d a.name).1.arity=(a.vars.length:Nat):=by
 simp only [dR,Bool.and_eq_true] at h
 exact ⟨h.1,fun a ha=>by simpa using List.all_eq_true.1 h.2 a ha⟩
theorem jP {s:StoreD} {q:QueryD} {m:Int} (h:kU s q m=true):eO s=true∧dR s.database q=true∧bM q=true∧1≤m∧m≤(1:Int)*2^q.atoms.length - 1∧m≤15∧gP q m=true∧(1≤q.atoms.length∧q.atoms.length≤4):=by
 simp only [kU,Bool.and_eq_true] at h
 have h1:=eJ h.2.2
 have h2:=(aIE h.2.1).1
 have h3:=cX h2
 have h4:=fR h3.2.1
 rw [jO h2] at h1
 exact ⟨h.1,h.2.1,h2,h1.1,h1.2,by omega,by rw [gP,h2,iG (by omega) h1.2];rfl,h3.2.1⟩
theorem aMe {s:StoreD} {q:QueryD}:kU s q (eG q)=kU s q 1:=by
 cases h:dR s.database q with
 | false=>simp [kU,h]
 | true=>
   have h2:=(aIE h).1
   have h3:=fR (cX h2).2.1
   rw [kU,kU,h,jO h2,iG h3.1 (Int.le_refl _),iG (Int.le_refl _) h3.1]
end Go.Proofs.YtokkjaflmcjlhaaGreat
