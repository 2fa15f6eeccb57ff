/-
  Contracts and plain laws, joined: part 15.
-/
import Derived.Test.YtdfebigfnjfgpaaGreatQI12
import Derived.Test.YtdfebigfnjfgpaaGreatQI9
import Derived.Test.YtdfebigfnjfgpaaGreatQI13
import Derived.Test.YtdfebigfnjfgpaaGreatQI11
namespace Go.Proofs.YtdfebigfnjfgpaaGreat
open Go.ChangeShapes Go.WideShapes Go.ChangeAt Go.RowKit
set_option linter.unusedVariables false
set_option linter.unusedSimpArgs false
set_option maxRecDepth 100000
set_option maxHeartbeats 4000000
abbrev aGg (d:aS) (q:QueryD):Prop:=cT Tryz.prog 113 [.agg [.sl 167 3 (d.tables.map aR)],.agg [.int .i64 q.variableCount,.sl 135 2 (q.atoms.map bH)]] (vB (eN d q)) []
theorem aRN (d:aS) (q:QueryD) (hc:bN d≤1048576):aGg d q:=by
 refine aT bE aL Tryz.func113 (by kernel_rfl) (.call (vB (cK q)) []<| .br (.fin []) (.len q.atoms.length<| .loop Nat (Q1 Nat) [6,7,8,15,16,17,18,19,20,21,22,23,24,25,26,27,28,29,30,31,32,33,34,35,36] [600,700] (fun k=>[(15,vI (k:Int))]) (fun k=>[]) (fun k=>k≤q.atoms.length∧(q.atoms.take k).all (fun a=>(aG d a.name).2&&decide ((aG d a.name).1.arity=(a.vars.length:Nat)))=true) (fun k=>q.atoms.length - k) (fun k=> .br (.elem _ bH q.atoms (fun e17=> .call (.tup [.agg [.p none (.str (((aG d e17.name).1).name)),vI (((aG d e17.name).1).arity),.p none (.sl 39 1 ((((aG d e17.name).1).rows).map aA))],vB ((aG d e17.name).2)]) []<| .br (.fin []) (.len e17.vars.length<| .lit<| .lit<| .br (.fin []) (.back [])))) (.fin [])))) (p:=(d.tables.map aR).length≤9223372036854775807→(q.atoms.map bH).length≤9223372036854775807→vJ q∧(((!(cK q))=true→(false)=(eN d q)∧True)∧((!(cK q))=false→Lm bH q.atoms∧((∃(k:Nat),(0:Int)=(k:Int)∧k≤q.atoms.length∧(q.atoms.take k).all (fun a=>(aG d a.name).2&&decide ((aG d a.name).1.arity=(a.vars.length:Nat)))=true)∧ ∀(k:Nat),(k≤q.atoms.length∧(q.atoms.take k).all (fun a=>(aG d a.name).2&&decide ((aG d a.name).1.arity=(a.vars.length:Nat)))=true)→((decide ((k:Int)<((q.atoms.length:Nat):Int)))=true→0≤(k:Int)∧Em bH q.atoms k fun e17=>cT Tryz.prog 150 [.agg [.sl 167 3 (d.tables.map aR)],.one (.str e17.name)] (.tup [.agg [.p none (.str (((aG d e17.name).1).name)),vI (((aG d e17.name).1).arity),.p none (.sl 39 1 ((((aG d e17.name).1).rows).map aA))],vB ((aG d e17.name).2)]) []∧(((!((aG d e17.name).2))=true→(false)=(eN d q)∧True)∧((!((aG d e17.name).2))=false→Lm intD e17.vars∧(((!(decide ((((aG d e17.name).1).arity)=((e17.vars.length:Nat):Int))))=true→(false)=(eN d q)∧True)∧((!(decide ((((aG d e17.name).1).arity)=((e17.vars.length:Nat):Int))))=false→cC ((k:Int)+(1:Int))∧ ∃(k' :Nat),((k:Int)+(1:Int))=(k' :Int)∧(k' ≤q.atoms.length∧(q.atoms.take k').all (fun a=>(aG d a.name).2&&decide ((aG d a.name).1.arity=(a.vars.length:Nat)))=true)∧q.atoms.length - k' <q.atoms.length - k)))))∧((decide ((k:Int)<((q.atoms.length:Nat):Int)))=false→(true)=(eN d q)∧True))))) (by kernel_rfl) ?_
 intro n0 n1
 simp only [List.length_map] at n0 n1
 refine ⟨aGd q,fun c0=>?_,fun c0=>?_⟩
 ·replace c0:=nt c0
  refine ⟨?_,trivial⟩
  ·first | (rw [eN,c0];rfl) | (rw [eN,bU h17 hA,Bool.and_false];done) | (rw [eN,c0,bB (by omega) ha];rfl)
 ·replace c0:=nf c0
  refine ⟨List.length_map _,⟨0,rfl,Nat.zero_le _,rfl⟩,fun k ⟨hk,ha⟩=>?_⟩
  refine ⟨fun c1=>?_,fun c1=>?_⟩
  ·replace c1:=yq c1
   refine ⟨by omega,rfl,by omega,fun e17 h17=>?_⟩
   try (obtain rfl:=(aY h17 h17).symm)
   refine ⟨kO (rU _ e17.name (by omega)) rfl,fun g28=>?_,fun g28=>?_⟩
   ·replace g28:=nt g28
    have hA:((aG d e17.name).2&&decide ((aG d e17.name).1.arity=(e17.vars.length:Nat)))=false:=by first | (rw [g28];rfl) | (rw [g28];simp [c2];done)
    refine ⟨?_,trivial⟩
    ·first | (rw [eN,c0];rfl) | (rw [eN,bU h17 hA,Bool.and_false];done) | (rw [eN,c0,bB (by omega) ha];rfl)
   ·replace g28:=nf g28
    refine ⟨List.length_map _,fun c2=>?_,fun c2=>?_⟩
    ·replace c2:=nq (nt c2)
     have hA:((aG d e17.name).2&&decide ((aG d e17.name).1.arity=(e17.vars.length:Nat)))=false:=by first | (rw [g28];rfl) | (rw [g28];simp [c2];done)
     refine ⟨?_,trivial⟩
     ·first | (rw [eN,c0];rfl) | (rw [eN,bU h17 hA,Bool.and_false];done) | (rw [eN,c0,bB (by omega) ha];rfl)
    ·replace c2:=yq (nf c2)
     have hA:((aG d e17.name).2&&decide ((aG d e17.name).1.arity=(e17.vars.length:Nat)))=true:=by rw [g28];simp [c2]
     refine ⟨⟨by omega,by omega⟩,?_⟩
     exact ⟨k+1,rfl,⟨by omega,cR h17 ha hA⟩,by omega⟩
  ·replace c1:=nq c1
   refine ⟨?_,trivial⟩
   ·first | (rw [eN,c0];rfl) | (rw [eN,bU h17 hA,Bool.and_false];done) | (rw [eN,c0,bB (by omega) ha];rfl)
abbrev aEH (q:QueryD):Prop:=cT Tryz.prog 114 [.agg [.int .i64 q.variableCount,.sl 135 2 (q.atoms.map bH)]] (vI (nG q)) []
theorem aOu (q:QueryD):aEH q:=by
 refine aT bE aL Tryz.func114 (by kernel_rfl) (.call (vB (cK q)) []<| .br (.fin []) (.len q.atoms.length<| .fin [])) (p:=(q.atoms.map bH).length≤9223372036854775807→vJ q∧(((!(cK q))=true→(0:Int)=(nG q)∧True)∧((!(cK q))=false→Lm bH q.atoms∧(0≤((q.atoms.length:Nat):Int)∧((q.atoms.length:Nat):Int)≤64)∧cC ((1:Int)*2^q.atoms.length)∧cC (((1:Int)*2^q.atoms.length) - (1:Int))∧(((1:Int)*2^q.atoms.length) - (1:Int))=(nG q)∧True))) (by kernel_rfl) ?_
 intro n0
 simp only [List.length_map] at n0
 refine ⟨aGd q,fun c0=>?_,fun c0=>?_⟩
 ·replace c0:=nt c0
  refine ⟨?_,trivial⟩
  ·first | (rw [aCW c0];done) | (rw [uB c0];done)
 ·replace c0:=nf c0
  have w:=mZ (gU c0).2.1
  have w2:=(gU c0).2.1
  refine ⟨List.length_map _,⟨by omega,by omega⟩,⟨by omega,by omega⟩,⟨by omega,by omega⟩,?_,trivial⟩
  ·first | (rw [aCW c0];done) | (rw [uB c0];done)
abbrev aGh (d:aS) (q:QueryD):Prop:=cT Tryz.prog 133 [.agg [.sl 167 3 (d.tables.map aR)],.agg [.int .i64 q.variableCount,.sl 135 2 (q.atoms.map bH)]] (vB (eN d q)) []
theorem aRO (d:aS) (q:QueryD) (hc:bN d≤1048576):aGh d q:=by
 refine aT bE aL Tryz.func133 (by kernel_rfl) (.call (vB (cK q)) []<| .br (.fin []) (.loop Nat (Q1 Nat) [5,6,7,11,12,13,14,15,16,17,18,19,20,21,22,23,24,25,26,27,28,29,30,31,32,33,34,35,36,37,38,39,40,41,42] [600] (fun k=>[(5,vI (k:Int))]) (fun k=>[]) (fun k=>k≤q.atoms.length∧(q.atoms.take k).all (fun a=>(aG d a.name).2&&decide ((aG d a.name).1.arity=(a.vars.length:Nat)))=true) (fun k=>q.atoms.length - k) (fun k=> .len q.atoms.length<| .br (.elem _ bH q.atoms (fun e23=> .call (.tup [.agg [.p none (.str (((aG d e23.name).1).name)),vI (((aG d e23.name).1).arity),.p none (.sl 39 1 ((((aG d e23.name).1).rows).map aA))],vB ((aG d e23.name).2)]) []<| .br (.fin []) (.elem _ bH q.atoms (fun e37=> .len e37.vars.length<| .lit<| .lit<| .br (.fin []) (.back []))))) (.fin [])))) (p:=(d.tables.map aR).length≤9223372036854775807→(q.atoms.map bH).length≤9223372036854775807→vK q∧(((!(cK q))=true→(false)=(eN d q)∧True)∧((!(cK q))=false→(∃(k:Nat),(0:Int)=(k:Int)∧k≤q.atoms.length∧(q.atoms.take k).all (fun a=>(aG d a.name).2&&decide ((aG d a.name).1.arity=(a.vars.length:Nat)))=true)∧ ∀(k:Nat),(k≤q.atoms.length∧(q.atoms.take k).all (fun a=>(aG d a.name).2&&decide ((aG d a.name).1.arity=(a.vars.length:Nat)))=true)→Lm bH q.atoms∧(((decide ((k:Int)<((q.atoms.length:Nat):Int)))=true→0≤(k:Int)∧Em bH q.atoms k fun e23=>cT Tryz.prog 168 [.agg [.sl 167 3 (d.tables.map aR)],.one (.str e23.name)] (.tup [.agg [.p none (.str (((aG d e23.name).1).name)),vI (((aG d e23.name).1).arity),.p none (.sl 39 1 ((((aG d e23.name).1).rows).map aA))],vB ((aG d e23.name).2)]) []∧(((!((aG d e23.name).2))=true→(false)=(eN d q)∧True)∧((!((aG d e23.name).2))=false→0≤(k:Int)∧Em bH q.atoms k fun e37=>Lm intD e37.vars∧(((!(decide ((((aG d e23.name).1).arity)=((e37.vars.length:Nat):Int))))=true→(false)=(eN d q)∧True)∧((!(decide ((((aG d e23.name).1).arity)=((e37.vars.length:Nat):Int))))=false→cC ((k:Int)+(1:Int))∧ ∃(k' :Nat),((k:Int)+(1:Int))=(k' :Int)∧(k' ≤q.atoms.length∧(q.atoms.take k').all (fun a=>(aG d a.name).2&&decide ((aG d a.name).1.arity=(a.vars.length:Nat)))=true)∧q.atoms.length - k' <q.atoms.length - k)))))∧((decide ((k:Int)<((q.atoms.length:Nat):Int)))=false→(true)=(eN d q)∧True))))) (by kernel_rfl) ?_
 intro n0 n1
 simp only [List.length_map] at n0 n1
 refine ⟨aGe q,fun c0=>?_,fun c0=>?_⟩
 ·replace c0:=nt c0
  refine ⟨?_,trivial⟩
  ·first | (rw [eN,c0];rfl) | (rw [eN,bU h23 hA,Bool.and_false];done) | (rw [eN,c0,bB (by omega) ha];rfl)
 ·replace c0:=nf c0
  refine ⟨⟨0,rfl,Nat.zero_le _,rfl⟩,fun k ⟨hk,ha⟩=>?_⟩
  refine ⟨List.length_map _,fun c1=>?_,fun c1=>?_⟩
  ·replace c1:=yq c1
   refine ⟨by omega,rfl,by omega,fun e23 h23=>?_⟩
   try (obtain rfl:=(aY h23 h23).symm)
   refine ⟨kO (rV _ e23.name (by omega)) rfl,fun g31=>?_,fun g31=>?_⟩
   ·replace g31:=nt g31
    have hA:((aG d e23.name).2&&decide ((aG d e23.name).1.arity=(e23.vars.length:Nat)))=false:=by first | (rw [g31];rfl) | (rw [g31];simp [c2];done)
    refine ⟨?_,trivial⟩
    ·first | (rw [eN,c0];rfl) | (rw [eN,bU h23 hA,Bool.and_false];done) | (rw [eN,c0,bB (by omega) ha];rfl)
   ·replace g31:=nf g31
    refine ⟨by omega,rfl,by omega,fun e37 h37=>?_⟩
    try (obtain rfl:=(aY h23 h37).symm)
    refine ⟨List.length_map _,fun c2=>?_,fun c2=>?_⟩
    ·replace c2:=nq (nt c2)
     have hA:((aG d e23.name).2&&decide ((aG d e23.name).1.arity=(e23.vars.length:Nat)))=false:=by first | (rw [g31];rfl) | (rw [g31];simp [c2];done)
     refine ⟨?_,trivial⟩
     ·first | (rw [eN,c0];rfl) | (rw [eN,bU h23 hA,Bool.and_false];done) | (rw [eN,c0,bB (by omega) ha];rfl)
    ·replace c2:=yq (nf c2)
     have hA:((aG d e23.name).2&&decide ((aG d e23.name).1.arity=(e23.vars.length:Nat)))=true:=by rw [g31];simp [c2]
     refine ⟨⟨by omega,by omega⟩,?_⟩
     exact ⟨k+1,rfl,⟨by omega,cR h23 ha hA⟩,by omega⟩
  ·replace c1:=nq c1
   refine ⟨?_,trivial⟩
   ·first | (rw [eN,c0];rfl) | (rw [eN,bU h23 hA,Bool.and_false];done) | (rw [eN,c0,bB (by omega) ha];rfl)
abbrev aEI (q:QueryD):Prop:=cT Tryz.prog 134 [.agg [.int .i64 q.variableCount,.sl 135 2 (q.atoms.map bH)]] (vI (nG q)) []
theorem aOv (q:QueryD):aEI q:=by
 refine aT bE aL Tryz.func134 (by kernel_rfl) (.call (vB (cK q)) []<| .br (.fin []) (.len q.atoms.length<| .fin [])) (p:=(q.atoms.map bH).length≤9223372036854775807→vK q∧(((!(cK q))=true→(0:Int)=(nG q)∧True)∧((!(cK q))=false→Lm bH q.atoms∧(0≤((q.atoms.length:Nat):Int)∧((q.atoms.length:Nat):Int)≤64)∧cC ((1:Int)*2^q.atoms.length)∧cC (((1:Int)*2^q.atoms.length) - (1:Int))∧(((1:Int)*2^q.atoms.length) - (1:Int))=(nG q)∧True))) (by kernel_rfl) ?_
 intro n0
 simp only [List.length_map] at n0
 refine ⟨aGe q,fun c0=>?_,fun c0=>?_⟩
 ·replace c0:=nt c0
  refine ⟨?_,trivial⟩
  ·first | (rw [aCW c0];done) | (rw [uB c0];done)
 ·replace c0:=nf c0
  have w:=mZ (gU c0).2.1
  have w2:=(gU c0).2.1
  refine ⟨List.length_map _,⟨by omega,by omega⟩,⟨by omega,by omega⟩,⟨by omega,by omega⟩,?_,trivial⟩
  ·first | (rw [aCW c0];done) | (rw [uB c0];done)
abbrev aBQ (m:Int):AV × List (Nat × Rs):=(.own 0,[(0,.arr 3 1 true ((fY m).map intD))])
abbrev aGi (m:Int):Prop:=cT Tryz.prog 115 [.one (.int .i64 m)] (aBQ m).1 (aBQ m).2
theorem aRP (m:Int):aGi m:=by
 refine aT bE aL Tryz.func115 (by kernel_rfl) (.call (vB (eB m (0:Int) (15:Int))) []<| .br (.fin []) (.loop (Nat × (List Int)) (Q2 Nat (List Int)) [3,4,8,9,10,11,12,13,14,15,16,17,18,19,20,21] [800,2000,2100] (fun yy0=>[(4,vI (yy0.1:Int)),(3,.own 800)]) (fun yy0=>[(800,some (.arr 3 1 true (yy0.2.map intD)))]) (fun yy0=>yy0.1≤4∧yy0.2=iK (gL m) yy0.1) (fun yy0=>4 - yy0.1) (fun yy0=> .br (.br (.app Int intD yy0.2 ([(yy0.1:Int)]:List Int)<| .back [(800,2100)]) (.back [(800,800)])) (.fin [(0,800)])))) (p:=fS m (0:Int) (15:Int)∧(((!(eB m (0:Int) (15:Int)))=true→[]=(fY m).map intD∧True)∧((!(eB m (0:Int) (15:Int)))=false→(∃(i:Nat) (out:List Int),(0:Int)=(i:Int)∧[]=out.map intD∧i≤4∧out=iK (gL m) i)∧ ∀(i:Nat) (out:List Int),(i≤4∧out=iK (gL m) i)→((decide ((i:Int)<(4:Int)))=true→(0≤(i:Int)∧(i:Int)≤64)∧(((decide ((cF .and .i64 (m/2^i) (1:Int))=(1:Int)))=true→out.map intD=out.map intD∧[[.int .i64 (i:Int)]]=([(i:Int)]:List Int).map intD∧(∀x,eL (intD x)=true)∧(out.length+([(i:Int)]:List Int).length)*8≤140737488355328∧cC ((i:Int)+(1:Int))∧ ∃(i' :Nat) (out' :List Int),((i:Int)+(1:Int))=(i' :Int)∧(out++[(i:Int)]).map intD=out'.map intD∧(i' ≤4∧out' =iK (gL m) i')∧4 - i' <4 - i)∧((decide ((cF .and .i64 (m/2^i) (1:Int))=(1:Int)))=false→cC ((i:Int)+(1:Int))∧ ∃(i' :Nat) (out' :List Int),((i:Int)+(1:Int))=(i' :Int)∧out.map intD=out'.map intD∧(i' ≤4∧out' =iK (gL m) i')∧4 - i' <4 - i)))∧((decide ((i:Int)<(4:Int)))=false→out.map intD=(fY m).map intD∧True)))) (by kernel_rfl) ?_
 refine ⟨jQ _ _ _,fun c0=>?_,fun c0=>?_⟩
 ·replace c0:=nt c0
  refine ⟨?_,trivial⟩
  ·first | (rw [aG2 c0];rfl) | (rw [aAO c0,ho,show i=4 by omega])
 ·replace c0:=nf c0
  refine ⟨⟨0,([]:List Int),rfl,rfl,by omega,rfl⟩,fun i out ⟨hi,ho⟩=>?_⟩
  refine ⟨fun c1=>?_,fun c1=>?_⟩
  ·replace c1:=yq c1
   refine ⟨⟨by omega,by omega⟩,fun c2=>?_,fun c2=>?_⟩
   ·replace c2:=yq c2
    refine ⟨rfl,rfl,fun _=>rfl,by first | omega | (rw [ho];have:=yK (gL m) i;simp only [List.length_cons,List.length_nil];omega),?_⟩
    refine ⟨⟨by omega,by omega⟩,?_⟩
    exact ⟨i+1,_,rfl,rfl,⟨by omega,by first | (rw [ho,mN (aAM c2)];done) | (rw [ho,oA (qF c2)];done)⟩,by omega⟩
   ·replace c2:=nq c2
    refine ⟨⟨by omega,by omega⟩,?_⟩
    exact ⟨i+1,_,rfl,rfl,⟨by omega,by first | (rw [ho,mN (aAM c2)];done) | (rw [ho,oA (qF c2)];done)⟩,by omega⟩
  ·replace c1:=nq c1
   refine ⟨?_,trivial⟩
   ·first | (rw [aG2 c0];rfl) | (rw [aAO c0,ho,show i=4 by omega])
abbrev aGj (q:QueryD) (m:Int):Prop:=cT Tryz.prog 118 [.agg [.int .i64 q.variableCount,.sl 135 2 (q.atoms.map bH)],.one (.int .i64 m)] (vB (jO q m)) []
theorem aRQ (q:QueryD) (m:Int):aGj q m:=by
 refine aT bE aL Tryz.func118 (by kernel_rfl) (.call (vB (cK q)) []<| .br (.len q.atoms.length<| .call (vB (eB m (0:Int) (((1:Int)*2^q.atoms.length) - (1:Int)))) []<| .fin []) (.fin [])) (p:=(q.atoms.map bH).length≤9223372036854775807→vJ q∧(((cK q)=true→Lm bH q.atoms∧(0≤((q.atoms.length:Nat):Int)∧((q.atoms.length:Nat):Int)≤64)∧cC ((1:Int)*2^q.atoms.length)∧cC (((1:Int)*2^q.atoms.length) - (1:Int))∧fS m (0:Int) (((1:Int)*2^q.atoms.length) - (1:Int))∧(eB m (0:Int) (((1:Int)*2^q.atoms.length) - (1:Int)))=(jO q m)∧True)∧((cK q)=false→(false)=(jO q m)∧True))) (by kernel_rfl) ?_
 intro n0
 simp only [List.length_map] at n0
 refine ⟨aGd q,fun g7=>?_,fun g7=>?_⟩
 ·have w:=mZ (gU g7).2.1
  have w2:=(gU g7).2.1
  refine ⟨List.length_map _,⟨by omega,by omega⟩,⟨by omega,by omega⟩,⟨by omega,by omega⟩,jQ _ _ _,?_,trivial⟩
  ·(rw [jO,g7];rfl)
 ·refine ⟨?_,trivial⟩
  ·(rw [jO,g7];rfl)
abbrev aGk (q:QueryD) (m:Int):Prop:=cT Tryz.prog 70 [.agg [.int .i64 q.variableCount,.sl 135 2 (q.atoms.map bH)],.one (.int .i64 m)] (vB (jO q m)) []
theorem aRR (q:QueryD) (m:Int):aGk q m:=by
 refine aT bE aL Tryz.func70 (by kernel_rfl) (.call (vB (cK q)) []<| .br (.len q.atoms.length<| .call (vB (eB m (0:Int) (((1:Int)*2^q.atoms.length) - (1:Int)))) []<| .fin []) (.fin [])) (p:=(q.atoms.map bH).length≤9223372036854775807→vK q∧(((cK q)=true→Lm bH q.atoms∧(0≤((q.atoms.length:Nat):Int)∧((q.atoms.length:Nat):Int)≤64)∧cC ((1:Int)*2^q.atoms.length)∧cC (((1:Int)*2^q.atoms.length) - (1:Int))∧fT m (0:Int) (((1:Int)*2^q.atoms.length) - (1:Int))∧(eB m (0:Int) (((1:Int)*2^q.atoms.length) - (1:Int)))=(jO q m)∧True)∧((cK q)=false→(false)=(jO q m)∧True))) (by kernel_rfl) ?_
 intro n0
 simp only [List.length_map] at n0
 refine ⟨aGe q,fun g7=>?_,fun g7=>?_⟩
 ·have w:=mZ (gU g7).2.1
  have w2:=(gU g7).2.1
  refine ⟨List.length_map _,⟨by omega,by omega⟩,⟨by omega,by omega⟩,⟨by omega,by omega⟩,jR _ _ _,?_,trivial⟩
  ·(rw [jO,g7];rfl)
 ·refine ⟨?_,trivial⟩
  ·(rw [jO,g7];rfl)
abbrev yT (q:QueryD) (m:Int):AV × List (Nat × Rs):=(.own 0,[(0,.arr 3 1 true ((aDo q m).map intD))])
abbrev aEJ (q:QueryD) (m:Int):Prop:=cT Tryz.prog 119 [.agg [.int .i64 q.variableCount,.sl 135 2 (q.atoms.map bH)],.one (.int .i64 m)] (yT q m).1 (yT q m).2
theorem aOw (q:QueryD) (m:Int) (hq:cK q=true):aEJ q m:=by
 refine aT bE aL Tryz.func119 (by kernel_rfl) (.loop (Nat × (List Int)) (Q2 Nat (List Int)) [5,6,7,8,9,10,11,12,13,14,15,16,17,18,19,20,21,22,23,24,25,26,27,28,29,30,31,32,33,34,35,36,37,38,39] [800,900,3700,3800] (fun yy0=>[(6,vI (yy0.1:Int)),(5,.own 900)]) (fun yy0=>[(900,some (.arr 3 1 true (yy0.2.map intD)))]) (fun yy0=>(yy0.1:Int)≤q.variableCount∧yy0.2=iK (inM q m) yy0.1) (fun yy0=>q.variableCount.toNat - yy0.1) (fun yy0=> .br (.len q.atoms.length<| .loop Nat (Q1 Nat) [7,8,19,20,21,22,23,24,25,26,27,28,29,30,31,32,33,34,39] [800] (fun i=>[(19,vI (i:Int))]) (fun i=>[]) (fun i=>i≤q.atoms.length∧vG q m i yy0.1=false) (fun i=>q.atoms.length - i) (fun i=> .br (.elem _ bH q.atoms (fun e22=> .br (.call (vB (decide ((yy0.1:Int)∈e22.vars))) []<| .lit<| .br (.app Int intD yy0.2 ([(yy0.1:Int)]:List Int)<| .back [(900,3800)]) (.back [])) (.back []))) (.back [(900,900)]))) (.fin [(0,900)]))) (p:=(q.atoms.map bH).length≤9223372036854775807→(∃(v:Nat) (out:List Int),(0:Int)=(v:Int)∧[]=out.map intD∧(v:Int)≤q.variableCount∧out=iK (inM q m) v)∧ ∀(v:Nat) (out:List Int),((v:Int)≤q.variableCount∧out=iK (inM q m) v)→((decide ((v:Int)<q.variableCount))=true→Lm bH q.atoms∧((∃(i:Nat),(0:Int)=(i:Int)∧i≤q.atoms.length∧vG q m i v=false)∧ ∀(i:Nat),(i≤q.atoms.length∧vG q m i v=false)→((decide ((i:Int)<((q.atoms.length:Nat):Int)))=true→0≤(i:Int)∧Em bH q.atoms i fun e22=>(0≤(i:Int)∧(i:Int)≤64)∧(((decide ((cF .and .i64 (m/2^i) (1:Int))=(1:Int)))=true→aLJ e22.vars (v:Int)∧(((decide ((v:Int)∈e22.vars))=true→out.map intD=out.map intD∧[[.int .i64 (v:Int)]]=([(v:Int)]:List Int).map intD∧(∀x,eL (intD x)=true)∧(out.length+([(v:Int)]:List Int).length)*8≤140737488355328∧cC ((v:Int)+(1:Int))∧ ∃(v' :Nat) (out' :List Int),((v:Int)+(1:Int))=(v' :Int)∧(out++[(v:Int)]).map intD=out'.map intD∧((v' :Int)≤q.variableCount∧out' =iK (inM q m) v')∧q.variableCount.toNat - v' <q.variableCount.toNat - v)∧((decide ((v:Int)∈e22.vars))=false→cC ((i:Int)+(1:Int))∧ ∃(i' :Nat),((i:Int)+(1:Int))=(i' :Int)∧(i' ≤q.atoms.length∧vG q m i' v=false)∧q.atoms.length - i' <q.atoms.length - i)))∧((decide ((cF .and .i64 (m/2^i) (1:Int))=(1:Int)))=false→cC ((i:Int)+(1:Int))∧ ∃(i' :Nat),((i:Int)+(1:Int))=(i' :Int)∧(i' ≤q.atoms.length∧vG q m i' v=false)∧q.atoms.length - i' <q.atoms.length - i)))∧((decide ((i:Int)<((q.atoms.length:Nat):Int)))=false→cC ((v:Int)+(1:Int))∧ ∃(v' :Nat) (out' :List Int),((v:Int)+(1:Int))=(v' :Int)∧out.map intD=out'.map intD∧((v' :Int)≤q.variableCount∧out' =iK (inM q m) v')∧q.variableCount.toNat - v' <q.variableCount.toNat - v)))∧((decide ((v:Int)<q.variableCount))=false→out.map intD=(aDo q m).map intD∧True)) (by kernel_rfl) ?_
 intro n0
 simp only [List.length_map] at n0
 have w:=(gU hq).1
 have w2:=(gU hq).2.1
 refine ⟨⟨0,([]:List Int),rfl,rfl,by omega,rfl⟩,fun v out ⟨hv,ho⟩=>?_⟩
 refine ⟨fun c0=>?_,fun c0=>?_⟩
 ·replace c0:=yq c0
  refine ⟨List.length_map _,⟨0,rfl,Nat.zero_le _,rfl⟩,fun i ⟨hi,hn⟩=>?_⟩
  refine ⟨fun c1=>?_,fun c1=>?_⟩
  ·replace c1:=yq c1
   refine ⟨by omega,rfl,by omega,fun e22 h22=>?_⟩
   refine ⟨⟨by omega,by omega⟩,fun g29=>?_,fun g29=>?_⟩
   ·replace g29:=yq g29
    refine ⟨ctI _ _,fun c2=>?_,fun c2=>?_⟩
    ·have hT:inM q m v=true:=aSs h22 (aAM g29) c2
     refine ⟨rfl,rfl,fun _=>rfl,by first | omega | (rw [ho];have:=yK (inM q m) v;simp only [List.length_cons,List.length_nil];omega),?_⟩
     refine ⟨⟨by omega,by omega⟩,?_⟩
     exact ⟨v+1,_,rfl,rfl,⟨by omega,by first | (rw [ho,mN hT];done) | (rw [ho,oA hF];done)⟩,by omega⟩
    ·refine ⟨⟨by omega,by omega⟩,?_⟩
     exact ⟨i+1,rfl,⟨by omega,by rw [aAP,hn,bC h22];first | (rw [c2];simp;done) | (rw [qF g29];rfl)⟩,by omega⟩
   ·replace g29:=nq g29
    refine ⟨⟨by omega,by omega⟩,?_⟩
    exact ⟨i+1,rfl,⟨by omega,by rw [aAP,hn,bC h22];first | (rw [c2];simp;done) | (rw [qF g29];rfl)⟩,by omega⟩
  ·replace c1:=nq c1
   have hF:inM q m v=false:=by rw [inM,show q.atoms.length=i by omega];exact hn
   refine ⟨⟨by omega,by omega⟩,?_⟩
   exact ⟨v+1,_,rfl,rfl,⟨by omega,by first | (rw [ho,mN hT];done) | (rw [ho,oA hF];done)⟩,by omega⟩
 ·replace c0:=nq c0
  refine ⟨?_,trivial⟩
  ·rw [aDo,ho,show q.variableCount.toNat=v by omega]
abbrev yU (q:QueryD) (m:Int):AV × List (Nat × Rs):=(.own 0,[(0,.arr 3 1 true ((eT q m).map intD))])
abbrev aEK (q:QueryD) (m:Int):Prop:=cT Tryz.prog 79 [.agg [.int .i64 q.variableCount,.sl 135 2 (q.atoms.map bH)],.one (.int .i64 m)] (yU q m).1 (yU q m).2
theorem aOx (q:QueryD) (m:Int):aEK q m:=by
 refine aT bE aL Tryz.func79 (by kernel_rfl) (.call (vB (jO q m)) []<| .br (.fin []) (bV (yT q m)<| .fin [(0,1100)])) (p:=(q.atoms.map bH).length≤9223372036854775807→aGj q m∧(((!(jO q m))=true→[]=(eT q m).map intD∧True)∧((!(jO q m))=false→aEJ q m∧(aDo q m).map intD=(eT q m).map intD∧True))) (by kernel_rfl) ?_
 intro n0
 simp only [List.length_map] at n0
 refine ⟨aRQ _ m,fun c0=>?_,fun c0=>?_⟩
 ·replace c0:=nt c0
  refine ⟨?_,trivial⟩
  ·first | (rw [aCV c0];rfl) | (rw [aAN c0])
 ·replace c0:=nf c0
  refine ⟨aOw q m (by first | assumption | exact (qQ (q:=q) (m:=m) (by assumption)).1),?_,trivial⟩
  ·first | (rw [aCV c0];rfl) | (rw [aAN c0])
abbrev aC2 (q:QueryD) (m:Int):Prop:=cT Tryz.prog 72 [.agg [.int .i64 q.variableCount,.sl 135 2 (q.atoms.map bH)],.one (.int .i64 m)] (vI (m4 (inM q m))) []
theorem aM6 (q:QueryD) (m:Int) (hq:cK q=true):aC2 q m:=by
 refine aT bE aL Tryz.func72 (by kernel_rfl) (.loop (Nat × Int) (Q2 Nat Int) [5,6,7,8,9,10,11,12,13,14,15,16,17,18,19,20,21,22,23,24,25,26,27,28,29,30,31,32,33,34,35,36,37,38,39,40,41,42,43,44] [] (fun yy0=>[(6,vI (yy0.1:Int)),(5,vI yy0.2)]) (fun yy0=>[]) (fun yy0=>yy0.1≤q.atoms.length∧yy0.2=m4 (vG q m yy0.1)) (fun yy0=>q.atoms.length - yy0.1) (fun yy0=> .len q.atoms.length<| .br (.loop (Nat × Int) (Q2 Nat Int) [5,7,15,16,17,18,19,20,21,22,23,24,25,26,27,28,29,30,31,32,33,34,35,36,37,38,39,40,41,42,43,44] [] (fun yy1=>[(7,vI (yy1.1:Int)),(5,vI yy1.2)]) (fun yy1=>[]) (fun yy1=>yy1.1≤(q.atoms.getD yy0.1 jI).vars.length∧yy1.2=m4 (aEh q m (q.atoms.getD yy0.1 jI) yy0.1 yy1.1)) (fun yy1=>(q.atoms.getD yy0.1 jI).vars.length - yy1.1) (fun yy1=> .elem _ bH q.atoms (fun e19=> .len e19.vars.length<| .br (.lit<| .lit<| .lit<| .lit<| .lit<| .br (.elem _ bH q.atoms (fun e37=> .elem _ intD e37.vars (fun e41=> .back []))) (.back [])) (.back [])))) (.fin []))) (p:=(q.atoms.map bH).length≤9223372036854775807→(∃(i:Nat) (o:Int),(0:Int)=(i:Int)∧(0:Int)=o∧i≤q.atoms.length∧o=m4 (vG q m i))∧ ∀(i:Nat) (o:Int),(i≤q.atoms.length∧o=m4 (vG q m i))→Lm bH q.atoms∧(((decide ((i:Int)<((q.atoms.length:Nat):Int)))=true→(∃(k:Nat) (p:Int),(0:Int)=(k:Int)∧o=p∧k≤(q.atoms.getD i jI).vars.length∧p=m4 (aEh q m (q.atoms.getD i jI) i k))∧ ∀(k:Nat) (p:Int),(k≤(q.atoms.getD i jI).vars.length∧p=m4 (aEh q m (q.atoms.getD i jI) i k))→0≤(i:Int)∧Em bH q.atoms i fun e19=>Lm intD e19.vars∧(((decide ((k:Int)<((e19.vars.length:Nat):Int)))=true→(0≤(i:Int)∧(i:Int)≤64)∧(((decide ((cF .and .i64 (m/2^i) (1:Int))=(1:Int)))=true→0≤(i:Int)∧Em bH q.atoms i fun e37=>0≤(k:Int)∧Em intD e37.vars k fun e41=>(0≤e41∧e41≤64)∧cC ((1:Int)*2^(Int.toNat e41))∧cC ((k:Int)+(1:Int))∧ ∃(k' :Nat) (p' :Int),((k:Int)+(1:Int))=(k' :Int)∧(cF .or .i64 p ((1:Int)*2^(Int.toNat e41)))=p' ∧(k' ≤(q.atoms.getD i jI).vars.length∧p' =m4 (aEh q m (q.atoms.getD i jI) i k'))∧(q.atoms.getD i jI).vars.length - k' <(q.atoms.getD i jI).vars.length - k)∧((decide ((cF .and .i64 (m/2^i) (1:Int))=(1:Int)))=false→cC ((i:Int)+(1:Int))∧ ∃(i' :Nat) (o' :Int),((i:Int)+(1:Int))=(i' :Int)∧p=o' ∧(i' ≤q.atoms.length∧o' =m4 (vG q m i'))∧q.atoms.length - i' <q.atoms.length - i)))∧((decide ((k:Int)<((e19.vars.length:Nat):Int)))=false→cC ((i:Int)+(1:Int))∧ ∃(i' :Nat) (o' :Int),((i:Int)+(1:Int))=(i' :Int)∧p=o' ∧(i' ≤q.atoms.length∧o' =m4 (vG q m i'))∧q.atoms.length - i' <q.atoms.length - i)))∧((decide ((i:Int)<((q.atoms.length:Nat):Int)))=false→o=(m4 (inM q m))∧True))) (by kernel_rfl) ?_
 intro n0
 simp only [List.length_map] at n0
 have w:=(gU hq).1
 have w2:=(gU hq).2
 refine ⟨⟨0,(0:Int),rfl,rfl,Nat.zero_le _,rfl⟩,fun i o ⟨hi,ho⟩=>?_⟩
 refine ⟨List.length_map _,fun c0=>?_,fun c0=>?_⟩
 ·replace c0:=yq c0
  obtain ⟨a,ha⟩:=dG (l:=q.atoms) (k:=i) (by omega)
  have w3:=(aBK (w2.2 a (List.mem_of_getElem? ha))).2
  have hga:q.atoms.getD i jI=a:=bC ha
  have hgl:(q.atoms.getD i jI).vars.length=a.vars.length:=by rw [hga]
  refine ⟨⟨0,o,rfl,rfl,Nat.zero_le _,by rw [ho,aO6]⟩,fun k p ⟨hk,hp⟩=>?_⟩
  rw [hga] at hp
  refine ⟨by omega,rfl,by omega,fun e19 h19=>?_⟩
  obtain rfl:=(aY ha h19).symm
  refine ⟨List.length_map _,fun g24=>?_,fun g24=>?_⟩
  ·replace g24:=yq g24
   refine ⟨⟨by omega,by omega⟩,fun c1=>?_,fun c1=>?_⟩
   ·replace c1:=yq c1
    refine ⟨by omega,rfl,by omega,fun e37 h37=>?_⟩
    obtain rfl:=(aY ha h37).symm
    refine ⟨by omega,rfl,by omega,fun e41 h41=>?_⟩
    have w8:=w3.2 _ (List.mem_of_getElem? h41)
    obtain ⟨w4,w5,w6⟩:=aDR (x:=e41) (aAh (by omega) (by omega))
    refine ⟨⟨by omega,by omega⟩,by first | exact w4 | exact ⟨by omega,by omega⟩,by first | exact w4 | exact ⟨by omega,by omega⟩,?_⟩
    exact ⟨k+1,_,rfl,rfl,⟨by omega,by rw [hga,hp,aQz (by omega),aO7 (aAM c1) h41 (by omega)]⟩,by omega⟩
   ·replace c1:=nq c1
    refine ⟨by first | exact w4 | exact ⟨by omega,by omega⟩,?_⟩
    exact ⟨i+1,_,rfl,rfl,⟨by omega,by first | (rw [hp,aAQ ha (.inl (qF c1))];done) | (rw [hp,aAQ ha (.inr (by omega))];done)⟩,by omega⟩
  ·replace g24:=nq g24
   refine ⟨by first | exact w4 | exact ⟨by omega,by omega⟩,?_⟩
   exact ⟨i+1,_,rfl,rfl,⟨by omega,by first | (rw [hp,aAQ ha (.inl (qF c1))];done) | (rw [hp,aAQ ha (.inr (by omega))];done)⟩,by omega⟩
 ·replace c0:=nq c0
  refine ⟨?_,trivial⟩
  ·rw [ho,show i=q.atoms.length by omega];rfl
abbrev vL (m:Int):AV × List (Nat × Rs):=(.own 0,[(0,.arr 3 1 true ((iK (gL m) 4).map intD))])
abbrev aC3 (m:Int):Prop:=cT Tryz.prog 71 [.one (.int .i64 m)] (vL m).1 (vL m).2
theorem aM7 (m:Int):aC3 m:=by
 refine aT bE aL Tryz.func71 (by kernel_rfl) (.loop (Nat × (List Int)) (Q2 Nat (List Int)) [3,4,5,6,7,8,9,10,11,12,13,14,15,16,17,18] [500,1700,1800] (fun yy0=>[(4,vI (yy0.1:Int)),(3,.own 500)]) (fun yy0=>[(500,some (.arr 3 1 true (yy0.2.map intD)))]) (fun yy0=>yy0.1≤4∧yy0.2=iK (gL m) yy0.1) (fun yy0=>4 - yy0.1) (fun yy0=> .br (.br (.app Int intD yy0.2 ([(yy0.1:Int)]:List Int)<| .back [(500,1800)]) (.back [(500,500)])) (.fin [(0,500)]))) (p:=(∃(i:Nat) (out:List Int),(0:Int)=(i:Int)∧[]=out.map intD∧i≤4∧out=iK (gL m) i)∧ ∀(i:Nat) (out:List Int),(i≤4∧out=iK (gL m) i)→((decide ((i:Int)<(4:Int)))=true→(0≤(i:Int)∧(i:Int)≤64)∧(((decide ((cF .and .i64 (m/2^i) (1:Int))=(1:Int)))=true→out.map intD=out.map intD∧[[.int .i64 (i:Int)]]=([(i:Int)]:List Int).map intD∧(∀x,eL (intD x)=true)∧(out.length+([(i:Int)]:List Int).length)*8≤140737488355328∧cC ((i:Int)+(1:Int))∧ ∃(i' :Nat) (out' :List Int),((i:Int)+(1:Int))=(i' :Int)∧(out++[(i:Int)]).map intD=out'.map intD∧(i' ≤4∧out' =iK (gL m) i')∧4 - i' <4 - i)∧((decide ((cF .and .i64 (m/2^i) (1:Int))=(1:Int)))=false→cC ((i:Int)+(1:Int))∧ ∃(i' :Nat) (out' :List Int),((i:Int)+(1:Int))=(i' :Int)∧out.map intD=out'.map intD∧(i' ≤4∧out' =iK (gL m) i')∧4 - i' <4 - i)))∧((decide ((i:Int)<(4:Int)))=false→out.map intD=(iK (gL m) 4).map intD∧True)) (by kernel_rfl) ?_
 refine ⟨⟨0,([]:List Int),rfl,rfl,by omega,rfl⟩,fun i out ⟨hi,ho⟩=>?_⟩
 refine ⟨fun c0=>?_,fun c0=>?_⟩
 ·replace c0:=yq c0
  refine ⟨⟨by omega,by omega⟩,fun c1=>?_,fun c1=>?_⟩
  ·replace c1:=yq c1
   refine ⟨rfl,rfl,fun _=>rfl,by first | omega | (rw [ho];have:=yK (gL m) i;simp only [List.length_cons,List.length_nil];omega),?_⟩
   refine ⟨⟨by omega,by omega⟩,?_⟩
   exact ⟨i+1,_,rfl,rfl,⟨by omega,by first | (rw [ho,mN (aAM c1)];done) | (rw [ho,oA (qF c1)];done)⟩,by omega⟩
  ·replace c1:=nq c1
   refine ⟨⟨by omega,by omega⟩,?_⟩
   exact ⟨i+1,_,rfl,rfl,⟨by omega,by first | (rw [ho,mN (aAM c1)];done) | (rw [ho,oA (qF c1)];done)⟩,by omega⟩
 ·replace c0:=nq c0
  refine ⟨?_,trivial⟩
  ·rw [ho,show i=4 by omega]
abbrev yV (q:QueryD) (m:Int):AV × List (Nat × Rs):=(.own 0,[(0,.arr 3 1 true ((eT q m).map intD))])
abbrev aEL (q:QueryD) (m:Int):Prop:=cT Tryz.prog 33 [.agg [.int .i64 q.variableCount,.sl 135 2 (q.atoms.map bH)],.one (.int .i64 m)] (yV q m).1 (yV q m).2
theorem aOy (q:QueryD) (m:Int):aEL q m:=by
 refine aT bE aL Tryz.func33 (by kernel_rfl) (.call (vB (jO q m)) []<| .br (.fin [(0,900)]) (.call (vI (m4 (inM q m))) []<| bV (vL (m4 (inM q m)))<| .fin [(0,1300)])) (p:=(q.atoms.map bH).length≤9223372036854775807→aGk q m∧(((!(jO q m))=true→[]=(eT q m).map intD∧True)∧((!(jO q m))=false→aC2 q m∧aC3 (m4 (inM q m))∧(iK (gL (m4 (inM q m))) 4).map intD=(eT q m).map intD∧True))) (by kernel_rfl) ?_
 intro n0
 simp only [List.length_map] at n0
 refine ⟨aRR _ m,fun c0=>?_,fun c0=>?_⟩
 ·replace c0:=nt c0
  refine ⟨?_,trivial⟩
  ·first | (rw [aCV c0];rfl) | (rw [aAN c0,aG3 (qQ c0).1])
 ·replace c0:=nf c0
  refine ⟨aM6 q m (by first | assumption | exact (qQ (q:=q) (m:=m) (by assumption)).1),aM7 (m4 (inM q m)),?_,trivial⟩
  ·first | (rw [aCV c0];rfl) | (rw [aAN c0,aG3 (qQ c0).1])
abbrev aGl (a:dS) (m:Int):Prop:=cT Tryz.prog 136 [.agg [.str a.name,.sl 3 1 (a.vars.map intD)],.one (.int .i64 m)] (vI (vsS m a.vars (min a.vars.length 3))) []
theorem aRS (a:dS) (m:Int):aGl a m:=by
 refine aT bE aL Tryz.func136 (by kernel_rfl) (.loop (Nat × Int) (Q2 Nat Int) [5,6,7,8,9,10,11,12,13,14,15,16,17,18,19,20,21,22,23,24,25,26,27,28,29,30,31,32,33,34,35,36,37,38] [] (fun yy0=>[(6,vI (yy0.1:Int)),(5,vI yy0.2)]) (fun yy0=>[]) (fun yy0=>(yy0.1≤a.vars.length∧yy0.1≤3)∧yy0.2=vsS m a.vars yy0.1) (fun yy0=>a.vars.length - yy0.1) (fun yy0=> .len a.vars.length<| .br (.lit<| .lit<| .br (.br (.elem _ intD a.vars (fun e27=> .call (vB (eB e27 (0:Int) (3:Int))) []<| .lit<| .br (.elem _ intD a.vars (fun e35=> .back [])) (.back []))) (.back [])) (.fin [])) (.fin []))) (p:=(a.vars.map intD).length≤9223372036854775807→(∃(k:Nat) (o:Int),(0:Int)=(k:Int)∧(0:Int)=o∧(k≤a.vars.length∧k≤3)∧o=vsS m a.vars k)∧ ∀(k:Nat) (o:Int),((k≤a.vars.length∧k≤3)∧o=vsS m a.vars k)→Lm intD a.vars∧(((decide ((k:Int)<((a.vars.length:Nat):Int)))=true→((decide ((k:Int)<(3:Int)))=true→(0≤(k:Int)∧(k:Int)≤64)∧(((decide ((cF .and .i64 (m/2^k) (1:Int))=(1:Int)))=true→0≤(k:Int)∧Em intD a.vars k fun e27=>fT e27 (0:Int) (3:Int)∧(((eB e27 (0:Int) (3:Int))=true→0≤(k:Int)∧Em intD a.vars k fun e35=>(0≤e35∧e35≤64)∧cC ((1:Int)*2^(Int.toNat e35))∧cC ((k:Int)+(1:Int))∧ ∃(k' :Nat) (o' :Int),((k:Int)+(1:Int))=(k' :Int)∧(cF .or .i64 o ((1:Int)*2^(Int.toNat e35)))=o' ∧((k' ≤a.vars.length∧k' ≤3)∧o' =vsS m a.vars k')∧a.vars.length - k' <a.vars.length - k)∧((eB e27 (0:Int) (3:Int))=false→cC ((k:Int)+(1:Int))∧ ∃(k' :Nat) (o' :Int),((k:Int)+(1:Int))=(k' :Int)∧o=o' ∧((k' ≤a.vars.length∧k' ≤3)∧o' =vsS m a.vars k')∧a.vars.length - k' <a.vars.length - k)))∧((decide ((cF .and .i64 (m/2^k) (1:Int))=(1:Int)))=false→cC ((k:Int)+(1:Int))∧ ∃(k' :Nat) (o' :Int),((k:Int)+(1:Int))=(k' :Int)∧o=o' ∧((k' ≤a.vars.length∧k' ≤3)∧o' =vsS m a.vars k')∧a.vars.length - k' <a.vars.length - k)))∧((decide ((k:Int)<(3:Int)))=false→o=(vsS m a.vars (min a.vars.length 3))∧True))∧((decide ((k:Int)<((a.vars.length:Nat):Int)))=false→o=(vsS m a.vars (min a.vars.length 3))∧True))) (by kernel_rfl) ?_
 intro n0
 simp only [List.length_map] at n0
 refine ⟨⟨0,0,rfl,rfl,⟨Nat.zero_le _,by omega⟩,rfl⟩,fun k o ⟨hk,hv⟩=>?_⟩
 refine ⟨List.length_map _,fun g12=>?_,fun g12=>?_⟩
 ·replace g12:=yq g12
  refine ⟨fun c0=>?_,fun c0=>?_⟩
  ·replace c0:=yq c0
   refine ⟨⟨by omega,by omega⟩,fun g23=>?_,fun g23=>?_⟩
   ·replace g23:=yq g23
    refine ⟨by omega,rfl,by omega,fun e27 h27=>?_⟩
    try (obtain rfl:=(aY h27 h27).symm)
    refine ⟨jR _ _ _,fun c1=>?_,fun c1=>?_⟩
    ·obtain ⟨w1,w2,w3⟩:=aDR c1
     refine ⟨by omega,rfl,by omega,fun e35 h35=>?_⟩
     try (obtain rfl:=(aY h27 h35).symm)
     refine ⟨⟨by omega,by omega⟩,by first | exact w1 | exact ⟨by omega,by omega⟩,by first | exact w1 | exact ⟨by omega,by omega⟩,?_⟩
     exact ⟨k+1,_,rfl,rfl,⟨by omega,by first | (rw [aJh h27 g23 c1,hv];done) | (rw [aDS h27 (by simp [g23,c1]),hv];done) | (obtain ⟨y,hy⟩:=dG (l:=a.vars) (k:=k) (by omega);rw [aDS hy (by simp [g23]),hv])⟩,by omega⟩
    ·refine ⟨by first | exact w1 | exact ⟨by omega,by omega⟩,?_⟩
     exact ⟨k+1,_,rfl,rfl,⟨by omega,by first | (rw [aJh h27 g23 c1,hv];done) | (rw [aDS h27 (by simp [g23,c1]),hv];done) | (obtain ⟨y,hy⟩:=dG (l:=a.vars) (k:=k) (by omega);rw [aDS hy (by simp [g23]),hv])⟩,by omega⟩
   ·replace g23:=nq g23
    refine ⟨by first | exact w1 | exact ⟨by omega,by omega⟩,?_⟩
    exact ⟨k+1,_,rfl,rfl,⟨by omega,by first | (rw [aJh h27 g23 c1,hv];done) | (rw [aDS h27 (by simp [g23,c1]),hv];done) | (obtain ⟨y,hy⟩:=dG (l:=a.vars) (k:=k) (by omega);rw [aDS hy (by simp [g23]),hv])⟩,by omega⟩
  ·replace c0:=nq c0
   refine ⟨?_,trivial⟩
   ·(rw [hv];congr 1;omega)
 ·replace g12:=nq g12
  refine ⟨?_,trivial⟩
  ·(rw [hv];congr 1;omega)
abbrev yW (x:aH) (a:dS):AV × List (Nat × Rs):=(.own 0,[(0,.arr 164 3 true ((lO x a).map aC))])
abbrev aEM (x:aH) (a:dS):Prop:=cT Tryz.prog 117 [.agg [.str x.name,.int .i64 x.arity,.int .i64 x.rowCount,.sl 203 3 (x.groups.map aB)],.agg [.str a.name,.sl 3 1 (a.vars.map intD)]] (yW x a).1 (yW x a).2
theorem aOz (x:aH) (a:dS) (hc:bA x≤1048576) (ha:kK a≤1048576):aEM x a:=by
 refine aT bE aL Tryz.func117 (by kernel_rfl) (.call (vB (bX x)) []<| .br (.fin []) (.lit<| .lit<| .lit<| .br (.fin []) (.len a.vars.length<| .lit<| .lit<| .lit<| .lit<| .br (.fin []) (.loop (Nat × (List aD)) (Q2 Nat (List aD)) [5,6,7,8,9,26,27,28,29,30,31,32,33,34,35,36,37,38,39,40,41,42,43,44,45,46,47,48,49,50,51,52,53,54,55,56] [2600,3600,4100,5500,5600] (fun yy0=>[(6,vI (yy0.1:Int)),(5,.own 2600)]) (fun yy0=>[(2600,some (.arr 164 3 true (yy0.2.map aC)))]) (fun yy0=>yy0.1≤((2:Int)^x.arity.toNat - 1).toNat∧yy0.2=(List.range yy0.1).map (tcC x a)) (fun yy0=>((2:Int)^x.arity.toNat - 1).toNat - yy0.1) (fun yy0=> .br (bV (sT (yy0.1:Int))<| bV (oU a.vars (eZ (yy0.1:Int)))<| .call (vI (gV ((fK a.vars (eZ (yy0.1:Int))).1))) []<| .call (vI (gV a.vars)) []<| .call (vI ((iL x (eZ (yy0.1:Int))).getD 0 0)) []<| .call (vI (nN ((iL x (eZ (yy0.1:Int))).getD 0 0))) []<| .app aD aC yy0.2 ([(⟨gV ((fK a.vars (eZ (yy0.1:Int))).1),gV a.vars,nN ((iL x (eZ (yy0.1:Int))).getD 0 0)⟩:aD)]:List aD)<| .back [(2600,5600)]) (.fin [(0,2600)])))))) (p:=(x.groups.map aB).length≤9223372036854775807→(a.vars.map intD).length≤9223372036854775807→aBE x∧(((!(bX x))=true→[]=(lO x a).map aC∧True)∧((!(bX x))=false→((decide (x.rowCount=(0:Int)))=true→[]=(lO x a).map aC∧True)∧((decide (x.rowCount=(0:Int)))=false→Lm intD a.vars∧(((!(decide (((a.vars.length:Nat):Int)=x.arity)))=true→[]=(lO x a).map aC∧True)∧((!(decide (((a.vars.length:Nat):Int)=x.arity)))=false→(∃(m:Nat) (out:List aD),(0:Int)=(m:Int)∧[]=out.map aC∧m≤((2:Int)^x.arity.toNat - 1).toNat∧out=(List.range m).map (tcC x a))∧ ∀(m:Nat) (out:List aD),(m≤((2:Int)^x.arity.toNat - 1).toNat∧out=(List.range m).map (tcC x a))→(0≤x.arity∧x.arity≤64)∧(cC ((1:Int)*2^(Int.toNat x.arity))∧(cC (((1:Int)*2^(Int.toNat x.arity)) - (1:Int))∧(((decide ((m:Int)<(((1:Int)*2^(Int.toNat x.arity)) - (1:Int))))=true→yE (m:Int)∧rQ a.vars (eZ (m:Int))∧yO ((fK a.vars (eZ (m:Int))).1)∧yO a.vars∧aDt x (eZ (m:Int))∧aDv ((iL x (eZ (m:Int))).getD 0 0)∧out.map aC=out.map aC∧[[.int .i64 (gV ((fK a.vars (eZ (m:Int))).1)),.int .i64 (gV a.vars),.int .i64 (nN ((iL x (eZ (m:Int))).getD 0 0))]]=([(⟨gV ((fK a.vars (eZ (m:Int))).1),gV a.vars,nN ((iL x (eZ (m:Int))).getD 0 0)⟩:aD)]:List aD).map aC∧(∀x,eL (aC x)=true)∧(out.length+([(⟨gV ((fK a.vars (eZ (m:Int))).1),gV a.vars,nN ((iL x (eZ (m:Int))).getD 0 0)⟩:aD)]:List aD).length)*24≤140737488355328∧cC ((m:Int)+(1:Int))∧ ∃(m' :Nat) (out' :List aD),((m:Int)+(1:Int))=(m' :Int)∧(out++[(⟨gV ((fK a.vars (eZ (m:Int))).1),gV a.vars,nN ((iL x (eZ (m:Int))).getD 0 0)⟩:aD)]).map aC=out'.map aC∧(m' ≤((2:Int)^x.arity.toNat - 1).toNat∧out' =(List.range m').map (tcC x a))∧((2:Int)^x.arity.toNat - 1).toNat - m' <((2:Int)^x.arity.toNat - 1).toNat - m)∧((decide ((m:Int)<(((1:Int)*2^(Int.toNat x.arity)) - (1:Int))))=false→out.map aC=(lO x a).map aC∧True)))))))))) (by kernel_rfl) ?_
 intro n0 n1
 simp only [List.length_map] at n0 n1
 have q3:kK a=a.name.size+cG a.vars:=rfl
 have q4:cG a.vars=a.vars.length:=rfl
 refine ⟨aLB _ (by omega),fun g13=>?_,fun g13=>?_⟩
 ·replace g13:=nt g13
  have hbad:nO x a=false:=by first | (simp [nO, *];done) | (simp [nO, *] at*;omega)
  refine ⟨?_,trivial⟩
  ·first | (rw [qR hbad]<;>rfl) | (rw [oC hok,ho,show ((2:Int)^x.arity.toNat - 1).toNat=m by omega])
 ·replace g13:=nf g13
  refine ⟨fun g18=>?_,fun g18=>?_⟩
  ·replace g18:=yq g18
   have hbad:nO x a=false:=by first | (simp [nO, *];done) | (simp [nO, *] at*;omega)
   refine ⟨?_,trivial⟩
   ·first | (rw [qR hbad]<;>rfl) | (rw [oC hok,ho,show ((2:Int)^x.arity.toNat - 1).toNat=m by omega])
  ·replace g18:=nq g18
   refine ⟨List.length_map _,fun c0=>?_,fun c0=>?_⟩
   ·replace c0:=nq (nt c0)
    have hbad:nO x a=false:=by first | (simp [nO, *];done) | (simp [nO, *] at*;omega)
    refine ⟨?_,trivial⟩
    ·first | (rw [qR hbad]<;>rfl) | (rw [oC hok,ho,show ((2:Int)^x.arity.toNat - 1).toNat=m by omega])
   ·replace c0:=yq (nf c0)
    have hok:nO x a=true:=by first | (simp [nO, *];done) | (simp [nO, *] at*;omega)
    obtain ⟨hS,hA⟩:=aBO hok
    have hn:=aAL hS
    have hp:=qY hn
    refine ⟨⟨0,([]:List aD),rfl,rfl,Nat.zero_le _,rfl⟩,fun m out ⟨hm,ho⟩=>?_⟩
    refine ⟨⟨by omega,by omega⟩,⟨by omega,by omega⟩,⟨by omega,by omega⟩,fun c1=>?_,fun c1=>?_⟩
    ·replace c1:=yq c1
     have hbl:(eZ (m:Int)).length≤3:=tW _ 3
     have hE:=aLT (m:=(m:Int)) hn hA (by omega) (by omega)
     have hE2:=aIs (m:=(m:Int)) hn hA (by omega) (by omega)
     refine ⟨aIi (m:Int) (by omega),aCH _ _ (by omega),aIt _,aIt _,aOf _ (eZ (m:Int)) (by omega) (by omega),aOh _,rfl,rfl,fun _=>rfl,by first | omega | (simp [ho];omega),?_⟩
     refine ⟨⟨by omega,by omega⟩,?_⟩
     exact ⟨m+1,_,rfl,rfl,⟨by omega,by rw [ho,List.range_succ,List.map_append,List.map_cons,List.map_nil,tcC];first | (rw [hE];done) | (rw [hE2];done)⟩,by omega⟩
    ·replace c1:=nq c1
     refine ⟨?_,trivial⟩
     ·first | (rw [qR hbad]<;>rfl) | (rw [oC hok,ho,show ((2:Int)^x.arity.toNat - 1).toNat=m by omega])
abbrev yX (x:aH) (a:dS):AV × List (Nat × Rs):=(.own 0,[(0,.arr 164 3 true ((lO x a).map aC))])
abbrev aEN (x:aH) (a:dS):Prop:=cT Tryz.prog 105 [.agg [.str x.name,.int .i64 x.arity,.int .i64 x.rowCount,.sl 203 3 (x.groups.map aB)],.agg [.str a.name,.sl 3 1 (a.vars.map intD)]] (yX x a).1 (yX x a).2
theorem aPA (x:aH) (a:dS) (hc:bA x≤1048576) (ha:kK a≤1048576):aEN x a:=by
 refine aT bE aL Tryz.func105 (by kernel_rfl) (.call (vB (bX x)) []<| .br (.fin [(0,700)]) (.lit<| .lit<| .lit<| .br (.fin [(0,700)]) (.len a.vars.length<| .lit<| .lit<| .lit<| .lit<| .br (.fin [(0,700)]) (.loop (Nat × (List aD)) (Q2 Nat (List aD)) [5,6,7,25,26,27,28,29,30,31,32,33,34,35,36,37,38,39,40,41,42,43,44,45,46,47] [700,4200,4600,4700] (fun yy0=>[(6,vI (yy0.1:Int)),(5,.own 700)]) (fun yy0=>[(700,some (.arr 164 3 true (yy0.2.map aC)))]) (fun yy0=>yy0.1≤((2:Int)^x.arity.toNat - 1).toNat∧yy0.2=(List.range yy0.1).map (tcC x a)) (fun yy0=>((2:Int)^x.arity.toNat - 1).toNat - yy0.1) (fun yy0=> .br (.call (vI (vsS (yy0.1:Int) a.vars (min a.vars.length 3))) []<| .call (vI (gV a.vars)) []<| bV (sU (yy0.1:Int))<| .call (vI ((iL x (eZ (yy0.1:Int))).getD 0 0)) []<| .call (vI (nN ((iL x (eZ (yy0.1:Int))).getD 0 0))) []<| .app aD aC yy0.2 ([(⟨vsS (yy0.1:Int) a.vars (min a.vars.length 3),gV a.vars,nN ((iL x (eZ (yy0.1:Int))).getD 0 0)⟩:aD)]:List aD)<| .back [(700,4700)]) (.fin [(0,700)])))))) (p:=(x.groups.map aB).length≤9223372036854775807→(a.vars.map intD).length≤9223372036854775807→vH x∧(((!(bX x))=true→[]=(lO x a).map aC∧True)∧((!(bX x))=false→((decide (x.rowCount=(0:Int)))=true→[]=(lO x a).map aC∧True)∧((decide (x.rowCount=(0:Int)))=false→Lm intD a.vars∧(((!(decide (((a.vars.length:Nat):Int)=x.arity)))=true→[]=(lO x a).map aC∧True)∧((!(decide (((a.vars.length:Nat):Int)=x.arity)))=false→(∃(m:Nat) (out:List aD),(0:Int)=(m:Int)∧[]=out.map aC∧m≤((2:Int)^x.arity.toNat - 1).toNat∧out=(List.range m).map (tcC x a))∧ ∀(m:Nat) (out:List aD),(m≤((2:Int)^x.arity.toNat - 1).toNat∧out=(List.range m).map (tcC x a))→(0≤x.arity∧x.arity≤64)∧(cC ((1:Int)*2^(Int.toNat x.arity))∧(cC (((1:Int)*2^(Int.toNat x.arity)) - (1:Int))∧(((decide ((m:Int)<(((1:Int)*2^(Int.toNat x.arity)) - (1:Int))))=true→aGl a (m:Int)∧aDu a.vars∧yF (m:Int)∧aDs x (eZ (m:Int))∧aDw ((iL x (eZ (m:Int))).getD 0 0)∧out.map aC=out.map aC∧[[.int .i64 (vsS (m:Int) a.vars (min a.vars.length 3)),.int .i64 (gV a.vars),.int .i64 (nN ((iL x (eZ (m:Int))).getD 0 0))]]=([(⟨vsS (m:Int) a.vars (min a.vars.length 3),gV a.vars,nN ((iL x (eZ (m:Int))).getD 0 0)⟩:aD)]:List aD).map aC∧(∀x,eL (aC x)=true)∧(out.length+([(⟨vsS (m:Int) a.vars (min a.vars.length 3),gV a.vars,nN ((iL x (eZ (m:Int))).getD 0 0)⟩:aD)]:List aD).length)*24≤140737488355328∧cC ((m:Int)+(1:Int))∧ ∃(m' :Nat) (out' :List aD),((m:Int)+(1:Int))=(m' :Int)∧(out++[(⟨vsS (m:Int) a.vars (min a.vars.length 3),gV a.vars,nN ((iL x (eZ (m:Int))).getD 0 0)⟩:aD)]).map aC=out'.map aC∧(m' ≤((2:Int)^x.arity.toNat - 1).toNat∧out' =(List.range m').map (tcC x a))∧((2:Int)^x.arity.toNat - 1).toNat - m' <((2:Int)^x.arity.toNat - 1).toNat - m)∧((decide ((m:Int)<(((1:Int)*2^(Int.toNat x.arity)) - (1:Int))))=false→out.map aC=(lO x a).map aC∧True)))))))))) (by kernel_rfl) ?_
 intro n0 n1
 simp only [List.length_map] at n0 n1
 have q3:kK a=a.name.size+cG a.vars:=rfl
 have q4:cG a.vars=a.vars.length:=rfl
 refine ⟨aG5 _ (by omega),fun g11=>?_,fun g11=>?_⟩
 ·replace g11:=nt g11
  have hbad:nO x a=false:=by first | (simp [nO, *];done) | (simp [nO, *] at*;omega)
  refine ⟨?_,trivial⟩
  ·first | (rw [qR hbad]<;>rfl) | (rw [oC hok,ho,show ((2:Int)^x.arity.toNat - 1).toNat=m by omega])
 ·replace g11:=nf g11
  refine ⟨fun g16=>?_,fun g16=>?_⟩
  ·replace g16:=yq g16
   have hbad:nO x a=false:=by first | (simp [nO, *];done) | (simp [nO, *] at*;omega)
   refine ⟨?_,trivial⟩
   ·first | (rw [qR hbad]<;>rfl) | (rw [oC hok,ho,show ((2:Int)^x.arity.toNat - 1).toNat=m by omega])
  ·replace g16:=nq g16
   refine ⟨List.length_map _,fun c0=>?_,fun c0=>?_⟩
   ·replace c0:=nq (nt c0)
    have hbad:nO x a=false:=by first | (simp [nO, *];done) | (simp [nO, *] at*;omega)
    refine ⟨?_,trivial⟩
    ·first | (rw [qR hbad]<;>rfl) | (rw [oC hok,ho,show ((2:Int)^x.arity.toNat - 1).toNat=m by omega])
   ·replace c0:=yq (nf c0)
    have hok:nO x a=true:=by first | (simp [nO, *];done) | (simp [nO, *] at*;omega)
    obtain ⟨hS,hA⟩:=aBO hok
    have hn:=aAL hS
    have hp:=qY hn
    refine ⟨⟨0,([]:List aD),rfl,rfl,Nat.zero_le _,rfl⟩,fun m out ⟨hm,ho⟩=>?_⟩
    refine ⟨⟨by omega,by omega⟩,⟨by omega,by omega⟩,⟨by omega,by omega⟩,fun c1=>?_,fun c1=>?_⟩
    ·replace c1:=yq c1
     have hbl:(eZ (m:Int)).length≤3:=tW _ 3
     have hE:=aLT (m:=(m:Int)) hn hA (by omega) (by omega)
     have hE2:=aIs (m:=(m:Int)) hn hA (by omega) (by omega)
     refine ⟨aRS _ _,aOg _,aIj (m:Int) (by omega),aOe _ (eZ (m:Int)) (by omega) (by omega),aOi _,rfl,rfl,fun _=>rfl,by first | omega | (simp [ho];omega),?_⟩
     refine ⟨⟨by omega,by omega⟩,?_⟩
     exact ⟨m+1,_,rfl,rfl,⟨by omega,by rw [ho,List.range_succ,List.map_append,List.map_cons,List.map_nil,tcC];first | (rw [hE];done) | (rw [hE2];done)⟩,by omega⟩
    ·replace c1:=nq c1
     refine ⟨?_,trivial⟩
     ·first | (rw [qR hbad]<;>rfl) | (rw [oC hok,ho,show ((2:Int)^x.arity.toNat - 1).toNat=m by omega])
theorem aJi {s:StoreD} {q:QueryD} {m:Int} (h:wR s q m=true):fY m=iK (gL m) q.atoms.length:=by
 obtain ⟨_,_,_,h1,h2,_,_,h3⟩:=aDT h
 exact aRD ⟨by omega,h2⟩ h3.2
theorem aIu (m:Int):(fY m).length≤4:=by
 cases h:eB m 0 15 with
 | false=>rw [aG2 h];exact Nat.zero_le _
 | true=>rw [aAO h];exact yK _ _
theorem aRT {s:StoreD} {q:QueryD} {m x:Int} (h:wR s q m=true) (hx:x∈fY m):0≤x∧x.toNat<q.atoms.length∧gL m x.toNat=true:=by
 rw [aJi h] at hx
 exact aLM.1 hx
def qcA (s:StoreD) (q:QueryD) (x:Int):List aD:=lO (gC s q x.toNat) (q.atoms.getD x.toNat jI)
def qcL (s:StoreD) (q:QueryD) (l:List Int):List aD:=l.flatMap (qcA s q)
def aC4 (s:StoreD) (q:QueryD) (l:List Int):Bool:=l.all fun x=> !decide ((qcA s q x).length=0)
def dI (s:StoreD) (q:QueryD) (m:Int):List aD:=if (wR s q m&&aC4 s q (fY m))=true then qcL s q (fY m) else []
theorem nH {s:StoreD} {q:QueryD} {m:Int} (h:wR s q m=true) (h2:aC4 s q (fY m)=true):dI s q m=qcL s q (fY m):=by rw [dI,if_pos (by rw [h,h2];rfl)]
theorem qB {s:StoreD} {q:QueryD} {m:Int} (h:wR s q m=false):dI s q m= []:=by rw [dI,if_neg (by rw [h];simp)]
theorem nI {s:StoreD} {q:QueryD} {m x:Int} (hx:x∈fY m) (h:(qcA s q x).length=0):dI s q m= []:=by
 rw [dI,if_neg]
 intro h2
 rw [Bool.and_eq_true] at h2
 have:=List.all_eq_true.1 h2.2 x hx
 simp [h] at this
theorem aGm (s:StoreD) (q:QueryD) (l:List Int) (x:Int):qcL s q (l++[x])=qcL s q l++qcA s q x:=by
 rw [qcL,List.flatMap_append];simp [qcL]
theorem aDU {s:StoreD} {q:QueryD} {l:List Int} {x:Int} (h:aC4 s q l=true) (hx: ¬((qcA s q x).length:Int)=0):aC4 s q (l++[x])=true:=by
 rw [aC4,List.all_append,Bool.and_eq_true]
 refine ⟨h,?_⟩
 simp only [List.all_cons,List.all_nil,Bool.and_true,Bool.not_eq_true',decide_eq_false_iff_not]
 omega
theorem aFC (s:StoreD) (q:QueryD): ∀l:List Int,(qcL s q l).length≤7*l.length
 | []=>Nat.zero_le _
 | x::l=>by
   have h1:=aGc (gC s q x.toNat) (q.atoms.getD x.toNat jI)
   have h2:=aFC s q l
   have h3:qcL s q (x::l)=qcA s q x++qcL s q l:=by simp [qcL]
   rw [h3,List.length_append,List.length_cons]
   unfold qcA
   omega
theorem aIw (s:StoreD) (q:QueryD) (m:Int):(dI s q m).length≤28:=by
 unfold dI
 split
 ·have h1:=aFC s q (fY m)
  have h2:=aIu m
  omega
 ·exact Nat.zero_le _
end Go.Proofs.YtdfebigfnjfgpaaGreat
