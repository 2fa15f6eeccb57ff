/-
  Contracts and plain laws, joined: part 15.
-/
import Derived.Test.YtdfebigfnjfgpaaGreatQP12
import Derived.Test.YtdfebigfnjfgpaaGreatQP9
import Derived.Test.YtdfebigfnjfgpaaGreatQP13
import Derived.Test.YtdfebigfnjfgpaaGreatQP11
namespace Go.Proofs.YtdfebigfnjfgpaaGreat
open Go.ChangeShapes Go.WideShapes Go.ChangeAt Go.RowKit
set_option linter.unusedVariables false
set_option linter.unusedSimpArgs false
set_option maxRecDepth 100000
set_option maxHeartbeats 4000000
abbrev aHR (d:aV) (q:QueryD):Prop:=cX Tryz.prog 113 [.agg [.sl 167 3 (d.tables.map aP)],.agg [.int .i64 q.variableCount,.sl 135 2 (q.atoms.map aZ)]] (vB (eE d q)) []
theorem aRw (d:aV) (q:QueryD) (hc:bH d≤1048576):aHR d q:=by
 refine aX bG aR Tryz.func113 (by kernel_rfl) (.call (vB (cL q)) []<| .br (.fin []) (.len q.atoms.length<| .loop Nat (Q1 Nat) [6,7,8,15,16,17,18,19,20,21,22,23,24,25,26,27,28,29,30,31,32,33,34,35,36] [600,700] (fun k=>[(15,vI (k:Int))]) (fun k=>[]) (fun k=>k≤q.atoms.length∧(q.atoms.take k).all (fun a=>(aI d a.name).2&&decide ((aI d a.name).1.arity=(a.vars.length:Nat)))=true) (fun k=>q.atoms.length - k) (fun k=> .br (.elem _ aZ q.atoms (fun e17=> .call (.tup [.agg [.p none (.str (((aI d e17.name).1).name)),vI (((aI d e17.name).1).arity),.p none (.sl 39 1 ((((aI d e17.name).1).rows).map aC))],vB ((aI d e17.name).2)]) []<| .br (.fin []) (.len e17.vars.length<| .lit<| .lit<| .br (.fin []) (.back [])))) (.fin [])))) (p:=(d.tables.map aP).length≤9223372036854775807→(q.atoms.map aZ).length≤9223372036854775807→wS q∧(((!(cL q))=true→(false)=(eE d q)∧True)∧((!(cL q))=false→Lm aZ q.atoms∧((∃(k:Nat),(0:Int)=(k:Int)∧k≤q.atoms.length∧(q.atoms.take k).all (fun a=>(aI d a.name).2&&decide ((aI d a.name).1.arity=(a.vars.length:Nat)))=true)∧ ∀(k:Nat),(k≤q.atoms.length∧(q.atoms.take k).all (fun a=>(aI d a.name).2&&decide ((aI d a.name).1.arity=(a.vars.length:Nat)))=true)→((decide ((k:Int)<((q.atoms.length:Nat):Int)))=true→0≤(k:Int)∧Em aZ q.atoms k fun e17=>cX Tryz.prog 150 [.agg [.sl 167 3 (d.tables.map aP)],.one (.str e17.name)] (.tup [.agg [.p none (.str (((aI d e17.name).1).name)),vI (((aI d e17.name).1).arity),.p none (.sl 39 1 ((((aI d e17.name).1).rows).map aC))],vB ((aI d e17.name).2)]) []∧(((!((aI d e17.name).2))=true→(false)=(eE d q)∧True)∧((!((aI d e17.name).2))=false→Lm intD e17.vars∧(((!(decide ((((aI d e17.name).1).arity)=((e17.vars.length:Nat):Int))))=true→(false)=(eE d q)∧True)∧((!(decide ((((aI d e17.name).1).arity)=((e17.vars.length:Nat):Int))))=false→cC ((k:Int)+(1:Int))∧ ∃(k' :Nat),((k:Int)+(1:Int))=(k' :Int)∧(k' ≤q.atoms.length∧(q.atoms.take k').all (fun a=>(aI d a.name).2&&decide ((aI d a.name).1.arity=(a.vars.length:Nat)))=true)∧q.atoms.length - k' <q.atoms.length - k)))))∧((decide ((k:Int)<((q.atoms.length:Nat):Int)))=false→(true)=(eE d q)∧True))))) (by kernel_rfl) ?_
 intro n0 n1
 simp only [List.length_map] at n0 n1
 refine ⟨aHO q,fun c0=>?_,fun c0=>?_⟩
 ·replace c0:=nt c0
  refine ⟨?_,trivial⟩
  ·first | (rw [eE,c0];rfl) | (rw [eE,bU h17 hA,Bool.and_false];done) | (rw [eE,c0,bE (by omega) ha];rfl)
 ·replace c0:=nf c0
  refine ⟨List.length_map _,⟨0,rfl,Nat.zero_le _,rfl⟩,fun k ⟨hk,ha⟩=>?_⟩
  refine ⟨fun c1=>?_,fun c1=>?_⟩
  ·replace c1:=yq c1
   refine ⟨by omega,rfl,by omega,fun e17 h17=>?_⟩
   try (obtain rfl:=(aY h17 h17).symm)
   refine ⟨kJ (sR _ e17.name (by omega)) rfl,fun g28=>?_,fun g28=>?_⟩
   ·replace g28:=nt g28
    have hA:((aI d e17.name).2&&decide ((aI d e17.name).1.arity=(e17.vars.length:Nat)))=false:=by first | (rw [g28];rfl) | (rw [g28];simp [c2];done)
    refine ⟨?_,trivial⟩
    ·first | (rw [eE,c0];rfl) | (rw [eE,bU h17 hA,Bool.and_false];done) | (rw [eE,c0,bE (by omega) ha];rfl)
   ·replace g28:=nf g28
    refine ⟨List.length_map _,fun c2=>?_,fun c2=>?_⟩
    ·replace c2:=nq (nt c2)
     have hA:((aI d e17.name).2&&decide ((aI d e17.name).1.arity=(e17.vars.length:Nat)))=false:=by first | (rw [g28];rfl) | (rw [g28];simp [c2];done)
     refine ⟨?_,trivial⟩
     ·first | (rw [eE,c0];rfl) | (rw [eE,bU h17 hA,Bool.and_false];done) | (rw [eE,c0,bE (by omega) ha];rfl)
    ·replace c2:=yq (nf c2)
     have hA:((aI d e17.name).2&&decide ((aI d e17.name).1.arity=(e17.vars.length:Nat)))=true:=by rw [g28];simp [c2]
     refine ⟨⟨by omega,by omega⟩,?_⟩
     exact ⟨k+1,rfl,⟨by omega,cS h17 ha hA⟩,by omega⟩
  ·replace c1:=nq c1
   refine ⟨?_,trivial⟩
   ·first | (rw [eE,c0];rfl) | (rw [eE,bU h17 hA,Bool.and_false];done) | (rw [eE,c0,bE (by omega) ha];rfl)
abbrev aEj (q:QueryD):Prop:=cX Tryz.prog 114 [.agg [.int .i64 q.variableCount,.sl 135 2 (q.atoms.map aZ)]] (vI (nK q)) []
theorem aPh (q:QueryD):aEj q:=by
 refine aX bG aR Tryz.func114 (by kernel_rfl) (.call (vB (cL q)) []<| .br (.fin []) (.len q.atoms.length<| .fin [])) (p:=(q.atoms.map aZ).length≤9223372036854775807→wS q∧(((!(cL q))=true→(0:Int)=(nK q)∧True)∧((!(cL q))=false→Lm aZ q.atoms∧(0≤((q.atoms.length:Nat):Int)∧((q.atoms.length:Nat):Int)≤64)∧cC ((1:Int)*2^q.atoms.length)∧cC (((1:Int)*2^q.atoms.length) - (1:Int))∧(((1:Int)*2^q.atoms.length) - (1:Int))=(nK q)∧True))) (by kernel_rfl) ?_
 intro n0
 simp only [List.length_map] at n0
 refine ⟨aHO q,fun c0=>?_,fun c0=>?_⟩
 ·replace c0:=nt c0
  refine ⟨?_,trivial⟩
  ·first | (rw [aCx c0];done) | (rw [vJ c0];done)
 ·replace c0:=nf c0
  have w:=nD (gR c0).2.1
  have w2:=(gR c0).2.1
  refine ⟨List.length_map _,⟨by omega,by omega⟩,⟨by omega,by omega⟩,⟨by omega,by omega⟩,?_,trivial⟩
  ·first | (rw [aCx c0];done) | (rw [vJ c0];done)
abbrev aHS (d:aV) (q:QueryD):Prop:=cX Tryz.prog 133 [.agg [.sl 167 3 (d.tables.map aP)],.agg [.int .i64 q.variableCount,.sl 135 2 (q.atoms.map aZ)]] (vB (eE d q)) []
theorem aRx (d:aV) (q:QueryD) (hc:bH d≤1048576):aHS d q:=by
 refine aX bG aR Tryz.func133 (by kernel_rfl) (.call (vB (cL q)) []<| .br (.fin []) (.loop Nat (Q1 Nat) [5,6,7,11,12,13,14,15,16,17,18,19,20,21,22,23,24,25,26,27,28,29,30,31,32,33,34,35,36,37,38,39,40,41,42] [600] (fun k=>[(5,vI (k:Int))]) (fun k=>[]) (fun k=>k≤q.atoms.length∧(q.atoms.take k).all (fun a=>(aI d a.name).2&&decide ((aI d a.name).1.arity=(a.vars.length:Nat)))=true) (fun k=>q.atoms.length - k) (fun k=> .len q.atoms.length<| .br (.elem _ aZ q.atoms (fun e23=> .call (.tup [.agg [.p none (.str (((aI d e23.name).1).name)),vI (((aI d e23.name).1).arity),.p none (.sl 39 1 ((((aI d e23.name).1).rows).map aC))],vB ((aI d e23.name).2)]) []<| .br (.fin []) (.elem _ aZ q.atoms (fun e37=> .len e37.vars.length<| .lit<| .lit<| .br (.fin []) (.back []))))) (.fin [])))) (p:=(d.tables.map aP).length≤9223372036854775807→(q.atoms.map aZ).length≤9223372036854775807→wT q∧(((!(cL q))=true→(false)=(eE d q)∧True)∧((!(cL q))=false→(∃(k:Nat),(0:Int)=(k:Int)∧k≤q.atoms.length∧(q.atoms.take k).all (fun a=>(aI d a.name).2&&decide ((aI d a.name).1.arity=(a.vars.length:Nat)))=true)∧ ∀(k:Nat),(k≤q.atoms.length∧(q.atoms.take k).all (fun a=>(aI d a.name).2&&decide ((aI d a.name).1.arity=(a.vars.length:Nat)))=true)→Lm aZ q.atoms∧(((decide ((k:Int)<((q.atoms.length:Nat):Int)))=true→0≤(k:Int)∧Em aZ q.atoms k fun e23=>cX Tryz.prog 168 [.agg [.sl 167 3 (d.tables.map aP)],.one (.str e23.name)] (.tup [.agg [.p none (.str (((aI d e23.name).1).name)),vI (((aI d e23.name).1).arity),.p none (.sl 39 1 ((((aI d e23.name).1).rows).map aC))],vB ((aI d e23.name).2)]) []∧(((!((aI d e23.name).2))=true→(false)=(eE d q)∧True)∧((!((aI d e23.name).2))=false→0≤(k:Int)∧Em aZ q.atoms k fun e37=>Lm intD e37.vars∧(((!(decide ((((aI d e23.name).1).arity)=((e37.vars.length:Nat):Int))))=true→(false)=(eE d q)∧True)∧((!(decide ((((aI d e23.name).1).arity)=((e37.vars.length:Nat):Int))))=false→cC ((k:Int)+(1:Int))∧ ∃(k' :Nat),((k:Int)+(1:Int))=(k' :Int)∧(k' ≤q.atoms.length∧(q.atoms.take k').all (fun a=>(aI d a.name).2&&decide ((aI d a.name).1.arity=(a.vars.length:Nat)))=true)∧q.atoms.length - k' <q.atoms.length - k)))))∧((decide ((k:Int)<((q.atoms.length:Nat):Int)))=false→(true)=(eE d q)∧True))))) (by kernel_rfl) ?_
 intro n0 n1
 simp only [List.length_map] at n0 n1
 refine ⟨aHP q,fun c0=>?_,fun c0=>?_⟩
 ·replace c0:=nt c0
  refine ⟨?_,trivial⟩
  ·first | (rw [eE,c0];rfl) | (rw [eE,bU h23 hA,Bool.and_false];done) | (rw [eE,c0,bE (by omega) ha];rfl)
 ·replace c0:=nf c0
  refine ⟨⟨0,rfl,Nat.zero_le _,rfl⟩,fun k ⟨hk,ha⟩=>?_⟩
  refine ⟨List.length_map _,fun c1=>?_,fun c1=>?_⟩
  ·replace c1:=yq c1
   refine ⟨by omega,rfl,by omega,fun e23 h23=>?_⟩
   try (obtain rfl:=(aY h23 h23).symm)
   refine ⟨kJ (sS _ e23.name (by omega)) rfl,fun g31=>?_,fun g31=>?_⟩
   ·replace g31:=nt g31
    have hA:((aI d e23.name).2&&decide ((aI d e23.name).1.arity=(e23.vars.length:Nat)))=false:=by first | (rw [g31];rfl) | (rw [g31];simp [c2];done)
    refine ⟨?_,trivial⟩
    ·first | (rw [eE,c0];rfl) | (rw [eE,bU h23 hA,Bool.and_false];done) | (rw [eE,c0,bE (by omega) ha];rfl)
   ·replace g31:=nf g31
    refine ⟨by omega,rfl,by omega,fun e37 h37=>?_⟩
    try (obtain rfl:=(aY h23 h37).symm)
    refine ⟨List.length_map _,fun c2=>?_,fun c2=>?_⟩
    ·replace c2:=nq (nt c2)
     have hA:((aI d e23.name).2&&decide ((aI d e23.name).1.arity=(e23.vars.length:Nat)))=false:=by first | (rw [g31];rfl) | (rw [g31];simp [c2];done)
     refine ⟨?_,trivial⟩
     ·first | (rw [eE,c0];rfl) | (rw [eE,bU h23 hA,Bool.and_false];done) | (rw [eE,c0,bE (by omega) ha];rfl)
    ·replace c2:=yq (nf c2)
     have hA:((aI d e23.name).2&&decide ((aI d e23.name).1.arity=(e23.vars.length:Nat)))=true:=by rw [g31];simp [c2]
     refine ⟨⟨by omega,by omega⟩,?_⟩
     exact ⟨k+1,rfl,⟨by omega,cS h23 ha hA⟩,by omega⟩
  ·replace c1:=nq c1
   refine ⟨?_,trivial⟩
   ·first | (rw [eE,c0];rfl) | (rw [eE,bU h23 hA,Bool.and_false];done) | (rw [eE,c0,bE (by omega) ha];rfl)
abbrev aEk (q:QueryD):Prop:=cX Tryz.prog 134 [.agg [.int .i64 q.variableCount,.sl 135 2 (q.atoms.map aZ)]] (vI (nK q)) []
theorem aPi (q:QueryD):aEk q:=by
 refine aX bG aR Tryz.func134 (by kernel_rfl) (.call (vB (cL q)) []<| .br (.fin []) (.len q.atoms.length<| .fin [])) (p:=(q.atoms.map aZ).length≤9223372036854775807→wT q∧(((!(cL q))=true→(0:Int)=(nK q)∧True)∧((!(cL q))=false→Lm aZ q.atoms∧(0≤((q.atoms.length:Nat):Int)∧((q.atoms.length:Nat):Int)≤64)∧cC ((1:Int)*2^q.atoms.length)∧cC (((1:Int)*2^q.atoms.length) - (1:Int))∧(((1:Int)*2^q.atoms.length) - (1:Int))=(nK q)∧True))) (by kernel_rfl) ?_
 intro n0
 simp only [List.length_map] at n0
 refine ⟨aHP q,fun c0=>?_,fun c0=>?_⟩
 ·replace c0:=nt c0
  refine ⟨?_,trivial⟩
  ·first | (rw [aCx c0];done) | (rw [vJ c0];done)
 ·replace c0:=nf c0
  have w:=nD (gR c0).2.1
  have w2:=(gR c0).2.1
  refine ⟨List.length_map _,⟨by omega,by omega⟩,⟨by omega,by omega⟩,⟨by omega,by omega⟩,?_,trivial⟩
  ·first | (rw [aCx c0];done) | (rw [vJ c0];done)
abbrev aBw (m:Int):AV × List (Nat × Rs):=(.own 0,[(0,.arr 3 1 true ((fV m).map intD))])
abbrev aHT (m:Int):Prop:=cX Tryz.prog 115 [.one (.int .i64 m)] (aBw m).1 (aBw m).2
theorem aRy (m:Int):aHT m:=by
 refine aX bG aR Tryz.func115 (by kernel_rfl) (.call (vB (dW m (0:Int) (15:Int))) []<| .br (.fin []) (.loop (Nat × (List Int)) (Q2 Nat (List Int)) [3,4,8,9,10,11,12,13,14,15,16,17,18,19,20,21] [800,2000,2100] (fun yy0=>[(4,vI (yy0.1:Int)),(3,.own 800)]) (fun yy0=>[(800,some (.arr 3 1 true (yy0.2.map intD)))]) (fun yy0=>yy0.1≤4∧yy0.2=fX (gH m) yy0.1) (fun yy0=>4 - yy0.1) (fun yy0=> .br (.br (.app Int intD yy0.2 ([(yy0.1:Int)]:List Int)<| .back [(800,2100)]) (.back [(800,800)])) (.fin [(0,800)])))) (p:=fN m (0:Int) (15:Int)∧(((!(dW m (0:Int) (15:Int)))=true→[]=(fV m).map intD∧True)∧((!(dW m (0:Int) (15:Int)))=false→(∃(i:Nat) (out:List Int),(0:Int)=(i:Int)∧[]=out.map intD∧i≤4∧out=fX (gH m) i)∧ ∀(i:Nat) (out:List Int),(i≤4∧out=fX (gH m) i)→((decide ((i:Int)<(4:Int)))=true→(0≤(i:Int)∧(i:Int)≤64)∧(((decide ((cH .and .i64 (m/2^i) (1:Int))=(1:Int)))=true→out.map intD=out.map intD∧[[.int .i64 (i:Int)]]=([(i:Int)]:List Int).map intD∧(∀x,dT (intD x)=true)∧(out.length+([(i:Int)]:List Int).length)*8≤140737488355328∧cC ((i:Int)+(1:Int))∧ ∃(i' :Nat) (out' :List Int),((i:Int)+(1:Int))=(i' :Int)∧(out++[(i:Int)]).map intD=out'.map intD∧(i' ≤4∧out' =fX (gH m) i')∧4 - i' <4 - i)∧((decide ((cH .and .i64 (m/2^i) (1:Int))=(1:Int)))=false→cC ((i:Int)+(1:Int))∧ ∃(i' :Nat) (out' :List Int),((i:Int)+(1:Int))=(i' :Int)∧out.map intD=out'.map intD∧(i' ≤4∧out' =fX (gH m) i')∧4 - i' <4 - i)))∧((decide ((i:Int)<(4:Int)))=false→out.map intD=(fV m).map intD∧True)))) (by kernel_rfl) ?_
 refine ⟨jG _ _ _,fun c0=>?_,fun c0=>?_⟩
 ·replace c0:=nt c0
  refine ⟨?_,trivial⟩
  ·first | (rw [aHD c0];rfl) | (rw [aAr c0,ho,show i=4 by omega])
 ·replace c0:=nf c0
  refine ⟨⟨0,([]:List Int),rfl,rfl,by omega,rfl⟩,fun i out ⟨hi,ho⟩=>?_⟩
  refine ⟨fun c1=>?_,fun c1=>?_⟩
  ·replace c1:=yq c1
   refine ⟨⟨by omega,by omega⟩,fun c2=>?_,fun c2=>?_⟩
   ·replace c2:=yq c2
    refine ⟨rfl,rfl,fun _=>rfl,by first | omega | (rw [ho];have:=qO (gH m) i;simp only [List.length_cons,List.length_nil];omega),?_⟩
    refine ⟨⟨by omega,by omega⟩,?_⟩
    exact ⟨i+1,_,rfl,rfl,⟨by omega,by first | (rw [ho,jS (aAp c2)];done) | (rw [ho,kW (qW c2)];done)⟩,by omega⟩
   ·replace c2:=nq c2
    refine ⟨⟨by omega,by omega⟩,?_⟩
    exact ⟨i+1,_,rfl,rfl,⟨by omega,by first | (rw [ho,jS (aAp c2)];done) | (rw [ho,kW (qW c2)];done)⟩,by omega⟩
  ·replace c1:=nq c1
   refine ⟨?_,trivial⟩
   ·first | (rw [aHD c0];rfl) | (rw [aAr c0,ho,show i=4 by omega])
abbrev aHU (q:QueryD) (m:Int):Prop:=cX Tryz.prog 118 [.agg [.int .i64 q.variableCount,.sl 135 2 (q.atoms.map aZ)],.one (.int .i64 m)] (vB (jF q m)) []
theorem aRz (q:QueryD) (m:Int):aHU q m:=by
 refine aX bG aR Tryz.func118 (by kernel_rfl) (.call (vB (cL q)) []<| .br (.len q.atoms.length<| .call (vB (dW m (0:Int) (((1:Int)*2^q.atoms.length) - (1:Int)))) []<| .fin []) (.fin [])) (p:=(q.atoms.map aZ).length≤9223372036854775807→wS q∧(((cL q)=true→Lm aZ q.atoms∧(0≤((q.atoms.length:Nat):Int)∧((q.atoms.length:Nat):Int)≤64)∧cC ((1:Int)*2^q.atoms.length)∧cC (((1:Int)*2^q.atoms.length) - (1:Int))∧fN m (0:Int) (((1:Int)*2^q.atoms.length) - (1:Int))∧(dW m (0:Int) (((1:Int)*2^q.atoms.length) - (1:Int)))=(jF q m)∧True)∧((cL q)=false→(false)=(jF q m)∧True))) (by kernel_rfl) ?_
 intro n0
 simp only [List.length_map] at n0
 refine ⟨aHO q,fun g7=>?_,fun g7=>?_⟩
 ·have w:=nD (gR g7).2.1
  have w2:=(gR g7).2.1
  refine ⟨List.length_map _,⟨by omega,by omega⟩,⟨by omega,by omega⟩,⟨by omega,by omega⟩,jG _ _ _,?_,trivial⟩
  ·(rw [jF,g7];rfl)
 ·refine ⟨?_,trivial⟩
  ·(rw [jF,g7];rfl)
abbrev aHV (q:QueryD) (m:Int):Prop:=cX Tryz.prog 70 [.agg [.int .i64 q.variableCount,.sl 135 2 (q.atoms.map aZ)],.one (.int .i64 m)] (vB (jF q m)) []
theorem aSA (q:QueryD) (m:Int):aHV q m:=by
 refine aX bG aR Tryz.func70 (by kernel_rfl) (.call (vB (cL q)) []<| .br (.len q.atoms.length<| .call (vB (dW m (0:Int) (((1:Int)*2^q.atoms.length) - (1:Int)))) []<| .fin []) (.fin [])) (p:=(q.atoms.map aZ).length≤9223372036854775807→wT q∧(((cL q)=true→Lm aZ q.atoms∧(0≤((q.atoms.length:Nat):Int)∧((q.atoms.length:Nat):Int)≤64)∧cC ((1:Int)*2^q.atoms.length)∧cC (((1:Int)*2^q.atoms.length) - (1:Int))∧fO m (0:Int) (((1:Int)*2^q.atoms.length) - (1:Int))∧(dW m (0:Int) (((1:Int)*2^q.atoms.length) - (1:Int)))=(jF q m)∧True)∧((cL q)=false→(false)=(jF q m)∧True))) (by kernel_rfl) ?_
 intro n0
 simp only [List.length_map] at n0
 refine ⟨aHP q,fun g7=>?_,fun g7=>?_⟩
 ·have w:=nD (gR g7).2.1
  have w2:=(gR g7).2.1
  refine ⟨List.length_map _,⟨by omega,by omega⟩,⟨by omega,by omega⟩,⟨by omega,by omega⟩,jH _ _ _,?_,trivial⟩
  ·(rw [jF,g7];rfl)
 ·refine ⟨?_,trivial⟩
  ·(rw [jF,g7];rfl)
abbrev aAD (q:QueryD) (m:Int):AV × List (Nat × Rs):=(.own 0,[(0,.arr 3 1 true ((aE0 q m).map intD))])
abbrev aEl (q:QueryD) (m:Int):Prop:=cX Tryz.prog 119 [.agg [.int .i64 q.variableCount,.sl 135 2 (q.atoms.map aZ)],.one (.int .i64 m)] (aAD q m).1 (aAD q m).2
theorem aPj (q:QueryD) (m:Int) (hq:cL q=true):aEl q m:=by
 refine aX bG aR Tryz.func119 (by kernel_rfl) (.loop (Nat × (List Int)) (Q2 Nat (List Int)) [5,6,7,8,9,10,11,12,13,14,15,16,17,18,19,20,21,22,23,24,25,26,27,28,29,30,31,32,33,34,35,36,37,38,39] [800,900,3700,3800] (fun yy0=>[(6,vI (yy0.1:Int)),(5,.own 900)]) (fun yy0=>[(900,some (.arr 3 1 true (yy0.2.map intD)))]) (fun yy0=>(yy0.1:Int)≤q.variableCount∧yy0.2=fX (inM q m) yy0.1) (fun yy0=>q.variableCount.toNat - yy0.1) (fun yy0=> .br (.len q.atoms.length<| .loop Nat (Q1 Nat) [7,8,19,20,21,22,23,24,25,26,27,28,29,30,31,32,33,34,39] [800] (fun i=>[(19,vI (i:Int))]) (fun i=>[]) (fun i=>i≤q.atoms.length∧wQ q m i yy0.1=false) (fun i=>q.atoms.length - i) (fun i=> .br (.elem _ aZ q.atoms (fun e22=> .br (.call (vB (decide ((yy0.1:Int)∈e22.vars))) []<| .lit<| .br (.app Int intD yy0.2 ([(yy0.1:Int)]:List Int)<| .back [(900,3800)]) (.back [])) (.back []))) (.back [(900,900)]))) (.fin [(0,900)]))) (p:=(q.atoms.map aZ).length≤9223372036854775807→(∃(v:Nat) (out:List Int),(0:Int)=(v:Int)∧[]=out.map intD∧(v:Int)≤q.variableCount∧out=fX (inM q m) v)∧ ∀(v:Nat) (out:List Int),((v:Int)≤q.variableCount∧out=fX (inM q m) v)→((decide ((v:Int)<q.variableCount))=true→Lm aZ q.atoms∧((∃(i:Nat),(0:Int)=(i:Int)∧i≤q.atoms.length∧wQ q m i v=false)∧ ∀(i:Nat),(i≤q.atoms.length∧wQ q m i v=false)→((decide ((i:Int)<((q.atoms.length:Nat):Int)))=true→0≤(i:Int)∧Em aZ q.atoms i fun e22=>(0≤(i:Int)∧(i:Int)≤64)∧(((decide ((cH .and .i64 (m/2^i) (1:Int))=(1:Int)))=true→aLw e22.vars (v:Int)∧(((decide ((v:Int)∈e22.vars))=true→out.map intD=out.map intD∧[[.int .i64 (v:Int)]]=([(v:Int)]:List Int).map intD∧(∀x,dT (intD x)=true)∧(out.length+([(v:Int)]:List Int).length)*8≤140737488355328∧cC ((v:Int)+(1:Int))∧ ∃(v' :Nat) (out' :List Int),((v:Int)+(1:Int))=(v' :Int)∧(out++[(v:Int)]).map intD=out'.map intD∧((v' :Int)≤q.variableCount∧out' =fX (inM q m) v')∧q.variableCount.toNat - v' <q.variableCount.toNat - v)∧((decide ((v:Int)∈e22.vars))=false→cC ((i:Int)+(1:Int))∧ ∃(i' :Nat),((i:Int)+(1:Int))=(i' :Int)∧(i' ≤q.atoms.length∧wQ q m i' v=false)∧q.atoms.length - i' <q.atoms.length - i)))∧((decide ((cH .and .i64 (m/2^i) (1:Int))=(1:Int)))=false→cC ((i:Int)+(1:Int))∧ ∃(i' :Nat),((i:Int)+(1:Int))=(i' :Int)∧(i' ≤q.atoms.length∧wQ q m i' v=false)∧q.atoms.length - i' <q.atoms.length - i)))∧((decide ((i:Int)<((q.atoms.length:Nat):Int)))=false→cC ((v:Int)+(1:Int))∧ ∃(v' :Nat) (out' :List Int),((v:Int)+(1:Int))=(v' :Int)∧out.map intD=out'.map intD∧((v' :Int)≤q.variableCount∧out' =fX (inM q m) v')∧q.variableCount.toNat - v' <q.variableCount.toNat - v)))∧((decide ((v:Int)<q.variableCount))=false→out.map intD=(aE0 q m).map intD∧True)) (by kernel_rfl) ?_
 intro n0
 simp only [List.length_map] at n0
 have w:=(gR hq).1
 have w2:=(gR hq).2.1
 refine ⟨⟨0,([]:List Int),rfl,rfl,by omega,rfl⟩,fun v out ⟨hv,ho⟩=>?_⟩
 refine ⟨fun c0=>?_,fun c0=>?_⟩
 ·replace c0:=yq c0
  refine ⟨List.length_map _,⟨0,rfl,Nat.zero_le _,rfl⟩,fun i ⟨hi,hn⟩=>?_⟩
  refine ⟨fun c1=>?_,fun c1=>?_⟩
  ·replace c1:=yq c1
   refine ⟨by omega,rfl,by omega,fun e22 h22=>?_⟩
   refine ⟨⟨by omega,by omega⟩,fun g29=>?_,fun g29=>?_⟩
   ·replace g29:=yq g29
    refine ⟨ctI _ _,fun c2=>?_,fun c2=>?_⟩
    ·have hT:inM q m v=true:=aT9 h22 (aAp g29) c2
     refine ⟨rfl,rfl,fun _=>rfl,by first | omega | (rw [ho];have:=qO (inM q m) v;simp only [List.length_cons,List.length_nil];omega),?_⟩
     refine ⟨⟨by omega,by omega⟩,?_⟩
     exact ⟨v+1,_,rfl,rfl,⟨by omega,by first | (rw [ho,jS hT];done) | (rw [ho,kW hF];done)⟩,by omega⟩
    ·refine ⟨⟨by omega,by omega⟩,?_⟩
     exact ⟨i+1,rfl,⟨by omega,by rw [aAs,hn,bD h22];first | (rw [c2];simp;done) | (rw [qW g29];rfl)⟩,by omega⟩
   ·replace g29:=nq g29
    refine ⟨⟨by omega,by omega⟩,?_⟩
    exact ⟨i+1,rfl,⟨by omega,by rw [aAs,hn,bD h22];first | (rw [c2];simp;done) | (rw [qW g29];rfl)⟩,by omega⟩
  ·replace c1:=nq c1
   have hF:inM q m v=false:=by rw [inM,show q.atoms.length=i by omega];exact hn
   refine ⟨⟨by omega,by omega⟩,?_⟩
   exact ⟨v+1,_,rfl,rfl,⟨by omega,by first | (rw [ho,jS hT];done) | (rw [ho,kW hF];done)⟩,by omega⟩
 ·replace c0:=nq c0
  refine ⟨?_,trivial⟩
  ·rw [aE0,ho,show q.variableCount.toNat=v by omega]
abbrev aAE (q:QueryD) (m:Int):AV × List (Nat × Rs):=(.own 0,[(0,.arr 3 1 true ((cJ q m).map intD))])
abbrev aEm (q:QueryD) (m:Int):Prop:=cX Tryz.prog 79 [.agg [.int .i64 q.variableCount,.sl 135 2 (q.atoms.map aZ)],.one (.int .i64 m)] (aAE q m).1 (aAE q m).2
theorem aPk (q:QueryD) (m:Int):aEm q m:=by
 refine aX bG aR Tryz.func79 (by kernel_rfl) (.call (vB (jF q m)) []<| .br (.fin []) (cB (aAD q m)<| .fin [(0,1100)])) (p:=(q.atoms.map aZ).length≤9223372036854775807→aHU q m∧(((!(jF q m))=true→[]=(cJ q m).map intD∧True)∧((!(jF q m))=false→aEl q m∧(aE0 q m).map intD=(cJ q m).map intD∧True))) (by kernel_rfl) ?_
 intro n0
 simp only [List.length_map] at n0
 refine ⟨aRz _ m,fun c0=>?_,fun c0=>?_⟩
 ·replace c0:=nt c0
  refine ⟨?_,trivial⟩
  ·first | (rw [aCw c0];rfl) | (rw [aAq c0])
 ·replace c0:=nf c0
  refine ⟨aPj q m (by first | assumption | exact (rK (q:=q) (m:=m) (by assumption)).1),?_,trivial⟩
  ·first | (rw [aCw c0];rfl) | (rw [aAq c0])
abbrev aDD (q:QueryD) (m:Int):Prop:=cX Tryz.prog 72 [.agg [.int .i64 q.variableCount,.sl 135 2 (q.atoms.map aZ)],.one (.int .i64 m)] (vI (m4 (inM q m))) []
theorem aNS (q:QueryD) (m:Int) (hq:cL q=true):aDD q m:=by
 refine aX bG aR Tryz.func72 (by kernel_rfl) (.loop (Nat × Int) (Q2 Nat Int) [5,6,7,8,9,10,11,12,13,14,15,16,17,18,19,20,21,22,23,24,25,26,27,28,29,30,31,32,33,34,35,36,37,38,39,40,41,42,43,44] [] (fun yy0=>[(6,vI (yy0.1:Int)),(5,vI yy0.2)]) (fun yy0=>[]) (fun yy0=>yy0.1≤q.atoms.length∧yy0.2=m4 (wQ q m yy0.1)) (fun yy0=>q.atoms.length - yy0.1) (fun yy0=> .len q.atoms.length<| .br (.loop (Nat × Int) (Q2 Nat Int) [5,7,15,16,17,18,19,20,21,22,23,24,25,26,27,28,29,30,31,32,33,34,35,36,37,38,39,40,41,42,43,44] [] (fun yy1=>[(7,vI (yy1.1:Int)),(5,vI yy1.2)]) (fun yy1=>[]) (fun yy1=>yy1.1≤(q.atoms.getD yy0.1 iZ).vars.length∧yy1.2=m4 (aFQ q m (q.atoms.getD yy0.1 iZ) yy0.1 yy1.1)) (fun yy1=>(q.atoms.getD yy0.1 iZ).vars.length - yy1.1) (fun yy1=> .elem _ aZ q.atoms (fun e19=> .len e19.vars.length<| .br (.lit<| .lit<| .lit<| .lit<| .lit<| .br (.elem _ aZ q.atoms (fun e37=> .elem _ intD e37.vars (fun e41=> .back []))) (.back [])) (.back [])))) (.fin []))) (p:=(q.atoms.map aZ).length≤9223372036854775807→(∃(i:Nat) (o:Int),(0:Int)=(i:Int)∧(0:Int)=o∧i≤q.atoms.length∧o=m4 (wQ q m i))∧ ∀(i:Nat) (o:Int),(i≤q.atoms.length∧o=m4 (wQ q m i))→Lm aZ q.atoms∧(((decide ((i:Int)<((q.atoms.length:Nat):Int)))=true→(∃(k:Nat) (p:Int),(0:Int)=(k:Int)∧o=p∧k≤(q.atoms.getD i iZ).vars.length∧p=m4 (aFQ q m (q.atoms.getD i iZ) i k))∧ ∀(k:Nat) (p:Int),(k≤(q.atoms.getD i iZ).vars.length∧p=m4 (aFQ q m (q.atoms.getD i iZ) i k))→0≤(i:Int)∧Em aZ q.atoms i fun e19=>Lm intD e19.vars∧(((decide ((k:Int)<((e19.vars.length:Nat):Int)))=true→(0≤(i:Int)∧(i:Int)≤64)∧(((decide ((cH .and .i64 (m/2^i) (1:Int))=(1:Int)))=true→0≤(i:Int)∧Em aZ q.atoms i fun e37=>0≤(k:Int)∧Em intD e37.vars k fun e41=>(0≤e41∧e41≤64)∧cC ((1:Int)*2^(Int.toNat e41))∧cC ((k:Int)+(1:Int))∧ ∃(k' :Nat) (p' :Int),((k:Int)+(1:Int))=(k' :Int)∧(cH .or .i64 p ((1:Int)*2^(Int.toNat e41)))=p' ∧(k' ≤(q.atoms.getD i iZ).vars.length∧p' =m4 (aFQ q m (q.atoms.getD i iZ) i k'))∧(q.atoms.getD i iZ).vars.length - k' <(q.atoms.getD i iZ).vars.length - k)∧((decide ((cH .and .i64 (m/2^i) (1:Int))=(1:Int)))=false→cC ((i:Int)+(1:Int))∧ ∃(i' :Nat) (o' :Int),((i:Int)+(1:Int))=(i' :Int)∧p=o' ∧(i' ≤q.atoms.length∧o' =m4 (wQ q m i'))∧q.atoms.length - i' <q.atoms.length - i)))∧((decide ((k:Int)<((e19.vars.length:Nat):Int)))=false→cC ((i:Int)+(1:Int))∧ ∃(i' :Nat) (o' :Int),((i:Int)+(1:Int))=(i' :Int)∧p=o' ∧(i' ≤q.atoms.length∧o' =m4 (wQ q m i'))∧q.atoms.length - i' <q.atoms.length - i)))∧((decide ((i:Int)<((q.atoms.length:Nat):Int)))=false→o=(m4 (inM q m))∧True))) (by kernel_rfl) ?_
 intro n0
 simp only [List.length_map] at n0
 have w:=(gR hq).1
 have w2:=(gR hq).2
 refine ⟨⟨0,(0:Int),rfl,rfl,Nat.zero_le _,rfl⟩,fun i o ⟨hi,ho⟩=>?_⟩
 refine ⟨List.length_map _,fun c0=>?_,fun c0=>?_⟩
 ·replace c0:=yq c0
  obtain ⟨a,ha⟩:=cK (l:=q.atoms) (k:=i) (by omega)
  have w3:=(aBq (w2.2 a (List.mem_of_getElem? ha))).2
  have hga:q.atoms.getD i iZ=a:=bD ha
  have hgl:(q.atoms.getD i iZ).vars.length=a.vars.length:=by rw [hga]
  refine ⟨⟨0,o,rfl,rfl,Nat.zero_le _,by rw [ho,aPT]⟩,fun k p ⟨hk,hp⟩=>?_⟩
  rw [hga] at hp
  refine ⟨by omega,rfl,by omega,fun e19 h19=>?_⟩
  obtain rfl:=(aY ha h19).symm
  refine ⟨List.length_map _,fun g24=>?_,fun g24=>?_⟩
  ·replace g24:=yq g24
   refine ⟨⟨by omega,by omega⟩,fun c1=>?_,fun c1=>?_⟩
   ·replace c1:=yq c1
    refine ⟨by omega,rfl,by omega,fun e37 h37=>?_⟩
    obtain rfl:=(aY ha h37).symm
    refine ⟨by omega,rfl,by omega,fun e41 h41=>?_⟩
    have w8:=w3.2 _ (List.mem_of_getElem? h41)
    obtain ⟨w4,w5,w6⟩:=aDv (x:=e41) (aBX (by omega) (by omega))
    refine ⟨⟨by omega,by omega⟩,by first | exact w4 | exact ⟨by omega,by omega⟩,by first | exact w4 | exact ⟨by omega,by omega⟩,?_⟩
    exact ⟨k+1,_,rfl,rfl,⟨by omega,by rw [hga,hp,aRi (by omega),aPU (aAp c1) h41 (by omega)]⟩,by omega⟩
   ·replace c1:=nq c1
    refine ⟨by first | exact w4 | exact ⟨by omega,by omega⟩,?_⟩
    exact ⟨i+1,_,rfl,rfl,⟨by omega,by first | (rw [hp,aAt ha (.inl (qW c1))];done) | (rw [hp,aAt ha (.inr (by omega))];done)⟩,by omega⟩
  ·replace g24:=nq g24
   refine ⟨by first | exact w4 | exact ⟨by omega,by omega⟩,?_⟩
   exact ⟨i+1,_,rfl,rfl,⟨by omega,by first | (rw [hp,aAt ha (.inl (qW c1))];done) | (rw [hp,aAt ha (.inr (by omega))];done)⟩,by omega⟩
 ·replace c0:=nq c0
  refine ⟨?_,trivial⟩
  ·rw [ho,show i=q.atoms.length by omega];rfl
abbrev wU (m:Int):AV × List (Nat × Rs):=(.own 0,[(0,.arr 3 1 true ((fX (gH m) 4).map intD))])
abbrev aDE (m:Int):Prop:=cX Tryz.prog 71 [.one (.int .i64 m)] (wU m).1 (wU m).2
theorem aNT (m:Int):aDE m:=by
 refine aX bG aR Tryz.func71 (by kernel_rfl) (.loop (Nat × (List Int)) (Q2 Nat (List Int)) [3,4,5,6,7,8,9,10,11,12,13,14,15,16,17,18] [500,1700,1800] (fun yy0=>[(4,vI (yy0.1:Int)),(3,.own 500)]) (fun yy0=>[(500,some (.arr 3 1 true (yy0.2.map intD)))]) (fun yy0=>yy0.1≤4∧yy0.2=fX (gH m) yy0.1) (fun yy0=>4 - yy0.1) (fun yy0=> .br (.br (.app Int intD yy0.2 ([(yy0.1:Int)]:List Int)<| .back [(500,1800)]) (.back [(500,500)])) (.fin [(0,500)]))) (p:=(∃(i:Nat) (out:List Int),(0:Int)=(i:Int)∧[]=out.map intD∧i≤4∧out=fX (gH m) i)∧ ∀(i:Nat) (out:List Int),(i≤4∧out=fX (gH m) i)→((decide ((i:Int)<(4:Int)))=true→(0≤(i:Int)∧(i:Int)≤64)∧(((decide ((cH .and .i64 (m/2^i) (1:Int))=(1:Int)))=true→out.map intD=out.map intD∧[[.int .i64 (i:Int)]]=([(i:Int)]:List Int).map intD∧(∀x,dT (intD x)=true)∧(out.length+([(i:Int)]:List Int).length)*8≤140737488355328∧cC ((i:Int)+(1:Int))∧ ∃(i' :Nat) (out' :List Int),((i:Int)+(1:Int))=(i' :Int)∧(out++[(i:Int)]).map intD=out'.map intD∧(i' ≤4∧out' =fX (gH m) i')∧4 - i' <4 - i)∧((decide ((cH .and .i64 (m/2^i) (1:Int))=(1:Int)))=false→cC ((i:Int)+(1:Int))∧ ∃(i' :Nat) (out' :List Int),((i:Int)+(1:Int))=(i' :Int)∧out.map intD=out'.map intD∧(i' ≤4∧out' =fX (gH m) i')∧4 - i' <4 - i)))∧((decide ((i:Int)<(4:Int)))=false→out.map intD=(fX (gH m) 4).map intD∧True)) (by kernel_rfl) ?_
 refine ⟨⟨0,([]:List Int),rfl,rfl,by omega,rfl⟩,fun i out ⟨hi,ho⟩=>?_⟩
 refine ⟨fun c0=>?_,fun c0=>?_⟩
 ·replace c0:=yq c0
  refine ⟨⟨by omega,by omega⟩,fun c1=>?_,fun c1=>?_⟩
  ·replace c1:=yq c1
   refine ⟨rfl,rfl,fun _=>rfl,by first | omega | (rw [ho];have:=qO (gH m) i;simp only [List.length_cons,List.length_nil];omega),?_⟩
   refine ⟨⟨by omega,by omega⟩,?_⟩
   exact ⟨i+1,_,rfl,rfl,⟨by omega,by first | (rw [ho,jS (aAp c1)];done) | (rw [ho,kW (qW c1)];done)⟩,by omega⟩
  ·replace c1:=nq c1
   refine ⟨⟨by omega,by omega⟩,?_⟩
   exact ⟨i+1,_,rfl,rfl,⟨by omega,by first | (rw [ho,jS (aAp c1)];done) | (rw [ho,kW (qW c1)];done)⟩,by omega⟩
 ·replace c0:=nq c0
  refine ⟨?_,trivial⟩
  ·rw [ho,show i=4 by omega]
abbrev uA (q:QueryD) (m:Int):AV × List (Nat × Rs):=(.own 0,[(0,.arr 3 1 true ((cJ q m).map intD))])
abbrev aAF (q:QueryD) (m:Int):Prop:=cX Tryz.prog 33 [.agg [.int .i64 q.variableCount,.sl 135 2 (q.atoms.map aZ)],.one (.int .i64 m)] (uA q m).1 (uA q m).2
theorem aJc (q:QueryD) (m:Int):aAF q m:=by
 refine aX bG aR Tryz.func33 (by kernel_rfl) (.call (vB (jF q m)) []<| .br (.fin [(0,900)]) (.call (vI (m4 (inM q m))) []<| cB (wU (m4 (inM q m)))<| .fin [(0,1300)])) (p:=(q.atoms.map aZ).length≤9223372036854775807→aHV q m∧(((!(jF q m))=true→[]=(cJ q m).map intD∧True)∧((!(jF q m))=false→aDD q m∧aDE (m4 (inM q m))∧(fX (gH (m4 (inM q m))) 4).map intD=(cJ q m).map intD∧True))) (by kernel_rfl) ?_
 intro n0
 simp only [List.length_map] at n0
 refine ⟨aSA _ m,fun c0=>?_,fun c0=>?_⟩
 ·replace c0:=nt c0
  refine ⟨?_,trivial⟩
  ·first | (rw [aCw c0];rfl) | (rw [aAq c0,aHE (rK c0).1])
 ·replace c0:=nf c0
  refine ⟨aNS q m (by first | assumption | exact (rK (q:=q) (m:=m) (by assumption)).1),aNT (m4 (inM q m)),?_,trivial⟩
  ·first | (rw [aCw c0];rfl) | (rw [aAq c0,aHE (rK c0).1])
abbrev aHW (a:bZ) (m:Int):Prop:=cX Tryz.prog 136 [.agg [.str a.name,.sl 3 1 (a.vars.map intD)],.one (.int .i64 m)] (vI (vsS m a.vars (min a.vars.length 3))) []
theorem aSB (a:bZ) (m:Int):aHW a m:=by
 refine aX bG aR Tryz.func136 (by kernel_rfl) (.loop (Nat × Int) (Q2 Nat Int) [5,6,7,8,9,10,11,12,13,14,15,16,17,18,19,20,21,22,23,24,25,26,27,28,29,30,31,32,33,34,35,36,37,38] [] (fun yy0=>[(6,vI (yy0.1:Int)),(5,vI yy0.2)]) (fun yy0=>[]) (fun yy0=>(yy0.1≤a.vars.length∧yy0.1≤3)∧yy0.2=vsS m a.vars yy0.1) (fun yy0=>a.vars.length - yy0.1) (fun yy0=> .len a.vars.length<| .br (.lit<| .lit<| .br (.br (.elem _ intD a.vars (fun e27=> .call (vB (dW e27 (0:Int) (3:Int))) []<| .lit<| .br (.elem _ intD a.vars (fun e35=> .back [])) (.back []))) (.back [])) (.fin [])) (.fin []))) (p:=(a.vars.map intD).length≤9223372036854775807→(∃(k:Nat) (o:Int),(0:Int)=(k:Int)∧(0:Int)=o∧(k≤a.vars.length∧k≤3)∧o=vsS m a.vars k)∧ ∀(k:Nat) (o:Int),((k≤a.vars.length∧k≤3)∧o=vsS m a.vars k)→Lm intD a.vars∧(((decide ((k:Int)<((a.vars.length:Nat):Int)))=true→((decide ((k:Int)<(3:Int)))=true→(0≤(k:Int)∧(k:Int)≤64)∧(((decide ((cH .and .i64 (m/2^k) (1:Int))=(1:Int)))=true→0≤(k:Int)∧Em intD a.vars k fun e27=>fO e27 (0:Int) (3:Int)∧(((dW e27 (0:Int) (3:Int))=true→0≤(k:Int)∧Em intD a.vars k fun e35=>(0≤e35∧e35≤64)∧cC ((1:Int)*2^(Int.toNat e35))∧cC ((k:Int)+(1:Int))∧ ∃(k' :Nat) (o' :Int),((k:Int)+(1:Int))=(k' :Int)∧(cH .or .i64 o ((1:Int)*2^(Int.toNat e35)))=o' ∧((k' ≤a.vars.length∧k' ≤3)∧o' =vsS m a.vars k')∧a.vars.length - k' <a.vars.length - k)∧((dW e27 (0:Int) (3:Int))=false→cC ((k:Int)+(1:Int))∧ ∃(k' :Nat) (o' :Int),((k:Int)+(1:Int))=(k' :Int)∧o=o' ∧((k' ≤a.vars.length∧k' ≤3)∧o' =vsS m a.vars k')∧a.vars.length - k' <a.vars.length - k)))∧((decide ((cH .and .i64 (m/2^k) (1:Int))=(1:Int)))=false→cC ((k:Int)+(1:Int))∧ ∃(k' :Nat) (o' :Int),((k:Int)+(1:Int))=(k' :Int)∧o=o' ∧((k' ≤a.vars.length∧k' ≤3)∧o' =vsS m a.vars k')∧a.vars.length - k' <a.vars.length - k)))∧((decide ((k:Int)<(3:Int)))=false→o=(vsS m a.vars (min a.vars.length 3))∧True))∧((decide ((k:Int)<((a.vars.length:Nat):Int)))=false→o=(vsS m a.vars (min a.vars.length 3))∧True))) (by kernel_rfl) ?_
 intro n0
 simp only [List.length_map] at n0
 refine ⟨⟨0,0,rfl,rfl,⟨Nat.zero_le _,by omega⟩,rfl⟩,fun k o ⟨hk,hv⟩=>?_⟩
 refine ⟨List.length_map _,fun g12=>?_,fun g12=>?_⟩
 ·replace g12:=yq g12
  refine ⟨fun c0=>?_,fun c0=>?_⟩
  ·replace c0:=yq c0
   refine ⟨⟨by omega,by omega⟩,fun g23=>?_,fun g23=>?_⟩
   ·replace g23:=yq g23
    refine ⟨by omega,rfl,by omega,fun e27 h27=>?_⟩
    try (obtain rfl:=(aY h27 h27).symm)
    refine ⟨jH _ _ _,fun c1=>?_,fun c1=>?_⟩
    ·obtain ⟨w1,w2,w3⟩:=aDv c1
     refine ⟨by omega,rfl,by omega,fun e35 h35=>?_⟩
     try (obtain rfl:=(aY h27 h35).symm)
     refine ⟨⟨by omega,by omega⟩,by first | exact w1 | exact ⟨by omega,by omega⟩,by first | exact w1 | exact ⟨by omega,by omega⟩,?_⟩
     exact ⟨k+1,_,rfl,rfl,⟨by omega,by first | (rw [aK3 h27 g23 c1,hv];done) | (rw [aDw h27 (by simp [g23,c1]),hv];done) | (obtain ⟨y,hy⟩:=cK (l:=a.vars) (k:=k) (by omega);rw [aDw hy (by simp [g23]),hv])⟩,by omega⟩
    ·refine ⟨by first | exact w1 | exact ⟨by omega,by omega⟩,?_⟩
     exact ⟨k+1,_,rfl,rfl,⟨by omega,by first | (rw [aK3 h27 g23 c1,hv];done) | (rw [aDw h27 (by simp [g23,c1]),hv];done) | (obtain ⟨y,hy⟩:=cK (l:=a.vars) (k:=k) (by omega);rw [aDw hy (by simp [g23]),hv])⟩,by omega⟩
   ·replace g23:=nq g23
    refine ⟨by first | exact w1 | exact ⟨by omega,by omega⟩,?_⟩
    exact ⟨k+1,_,rfl,rfl,⟨by omega,by first | (rw [aK3 h27 g23 c1,hv];done) | (rw [aDw h27 (by simp [g23,c1]),hv];done) | (obtain ⟨y,hy⟩:=cK (l:=a.vars) (k:=k) (by omega);rw [aDw hy (by simp [g23]),hv])⟩,by omega⟩
  ·replace c0:=nq c0
   refine ⟨?_,trivial⟩
   ·(rw [hv];congr 1;omega)
 ·replace g12:=nq g12
  refine ⟨?_,trivial⟩
  ·(rw [hv];congr 1;omega)
abbrev aAG (x:aB) (a:bZ):AV × List (Nat × Rs):=(.own 0,[(0,.arr 164 3 true ((lP x a).map aE))])
abbrev aEn (x:aB) (a:bZ):Prop:=cX Tryz.prog 117 [.agg [.str x.name,.int .i64 x.arity,.int .i64 x.rowCount,.sl 203 3 (x.groups.map aA)],.agg [.str a.name,.sl 3 1 (a.vars.map intD)]] (aAG x a).1 (aAG x a).2
theorem aPl (x:aB) (a:bZ) (hc:bA x≤1048576) (ha:hZ a≤1048576):aEn x a:=by
 refine aX bG aR Tryz.func117 (by kernel_rfl) (.call (vB (bW x)) []<| .br (.fin []) (.lit<| .lit<| .lit<| .br (.fin []) (.len a.vars.length<| .lit<| .lit<| .lit<| .lit<| .br (.fin []) (.loop (Nat × (List aF)) (Q2 Nat (List aF)) [5,6,7,8,9,26,27,28,29,30,31,32,33,34,35,36,37,38,39,40,41,42,43,44,45,46,47,48,49,50,51,52,53,54,55,56] [2600,3600,4100,5500,5600] (fun yy0=>[(6,vI (yy0.1:Int)),(5,.own 2600)]) (fun yy0=>[(2600,some (.arr 164 3 true (yy0.2.map aE)))]) (fun yy0=>yy0.1≤((2:Int)^x.arity.toNat - 1).toNat∧yy0.2=(List.range yy0.1).map (tcC x a)) (fun yy0=>((2:Int)^x.arity.toNat - 1).toNat - yy0.1) (fun yy0=> .br (cB (tX (yy0.1:Int))<| cB (pD a.vars (eS (yy0.1:Int)))<| .call (vI (gS ((fF a.vars (eS (yy0.1:Int))).1))) []<| .call (vI (gS a.vars)) []<| .call (vI ((iA x (eS (yy0.1:Int))).getD 0 0)) []<| .call (vI (nS ((iA x (eS (yy0.1:Int))).getD 0 0))) []<| .app aF aE yy0.2 ([(⟨gS ((fF a.vars (eS (yy0.1:Int))).1),gS a.vars,nS ((iA x (eS (yy0.1:Int))).getD 0 0)⟩:aF)]:List aF)<| .back [(2600,5600)]) (.fin [(0,2600)])))))) (p:=(x.groups.map aA).length≤9223372036854775807→(a.vars.map intD).length≤9223372036854775807→aBk x∧(((!(bW x))=true→[]=(lP x a).map aE∧True)∧((!(bW x))=false→((decide (x.rowCount=(0:Int)))=true→[]=(lP x a).map aE∧True)∧((decide (x.rowCount=(0:Int)))=false→Lm intD a.vars∧(((!(decide (((a.vars.length:Nat):Int)=x.arity)))=true→[]=(lP x a).map aE∧True)∧((!(decide (((a.vars.length:Nat):Int)=x.arity)))=false→(∃(m:Nat) (out:List aF),(0:Int)=(m:Int)∧[]=out.map aE∧m≤((2:Int)^x.arity.toNat - 1).toNat∧out=(List.range m).map (tcC x a))∧ ∀(m:Nat) (out:List aF),(m≤((2:Int)^x.arity.toNat - 1).toNat∧out=(List.range m).map (tcC x a))→(0≤x.arity∧x.arity≤64)∧(cC ((1:Int)*2^(Int.toNat x.arity))∧(cC (((1:Int)*2^(Int.toNat x.arity)) - (1:Int))∧(((decide ((m:Int)<(((1:Int)*2^(Int.toNat x.arity)) - (1:Int))))=true→zP (m:Int)∧sN a.vars (eS (m:Int))∧zY ((fF a.vars (eS (m:Int))).1)∧zY a.vars∧aE5 x (eS (m:Int))∧aE7 ((iA x (eS (m:Int))).getD 0 0)∧out.map aE=out.map aE∧[[.int .i64 (gS ((fF a.vars (eS (m:Int))).1)),.int .i64 (gS a.vars),.int .i64 (nS ((iA x (eS (m:Int))).getD 0 0))]]=([(⟨gS ((fF a.vars (eS (m:Int))).1),gS a.vars,nS ((iA x (eS (m:Int))).getD 0 0)⟩:aF)]:List aF).map aE∧(∀x,dT (aE x)=true)∧(out.length+([(⟨gS ((fF a.vars (eS (m:Int))).1),gS a.vars,nS ((iA x (eS (m:Int))).getD 0 0)⟩:aF)]:List aF).length)*24≤140737488355328∧cC ((m:Int)+(1:Int))∧ ∃(m' :Nat) (out' :List aF),((m:Int)+(1:Int))=(m' :Int)∧(out++[(⟨gS ((fF a.vars (eS (m:Int))).1),gS a.vars,nS ((iA x (eS (m:Int))).getD 0 0)⟩:aF)]).map aE=out'.map aE∧(m' ≤((2:Int)^x.arity.toNat - 1).toNat∧out' =(List.range m').map (tcC x a))∧((2:Int)^x.arity.toNat - 1).toNat - m' <((2:Int)^x.arity.toNat - 1).toNat - m)∧((decide ((m:Int)<(((1:Int)*2^(Int.toNat x.arity)) - (1:Int))))=false→out.map aE=(lP x a).map aE∧True)))))))))) (by kernel_rfl) ?_
 intro n0 n1
 simp only [List.length_map] at n0 n1
 have q3:hZ a=a.name.size+bS a.vars:=rfl
 have q4:bS a.vars=a.vars.length:=rfl
 refine ⟨aLo _ (by omega),fun g13=>?_,fun g13=>?_⟩
 ·replace g13:=nt g13
  have hbad:nT x a=false:=by first | (simp [nT, *];done) | (simp [nT, *] at*;omega)
  refine ⟨?_,trivial⟩
  ·first | (rw [rL hbad]<;>rfl) | (rw [oH hok,ho,show ((2:Int)^x.arity.toNat - 1).toNat=m by omega])
 ·replace g13:=nf g13
  refine ⟨fun g18=>?_,fun g18=>?_⟩
  ·replace g18:=yq g18
   have hbad:nT x a=false:=by first | (simp [nT, *];done) | (simp [nT, *] at*;omega)
   refine ⟨?_,trivial⟩
   ·first | (rw [rL hbad]<;>rfl) | (rw [oH hok,ho,show ((2:Int)^x.arity.toNat - 1).toNat=m by omega])
  ·replace g18:=nq g18
   refine ⟨List.length_map _,fun c0=>?_,fun c0=>?_⟩
   ·replace c0:=nq (nt c0)
    have hbad:nT x a=false:=by first | (simp [nT, *];done) | (simp [nT, *] at*;omega)
    refine ⟨?_,trivial⟩
    ·first | (rw [rL hbad]<;>rfl) | (rw [oH hok,ho,show ((2:Int)^x.arity.toNat - 1).toNat=m by omega])
   ·replace c0:=yq (nf c0)
    have hok:nT x a=true:=by first | (simp [nT, *];done) | (simp [nT, *] at*;omega)
    obtain ⟨hS,hA⟩:=aBu hok
    have hn:=aAo hS
    have hp:=rV hn
    refine ⟨⟨0,([]:List aF),rfl,rfl,Nat.zero_le _,rfl⟩,fun m out ⟨hm,ho⟩=>?_⟩
    refine ⟨⟨by omega,by omega⟩,⟨by omega,by omega⟩,⟨by omega,by omega⟩,fun c1=>?_,fun c1=>?_⟩
    ·replace c1:=yq c1
     have hbl:(eS (m:Int)).length≤3:=vD _ 3
     have hE:=aMG (m:=(m:Int)) hn hA (by omega) (by omega)
     have hE2:=aJa (m:=(m:Int)) hn hA (by omega) (by omega)
     refine ⟨aJ0 (m:Int) (by omega),aCi _ _ (by omega),aJb _,aJb _,aP2 _ (eS (m:Int)) (by omega) (by omega),aP4 _,rfl,rfl,fun _=>rfl,by first | omega | (simp [ho];omega),?_⟩
     refine ⟨⟨by omega,by omega⟩,?_⟩
     exact ⟨m+1,_,rfl,rfl,⟨by omega,by rw [ho,List.range_succ,List.map_append,List.map_cons,List.map_nil,tcC];first | (rw [hE];done) | (rw [hE2];done)⟩,by omega⟩
    ·replace c1:=nq c1
     refine ⟨?_,trivial⟩
     ·first | (rw [rL hbad]<;>rfl) | (rw [oH hok,ho,show ((2:Int)^x.arity.toNat - 1).toNat=m by omega])
abbrev aAH (x:aB) (a:bZ):AV × List (Nat × Rs):=(.own 0,[(0,.arr 164 3 true ((lP x a).map aE))])
abbrev aEo (x:aB) (a:bZ):Prop:=cX Tryz.prog 105 [.agg [.str x.name,.int .i64 x.arity,.int .i64 x.rowCount,.sl 203 3 (x.groups.map aA)],.agg [.str a.name,.sl 3 1 (a.vars.map intD)]] (aAH x a).1 (aAH x a).2
theorem aPm (x:aB) (a:bZ) (hc:bA x≤1048576) (ha:hZ a≤1048576):aEo x a:=by
 refine aX bG aR Tryz.func105 (by kernel_rfl) (.call (vB (bW x)) []<| .br (.fin [(0,700)]) (.lit<| .lit<| .lit<| .br (.fin [(0,700)]) (.len a.vars.length<| .lit<| .lit<| .lit<| .lit<| .br (.fin [(0,700)]) (.loop (Nat × (List aF)) (Q2 Nat (List aF)) [5,6,7,25,26,27,28,29,30,31,32,33,34,35,36,37,38,39,40,41,42,43,44,45,46,47] [700,4200,4600,4700] (fun yy0=>[(6,vI (yy0.1:Int)),(5,.own 700)]) (fun yy0=>[(700,some (.arr 164 3 true (yy0.2.map aE)))]) (fun yy0=>yy0.1≤((2:Int)^x.arity.toNat - 1).toNat∧yy0.2=(List.range yy0.1).map (tcC x a)) (fun yy0=>((2:Int)^x.arity.toNat - 1).toNat - yy0.1) (fun yy0=> .br (.call (vI (vsS (yy0.1:Int) a.vars (min a.vars.length 3))) []<| .call (vI (gS a.vars)) []<| cB (tY (yy0.1:Int))<| .call (vI ((iA x (eS (yy0.1:Int))).getD 0 0)) []<| .call (vI (nS ((iA x (eS (yy0.1:Int))).getD 0 0))) []<| .app aF aE yy0.2 ([(⟨vsS (yy0.1:Int) a.vars (min a.vars.length 3),gS a.vars,nS ((iA x (eS (yy0.1:Int))).getD 0 0)⟩:aF)]:List aF)<| .back [(700,4700)]) (.fin [(0,700)])))))) (p:=(x.groups.map aA).length≤9223372036854775807→(a.vars.map intD).length≤9223372036854775807→wR x∧(((!(bW x))=true→[]=(lP x a).map aE∧True)∧((!(bW x))=false→((decide (x.rowCount=(0:Int)))=true→[]=(lP x a).map aE∧True)∧((decide (x.rowCount=(0:Int)))=false→Lm intD a.vars∧(((!(decide (((a.vars.length:Nat):Int)=x.arity)))=true→[]=(lP x a).map aE∧True)∧((!(decide (((a.vars.length:Nat):Int)=x.arity)))=false→(∃(m:Nat) (out:List aF),(0:Int)=(m:Int)∧[]=out.map aE∧m≤((2:Int)^x.arity.toNat - 1).toNat∧out=(List.range m).map (tcC x a))∧ ∀(m:Nat) (out:List aF),(m≤((2:Int)^x.arity.toNat - 1).toNat∧out=(List.range m).map (tcC x a))→(0≤x.arity∧x.arity≤64)∧(cC ((1:Int)*2^(Int.toNat x.arity))∧(cC (((1:Int)*2^(Int.toNat x.arity)) - (1:Int))∧(((decide ((m:Int)<(((1:Int)*2^(Int.toNat x.arity)) - (1:Int))))=true→aHW a (m:Int)∧aE6 a.vars∧zQ (m:Int)∧aE4 x (eS (m:Int))∧aE8 ((iA x (eS (m:Int))).getD 0 0)∧out.map aE=out.map aE∧[[.int .i64 (vsS (m:Int) a.vars (min a.vars.length 3)),.int .i64 (gS a.vars),.int .i64 (nS ((iA x (eS (m:Int))).getD 0 0))]]=([(⟨vsS (m:Int) a.vars (min a.vars.length 3),gS a.vars,nS ((iA x (eS (m:Int))).getD 0 0)⟩:aF)]:List aF).map aE∧(∀x,dT (aE x)=true)∧(out.length+([(⟨vsS (m:Int) a.vars (min a.vars.length 3),gS a.vars,nS ((iA x (eS (m:Int))).getD 0 0)⟩:aF)]:List aF).length)*24≤140737488355328∧cC ((m:Int)+(1:Int))∧ ∃(m' :Nat) (out' :List aF),((m:Int)+(1:Int))=(m' :Int)∧(out++[(⟨vsS (m:Int) a.vars (min a.vars.length 3),gS a.vars,nS ((iA x (eS (m:Int))).getD 0 0)⟩:aF)]).map aE=out'.map aE∧(m' ≤((2:Int)^x.arity.toNat - 1).toNat∧out' =(List.range m').map (tcC x a))∧((2:Int)^x.arity.toNat - 1).toNat - m' <((2:Int)^x.arity.toNat - 1).toNat - m)∧((decide ((m:Int)<(((1:Int)*2^(Int.toNat x.arity)) - (1:Int))))=false→out.map aE=(lP x a).map aE∧True)))))))))) (by kernel_rfl) ?_
 intro n0 n1
 simp only [List.length_map] at n0 n1
 have q3:hZ a=a.name.size+bS a.vars:=rfl
 have q4:bS a.vars=a.vars.length:=rfl
 refine ⟨aHG _ (by omega),fun g11=>?_,fun g11=>?_⟩
 ·replace g11:=nt g11
  have hbad:nT x a=false:=by first | (simp [nT, *];done) | (simp [nT, *] at*;omega)
  refine ⟨?_,trivial⟩
  ·first | (rw [rL hbad]<;>rfl) | (rw [oH hok,ho,show ((2:Int)^x.arity.toNat - 1).toNat=m by omega])
 ·replace g11:=nf g11
  refine ⟨fun g16=>?_,fun g16=>?_⟩
  ·replace g16:=yq g16
   have hbad:nT x a=false:=by first | (simp [nT, *];done) | (simp [nT, *] at*;omega)
   refine ⟨?_,trivial⟩
   ·first | (rw [rL hbad]<;>rfl) | (rw [oH hok,ho,show ((2:Int)^x.arity.toNat - 1).toNat=m by omega])
  ·replace g16:=nq g16
   refine ⟨List.length_map _,fun c0=>?_,fun c0=>?_⟩
   ·replace c0:=nq (nt c0)
    have hbad:nT x a=false:=by first | (simp [nT, *];done) | (simp [nT, *] at*;omega)
    refine ⟨?_,trivial⟩
    ·first | (rw [rL hbad]<;>rfl) | (rw [oH hok,ho,show ((2:Int)^x.arity.toNat - 1).toNat=m by omega])
   ·replace c0:=yq (nf c0)
    have hok:nT x a=true:=by first | (simp [nT, *];done) | (simp [nT, *] at*;omega)
    obtain ⟨hS,hA⟩:=aBu hok
    have hn:=aAo hS
    have hp:=rV hn
    refine ⟨⟨0,([]:List aF),rfl,rfl,Nat.zero_le _,rfl⟩,fun m out ⟨hm,ho⟩=>?_⟩
    refine ⟨⟨by omega,by omega⟩,⟨by omega,by omega⟩,⟨by omega,by omega⟩,fun c1=>?_,fun c1=>?_⟩
    ·replace c1:=yq c1
     have hbl:(eS (m:Int)).length≤3:=vD _ 3
     have hE:=aMG (m:=(m:Int)) hn hA (by omega) (by omega)
     have hE2:=aJa (m:=(m:Int)) hn hA (by omega) (by omega)
     refine ⟨aSB _ _,aP3 _,aJ1 (m:Int) (by omega),aP1 _ (eS (m:Int)) (by omega) (by omega),aP5 _,rfl,rfl,fun _=>rfl,by first | omega | (simp [ho];omega),?_⟩
     refine ⟨⟨by omega,by omega⟩,?_⟩
     exact ⟨m+1,_,rfl,rfl,⟨by omega,by rw [ho,List.range_succ,List.map_append,List.map_cons,List.map_nil,tcC];first | (rw [hE];done) | (rw [hE2];done)⟩,by omega⟩
    ·replace c1:=nq c1
     refine ⟨?_,trivial⟩
     ·first | (rw [rL hbad]<;>rfl) | (rw [oH hok,ho,show ((2:Int)^x.arity.toNat - 1).toNat=m by omega])
theorem aK4 {s:StoreD} {q:QueryD} {m:Int} (h:yD s q m=true):fV m=fX (gH m) q.atoms.length:=by
 obtain ⟨_,_,_,h1,h2,_,_,h3⟩:=aDx h
 exact aRm ⟨by omega,h2⟩ h3.2
theorem aJd (m:Int):(fV m).length≤4:=by
 cases h:dW m 0 15 with
 | false=>rw [aHD h];exact Nat.zero_le _
 | true=>rw [aAr h];exact qO _ _
theorem aSC {s:StoreD} {q:QueryD} {m x:Int} (h:yD s q m=true) (hx:x∈fV m):0≤x∧x.toNat<q.atoms.length∧gH m x.toNat=true:=by
 rw [aK4 h] at hx
 exact aLz.1 hx
def qcA (s:StoreD) (q:QueryD) (x:Int):List aF:=lP (fZ s q x.toNat) (q.atoms.getD x.toNat iZ)
def qcL (s:StoreD) (q:QueryD) (l:List Int):List aF:=l.flatMap (qcA s q)
def aDF (s:StoreD) (q:QueryD) (l:List Int):Bool:=l.all fun x=> !decide ((qcA s q x).length=0)
def bT (s:StoreD) (q:QueryD) (m:Int):List aF:=if (yD s q m&&aDF s q (fV m))=true then qcL s q (fV m) else []
theorem nL {s:StoreD} {q:QueryD} {m:Int} (h:yD s q m=true) (h2:aDF s q (fV m)=true):bT s q m=qcL s q (fV m):=by rw [bT,if_pos (by rw [h,h2];rfl)]
theorem qQ {s:StoreD} {q:QueryD} {m:Int} (h:yD s q m=false):bT s q m= []:=by rw [bT,if_neg (by rw [h];simp)]
theorem nM {s:StoreD} {q:QueryD} {m x:Int} (hx:x∈fV m) (h:(qcA s q x).length=0):bT s q m= []:=by
 rw [bT,if_neg]
 intro h2
 rw [Bool.and_eq_true] at h2
 have:=List.all_eq_true.1 h2.2 x hx
 simp [h] at this
theorem aHX (s:StoreD) (q:QueryD) (l:List Int) (x:Int):qcL s q (l++[x])=qcL s q l++qcA s q x:=by
 rw [qcL,List.flatMap_append];simp [qcL]
theorem aDy {s:StoreD} {q:QueryD} {l:List Int} {x:Int} (h:aDF s q l=true) (hx: ¬((qcA s q x).length:Int)=0):aDF s q (l++[x])=true:=by
 rw [aDF,List.all_append,Bool.and_eq_true]
 refine ⟨h,?_⟩
 simp only [List.all_cons,List.all_nil,Bool.and_true,Bool.not_eq_true',decide_eq_false_iff_not]
 omega
theorem aFb (s:StoreD) (q:QueryD): ∀l:List Int,(qcL s q l).length≤7*l.length
 | []=>Nat.zero_le _
 | x::l=>by
   have h1:=aHN (fZ s q x.toNat) (q.atoms.getD x.toNat iZ)
   have h2:=aFb s q l
   have h3:qcL s q (x::l)=qcA s q x++qcL s q l:=by simp [qcL]
   rw [h3,List.length_append,List.length_cons]
   unfold qcA
   omega
theorem vK (s:StoreD) (q:QueryD) (m:Int):(bT s q m).length≤28:=by
 unfold bT
 split
 ·have h1:=aFb s q (fV m)
  have h2:=aJd m
  omega
 ·exact Nat.zero_le _
end Go.Proofs.YtdfebigfnjfgpaaGreat
