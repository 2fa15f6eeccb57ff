/-
  Contracts and plain laws, joined: part 14.
-/
import Derived.Test.YtokkjaflmcjlhaaGreatQD11
import Derived.Test.YtokkjaflmcjlhaaGreatQD9
import Derived.Test.YtokkjaflmcjlhaaGreatQD12
import Derived.Test.YtokkjaflmcjlhaaGreatQD10
namespace Go.Proofs.YtokkjaflmcjlhaaGreat
open Go.ChangeShapes Go.WideShapes Go.ChangeAt Go.RowKit
set_option linter.unusedVariables false
set_option linter.unusedSimpArgs false
set_option maxRecDepth 100000
set_option maxHeartbeats 4000000
abbrev aGJ (d:aT) (q:QueryD):Prop:=cU Tryz.prog 121 [.agg [.sl 162 3 (d.tables.map aL)],.agg [.int .i64 q.variableCount,.sl 131 2 (q.atoms.map aU)]] (vB (dR d q)) []
theorem aQO (d:aT) (q:QueryD) (hc:bD d≤1048576):aGJ d q:=by
 refine aV bF aS Tryz.func121 (by kernel_rfl) (.call (vB (bM q)) []<| .br (.fin []) (.len q.atoms.length<| .loop Nat (Q1 Nat) [6,7,8,15,16,17,18,19,20,21,22,23,24,25,26,27,28,29,30,31,32,33,34,35,36] [600,700] (fun k=>[(15,vI (k:Int))]) (fun k=>[]) (fun k=>k≤q.atoms.length∧(q.atoms.take k).all (fun a=>(aJ d a.name).2&&decide ((aJ d a.name).1.arity=(a.vars.length:Nat)))=true) (fun k=>q.atoms.length - k) (fun k=> .br (.elem _ aU q.atoms (fun e17=> .call (.tup [.agg [.p none (.str (((aJ d e17.name).1).name)),vI (((aJ d e17.name).1).arity),.p none (.sl 32 1 ((((aJ d e17.name).1).rows).map aF))],vB ((aJ d e17.name).2)]) []<| .br (.fin []) (.len e17.vars.length<| .lit<| .lit<| .br (.fin []) (.back [])))) (.fin [])))) (p:=(d.tables.map aL).length≤9223372036854775807→(q.atoms.map aU).length≤9223372036854775807→aBI q∧(((!(bM q))=true→(false)=(dR d q)∧True)∧((!(bM q))=false→Lm aU q.atoms∧((∃(k:Nat),(0:Int)=(k:Int)∧k≤q.atoms.length∧(q.atoms.take k).all (fun a=>(aJ d a.name).2&&decide ((aJ d a.name).1.arity=(a.vars.length:Nat)))=true)∧ ∀(k:Nat),(k≤q.atoms.length∧(q.atoms.take k).all (fun a=>(aJ d a.name).2&&decide ((aJ d a.name).1.arity=(a.vars.length:Nat)))=true)→((decide ((k:Int)<((q.atoms.length:Nat):Int)))=true→0≤(k:Int)∧Em aU q.atoms k fun e17=>cU Tryz.prog 148 [.agg [.sl 162 3 (d.tables.map aL)],.one (.str e17.name)] (.tup [.agg [.p none (.str (((aJ d e17.name).1).name)),vI (((aJ d e17.name).1).arity),.p none (.sl 32 1 ((((aJ d e17.name).1).rows).map aF))],vB ((aJ d e17.name).2)]) []∧(((!((aJ d e17.name).2))=true→(false)=(dR d q)∧True)∧((!((aJ d e17.name).2))=false→Lm intD e17.vars∧(((!(decide ((((aJ d e17.name).1).arity)=((e17.vars.length:Nat):Int))))=true→(false)=(dR d q)∧True)∧((!(decide ((((aJ d e17.name).1).arity)=((e17.vars.length:Nat):Int))))=false→cG ((k:Int)+(1:Int))∧ ∃(k' :Nat),((k:Int)+(1:Int))=(k' :Int)∧(k' ≤q.atoms.length∧(q.atoms.take k').all (fun a=>(aJ d a.name).2&&decide ((aJ d a.name).1.arity=(a.vars.length:Nat)))=true)∧q.atoms.length - k' <q.atoms.length - k)))))∧((decide ((k:Int)<((q.atoms.length:Nat):Int)))=false→(true)=(dR d q)∧True))))) (by kernel_rfl) ?_
 intro n0 n1
 simp only [List.length_map] at n0 n1
 refine ⟨aK5 q,fun c0=>?_,fun c0=>?_⟩
 ·replace c0:=nt c0
  refine ⟨?_,trivial⟩
  ·first | (rw [dR,c0];rfl) | (rw [dR,cE h17 hA,Bool.and_false];done) | (rw [dR,c0,bJ (by omega) ha];rfl)
 ·replace c0:=nf c0
  refine ⟨List.length_map _,⟨0,rfl,Nat.zero_le _,rfl⟩,fun k ⟨hk,ha⟩=>?_⟩
  refine ⟨fun c1=>?_,fun c1=>?_⟩
  ·replace c1:=yq c1
   refine ⟨by omega,rfl,by omega,fun e17 h17=>?_⟩
   try (obtain rfl:=(aX h17 h17).symm)
   refine ⟨jJ (rR _ e17.name (by omega)) rfl,fun g28=>?_,fun g28=>?_⟩
   ·replace g28:=nt g28
    have hA:((aJ d e17.name).2&&decide ((aJ d e17.name).1.arity=(e17.vars.length:Nat)))=false:=by first | (rw [g28];rfl) | (rw [g28];simp [c2];done)
    refine ⟨?_,trivial⟩
    ·first | (rw [dR,c0];rfl) | (rw [dR,cE h17 hA,Bool.and_false];done) | (rw [dR,c0,bJ (by omega) ha];rfl)
   ·replace g28:=nf g28
    refine ⟨List.length_map _,fun c2=>?_,fun c2=>?_⟩
    ·replace c2:=nq (nt c2)
     have hA:((aJ d e17.name).2&&decide ((aJ d e17.name).1.arity=(e17.vars.length:Nat)))=false:=by first | (rw [g28];rfl) | (rw [g28];simp [c2];done)
     refine ⟨?_,trivial⟩
     ·first | (rw [dR,c0];rfl) | (rw [dR,cE h17 hA,Bool.and_false];done) | (rw [dR,c0,bJ (by omega) ha];rfl)
    ·replace c2:=yq (nf c2)
     have hA:((aJ d e17.name).2&&decide ((aJ d e17.name).1.arity=(e17.vars.length:Nat)))=true:=by rw [g28];simp [c2]
     refine ⟨⟨by omega,by omega⟩,?_⟩
     exact ⟨k+1,rfl,⟨by omega,cY h17 ha hA⟩,by omega⟩
  ·replace c1:=nq c1
   refine ⟨?_,trivial⟩
   ·first | (rw [dR,c0];rfl) | (rw [dR,cE h17 hA,Bool.and_false];done) | (rw [dR,c0,bJ (by omega) ha];rfl)
abbrev sQ (q:QueryD):Prop:=cU Tryz.prog 118 [.agg [.int .i64 q.variableCount,.sl 131 2 (q.atoms.map aU)]] (vI (eG q)) []
theorem aDL (q:QueryD):sQ q:=by
 refine aV bF aS Tryz.func118 (by kernel_rfl) (.call (vB (bM q)) []<| .br (.fin []) (.len q.atoms.length<| .fin [])) (p:=(q.atoms.map aU).length≤9223372036854775807→aBI q∧(((!(bM q))=true→(0:Int)=(eG q)∧True)∧((!(bM q))=false→Lm aU q.atoms∧(0≤((q.atoms.length:Nat):Int)∧((q.atoms.length:Nat):Int)≤64)∧cG ((1:Int)*2^q.atoms.length)∧cG (((1:Int)*2^q.atoms.length) - (1:Int))∧(((1:Int)*2^q.atoms.length) - (1:Int))=(eG q)∧True))) (by kernel_rfl) ?_
 intro n0
 simp only [List.length_map] at n0
 refine ⟨aK5 q,fun c0=>?_,fun c0=>?_⟩
 ·replace c0:=nt c0
  refine ⟨?_,trivial⟩
  ·first | (rw [aCJ c0];done) | (rw [jO c0];done)
 ·replace c0:=nf c0
  have w:=fR (cX c0).2.1
  have w2:=(cX c0).2.1
  refine ⟨List.length_map _,⟨by omega,by omega⟩,⟨by omega,by omega⟩,⟨by omega,by omega⟩,?_,trivial⟩
  ·first | (rw [aCJ c0];done) | (rw [jO c0];done)
abbrev aGK (d:aT) (q:QueryD):Prop:=cU Tryz.prog 165 [.agg [.sl 162 3 (d.tables.map aL)],.agg [.int .i64 q.variableCount,.sl 131 2 (q.atoms.map aU)]] (vB (dR d q)) []
theorem aQP (d:aT) (q:QueryD) (hc:bD d≤1048576):aGK d q:=by
 refine aV bF aS Tryz.func165 (by kernel_rfl) (.call (vB (bM q)) []<| .br (.fin []) (.loop Nat (Q1 Nat) [5,6,7,11,12,13,14,15,16,17,18,19,20,21,22,23,24,25,26,27,28,29,30,31,32,33,34,35,36,37,38,39,40,41,42] [600] (fun k=>[(5,vI (k:Int))]) (fun k=>[]) (fun k=>k≤q.atoms.length∧(q.atoms.take k).all (fun a=>(aJ d a.name).2&&decide ((aJ d a.name).1.arity=(a.vars.length:Nat)))=true) (fun k=>q.atoms.length - k) (fun k=> .len q.atoms.length<| .br (.elem _ aU q.atoms (fun e23=> .call (.tup [.agg [.p none (.str (((aJ d e23.name).1).name)),vI (((aJ d e23.name).1).arity),.p none (.sl 32 1 ((((aJ d e23.name).1).rows).map aF))],vB ((aJ d e23.name).2)]) []<| .br (.fin []) (.elem _ aU q.atoms (fun e37=> .len e37.vars.length<| .lit<| .lit<| .br (.fin []) (.back []))))) (.fin [])))) (p:=(d.tables.map aL).length≤9223372036854775807→(q.atoms.map aU).length≤9223372036854775807→vK q∧(((!(bM q))=true→(false)=(dR d q)∧True)∧((!(bM q))=false→(∃(k:Nat),(0:Int)=(k:Int)∧k≤q.atoms.length∧(q.atoms.take k).all (fun a=>(aJ d a.name).2&&decide ((aJ d a.name).1.arity=(a.vars.length:Nat)))=true)∧ ∀(k:Nat),(k≤q.atoms.length∧(q.atoms.take k).all (fun a=>(aJ d a.name).2&&decide ((aJ d a.name).1.arity=(a.vars.length:Nat)))=true)→Lm aU q.atoms∧(((decide ((k:Int)<((q.atoms.length:Nat):Int)))=true→0≤(k:Int)∧Em aU q.atoms k fun e23=>cU Tryz.prog 132 [.agg [.sl 162 3 (d.tables.map aL)],.one (.str e23.name)] (.tup [.agg [.p none (.str (((aJ d e23.name).1).name)),vI (((aJ d e23.name).1).arity),.p none (.sl 32 1 ((((aJ d e23.name).1).rows).map aF))],vB ((aJ d e23.name).2)]) []∧(((!((aJ d e23.name).2))=true→(false)=(dR d q)∧True)∧((!((aJ d e23.name).2))=false→0≤(k:Int)∧Em aU q.atoms k fun e37=>Lm intD e37.vars∧(((!(decide ((((aJ d e23.name).1).arity)=((e37.vars.length:Nat):Int))))=true→(false)=(dR d q)∧True)∧((!(decide ((((aJ d e23.name).1).arity)=((e37.vars.length:Nat):Int))))=false→cG ((k:Int)+(1:Int))∧ ∃(k' :Nat),((k:Int)+(1:Int))=(k' :Int)∧(k' ≤q.atoms.length∧(q.atoms.take k').all (fun a=>(aJ d a.name).2&&decide ((aJ d a.name).1.arity=(a.vars.length:Nat)))=true)∧q.atoms.length - k' <q.atoms.length - k)))))∧((decide ((k:Int)<((q.atoms.length:Nat):Int)))=false→(true)=(dR d q)∧True))))) (by kernel_rfl) ?_
 intro n0 n1
 simp only [List.length_map] at n0 n1
 refine ⟨aGH q,fun c0=>?_,fun c0=>?_⟩
 ·replace c0:=nt c0
  refine ⟨?_,trivial⟩
  ·first | (rw [dR,c0];rfl) | (rw [dR,cE h23 hA,Bool.and_false];done) | (rw [dR,c0,bJ (by omega) ha];rfl)
 ·replace c0:=nf c0
  refine ⟨⟨0,rfl,Nat.zero_le _,rfl⟩,fun k ⟨hk,ha⟩=>?_⟩
  refine ⟨List.length_map _,fun c1=>?_,fun c1=>?_⟩
  ·replace c1:=yq c1
   refine ⟨by omega,rfl,by omega,fun e23 h23=>?_⟩
   try (obtain rfl:=(aX h23 h23).symm)
   refine ⟨jJ (rS _ e23.name (by omega)) rfl,fun g31=>?_,fun g31=>?_⟩
   ·replace g31:=nt g31
    have hA:((aJ d e23.name).2&&decide ((aJ d e23.name).1.arity=(e23.vars.length:Nat)))=false:=by first | (rw [g31];rfl) | (rw [g31];simp [c2];done)
    refine ⟨?_,trivial⟩
    ·first | (rw [dR,c0];rfl) | (rw [dR,cE h23 hA,Bool.and_false];done) | (rw [dR,c0,bJ (by omega) ha];rfl)
   ·replace g31:=nf g31
    refine ⟨by omega,rfl,by omega,fun e37 h37=>?_⟩
    try (obtain rfl:=(aX h23 h37).symm)
    refine ⟨List.length_map _,fun c2=>?_,fun c2=>?_⟩
    ·replace c2:=nq (nt c2)
     have hA:((aJ d e23.name).2&&decide ((aJ d e23.name).1.arity=(e23.vars.length:Nat)))=false:=by first | (rw [g31];rfl) | (rw [g31];simp [c2];done)
     refine ⟨?_,trivial⟩
     ·first | (rw [dR,c0];rfl) | (rw [dR,cE h23 hA,Bool.and_false];done) | (rw [dR,c0,bJ (by omega) ha];rfl)
    ·replace c2:=yq (nf c2)
     have hA:((aJ d e23.name).2&&decide ((aJ d e23.name).1.arity=(e23.vars.length:Nat)))=true:=by rw [g31];simp [c2]
     refine ⟨⟨by omega,by omega⟩,?_⟩
     exact ⟨k+1,rfl,⟨by omega,cY h23 ha hA⟩,by omega⟩
  ·replace c1:=nq c1
   refine ⟨?_,trivial⟩
   ·first | (rw [dR,c0];rfl) | (rw [dR,cE h23 hA,Bool.and_false];done) | (rw [dR,c0,bJ (by omega) ha];rfl)
abbrev sR (q:QueryD):Prop:=cU Tryz.prog 98 [.agg [.int .i64 q.variableCount,.sl 131 2 (q.atoms.map aU)]] (vI (eG q)) []
theorem aDM (q:QueryD):sR q:=by
 refine aV bF aS Tryz.func98 (by kernel_rfl) (.call (vB (bM q)) []<| .br (.fin []) (.len q.atoms.length<| .fin [])) (p:=(q.atoms.map aU).length≤9223372036854775807→vK q∧(((!(bM q))=true→(0:Int)=(eG q)∧True)∧((!(bM q))=false→Lm aU q.atoms∧(0≤((q.atoms.length:Nat):Int)∧((q.atoms.length:Nat):Int)≤64)∧cG ((1:Int)*2^q.atoms.length)∧cG (((1:Int)*2^q.atoms.length) - (1:Int))∧(((1:Int)*2^q.atoms.length) - (1:Int))=(eG q)∧True))) (by kernel_rfl) ?_
 intro n0
 simp only [List.length_map] at n0
 refine ⟨aGH q,fun c0=>?_,fun c0=>?_⟩
 ·replace c0:=nt c0
  refine ⟨?_,trivial⟩
  ·first | (rw [aCJ c0];done) | (rw [jO c0];done)
 ·replace c0:=nf c0
  have w:=fR (cX c0).2.1
  have w2:=(cX c0).2.1
  refine ⟨List.length_map _,⟨by omega,by omega⟩,⟨by omega,by omega⟩,⟨by omega,by omega⟩,?_,trivial⟩
  ·first | (rw [aCJ c0];done) | (rw [jO c0];done)
abbrev oF (m:Int):AV × List (Nat × Rs):=(.own 0,[(0,.arr 3 1 true ((bR m).map intD))])
abbrev rV (m:Int):Prop:=cU Tryz.prog 95 [.one (.int .i64 m)] (oF m).1 (oF m).2
theorem aCQ (m:Int):rV m:=by
 refine aV bF aS Tryz.func95 (by kernel_rfl) (.call (vB (dY m (0:Int) (15:Int))) []<| .br (.fin []) (.loop (Nat × (List Int)) (Q2 Nat (List Int)) [3,4,8,9,10,11,12,13,14,15,16,17,18,19,20,21] [800,2000,2100] (fun yy0=>[(4,vI (yy0.1:Int)),(3,.own 800)]) (fun yy0=>[(800,some (.arr 3 1 true (yy0.2.map intD)))]) (fun yy0=>yy0.1≤4∧yy0.2=dZ (cP m) yy0.1) (fun yy0=>4 - yy0.1) (fun yy0=> .br (.br (.app Int intD yy0.2 ([(yy0.1:Int)]:List Int)<| .back [(800,2100)]) (.back [(800,800)])) (.fin [(0,800)])))) (p:=fU m (0:Int) (15:Int)∧(((!(dY m (0:Int) (15:Int)))=true→[]=(bR m).map intD∧True)∧((!(dY m (0:Int) (15:Int)))=false→(∃(i:Nat) (out:List Int),(0:Int)=(i:Int)∧[]=out.map intD∧i≤4∧out=dZ (cP m) i)∧ ∀(i:Nat) (out:List Int),(i≤4∧out=dZ (cP m) i)→((decide ((i:Int)<(4:Int)))=true→(0≤(i:Int)∧(i:Int)≤64)∧(((decide ((dD .and .i64 (m/2^i) (1:Int))=(1:Int)))=true→out.map intD=out.map intD∧[[.int .i64 (i:Int)]]=([(i:Int)]:List Int).map intD∧(∀x,eK (intD x)=true)∧(out.length+([(i:Int)]:List Int).length)*8≤140737488355328∧cG ((i:Int)+(1:Int))∧ ∃(i' :Nat) (out' :List Int),((i:Int)+(1:Int))=(i' :Int)∧(out++[(i:Int)]).map intD=out'.map intD∧(i' ≤4∧out' =dZ (cP m) i')∧4 - i' <4 - i)∧((decide ((dD .and .i64 (m/2^i) (1:Int))=(1:Int)))=false→cG ((i:Int)+(1:Int))∧ ∃(i' :Nat) (out' :List Int),((i:Int)+(1:Int))=(i' :Int)∧out.map intD=out'.map intD∧(i' ≤4∧out' =dZ (cP m) i')∧4 - i' <4 - i)))∧((decide ((i:Int)<(4:Int)))=false→out.map intD=(bR m).map intD∧True)))) (by kernel_rfl) ?_
 refine ⟨kE _ _ _,fun c0=>?_,fun c0=>?_⟩
 ·replace c0:=nt c0
  refine ⟨?_,trivial⟩
  ·first | (rw [aGE c0];rfl) | (rw [tW c0,ho,show i=4 by omega])
 ·replace c0:=nf c0
  refine ⟨⟨0,([]:List Int),rfl,rfl,by omega,rfl⟩,fun i out ⟨hi,ho⟩=>?_⟩
  refine ⟨fun c1=>?_,fun c1=>?_⟩
  ·replace c1:=yq c1
   refine ⟨⟨by omega,by omega⟩,fun c2=>?_,fun c2=>?_⟩
   ·replace c2:=yq c2
    refine ⟨rfl,rfl,fun _=>rfl,by first | omega | (rw [ho];have:=yX (cP m) i;simp only [List.length_cons,List.length_nil];omega),?_⟩
    refine ⟨⟨by omega,by omega⟩,?_⟩
    exact ⟨i+1,_,rfl,rfl,⟨by omega,by first | (rw [ho,kO (oS c2)];done) | (rw [ho,mC (kT c2)];done)⟩,by omega⟩
   ·replace c2:=nq c2
    refine ⟨⟨by omega,by omega⟩,?_⟩
    exact ⟨i+1,_,rfl,rfl,⟨by omega,by first | (rw [ho,kO (oS c2)];done) | (rw [ho,mC (kT c2)];done)⟩,by omega⟩
  ·replace c1:=nq c1
   refine ⟨?_,trivial⟩
   ·first | (rw [aGE c0];rfl) | (rw [tW c0,ho,show i=4 by omega])
abbrev aBK (q:QueryD) (m:Int):Prop:=cU Tryz.prog 188 [.agg [.int .i64 q.variableCount,.sl 131 2 (q.atoms.map aU)],.one (.int .i64 m)] (vB (gP q m)) []
theorem aK8 (q:QueryD) (m:Int):aBK q m:=by
 refine aV bF aS Tryz.func188 (by kernel_rfl) (.call (vB (bM q)) []<| .br (.len q.atoms.length<| .call (vB (dY m (0:Int) (((1:Int)*2^q.atoms.length) - (1:Int)))) []<| .fin []) (.fin [])) (p:=(q.atoms.map aU).length≤9223372036854775807→vK q∧(((bM q)=true→Lm aU q.atoms∧(0≤((q.atoms.length:Nat):Int)∧((q.atoms.length:Nat):Int)≤64)∧cG ((1:Int)*2^q.atoms.length)∧cG (((1:Int)*2^q.atoms.length) - (1:Int))∧fB m (0:Int) (((1:Int)*2^q.atoms.length) - (1:Int))∧(dY m (0:Int) (((1:Int)*2^q.atoms.length) - (1:Int)))=(gP q m)∧True)∧((bM q)=false→(false)=(gP q m)∧True))) (by kernel_rfl) ?_
 intro n0
 simp only [List.length_map] at n0
 refine ⟨aGH q,fun g7=>?_,fun g7=>?_⟩
 ·have w:=fR (cX g7).2.1
  have w2:=(cX g7).2.1
  refine ⟨List.length_map _,⟨by omega,by omega⟩,⟨by omega,by omega⟩,⟨by omega,by omega⟩,iW _ _ _,?_,trivial⟩
  ·(rw [gP,g7];rfl)
 ·refine ⟨?_,trivial⟩
  ·(rw [gP,g7];rfl)
abbrev sS (q:QueryD) (m:Int):AV × List (Nat × Rs):=(.own 0,[(0,.arr 3 1 true ((gN q m).map intD))])
abbrev zE (q:QueryD) (m:Int):Prop:=cU Tryz.prog 175 [.agg [.int .i64 q.variableCount,.sl 131 2 (q.atoms.map aU)],.one (.int .i64 m)] (sS q m).1 (sS q m).2
theorem aIF (q:QueryD) (m:Int) (hq:bM q=true):zE q m:=by
 refine aV bF aS Tryz.func175 (by kernel_rfl) (.loop (Nat × (List Int)) (Q2 Nat (List Int)) [5,6,7,8,9,10,11,12,13,14,15,16,17,18,19,20,21,22,23,24,25,26,27,28,29,30,31,32,33,34,35,36,37,38,39] [800,900,3700,3800] (fun yy0=>[(6,vI (yy0.1:Int)),(5,.own 900)]) (fun yy0=>[(900,some (.arr 3 1 true (yy0.2.map intD)))]) (fun yy0=>(yy0.1:Int)≤q.variableCount∧yy0.2=dZ (inM q m) yy0.1) (fun yy0=>q.variableCount.toNat - yy0.1) (fun yy0=> .br (.len q.atoms.length<| .loop Nat (Q1 Nat) [7,8,19,20,21,22,23,24,25,26,27,28,29,30,31,32,33,34,39] [800] (fun i=>[(19,vI (i:Int))]) (fun i=>[]) (fun i=>i≤q.atoms.length∧vJ q m i yy0.1=false) (fun i=>q.atoms.length - i) (fun i=> .br (.elem _ aU q.atoms (fun e22=> .br (.call (vB (decide ((yy0.1:Int)∈e22.vars))) []<| .lit<| .br (.app Int intD yy0.2 ([(yy0.1:Int)]:List Int)<| .back [(900,3800)]) (.back [])) (.back []))) (.back [(900,900)]))) (.fin [(0,900)]))) (p:=(q.atoms.map aU).length≤9223372036854775807→(∃(v:Nat) (out:List Int),(0:Int)=(v:Int)∧[]=out.map intD∧(v:Int)≤q.variableCount∧out=dZ (inM q m) v)∧ ∀(v:Nat) (out:List Int),((v:Int)≤q.variableCount∧out=dZ (inM q m) v)→((decide ((v:Int)<q.variableCount))=true→Lm aU q.atoms∧((∃(i:Nat),(0:Int)=(i:Int)∧i≤q.atoms.length∧vJ q m i v=false)∧ ∀(i:Nat),(i≤q.atoms.length∧vJ q m i v=false)→((decide ((i:Int)<((q.atoms.length:Nat):Int)))=true→0≤(i:Int)∧Em aU q.atoms i fun e22=>(0≤(i:Int)∧(i:Int)≤64)∧(((decide ((dD .and .i64 (m/2^i) (1:Int))=(1:Int)))=true→aFp e22.vars (v:Int)∧(((decide ((v:Int)∈e22.vars))=true→out.map intD=out.map intD∧[[.int .i64 (v:Int)]]=([(v:Int)]:List Int).map intD∧(∀x,eK (intD x)=true)∧(out.length+([(v:Int)]:List Int).length)*8≤140737488355328∧cG ((v:Int)+(1:Int))∧ ∃(v' :Nat) (out' :List Int),((v:Int)+(1:Int))=(v' :Int)∧(out++[(v:Int)]).map intD=out'.map intD∧((v' :Int)≤q.variableCount∧out' =dZ (inM q m) v')∧q.variableCount.toNat - v' <q.variableCount.toNat - v)∧((decide ((v:Int)∈e22.vars))=false→cG ((i:Int)+(1:Int))∧ ∃(i' :Nat),((i:Int)+(1:Int))=(i' :Int)∧(i' ≤q.atoms.length∧vJ q m i' v=false)∧q.atoms.length - i' <q.atoms.length - i)))∧((decide ((dD .and .i64 (m/2^i) (1:Int))=(1:Int)))=false→cG ((i:Int)+(1:Int))∧ ∃(i' :Nat),((i:Int)+(1:Int))=(i' :Int)∧(i' ≤q.atoms.length∧vJ q m i' v=false)∧q.atoms.length - i' <q.atoms.length - i)))∧((decide ((i:Int)<((q.atoms.length:Nat):Int)))=false→cG ((v:Int)+(1:Int))∧ ∃(v' :Nat) (out' :List Int),((v:Int)+(1:Int))=(v' :Int)∧out.map intD=out'.map intD∧((v' :Int)≤q.variableCount∧out' =dZ (inM q m) v')∧q.variableCount.toNat - v' <q.variableCount.toNat - v)))∧((decide ((v:Int)<q.variableCount))=false→out.map intD=(gN q m).map intD∧True)) (by kernel_rfl) ?_
 intro n0
 simp only [List.length_map] at n0
 have w:=(cX hq).1
 have w2:=(cX hq).2.1
 refine ⟨⟨0,([]:List Int),rfl,rfl,by omega,rfl⟩,fun v out ⟨hv,ho⟩=>?_⟩
 refine ⟨fun c0=>?_,fun c0=>?_⟩
 ·replace c0:=yq c0
  refine ⟨List.length_map _,⟨0,rfl,Nat.zero_le _,rfl⟩,fun i ⟨hi,hn⟩=>?_⟩
  refine ⟨fun c1=>?_,fun c1=>?_⟩
  ·replace c1:=yq c1
   refine ⟨by omega,rfl,by omega,fun e22 h22=>?_⟩
   refine ⟨⟨by omega,by omega⟩,fun g29=>?_,fun g29=>?_⟩
   ·replace g29:=yq g29
    refine ⟨ctI _ _,fun c2=>?_,fun c2=>?_⟩
    ·have hT:inM q m v=true:=aMd h22 (oS g29) c2
     refine ⟨rfl,rfl,fun _=>rfl,by first | omega | (rw [ho];have:=yX (inM q m) v;simp only [List.length_cons,List.length_nil];omega),?_⟩
     refine ⟨⟨by omega,by omega⟩,?_⟩
     exact ⟨v+1,_,rfl,rfl,⟨by omega,by first | (rw [ho,kO hT];done) | (rw [ho,mC hF];done)⟩,by omega⟩
    ·refine ⟨⟨by omega,by omega⟩,?_⟩
     exact ⟨i+1,rfl,⟨by omega,by rw [aAT,hn,aZ h22];first | (rw [c2];simp;done) | (rw [kT g29];rfl)⟩,by omega⟩
   ·replace g29:=nq g29
    refine ⟨⟨by omega,by omega⟩,?_⟩
    exact ⟨i+1,rfl,⟨by omega,by rw [aAT,hn,aZ h22];first | (rw [c2];simp;done) | (rw [kT g29];rfl)⟩,by omega⟩
  ·replace c1:=nq c1
   have hF:inM q m v=false:=by rw [inM,show q.atoms.length=i by omega];exact hn
   refine ⟨⟨by omega,by omega⟩,?_⟩
   exact ⟨v+1,_,rfl,rfl,⟨by omega,by first | (rw [ho,kO hT];done) | (rw [ho,mC hF];done)⟩,by omega⟩
 ·replace c0:=nq c0
  refine ⟨?_,trivial⟩
  ·rw [gN,ho,show q.variableCount.toNat=v by omega]
abbrev qJ (q:QueryD) (m:Int):Prop:=cU Tryz.prog 174 [.agg [.int .i64 q.variableCount,.sl 131 2 (q.atoms.map aU)],.one (.int .i64 m)] (vI (m4 (inM q m))) []
theorem aBL (q:QueryD) (m:Int) (hq:bM q=true):qJ q m:=by
 refine aV bF aS Tryz.func174 (by kernel_rfl) (.loop (Nat × Int) (Q2 Nat Int) [5,6,7,8,9,10,11,12,13,14,15,16,17,18,19,20,21,22,23,24,25,26,27,28,29,30,31,32,33,34,35,36,37,38,39,40,41,42,43,44] [] (fun yy0=>[(6,vI (yy0.1:Int)),(5,vI yy0.2)]) (fun yy0=>[]) (fun yy0=>yy0.1≤q.atoms.length∧yy0.2=m4 (vJ q m yy0.1)) (fun yy0=>q.atoms.length - yy0.1) (fun yy0=> .len q.atoms.length<| .br (.loop (Nat × Int) (Q2 Nat Int) [5,7,15,16,17,18,19,20,21,22,23,24,25,26,27,28,29,30,31,32,33,34,35,36,37,38,39,40,41,42,43,44] [] (fun yy1=>[(7,vI (yy1.1:Int)),(5,vI yy1.2)]) (fun yy1=>[]) (fun yy1=>yy1.1≤(q.atoms.getD yy0.1 dL).vars.length∧yy1.2=m4 (aEK q m (q.atoms.getD yy0.1 dL) yy0.1 yy1.1)) (fun yy1=>(q.atoms.getD yy0.1 dL).vars.length - yy1.1) (fun yy1=> .elem _ aU q.atoms (fun e19=> .len e19.vars.length<| .br (.lit<| .lit<| .lit<| .lit<| .lit<| .br (.elem _ aU q.atoms (fun e37=> .elem _ intD e37.vars (fun e41=> .back []))) (.back [])) (.back [])))) (.fin []))) (p:=(q.atoms.map aU).length≤9223372036854775807→(∃(i:Nat) (o:Int),(0:Int)=(i:Int)∧(0:Int)=o∧i≤q.atoms.length∧o=m4 (vJ q m i))∧ ∀(i:Nat) (o:Int),(i≤q.atoms.length∧o=m4 (vJ q m i))→Lm aU q.atoms∧(((decide ((i:Int)<((q.atoms.length:Nat):Int)))=true→(∃(k:Nat) (p:Int),(0:Int)=(k:Int)∧o=p∧k≤(q.atoms.getD i dL).vars.length∧p=m4 (aEK q m (q.atoms.getD i dL) i k))∧ ∀(k:Nat) (p:Int),(k≤(q.atoms.getD i dL).vars.length∧p=m4 (aEK q m (q.atoms.getD i dL) i k))→0≤(i:Int)∧Em aU q.atoms i fun e19=>Lm intD e19.vars∧(((decide ((k:Int)<((e19.vars.length:Nat):Int)))=true→(0≤(i:Int)∧(i:Int)≤64)∧(((decide ((dD .and .i64 (m/2^i) (1:Int))=(1:Int)))=true→0≤(i:Int)∧Em aU q.atoms i fun e37=>0≤(k:Int)∧Em intD e37.vars k fun e41=>(0≤e41∧e41≤64)∧cG ((1:Int)*2^(Int.toNat e41))∧cG ((k:Int)+(1:Int))∧ ∃(k' :Nat) (p' :Int),((k:Int)+(1:Int))=(k' :Int)∧(dD .or .i64 p ((1:Int)*2^(Int.toNat e41)))=p' ∧(k' ≤(q.atoms.getD i dL).vars.length∧p' =m4 (aEK q m (q.atoms.getD i dL) i k'))∧(q.atoms.getD i dL).vars.length - k' <(q.atoms.getD i dL).vars.length - k)∧((decide ((dD .and .i64 (m/2^i) (1:Int))=(1:Int)))=false→cG ((i:Int)+(1:Int))∧ ∃(i' :Nat) (o' :Int),((i:Int)+(1:Int))=(i' :Int)∧p=o' ∧(i' ≤q.atoms.length∧o' =m4 (vJ q m i'))∧q.atoms.length - i' <q.atoms.length - i)))∧((decide ((k:Int)<((e19.vars.length:Nat):Int)))=false→cG ((i:Int)+(1:Int))∧ ∃(i' :Nat) (o' :Int),((i:Int)+(1:Int))=(i' :Int)∧p=o' ∧(i' ≤q.atoms.length∧o' =m4 (vJ q m i'))∧q.atoms.length - i' <q.atoms.length - i)))∧((decide ((i:Int)<((q.atoms.length:Nat):Int)))=false→o=(m4 (inM q m))∧True))) (by kernel_rfl) ?_
 intro n0
 simp only [List.length_map] at n0
 have w:=(cX hq).1
 have w2:=(cX hq).2
 refine ⟨⟨0,(0:Int),rfl,rfl,Nat.zero_le _,rfl⟩,fun i o ⟨hi,ho⟩=>?_⟩
 refine ⟨List.length_map _,fun c0=>?_,fun c0=>?_⟩
 ·replace c0:=yq c0
  obtain ⟨a,ha⟩:=bY (l:=q.atoms) (k:=i) (by omega)
  have w3:=(oE (w2.2 a (List.mem_of_getElem? ha))).2
  have hga:q.atoms.getD i dL=a:=aZ ha
  have hgl:(q.atoms.getD i dL).vars.length=a.vars.length:=by rw [hga]
  refine ⟨⟨0,o,rfl,rfl,Nat.zero_le _,by rw [ho,aNp]⟩,fun k p ⟨hk,hp⟩=>?_⟩
  rw [hga] at hp
  refine ⟨by omega,rfl,by omega,fun e19 h19=>?_⟩
  obtain rfl:=(aX ha h19).symm
  refine ⟨List.length_map _,fun g24=>?_,fun g24=>?_⟩
  ·replace g24:=yq g24
   refine ⟨⟨by omega,by omega⟩,fun c1=>?_,fun c1=>?_⟩
   ·replace c1:=yq c1
    refine ⟨by omega,rfl,by omega,fun e37 h37=>?_⟩
    obtain rfl:=(aX ha h37).symm
    refine ⟨by omega,rfl,by omega,fun e41 h41=>?_⟩
    have w8:=w3.2 _ (List.mem_of_getElem? h41)
    obtain ⟨w4,w5,w6⟩:=tF (x:=e41) (iG (by omega) (by omega))
    refine ⟨⟨by omega,by omega⟩,by first | exact w4 | exact ⟨by omega,by omega⟩,by first | exact w4 | exact ⟨by omega,by omega⟩,?_⟩
    exact ⟨k+1,_,rfl,rfl,⟨by omega,by rw [hga,hp,aA6 (by omega),aNq (oS c1) h41 (by omega)]⟩,by omega⟩
   ·replace c1:=nq c1
    refine ⟨by first | exact w4 | exact ⟨by omega,by omega⟩,?_⟩
    exact ⟨i+1,_,rfl,rfl,⟨by omega,by first | (rw [hp,aAU ha (.inl (kT c1))];done) | (rw [hp,aAU ha (.inr (by omega))];done)⟩,by omega⟩
  ·replace g24:=nq g24
   refine ⟨by first | exact w4 | exact ⟨by omega,by omega⟩,?_⟩
   exact ⟨i+1,_,rfl,rfl,⟨by omega,by first | (rw [hp,aAU ha (.inl (kT c1))];done) | (rw [hp,aAU ha (.inr (by omega))];done)⟩,by omega⟩
 ·replace c0:=nq c0
  refine ⟨?_,trivial⟩
  ·rw [ho,show i=q.atoms.length by omega];rfl
abbrev vL (m:Int):AV × List (Nat × Rs):=(.own 0,[(0,.arr 3 1 true ((dZ (cP m) 4).map intD))])
abbrev aCR (m:Int):Prop:=cU Tryz.prog 173 [.one (.int .i64 m)] (vL m).1 (vL m).2
theorem aLh (m:Int):aCR m:=by
 refine aV bF aS Tryz.func173 (by kernel_rfl) (.loop (Nat × (List Int)) (Q2 Nat (List Int)) [3,4,5,6,7,8,9,10,11,12,13,14,15,16,17,18] [500,1700,1800] (fun yy0=>[(4,vI (yy0.1:Int)),(3,.own 500)]) (fun yy0=>[(500,some (.arr 3 1 true (yy0.2.map intD)))]) (fun yy0=>yy0.1≤4∧yy0.2=dZ (cP m) yy0.1) (fun yy0=>4 - yy0.1) (fun yy0=> .br (.br (.app Int intD yy0.2 ([(yy0.1:Int)]:List Int)<| .back [(500,1800)]) (.back [(500,500)])) (.fin [(0,500)]))) (p:=(∃(i:Nat) (out:List Int),(0:Int)=(i:Int)∧[]=out.map intD∧i≤4∧out=dZ (cP m) i)∧ ∀(i:Nat) (out:List Int),(i≤4∧out=dZ (cP m) i)→((decide ((i:Int)<(4:Int)))=true→(0≤(i:Int)∧(i:Int)≤64)∧(((decide ((dD .and .i64 (m/2^i) (1:Int))=(1:Int)))=true→out.map intD=out.map intD∧[[.int .i64 (i:Int)]]=([(i:Int)]:List Int).map intD∧(∀x,eK (intD x)=true)∧(out.length+([(i:Int)]:List Int).length)*8≤140737488355328∧cG ((i:Int)+(1:Int))∧ ∃(i' :Nat) (out' :List Int),((i:Int)+(1:Int))=(i' :Int)∧(out++[(i:Int)]).map intD=out'.map intD∧(i' ≤4∧out' =dZ (cP m) i')∧4 - i' <4 - i)∧((decide ((dD .and .i64 (m/2^i) (1:Int))=(1:Int)))=false→cG ((i:Int)+(1:Int))∧ ∃(i' :Nat) (out' :List Int),((i:Int)+(1:Int))=(i' :Int)∧out.map intD=out'.map intD∧(i' ≤4∧out' =dZ (cP m) i')∧4 - i' <4 - i)))∧((decide ((i:Int)<(4:Int)))=false→out.map intD=(dZ (cP m) 4).map intD∧True)) (by kernel_rfl) ?_
 refine ⟨⟨0,([]:List Int),rfl,rfl,by omega,rfl⟩,fun i out ⟨hi,ho⟩=>?_⟩
 refine ⟨fun c0=>?_,fun c0=>?_⟩
 ·replace c0:=yq c0
  refine ⟨⟨by omega,by omega⟩,fun c1=>?_,fun c1=>?_⟩
  ·replace c1:=yq c1
   refine ⟨rfl,rfl,fun _=>rfl,by first | omega | (rw [ho];have:=yX (cP m) i;simp only [List.length_cons,List.length_nil];omega),?_⟩
   refine ⟨⟨by omega,by omega⟩,?_⟩
   exact ⟨i+1,_,rfl,rfl,⟨by omega,by first | (rw [ho,kO (oS c1)];done) | (rw [ho,mC (kT c1)];done)⟩,by omega⟩
  ·replace c1:=nq c1
   refine ⟨⟨by omega,by omega⟩,?_⟩
   exact ⟨i+1,_,rfl,rfl,⟨by omega,by first | (rw [ho,kO (oS c1)];done) | (rw [ho,mC (kT c1)];done)⟩,by omega⟩
 ·replace c0:=nq c0
  refine ⟨?_,trivial⟩
  ·rw [ho,show i=4 by omega]
abbrev sT (q:QueryD) (m:Int):AV × List (Nat × Rs):=(.own 0,[(0,.arr 3 1 true ((eI q m).map intD))])
abbrev zF (q:QueryD) (m:Int):Prop:=cU Tryz.prog 176 [.agg [.int .i64 q.variableCount,.sl 131 2 (q.atoms.map aU)],.one (.int .i64 m)] (sT q m).1 (sT q m).2
theorem aIG (q:QueryD) (m:Int):zF q m:=by
 refine aV bF aS Tryz.func176 (by kernel_rfl) (.call (vB (gP q m)) []<| .br (.fin [(0,900)]) (.call (vI (m4 (inM q m))) []<| bP (vL (m4 (inM q m)))<| .fin [(0,1300)])) (p:=(q.atoms.map aU).length≤9223372036854775807→aBK q m∧(((!(gP q m))=true→[]=(eI q m).map intD∧True)∧((!(gP q m))=false→qJ q m∧aCR (m4 (inM q m))∧(dZ (cP (m4 (inM q m))) 4).map intD=(eI q m).map intD∧True))) (by kernel_rfl) ?_
 intro n0
 simp only [List.length_map] at n0
 refine ⟨aK8 _ m,fun c0=>?_,fun c0=>?_⟩
 ·replace c0:=nt c0
  refine ⟨?_,trivial⟩
  ·first | (rw [aGD c0];rfl) | (rw [tV c0,aGF (iA c0).1])
 ·replace c0:=nf c0
  refine ⟨aBL q m (by first | assumption | exact (iA (q:=q) (m:=m) (by assumption)).1),aLh (m4 (inM q m)),?_,trivial⟩
  ·first | (rw [aGD c0];rfl) | (rw [tV c0,aGF (iA c0).1])
theorem mP {a b:List Int} {k:Nat} {x:Int} (h:a[k]? =some x):fQ (a.take (k+1)) b=if x∈b then fQ (a.take k) b++[x] else fQ (a.take k) b:=by
 rw [fQ,cN h,List.filter_append]
 by_cases e:x∈b<;>simp [fQ,e]
theorem aQQ (a b:List Int):(fQ a b).length≤a.length:=List.length_filter_le _ _
theorem aIH (a b:List Int) (k:Nat):(fQ (a.take k) b).length≤a.length:=Nat.le_trans (aQQ _ _) (by simp;omega)
theorem aDN (q:QueryD) (m:Int):(eI q m).length≤4:=by
 cases h:gP q m with
 | false=>rw [aGD h];exact Nat.zero_le _
 | true=>rw [tV h];exact aNr q m (iA h).1
abbrev sU (a:List Int) (b:List Int):AV × List (Nat × Rs):=(.own 0,[(0,.arr 3 1 true ((fQ a b).map intD))])
abbrev zG (a:List Int) (b:List Int):Prop:=cU Tryz.prog 179 [.one (.sl 3 1 (a.map intD)),.one (.sl 3 1 (b.map intD))] (sU a b).1 (sU a b).2
theorem aII (a b:List Int) (hl:a.length≤1048576):zG a b:=by
 refine aV bF aS Tryz.func179 (by kernel_rfl) (.len a.length<| .loop (Nat × (List Int)) (Q2 Nat (List Int)) [5,7,8,11,12,13,14,15,16,17,18,19,20,21,22] [800,2000,2100] (fun yy0=>[(11,vI (yy0.1:Int)),(5,.own 800)]) (fun yy0=>[(800,some (.arr 3 1 true (yy0.2.map intD)))]) (fun yy0=>yy0.1≤a.length∧yy0.2=fQ (a.take yy0.1) b) (fun yy0=>a.length - yy0.1) (fun yy0=> .br (.elem _ intD a (fun e13=> .call (vB (decide (e13∈b))) []<| .br (.app Int intD yy0.2 ([e13]:List Int)<| .back [(800,2100)]) (.back [(800,800)]))) (.fin [(0,800)]))) (p:=(a.map intD).length≤9223372036854775807→(b.map intD).length≤9223372036854775807→Lm intD a∧((∃(k:Nat) (out:List Int),(0:Int)=(k:Int)∧[]=out.map intD∧k≤a.length∧out=fQ (a.take k) b)∧ ∀(k:Nat) (out:List Int),(k≤a.length∧out=fQ (a.take k) b)→((decide ((k:Int)<((a.length:Nat):Int)))=true→0≤(k:Int)∧Em intD a k fun e13=>aFp b e13∧(((decide (e13∈b))=true→out.map intD=out.map intD∧[[.int .i64 e13]]=([e13]:List Int).map intD∧(∀x,eK (intD x)=true)∧(out.length+([e13]:List Int).length)*8≤140737488355328∧cG ((k:Int)+(1:Int))∧ ∃(k' :Nat) (out' :List Int),((k:Int)+(1:Int))=(k' :Int)∧(out++[e13]).map intD=out'.map intD∧(k' ≤a.length∧out' =fQ (a.take k') b)∧a.length - k' <a.length - k)∧((decide (e13∈b))=false→cG ((k:Int)+(1:Int))∧ ∃(k' :Nat) (out' :List Int),((k:Int)+(1:Int))=(k' :Int)∧out.map intD=out'.map intD∧(k' ≤a.length∧out' =fQ (a.take k') b)∧a.length - k' <a.length - k)))∧((decide ((k:Int)<((a.length:Nat):Int)))=false→out.map intD=(fQ a b).map intD∧True))) (by kernel_rfl) ?_
 intro n0 n1
 simp only [List.length_map] at n0 n1
 refine ⟨List.length_map _,⟨0,([]:List Int),rfl,rfl,Nat.zero_le _,rfl⟩,fun k out ⟨hk,ho⟩=>?_⟩
 refine ⟨fun c0=>?_,fun c0=>?_⟩
 ·replace c0:=yq c0
  refine ⟨by omega,rfl,by omega,fun e13 h13=>?_⟩
  refine ⟨ctI _ _,fun c1=>?_,fun c1=>?_⟩
  ·refine ⟨rfl,rfl,fun _=>rfl,by first | omega | (rw [ho];have:=aIH a b k;simp only [List.length_cons,List.length_nil];omega),?_⟩
   refine ⟨⟨by omega,by omega⟩,?_⟩
   exact ⟨k+1,_,rfl,rfl,⟨by omega,by first | (rw [mP h13,if_pos (of_decide_eq_true c1),ho];done) | (rw [mP h13,if_neg (of_decide_eq_false c1),ho];done)⟩,by omega⟩
  ·refine ⟨⟨by omega,by omega⟩,?_⟩
   exact ⟨k+1,_,rfl,rfl,⟨by omega,by first | (rw [mP h13,if_pos (of_decide_eq_true c1),ho];done) | (rw [mP h13,if_neg (of_decide_eq_false c1),ho];done)⟩,by omega⟩
 ·replace c0:=nq c0
  refine ⟨?_,trivial⟩
  ·rw [ho,List.take_of_length_le (by omega)]
abbrev aBM (q:QueryD) (a:Int) (b:Int):AV × List (Nat × Rs):=(.own 0,[(0,.arr 3 1 true ((eN q a b).map intD))])
abbrev aGL (q:QueryD) (a:Int) (b:Int):Prop:=cU Tryz.prog 106 [.agg [.int .i64 q.variableCount,.sl 131 2 (q.atoms.map aU)],.one (.int .i64 a),.one (.int .i64 b)] (aBM q a b).1 (aBM q a b).2
theorem aQR (q:QueryD) (a b:Int):aGL q a b:=by
 refine aV bF aS Tryz.func106 (by kernel_rfl) (bP (sT q a)<| bP (sT q b)<| .loop (Nat × (List Int)) (Q2 Nat (List Int)) [7,10,11,18,19,20,21,22,23,24,25,26,27,28,29,30,31,32,33,34,35,36] [1100,3500,3600] (fun yy0=>[(10,vI (yy0.1:Int)),(7,.own 1100)]) (fun yy0=>[(1100,some (.arr 3 1 true (yy0.2.map intD)))]) (fun yy0=>yy0.1≤(eI q a).length∧yy0.2=fQ ((eI q a).take yy0.1) (eI q b)) (fun yy0=>(eI q a).length - yy0.1) (fun yy0=> .len ((eI q a).length)<| .br (.len ((eI q a).length)<| .elem _ intD (eI q a) (fun e28=> .call (vB (decide (e28∈(eI q b)))) []<| .br (.len ((eI q a).length)<| .elem _ intD (eI q a) (fun e34=> .app Int intD yy0.2 ([e34]:List Int)<| .back [(1100,3600)])) (.back [(1100,1100)]))) (.fin [(0,1100)]))) (p:=(q.atoms.map aU).length≤9223372036854775807→zF q a∧(zF q b∧((∃(k:Nat) (out:List Int),(0:Int)=(k:Int)∧[]=out.map intD∧k≤(eI q a).length∧out=fQ ((eI q a).take k) (eI q b))∧ ∀(k:Nat) (out:List Int),(k≤(eI q a).length∧out=fQ ((eI q a).take k) (eI q b))→Lm intD (eI q a)∧(((decide ((k:Int)<(((eI q a).length:Nat):Int)))=true→0≤(k:Int)∧Lm intD (eI q a)∧(k:Int)<(((eI q a).length:Nat):Int)∧Em intD (eI q a) k fun e28=>aKZ (eI q b) e28∧(((decide (e28∈(eI q b)))=true→0≤(k:Int)∧Lm intD (eI q a)∧(k:Int)<(((eI q a).length:Nat):Int)∧Em intD (eI q a) k fun e34=>out.map intD=out.map intD∧[[.int .i64 e34]]=([e34]:List Int).map intD∧(∀x,eK (intD x)=true)∧(out.length+([e34]:List Int).length)*8≤140737488355328∧cG ((k:Int)+(1:Int))∧ ∃(k' :Nat) (out' :List Int),((k:Int)+(1:Int))=(k' :Int)∧(out++[e34]).map intD=out'.map intD∧(k' ≤(eI q a).length∧out' =fQ ((eI q a).take k') (eI q b))∧(eI q a).length - k' <(eI q a).length - k)∧((decide (e28∈(eI q b)))=false→cG ((k:Int)+(1:Int))∧ ∃(k' :Nat) (out' :List Int),((k:Int)+(1:Int))=(k' :Int)∧out.map intD=out'.map intD∧(k' ≤(eI q a).length∧out' =fQ ((eI q a).take k') (eI q b))∧(eI q a).length - k' <(eI q a).length - k)))∧((decide ((k:Int)<(((eI q a).length:Nat):Int)))=false→out.map intD=(eN q a b).map intD∧True))))) (by kernel_rfl) ?_
 intro n0
 simp only [List.length_map] at n0
 have w1:=aDN q a
 refine ⟨aIG _ a,aIG _ b,⟨0,([]:List Int),rfl,rfl,Nat.zero_le _,rfl⟩,fun k out ⟨hk,ho⟩=>?_⟩
 refine ⟨List.length_map _,fun c0=>?_,fun c0=>?_⟩
 ·replace c0:=yq c0
  refine ⟨by omega,List.length_map _,by omega,rfl,by omega,fun e28 h28=>?_⟩
  refine ⟨hsI _ _,fun c1=>?_,fun c1=>?_⟩
  ·refine ⟨by omega,List.length_map _,by omega,rfl,by omega,fun e34 h34=>?_⟩
   obtain rfl:=(aX h28 h34).symm
   refine ⟨rfl,rfl,fun _=>rfl,by first | omega | (rw [ho];have:=aIH (eI q a) (eI q b) k;simp only [List.length_cons,List.length_nil];omega),?_⟩
   refine ⟨⟨by omega,by omega⟩,?_⟩
   exact ⟨k+1,_,rfl,rfl,⟨by omega,by first | (rw [mP h28,if_pos (of_decide_eq_true c1),ho];done) | (rw [mP h28,if_neg (of_decide_eq_false c1),ho];done)⟩,by omega⟩
  ·refine ⟨⟨by omega,by omega⟩,?_⟩
   exact ⟨k+1,_,rfl,rfl,⟨by omega,by first | (rw [mP h28,if_pos (of_decide_eq_true c1),ho];done) | (rw [mP h28,if_neg (of_decide_eq_false c1),ho];done)⟩,by omega⟩
 ·replace c0:=nq c0
  refine ⟨?_,trivial⟩
  ·rw [eN,ho,List.take_of_length_le (by omega)]
theorem aCS {s:StoreD} {q:QueryD} {m:Int} (h:kU s q m=true):bR m=dZ (cP m) q.atoms.length:=by
 obtain ⟨_,_,_,h1,h2,_,_,h3⟩:=jP h
 exact aK4 ⟨by omega,h2⟩ h3.2
theorem aDO (m:Int):(bR m).length≤4:=by
 cases h:dY m 0 15 with
 | false=>rw [aGE h];exact Nat.zero_le _
 | true=>rw [tW h];exact yX _ _
theorem aK9 {s:StoreD} {q:QueryD} {m x:Int} (h:kU s q m=true) (hx:x∈bR m):0≤x∧x.toNat<q.atoms.length∧cP m x.toNat=true:=by
 rw [aCS h] at hx
 exact nE.1 hx
abbrev xD (u:Nat→Bool) (v:Nat):Nat→Bool:=fun i=>u i || decide (i=v)
abbrev lC (l:Nat→Bool) (v:Nat):Nat→Bool:=fun i=>l i&& !decide (i=v)
def b1 (b:Bool):Nat:=if b=true then 1 else 0
theorem aDv (b:Bool):b1 b≤1:=by cases b<;>decide
def gH (p:Nat→Bool):Nat:=b1 (p 0)+b1 (p 1)+b1 (p 2)+b1 (p 3)
theorem aGM {p:Nat→Bool} {v:Nat} (hv:v<4) (h:p v=true):gH (lC p v)+1=gH p:=by
 have h4:v=0∨v=1∨v=2∨v=3:=by omega
 have e0:b1 false=0:=rfl
 have e1:b1 true=1:=rfl
 rcases h4 with rfl | rfl | rfl | rfl<;>simp [gH,lC,h,e0,e1]<;>omega
theorem aE1 (p:Nat→Bool):gH p≤4:=by
 have h0:=aDv (p 0)
 have h1:=aDv (p 1)
 have h2:=aDv (p 2)
 have h3:=aDv (p 3)
 unfold gH
 omega
theorem aE2 (p:Nat→Bool):m4 p=0↔gH p=0:=by
 rw [m4,gH]
 cases p 0<;>cases p 1<;>cases p 2<;>cases p 3<;>decide
theorem aDP {p:Nat→Bool} (h:gH p=0) {v:Nat} (hv:v<4):p v=false:=by
 cases e:p v with
 | false=>rfl
 | true=>have:=aGM hv e;omega
theorem aOE {p:Nat→Bool} (h: ¬gH p=0):dZ p 4≠[]:=fun e=>h (by
 have h0: ∀v,v<4→p v=false:=fun v hv=>by
  cases q:p v with
  | false=>rfl
  | true=>
    have:(v:Int)∈dZ p 4:=nE.2 ⟨by omega,by simpa using hv,by simpa using q⟩
    rw [e] at this;simp at this
 rw [gH,h0 0 (by omega),h0 1 (by omega),h0 2 (by omega),h0 3 (by omega)];rfl)
theorem aOF (p:Nat→Bool):bR (m4 p)=dZ p 4:=by
 have h:=aCG p
 rw [tW (iG h.1 h.2)]
 exact aFz fun v hv=>aFy hv
theorem aQS {p:Nat→Bool} {n:Nat} (hn:n≤4) (h: ∀v,n≤v→v<4→p v=false):dZ p 4=dZ p n:=aCI hn h
def xE (a:bK) (v:Int):Int:=dB (iN v) a.vars
def aCT (s:StoreD) (x:bK) (v:Int) (y:bK):Bool:=((y.name.toList==x.name.toList)&&decide (xE y v=xE x v)) || decide ((⟨y.name,xE y v,x.name,xE x v⟩:aG)∈s.inclusions)
def jW (s:StoreD) (x:bK) (v:Int) (y:bK):Bool:=decide (v∈y.vars)&&aCT s x v y
def rW (q:QueryD) (m:Int) (i:Nat):List Int:=fQ (q.atoms.getD i dL).vars (gN q m)
def eS (s:StoreD) (q:QueryD) (m:Int) (i:Nat):Bool:= !cP m i&&(decide ((rW q m i).length=1)&&(bR m).any fun k=>jW s (q.atoms.getD i dL) ((rW q m i).getD 0 0) (q.atoms.getD k.toNat dL))
theorem aLi (a:bK) (v:Int):decide (0≤xE a v)=decide (v∈a.vars):=aFm
theorem aLj (p:Nat→Bool) (k:Nat):(dZ p k).Nodup:=by
 induction k with
 | zero=>exact List.nodup_nil
 | succ k ih=>
   cases h:p k with
   | true=>
     rw [kO h]
     refine List.nodup_append.2 ⟨ih,by simp,fun a ha b hb=>?_⟩
     have:=(nE.1 ha).2.1
     simp only [List.mem_singleton] at hb
     omega
   | false=>rw [mC h];exact ih
theorem aLk {n:Int}: ∀{l:List Int},vH n l=true→l.Nodup:=fun {l} h=>by
 rw [List.Nodup,List.pairwise_iff_getElem]
 intro i j hi hj hij e
 have:=List.all_eq_true.1 h j (List.mem_range.2 hj)
 simp only [jN,Bool.and_eq_true,Bool.not_eq_true',decide_eq_false_iff_not] at this
 apply this.2
 rw [List.getD_eq_getElem?_getD,List.getElem?_eq_getElem hj,Option.getD_some,←e]
 exact List.mem_take_iff_getElem.2 ⟨i,by omega,rfl⟩
theorem aMf {i j:Nat} (hi:i<4) (hj:j<4):cP ((1:Int)*2^i) j=decide (j=i):=by
 have h1:i=0∨i=1∨i=2∨i=3:=by omega
 have h2:j=0∨j=1∨j=2∨j=3:=by omega
 rcases h1 with rfl | rfl | rfl | rfl<;>rcases h2 with rfl | rfl | rfl | rfl<;>decide
theorem aGN {q:QueryD} {i:Nat} {a:bK} {x:Int} (h:bM q=true) (ha:q.atoms[i]? =some a):x∈gN q ((1:Int)*2^i)↔x∈a.vars:=by
 obtain ⟨_,h2,h3⟩:=cX h
 have hi:=(List.getElem?_eq_some_iff.1 ha).1
 rw [aCK h]
 constructor
 ·rintro ⟨h0,hm⟩
  obtain ⟨j,hj,hb⟩:=List.any_eq_true.1 hm
  have hj:=List.mem_range.1 hj
  rw [Bool.and_eq_true,aMf (by omega) (by omega),decide_eq_true_eq] at hb
  obtain ⟨rfl,hv⟩:=hb
  rw [aZ ha,decide_eq_true_eq,Int.toNat_of_nonneg h0] at hv
  exact hv
 ·intro hx
  have h0:=(oE (h3 a (List.mem_of_getElem? ha))).2.2 x hx
  refine ⟨h0.1,aMd ha (by rw [aMf (by omega) (by omega)];simp) ?_⟩
  rw [Int.toNat_of_nonneg h0.1]
  simpa using hx
theorem aQT {n i:Nat} (hn:n≤4) (hi:i<n):0≤(1:Int)*2^i∧(1:Int)*2^i≤(1:Int)*2^n - 1∧1≤(1:Int)*2^i:=by
 have h1:i=0∨i=1∨i=2∨i=3:=by omega
 have h2:n=1∨n=2∨n=3∨n=4:=by omega
 rcases h1 with rfl | rfl | rfl | rfl<;>rcases h2 with rfl | rfl | rfl | rfl<;>first | decide | (exfalso;omega)
theorem aQU {q:QueryD} {i:Nat} (h:bM q=true) (hi:i<q.atoms.length):gP q ((1:Int)*2^i)=true:=by
 have h2:=(cX h).2.1
 have h3:=aQT h2.2 hi
 rw [gP,h,iG h3.1 h3.2.1];rfl
theorem aKa {q:QueryD} {m:Int} {i:Nat} {a:bK} (h:gP q m=true) (ha:q.atoms[i]? =some a):(eN q m ((1:Int)*2^i)).Perm (rW q m i):=by
 have hq:=(iA h).1
 have hi:=(List.getElem?_eq_some_iff.1 ha).1
 have hA:=(cX hq).2.2 a (List.mem_of_getElem? ha)
 simp only [eA,Bool.and_eq_true] at hA
 rw [eN,tV h,tV (aQU hq hi),rW,aZ ha]
 refine (List.perm_ext_iff_of_nodup ((aLj _ _).sublist List.filter_sublist) ((aLk hA.2.2).sublist List.filter_sublist)).2 fun x=>?_
 simp only [fQ,List.mem_filter,decide_eq_true_eq,aGN hq ha]
 exact And.comm
theorem aRi {q:QueryD} {m:Int} {i:Nat} {a:bK} (h:gP q m=true) (ha:q.atoms[i]? =some a):(eN q m ((1:Int)*2^i)).length=(rW q m i).length:=(aKa h ha).length_eq
theorem aRj {q:QueryD} {m:Int} {i:Nat} {a:bK} (h:gP q m=true) (ha:q.atoms[i]? =some a) (h1:(eN q m ((1:Int)*2^i)).length=1):eN q m ((1:Int)*2^i)=rW q m i:=by
 have hp:=aKa h ha
 obtain ⟨x,hx⟩:=List.length_eq_one_iff.1 h1
 rw [hx] at hp ⊢
 exact (List.perm_singleton.1 hp.symm).symm
def kA (s:StoreD) (q:QueryD) (r:List Int→(Nat→Bool)→(Nat→Bool)→Option (List Int)) (o:List Int) (u l:Nat→Bool) (x:Int):Option (List Int):=if eS s q (m4 u) x.toNat=true then r (o++[x]) (xD u x.toNat) (lC l x.toNat) else none
def fH (s:StoreD) (q:QueryD):Nat→List Int→(Nat→Bool)→(Nat→Bool)→Option (List Int)
 | 0,o,_,_=>some o
 | f+1,o,u,l=>if gH l=0 then some o else (dZ l 4).findSome? (kA s q (fH s q f) o u l)
theorem fV {s:StoreD} {q:QueryD} {o:List Int} {u l:Nat→Bool} (h:gH l=0): ∀f,fH s q f o u l=some o
 | 0=>rfl
 | f+1=>by rw [fH,if_pos h]
theorem aKb {s:StoreD} {q:QueryD} {o:List Int} {u l:Nat→Bool} (h: ¬gH l=0) (f:Nat):fH s q (f+1) o u l=(dZ l 4).findSome? (kA s q (fH s q f) o u l):=by rw [fH,if_neg h]
theorem aIJ {g:Int→Option (List Int)} {L:List Int} {k:Nat} {x:Int} (hx:L[k]? =some x) (h:(L.take k).findSome? g=none) (hg:g x=none):(L.take (k+1)).findSome? g=none:=by
 rw [cN hx,List.findSome?_append,h]
 simp [hg]
theorem aOG {g:Int→Option (List Int)} {L:List Int} {k:Nat} {x:Int} {r:List Int} (hx:L[k]? =some x) (h:(L.take k).findSome? g=none) (hg:g x=some r):L.findSome? g=some r:=by
 have e:L=L.take k++x::L.drop (k+1):=by
  rw [←kX hx,List.take_append_drop]
 rw [e,List.findSome?_append,h]
 simp [hg]
theorem aCU {s:StoreD} {q:QueryD}: ∀{f:Nat} {o r:List Int} {u l:Nat→Bool},fH s q f o u l=some r→o.length≤r.length∧r.length≤o.length+f
 | 0,o,r,u,l,h=>by simp only [fH,Option.some.injEq] at h;subst h;exact ⟨Nat.le_refl _,Nat.le_refl _⟩
 | f+1,o,r,u,l,h=>by
   by_cases hc:gH l=0
   ·rw [fV hc] at h;simp only [Option.some.injEq] at h;subst h;exact ⟨Nat.le_refl _,by omega⟩
   ·rw [aKb hc] at h
    obtain ⟨x,_,hx⟩:=List.exists_of_findSome?_eq_some h
    unfold kA at hx
    split at hx
    ·have:=aCU hx
     simp only [List.length_append,List.length_cons,List.length_nil] at this
     omega
    ·cases hx
abbrev isP (v:Nat):Nat→Bool:=fun i=>decide (i=v)
theorem aQV {v:Nat} (hv:v<4):(1:Int)*2^v=m4 (isP v):=by
 have h1:v=0∨v=1∨v=2∨v=3:=by omega
 rcases h1 with rfl | rfl | rfl | rfl<;>decide
def aDQ (s:StoreD) (q:QueryD) (m:Int) (v:Nat):Option (List Int):=fH s q 4 [(v:Int)] (isP v) (lC (cP m) v)
def nM (s:StoreD) (q:QueryD) (m st:Int):Bool:=kU s q m&&decide (st∈bR m)
def eT (s:StoreD) (q:QueryD) (m st:Int):List Int:=if nM s q m st=true then (aDQ s q m st.toNat).getD [] else []
theorem mQ {s:StoreD} {q:QueryD} {m st:Int} (h:nM s q m st=true):eT s q m st=(aDQ s q m st.toNat).getD []:=by rw [eT,if_pos h]
theorem pM {s:StoreD} {q:QueryD} {m st:Int} (h:nM s q m st=false):eT s q m st= []:=by rw [eT,if_neg (by rw [h];decide)]
theorem aOH (s:StoreD) (q:QueryD) (m st:Int):(eT s q m st).length≤5:=by
 unfold eT
 split
 ·cases e:aDQ s q m st.toNat with
  | none=>simp
  | some r=>have:=(aCU e).2;simpa using this
 ·exact Nat.zero_le _
theorem aOI {s:StoreD} {q:QueryD} {m st:Int} (h:nM s q m st=true):decide (0<((eT s q m st).length:Int))=(aDQ s q m st.toNat).isSome:=by
 rw [mQ h]
 cases e:aDQ s q m st.toNat with
 | none=>rfl
 | some r=>
   have:=(aCU e).1
   simp only [List.length_cons,List.length_nil] at this
   simp only [Option.getD_some,Option.isSome_some,decide_eq_true_eq]
   omega
theorem qK {s:StoreD} {q:QueryD} {m x:Int} (h:kU s q m=true):decide (x∈bR m)=(dY x 0 ((q.atoms.length:Int) - 1)&&cP m x.toNat):=by
 rw [aCS h]
 apply Bool.eq_iff_iff.2
 rw [decide_eq_true_eq,nE,Bool.and_eq_true]
 constructor
 ·rintro ⟨h0,h1,h2⟩;exact ⟨iG h0 (by omega),h2⟩
 ·rintro ⟨h0,h2⟩;have:=eJ h0;exact ⟨this.1,by omega,h2⟩
def aRk (a b:Int):Int:=if a<b then b else a
def pS (s:StoreD) (q:QueryD) (m b x:Int):Int:=if (aDQ s q m x.toNat).isSome=true then aRk b (fK s q x.toNat).rowCount else b
def nG (s:StoreD) (q:QueryD) (m:Int):Int:=if kU s q m=true then (bR m).foldl (pS s q m) 0 else -1
theorem aCV {s:StoreD} {q:QueryD} {m:Int} (h:kU s q m=true):nG s q m=(bR m).foldl (pS s q m) 0:=by rw [nG,if_pos h]
theorem aE3 {s:StoreD} {q:QueryD} {m:Int} (h:kU s q m=false):nG s q m= -1:=by rw [nG,if_neg (by rw [h];decide)]
theorem aCW {s:StoreD} {q:QueryD} {m:Int} {L:List Int} {k:Nat} {x:Int} (h:L[k]? =some x):(L.take (k+1)).foldl (pS s q m) 0=pS s q m ((L.take k).foldl (pS s q m) 0) x:=by
 rw [cN h,List.foldl_append];rfl
theorem aQW {s:StoreD} {q:QueryD} {m:Int} {L:List Int} {x:Int}:(L++[x]).foldl (pS s q m) 0=pS s q m (L.foldl (pS s q m) 0) x:=by
 rw [List.foldl_append];rfl
end Go.Proofs.YtokkjaflmcjlhaaGreat
