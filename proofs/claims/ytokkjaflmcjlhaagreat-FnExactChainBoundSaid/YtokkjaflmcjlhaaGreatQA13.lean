/-
  Contracts and plain laws, joined: part 14.
-/
import Derived.Test.YtokkjaflmcjlhaaGreatQA10
import Derived.Test.YtokkjaflmcjlhaaGreatQA12
import Derived.Test.YtokkjaflmcjlhaaGreatQA11
import Derived.Test.YtokkjaflmcjlhaaGreatQA9
namespace Go.Proofs.YtokkjaflmcjlhaaGreat
open Go.ChangeShapes Go.WideShapes Go.ChangeAt Go.RowKit
set_option linter.unusedVariables false
set_option linter.unusedSimpArgs false
set_option maxRecDepth 100000
set_option maxHeartbeats 4000000
theorem aEd {α:Type} {p q:α→Bool}: ∀{l:List α},(∀x∈l,p x=q x)→l.find? p=l.find? q
 | [],_=>rfl
 | x::l,h=>by
   rw [List.find?_cons,List.find?_cons,h x (by simp),aEd fun y hy=>h y (by simp [hy])]
theorem aG3 {t:aS} (h:aL t=true):bM (aX t)=true∧(aX t).name=t.name∧(aX t).arity=t.arity∧(aX t).rowCount=(t.rows.length:Nat):=by
 have h1:=(vZ h).1
 have e:bU (aX t)=t:=by
  rw [bU,h1,bJ h]
 refine ⟨by rw [bM,e,h];simp,?_,?_,?_⟩<;>rw [bJ h]
theorem aOK {s:StoreD} (h:dD s=true):eU s.database=true∧s.catalogue.tables=s.database.tables.map aX:=by
 simp only [dD,Bool.and_eq_true,decide_eq_true_eq] at h
 obtain ⟨h1,h2,_⟩:=h
 cases e:(eU s.database&&dM s.catalogue.version 1 999) with
 | false=>rw [eV e] at h1;cases h1
 | true=>
   rw [bX e] at h2
   simp only [Bool.and_eq_true] at e
   exact ⟨e.1,by rw [←h2]⟩
theorem aJr {s:StoreD} {n:ByteArray} (h:dD s=true) (hn:(aE s.database n).2=true):dA s.catalogue n=(aX (aE s.database n).1,true):=by
 obtain ⟨h1,h2⟩:=aOK h
 have hall:=aIa h1
 have hc:(s.database.tables.find? fun t=>lL n (aX t))=s.database.tables.find? (xX n):=aEd fun t ht=>by
  obtain ⟨q1,q2,_,_⟩:=aG3 (List.all_eq_true.1 hall t ht)
  rw [lL,q1,q2,Bool.and_true]
 have hf:s.catalogue.tables.find? (lL n)=(s.database.tables.find? (xX n)).map aX:=by
  rw [h2,List.find?_map,←hc];rfl
 cases e:s.database.tables.find? (xX n) with
 | none=>rw [wA (.inr e)] at hn;cases hn
 | some t=>
   rw [aBi h1 e]
   exact dV (by rw [hf,e];rfl)
def cP (d:aR) (q:QueryD):Bool:=bP q&&q.atoms.all fun a=>(aE d a.name).2&&decide ((aE d a.name).1.arity=(a.vars.length:Nat))
def kH (s:StoreD) (q:QueryD) (m:Int):Bool:=dD s&&(cP s.database q&&dM m 1 (iM q))
def bG (s:StoreD) (q:QueryD) (i:Nat):aF:=(dA s.catalogue (q.atoms.getD i gJ).name).1
theorem yC {d:aR} {q:QueryD} (h:cP d q=true):bP q=true∧ ∀a∈q.atoms,(aE d a.name).2=true∧(aE d a.name).1.arity=(a.vars.length:Nat):=by
 simp only [cP,Bool.and_eq_true] at h
 exact ⟨h.1,fun a ha=>by simpa using List.all_eq_true.1 h.2 a ha⟩
theorem jP {s:StoreD} {q:QueryD} {m:Int} (h:kH s q m=true):dD s=true∧cP s.database q=true∧bP q=true∧1≤m∧m≤(1:Int)*2^q.atoms.length - 1∧m≤15∧gC q m=true∧(1≤q.atoms.length∧q.atoms.length≤4):=by
 simp only [kH,Bool.and_eq_true] at h
 have h1:=dP h.2.2
 have h2:=(yC h.2.1).1
 have h3:=dZ h2
 have h4:=iP h3.2.1
 rw [oI h2] at h1
 exact ⟨h.1,h.2.1,h2,h1.1,h1.2,by omega,by rw [gC,h2,jV (by omega) h1.2];rfl,h3.2.1⟩
theorem mQ {s:StoreD} {q:QueryD}:kH s q (iM q)=kH s q 1:=by
 cases h:cP s.database q with
 | false=>simp [kH,h]
 | true=>
   have h2:=(yC h).1
   have h3:=iP (dZ h2).2.1
   rw [kH,kH,h,oI h2,jV h3.1 (Int.le_refl _),jV (Int.le_refl _) h3.1]
theorem aKj {s:StoreD} {q:QueryD} {i:Nat} {a:dF} (h:dD s=true) (hq:cP s.database q=true) (ha:q.atoms[i]? =some a):bM (bG s q i)=true∧(bG s q i).arity=(a.vars.length:Nat)∧0≤(bG s q i).rowCount∧(bG s q i).rowCount≤8∧bG s q i=aX (aE s.database a.name).1∧(dA s.catalogue a.name).2=true:=by
 obtain ⟨h1,h2⟩:=(yC hq).2 a (List.mem_of_getElem? ha)
 have h3:=aJr h h1
 have h4:=(kF h1).1
 obtain ⟨q1,q2,q3,q4⟩:=aG3 h4
 have h5:=bT h4
 have e:bG s q i=aX (aE s.database a.name).1:=by rw [bG,aP ha,h3]
 rw [e]
 exact ⟨q1,q3.trans h2,by omega,by omega,rfl,by rw [h3]⟩
abbrev aEe (d:aR) (q:QueryD):Prop:=cO Tryz.prog 121 [.agg [.sl 162 3 (d.tables.map aO)],.agg [.int .i64 q.variableCount,.sl 131 2 (q.atoms.map aV)]] (vB (cP d q)) []
theorem aOL (d:aR) (q:QueryD) (hc:bD d≤1048576):aEe d q:=by
 refine aT bF aQ Tryz.func121 (by kernel_rfl) (.call (vB (bP q)) []<| .br (.fin []) (.len q.atoms.length<| .loop Nat (Q1 Nat) [6,7,8,15,16,17,18,19,20,21,22,23,24,25,26,27,28,29,30,31,32,33,34,35,36] [600,700] (fun k=>[(15,vI (k:Int))]) (fun k=>[]) (fun k=>k≤q.atoms.length∧(q.atoms.take k).all (fun a=>(aE d a.name).2&&decide ((aE d a.name).1.arity=(a.vars.length:Nat)))=true) (fun k=>q.atoms.length - k) (fun k=> .br (.elem _ aV q.atoms (fun e17=> .call (.tup [.agg [.p none (.str (((aE d e17.name).1).name)),vI (((aE d e17.name).1).arity),.p none (.sl 32 1 ((((aE d e17.name).1).rows).map aC))],vB ((aE d e17.name).2)]) []<| .br (.fin []) (.len e17.vars.length<| .lit<| .lit<| .br (.fin []) (.back [])))) (.fin [])))) (p:=(d.tables.map aO).length≤9223372036854775807→(q.atoms.map aV).length≤9223372036854775807→tB q∧(((!(bP q))=true→(false)=(cP d q)∧True)∧((!(bP q))=false→Lm aV q.atoms∧((∃(k:Nat),(0:Int)=(k:Int)∧k≤q.atoms.length∧(q.atoms.take k).all (fun a=>(aE d a.name).2&&decide ((aE d a.name).1.arity=(a.vars.length:Nat)))=true)∧ ∀(k:Nat),(k≤q.atoms.length∧(q.atoms.take k).all (fun a=>(aE d a.name).2&&decide ((aE d a.name).1.arity=(a.vars.length:Nat)))=true)→((decide ((k:Int)<((q.atoms.length:Nat):Int)))=true→0≤(k:Int)∧Em aV q.atoms k fun e17=>cO Tryz.prog 148 [.agg [.sl 162 3 (d.tables.map aO)],.one (.str e17.name)] (.tup [.agg [.p none (.str (((aE d e17.name).1).name)),vI (((aE d e17.name).1).arity),.p none (.sl 32 1 ((((aE d e17.name).1).rows).map aC))],vB ((aE d e17.name).2)]) []∧(((!((aE d e17.name).2))=true→(false)=(cP d q)∧True)∧((!((aE d e17.name).2))=false→Lm intD e17.vars∧(((!(decide ((((aE d e17.name).1).arity)=((e17.vars.length:Nat):Int))))=true→(false)=(cP d q)∧True)∧((!(decide ((((aE d e17.name).1).arity)=((e17.vars.length:Nat):Int))))=false→cL ((k:Int)+(1:Int))∧ ∃(k' :Nat),((k:Int)+(1:Int))=(k' :Int)∧(k' ≤q.atoms.length∧(q.atoms.take k').all (fun a=>(aE d a.name).2&&decide ((aE d a.name).1.arity=(a.vars.length:Nat)))=true)∧q.atoms.length - k' <q.atoms.length - k)))))∧((decide ((k:Int)<((q.atoms.length:Nat):Int)))=false→(true)=(cP d q)∧True))))) (by kernel_rfl) ?_
 intro n0 n1
 simp only [List.length_map] at n0 n1
 refine ⟨aEa q,fun c0=>?_,fun c0=>?_⟩
 ·replace c0:=nt c0
  refine ⟨?_,trivial⟩
  ·first | (rw [cP,c0];rfl) | (rw [cP,bY h17 hA,Bool.and_false];done) | (rw [cP,c0,bR (by omega) ha];rfl)
 ·replace c0:=nf c0
  refine ⟨List.length_map _,⟨0,rfl,Nat.zero_le _,rfl⟩,fun k ⟨hk,ha⟩=>?_⟩
  refine ⟨fun c1=>?_,fun c1=>?_⟩
  ·replace c1:=yq c1
   refine ⟨by omega,rfl,by omega,fun e17 h17=>?_⟩
   try (obtain rfl:=(bA h17 h17).symm)
   refine ⟨iF (pG _ e17.name (by omega)) rfl,fun g28=>?_,fun g28=>?_⟩
   ·replace g28:=nt g28
    have hA:((aE d e17.name).2&&decide ((aE d e17.name).1.arity=(e17.vars.length:Nat)))=false:=by first | (rw [g28];rfl) | (rw [g28];simp [c2];done)
    refine ⟨?_,trivial⟩
    ·first | (rw [cP,c0];rfl) | (rw [cP,bY h17 hA,Bool.and_false];done) | (rw [cP,c0,bR (by omega) ha];rfl)
   ·replace g28:=nf g28
    refine ⟨List.length_map _,fun c2=>?_,fun c2=>?_⟩
    ·replace c2:=nq (nt c2)
     have hA:((aE d e17.name).2&&decide ((aE d e17.name).1.arity=(e17.vars.length:Nat)))=false:=by first | (rw [g28];rfl) | (rw [g28];simp [c2];done)
     refine ⟨?_,trivial⟩
     ·first | (rw [cP,c0];rfl) | (rw [cP,bY h17 hA,Bool.and_false];done) | (rw [cP,c0,bR (by omega) ha];rfl)
    ·replace c2:=yq (nf c2)
     have hA:((aE d e17.name).2&&decide ((aE d e17.name).1.arity=(e17.vars.length:Nat)))=true:=by rw [g28];simp [c2]
     refine ⟨⟨by omega,by omega⟩,?_⟩
     exact ⟨k+1,rfl,⟨by omega,dO h17 ha hA⟩,by omega⟩
  ·replace c1:=nq c1
   refine ⟨?_,trivial⟩
   ·first | (rw [cP,c0];rfl) | (rw [cP,bY h17 hA,Bool.and_false];done) | (rw [cP,c0,bR (by omega) ha];rfl)
abbrev aC3 (q:QueryD):Prop:=cO Tryz.prog 118 [.agg [.int .i64 q.variableCount,.sl 131 2 (q.atoms.map aV)]] (vI (iM q)) []
theorem aMD (q:QueryD):aC3 q:=by
 refine aT bF aQ Tryz.func118 (by kernel_rfl) (.call (vB (bP q)) []<| .br (.fin []) (.len q.atoms.length<| .fin [])) (p:=(q.atoms.map aV).length≤9223372036854775807→tB q∧(((!(bP q))=true→(0:Int)=(iM q)∧True)∧((!(bP q))=false→Lm aV q.atoms∧(0≤((q.atoms.length:Nat):Int)∧((q.atoms.length:Nat):Int)≤64)∧cL ((1:Int)*2^q.atoms.length)∧cL (((1:Int)*2^q.atoms.length) - (1:Int))∧(((1:Int)*2^q.atoms.length) - (1:Int))=(iM q)∧True))) (by kernel_rfl) ?_
 intro n0
 simp only [List.length_map] at n0
 refine ⟨aEa q,fun c0=>?_,fun c0=>?_⟩
 ·replace c0:=nt c0
  refine ⟨?_,trivial⟩
  ·first | (rw [aAu c0];done) | (rw [oI c0];done)
 ·replace c0:=nf c0
  have w:=iP (dZ c0).2.1
  have w2:=(dZ c0).2.1
  refine ⟨List.length_map _,⟨by omega,by omega⟩,⟨by omega,by omega⟩,⟨by omega,by omega⟩,?_,trivial⟩
  ·first | (rw [aAu c0];done) | (rw [oI c0];done)
abbrev aEf (d:aR) (q:QueryD):Prop:=cO Tryz.prog 165 [.agg [.sl 162 3 (d.tables.map aO)],.agg [.int .i64 q.variableCount,.sl 131 2 (q.atoms.map aV)]] (vB (cP d q)) []
theorem aOM (d:aR) (q:QueryD) (hc:bD d≤1048576):aEf d q:=by
 refine aT bF aQ Tryz.func165 (by kernel_rfl) (.call (vB (bP q)) []<| .br (.fin []) (.loop Nat (Q1 Nat) [5,6,7,11,12,13,14,15,16,17,18,19,20,21,22,23,24,25,26,27,28,29,30,31,32,33,34,35,36,37,38,39,40,41,42] [600] (fun k=>[(5,vI (k:Int))]) (fun k=>[]) (fun k=>k≤q.atoms.length∧(q.atoms.take k).all (fun a=>(aE d a.name).2&&decide ((aE d a.name).1.arity=(a.vars.length:Nat)))=true) (fun k=>q.atoms.length - k) (fun k=> .len q.atoms.length<| .br (.elem _ aV q.atoms (fun e23=> .call (.tup [.agg [.p none (.str (((aE d e23.name).1).name)),vI (((aE d e23.name).1).arity),.p none (.sl 32 1 ((((aE d e23.name).1).rows).map aC))],vB ((aE d e23.name).2)]) []<| .br (.fin []) (.elem _ aV q.atoms (fun e37=> .len e37.vars.length<| .lit<| .lit<| .br (.fin []) (.back []))))) (.fin [])))) (p:=(d.tables.map aO).length≤9223372036854775807→(q.atoms.map aV).length≤9223372036854775807→tC q∧(((!(bP q))=true→(false)=(cP d q)∧True)∧((!(bP q))=false→(∃(k:Nat),(0:Int)=(k:Int)∧k≤q.atoms.length∧(q.atoms.take k).all (fun a=>(aE d a.name).2&&decide ((aE d a.name).1.arity=(a.vars.length:Nat)))=true)∧ ∀(k:Nat),(k≤q.atoms.length∧(q.atoms.take k).all (fun a=>(aE d a.name).2&&decide ((aE d a.name).1.arity=(a.vars.length:Nat)))=true)→Lm aV q.atoms∧(((decide ((k:Int)<((q.atoms.length:Nat):Int)))=true→0≤(k:Int)∧Em aV q.atoms k fun e23=>cO Tryz.prog 132 [.agg [.sl 162 3 (d.tables.map aO)],.one (.str e23.name)] (.tup [.agg [.p none (.str (((aE d e23.name).1).name)),vI (((aE d e23.name).1).arity),.p none (.sl 32 1 ((((aE d e23.name).1).rows).map aC))],vB ((aE d e23.name).2)]) []∧(((!((aE d e23.name).2))=true→(false)=(cP d q)∧True)∧((!((aE d e23.name).2))=false→0≤(k:Int)∧Em aV q.atoms k fun e37=>Lm intD e37.vars∧(((!(decide ((((aE d e23.name).1).arity)=((e37.vars.length:Nat):Int))))=true→(false)=(cP d q)∧True)∧((!(decide ((((aE d e23.name).1).arity)=((e37.vars.length:Nat):Int))))=false→cL ((k:Int)+(1:Int))∧ ∃(k' :Nat),((k:Int)+(1:Int))=(k' :Int)∧(k' ≤q.atoms.length∧(q.atoms.take k').all (fun a=>(aE d a.name).2&&decide ((aE d a.name).1.arity=(a.vars.length:Nat)))=true)∧q.atoms.length - k' <q.atoms.length - k)))))∧((decide ((k:Int)<((q.atoms.length:Nat):Int)))=false→(true)=(cP d q)∧True))))) (by kernel_rfl) ?_
 intro n0 n1
 simp only [List.length_map] at n0 n1
 refine ⟨aEb q,fun c0=>?_,fun c0=>?_⟩
 ·replace c0:=nt c0
  refine ⟨?_,trivial⟩
  ·first | (rw [cP,c0];rfl) | (rw [cP,bY h23 hA,Bool.and_false];done) | (rw [cP,c0,bR (by omega) ha];rfl)
 ·replace c0:=nf c0
  refine ⟨⟨0,rfl,Nat.zero_le _,rfl⟩,fun k ⟨hk,ha⟩=>?_⟩
  refine ⟨List.length_map _,fun c1=>?_,fun c1=>?_⟩
  ·replace c1:=yq c1
   refine ⟨by omega,rfl,by omega,fun e23 h23=>?_⟩
   try (obtain rfl:=(bA h23 h23).symm)
   refine ⟨iF (pH _ e23.name (by omega)) rfl,fun g31=>?_,fun g31=>?_⟩
   ·replace g31:=nt g31
    have hA:((aE d e23.name).2&&decide ((aE d e23.name).1.arity=(e23.vars.length:Nat)))=false:=by first | (rw [g31];rfl) | (rw [g31];simp [c2];done)
    refine ⟨?_,trivial⟩
    ·first | (rw [cP,c0];rfl) | (rw [cP,bY h23 hA,Bool.and_false];done) | (rw [cP,c0,bR (by omega) ha];rfl)
   ·replace g31:=nf g31
    refine ⟨by omega,rfl,by omega,fun e37 h37=>?_⟩
    try (obtain rfl:=(bA h23 h37).symm)
    refine ⟨List.length_map _,fun c2=>?_,fun c2=>?_⟩
    ·replace c2:=nq (nt c2)
     have hA:((aE d e23.name).2&&decide ((aE d e23.name).1.arity=(e23.vars.length:Nat)))=false:=by first | (rw [g31];rfl) | (rw [g31];simp [c2];done)
     refine ⟨?_,trivial⟩
     ·first | (rw [cP,c0];rfl) | (rw [cP,bY h23 hA,Bool.and_false];done) | (rw [cP,c0,bR (by omega) ha];rfl)
    ·replace c2:=yq (nf c2)
     have hA:((aE d e23.name).2&&decide ((aE d e23.name).1.arity=(e23.vars.length:Nat)))=true:=by rw [g31];simp [c2]
     refine ⟨⟨by omega,by omega⟩,?_⟩
     exact ⟨k+1,rfl,⟨by omega,dO h23 ha hA⟩,by omega⟩
  ·replace c1:=nq c1
   refine ⟨?_,trivial⟩
   ·first | (rw [cP,c0];rfl) | (rw [cP,bY h23 hA,Bool.and_false];done) | (rw [cP,c0,bR (by omega) ha];rfl)
abbrev wL (q:QueryD):Prop:=cO Tryz.prog 98 [.agg [.int .i64 q.variableCount,.sl 131 2 (q.atoms.map aV)]] (vI (iM q)) []
theorem aG4 (q:QueryD):wL q:=by
 refine aT bF aQ Tryz.func98 (by kernel_rfl) (.call (vB (bP q)) []<| .br (.fin []) (.len q.atoms.length<| .fin [])) (p:=(q.atoms.map aV).length≤9223372036854775807→tC q∧(((!(bP q))=true→(0:Int)=(iM q)∧True)∧((!(bP q))=false→Lm aV q.atoms∧(0≤((q.atoms.length:Nat):Int)∧((q.atoms.length:Nat):Int)≤64)∧cL ((1:Int)*2^q.atoms.length)∧cL (((1:Int)*2^q.atoms.length) - (1:Int))∧(((1:Int)*2^q.atoms.length) - (1:Int))=(iM q)∧True))) (by kernel_rfl) ?_
 intro n0
 simp only [List.length_map] at n0
 refine ⟨aEb q,fun c0=>?_,fun c0=>?_⟩
 ·replace c0:=nt c0
  refine ⟨?_,trivial⟩
  ·first | (rw [aAu c0];done) | (rw [oI c0];done)
 ·replace c0:=nf c0
  have w:=iP (dZ c0).2.1
  have w2:=(dZ c0).2.1
  refine ⟨List.length_map _,⟨by omega,by omega⟩,⟨by omega,by omega⟩,⟨by omega,by omega⟩,?_,trivial⟩
  ·first | (rw [aAu c0];done) | (rw [oI c0];done)
abbrev tD (m:Int):AV × List (Nat × Rs):=(.own 0,[(0,.arr 3 1 true ((cW m).map intD))])
abbrev zX (m:Int):Prop:=cO Tryz.prog 95 [.one (.int .i64 m)] (tD m).1 (tD m).2
theorem aIp (m:Int):zX m:=by
 refine aT bF aQ Tryz.func95 (by kernel_rfl) (.call (vB (dM m (0:Int) (15:Int))) []<| .br (.fin []) (.loop (Nat × (List Int)) (Q2 Nat (List Int)) [3,4,8,9,10,11,12,13,14,15,16,17,18,19,20,21] [800,2000,2100] (fun yy0=>[(4,vI (yy0.1:Int)),(3,.own 800)]) (fun yy0=>[(800,some (.arr 3 1 true (yy0.2.map intD)))]) (fun yy0=>yy0.1≤4∧yy0.2=dE (dL m) yy0.1) (fun yy0=>4 - yy0.1) (fun yy0=> .br (.br (.app Int intD yy0.2 ([(yy0.1:Int)]:List Int)<| .back [(800,2100)]) (.back [(800,800)])) (.fin [(0,800)])))) (p:=eD m (0:Int) (15:Int)∧(((!(dM m (0:Int) (15:Int)))=true→[]=(cW m).map intD∧True)∧((!(dM m (0:Int) (15:Int)))=false→(∃(i:Nat) (out:List Int),(0:Int)=(i:Int)∧[]=out.map intD∧i≤4∧out=dE (dL m) i)∧ ∀(i:Nat) (out:List Int),(i≤4∧out=dE (dL m) i)→((decide ((i:Int)<(4:Int)))=true→(0≤(i:Int)∧(i:Int)≤64)∧(((decide ((fL .and .i64 (m/2^i) (1:Int))=(1:Int)))=true→out.map intD=out.map intD∧[[.int .i64 (i:Int)]]=([(i:Int)]:List Int).map intD∧(∀x,eI (intD x)=true)∧(out.length+([(i:Int)]:List Int).length)*8≤140737488355328∧cL ((i:Int)+(1:Int))∧ ∃(i' :Nat) (out' :List Int),((i:Int)+(1:Int))=(i' :Int)∧(out++[(i:Int)]).map intD=out'.map intD∧(i' ≤4∧out' =dE (dL m) i')∧4 - i' <4 - i)∧((decide ((fL .and .i64 (m/2^i) (1:Int))=(1:Int)))=false→cL ((i:Int)+(1:Int))∧ ∃(i' :Nat) (out' :List Int),((i:Int)+(1:Int))=(i' :Int)∧out.map intD=out'.map intD∧(i' ≤4∧out' =dE (dL m) i')∧4 - i' <4 - i)))∧((decide ((i:Int)<(4:Int)))=false→out.map intD=(cW m).map intD∧True)))) (by kernel_rfl) ?_
 refine ⟨gB _ _ _,fun c0=>?_,fun c0=>?_⟩
 ·replace c0:=nt c0
  refine ⟨?_,trivial⟩
  ·first | (rw [aE6 c0];rfl) | (rw [rO c0,ho,show i=4 by omega])
 ·replace c0:=nf c0
  refine ⟨⟨0,([]:List Int),rfl,rfl,by omega,rfl⟩,fun i out ⟨hi,ho⟩=>?_⟩
  refine ⟨fun c1=>?_,fun c1=>?_⟩
  ·replace c1:=yq c1
   refine ⟨⟨by omega,by omega⟩,fun c2=>?_,fun c2=>?_⟩
   ·replace c2:=yq c2
    refine ⟨rfl,rfl,fun _=>rfl,by first | omega | (rw [ho];have:=lJ (dL m) i;simp only [List.length_cons,List.length_nil];omega),?_⟩
    refine ⟨⟨by omega,by omega⟩,?_⟩
    exact ⟨i+1,_,rfl,rfl,⟨by omega,by first | (rw [ho,iH (mP c2)];done) | (rw [ho,gQ (pI c2)];done)⟩,by omega⟩
   ·replace c2:=nq c2
    refine ⟨⟨by omega,by omega⟩,?_⟩
    exact ⟨i+1,_,rfl,rfl,⟨by omega,by first | (rw [ho,iH (mP c2)];done) | (rw [ho,gQ (pI c2)];done)⟩,by omega⟩
  ·replace c1:=nq c1
   refine ⟨?_,trivial⟩
   ·first | (rw [aE6 c0];rfl) | (rw [rO c0,ho,show i=4 by omega])
abbrev aEg (q:QueryD) (m:Int):Prop:=cO Tryz.prog 246 [.agg [.int .i64 q.variableCount,.sl 131 2 (q.atoms.map aV)],.one (.int .i64 m)] (vB (gC q m)) []
theorem aON (q:QueryD) (m:Int):aEg q m:=by
 refine aT bF aQ Tryz.func246 (by kernel_rfl) (.call (vB (bP q)) []<| .br (.len q.atoms.length<| .call (vB (dM m (0:Int) (((1:Int)*2^q.atoms.length) - (1:Int)))) []<| .fin []) (.fin [])) (p:=(q.atoms.map aV).length≤9223372036854775807→tB q∧(((bP q)=true→Lm aV q.atoms∧(0≤((q.atoms.length:Nat):Int)∧((q.atoms.length:Nat):Int)≤64)∧cL ((1:Int)*2^q.atoms.length)∧cL (((1:Int)*2^q.atoms.length) - (1:Int))∧eD m (0:Int) (((1:Int)*2^q.atoms.length) - (1:Int))∧(dM m (0:Int) (((1:Int)*2^q.atoms.length) - (1:Int)))=(gC q m)∧True)∧((bP q)=false→(false)=(gC q m)∧True))) (by kernel_rfl) ?_
 intro n0
 simp only [List.length_map] at n0
 refine ⟨aEa q,fun g7=>?_,fun g7=>?_⟩
 ·have w:=iP (dZ g7).2.1
  have w2:=(dZ g7).2.1
  refine ⟨List.length_map _,⟨by omega,by omega⟩,⟨by omega,by omega⟩,⟨by omega,by omega⟩,gB _ _ _,?_,trivial⟩
  ·(rw [gC,g7];rfl)
 ·refine ⟨?_,trivial⟩
  ·(rw [gC,g7];rfl)
abbrev aEh (q:QueryD) (m:Int):Prop:=cO Tryz.prog 188 [.agg [.int .i64 q.variableCount,.sl 131 2 (q.atoms.map aV)],.one (.int .i64 m)] (vB (gC q m)) []
theorem aOO (q:QueryD) (m:Int):aEh q m:=by
 refine aT bF aQ Tryz.func188 (by kernel_rfl) (.call (vB (bP q)) []<| .br (.len q.atoms.length<| .call (vB (dM m (0:Int) (((1:Int)*2^q.atoms.length) - (1:Int)))) []<| .fin []) (.fin [])) (p:=(q.atoms.map aV).length≤9223372036854775807→tC q∧(((bP q)=true→Lm aV q.atoms∧(0≤((q.atoms.length:Nat):Int)∧((q.atoms.length:Nat):Int)≤64)∧cL ((1:Int)*2^q.atoms.length)∧cL (((1:Int)*2^q.atoms.length) - (1:Int))∧eL m (0:Int) (((1:Int)*2^q.atoms.length) - (1:Int))∧(dM m (0:Int) (((1:Int)*2^q.atoms.length) - (1:Int)))=(gC q m)∧True)∧((bP q)=false→(false)=(gC q m)∧True))) (by kernel_rfl) ?_
 intro n0
 simp only [List.length_map] at n0
 refine ⟨aEb q,fun g7=>?_,fun g7=>?_⟩
 ·have w:=iP (dZ g7).2.1
  have w2:=(dZ g7).2.1
  refine ⟨List.length_map _,⟨by omega,by omega⟩,⟨by omega,by omega⟩,⟨by omega,by omega⟩,gP _ _ _,?_,trivial⟩
  ·(rw [gC,g7];rfl)
 ·refine ⟨?_,trivial⟩
  ·(rw [gC,g7];rfl)
abbrev qJ (q:QueryD) (m:Int):AV × List (Nat × Rs):=(.own 0,[(0,.arr 3 1 true ((iI q m).map intD))])
abbrev wM (q:QueryD) (m:Int):Prop:=cO Tryz.prog 175 [.agg [.int .i64 q.variableCount,.sl 131 2 (q.atoms.map aV)],.one (.int .i64 m)] (qJ q m).1 (qJ q m).2
theorem aG5 (q:QueryD) (m:Int) (hq:bP q=true):wM q m:=by
 refine aT bF aQ Tryz.func175 (by kernel_rfl) (.loop (Nat × (List Int)) (Q2 Nat (List Int)) [5,6,7,8,9,10,11,12,13,14,15,16,17,18,19,20,21,22,23,24,25,26,27,28,29,30,31,32,33,34,35,36,37,38,39] [800,900,3700,3800] (fun yy0=>[(6,vI (yy0.1:Int)),(5,.own 900)]) (fun yy0=>[(900,some (.arr 3 1 true (yy0.2.map intD)))]) (fun yy0=>(yy0.1:Int)≤q.variableCount∧yy0.2=dE (qI q m) yy0.1) (fun yy0=>q.variableCount.toNat - yy0.1) (fun yy0=> .br (.len q.atoms.length<| .loop Nat (Q1 Nat) [7,8,19,20,21,22,23,24,25,26,27,28,29,30,31,32,33,34,39] [800] (fun i=>[(19,vI (i:Int))]) (fun i=>[]) (fun i=>i≤q.atoms.length∧sX q m i yy0.1=false) (fun i=>q.atoms.length - i) (fun i=> .br (.elem _ aV q.atoms (fun e22=> .br (.call (vB (decide ((yy0.1:Int)∈e22.vars))) []<| .lit<| .br (.app Int intD yy0.2 ([(yy0.1:Int)]:List Int)<| .back [(900,3800)]) (.back [])) (.back []))) (.back [(900,900)]))) (.fin [(0,900)]))) (p:=(q.atoms.map aV).length≤9223372036854775807→(∃(v:Nat) (out:List Int),(0:Int)=(v:Int)∧[]=out.map intD∧(v:Int)≤q.variableCount∧out=dE (qI q m) v)∧ ∀(v:Nat) (out:List Int),((v:Int)≤q.variableCount∧out=dE (qI q m) v)→((decide ((v:Int)<q.variableCount))=true→Lm aV q.atoms∧((∃(i:Nat),(0:Int)=(i:Int)∧i≤q.atoms.length∧sX q m i v=false)∧ ∀(i:Nat),(i≤q.atoms.length∧sX q m i v=false)→((decide ((i:Int)<((q.atoms.length:Nat):Int)))=true→0≤(i:Int)∧Em aV q.atoms i fun e22=>(0≤(i:Int)∧(i:Int)≤64)∧(((decide ((fL .and .i64 (m/2^i) (1:Int))=(1:Int)))=true→aES e22.vars (v:Int)∧(((decide ((v:Int)∈e22.vars))=true→out.map intD=out.map intD∧[[.int .i64 (v:Int)]]=([(v:Int)]:List Int).map intD∧(∀x,eI (intD x)=true)∧(out.length+([(v:Int)]:List Int).length)*8≤140737488355328∧cL ((v:Int)+(1:Int))∧ ∃(v' :Nat) (out' :List Int),((v:Int)+(1:Int))=(v' :Int)∧(out++[(v:Int)]).map intD=out'.map intD∧((v' :Int)≤q.variableCount∧out' =dE (qI q m) v')∧q.variableCount.toNat - v' <q.variableCount.toNat - v)∧((decide ((v:Int)∈e22.vars))=false→cL ((i:Int)+(1:Int))∧ ∃(i' :Nat),((i:Int)+(1:Int))=(i' :Int)∧(i' ≤q.atoms.length∧sX q m i' v=false)∧q.atoms.length - i' <q.atoms.length - i)))∧((decide ((fL .and .i64 (m/2^i) (1:Int))=(1:Int)))=false→cL ((i:Int)+(1:Int))∧ ∃(i' :Nat),((i:Int)+(1:Int))=(i' :Int)∧(i' ≤q.atoms.length∧sX q m i' v=false)∧q.atoms.length - i' <q.atoms.length - i)))∧((decide ((i:Int)<((q.atoms.length:Nat):Int)))=false→cL ((v:Int)+(1:Int))∧ ∃(v' :Nat) (out' :List Int),((v:Int)+(1:Int))=(v' :Int)∧out.map intD=out'.map intD∧((v' :Int)≤q.variableCount∧out' =dE (qI q m) v')∧q.variableCount.toNat - v' <q.variableCount.toNat - v)))∧((decide ((v:Int)<q.variableCount))=false→out.map intD=(iI q m).map intD∧True)) (by kernel_rfl) ?_
 intro n0
 simp only [List.length_map] at n0
 have w:=(dZ hq).1
 have w2:=(dZ hq).2.1
 refine ⟨⟨0,([]:List Int),rfl,rfl,by omega,rfl⟩,fun v out ⟨hv,ho⟩=>?_⟩
 refine ⟨fun c0=>?_,fun c0=>?_⟩
 ·replace c0:=yq c0
  refine ⟨List.length_map _,⟨0,rfl,Nat.zero_le _,rfl⟩,fun i ⟨hi,hn⟩=>?_⟩
  refine ⟨fun c1=>?_,fun c1=>?_⟩
  ·replace c1:=yq c1
   refine ⟨by omega,rfl,by omega,fun e22 h22=>?_⟩
   refine ⟨⟨by omega,by omega⟩,fun g29=>?_,fun g29=>?_⟩
   ·replace g29:=yq g29
    refine ⟨ctI _ _,fun c2=>?_,fun c2=>?_⟩
    ·have hT:qI q m v=true:=aP8 h22 (mP g29) c2
     refine ⟨rfl,rfl,fun _=>rfl,by first | omega | (rw [ho];have:=lJ (qI q m) v;simp only [List.length_cons,List.length_nil];omega),?_⟩
     refine ⟨⟨by omega,by omega⟩,?_⟩
     exact ⟨v+1,_,rfl,rfl,⟨by omega,by first | (rw [ho,iH hT];done) | (rw [ho,gQ hF];done)⟩,by omega⟩
    ·refine ⟨⟨by omega,by omega⟩,?_⟩
     exact ⟨i+1,rfl,⟨by omega,by rw [xY,hn,aP h22];first | (rw [c2];simp;done) | (rw [pI g29];rfl)⟩,by omega⟩
   ·replace g29:=nq g29
    refine ⟨⟨by omega,by omega⟩,?_⟩
    exact ⟨i+1,rfl,⟨by omega,by rw [xY,hn,aP h22];first | (rw [c2];simp;done) | (rw [pI g29];rfl)⟩,by omega⟩
  ·replace c1:=nq c1
   have hF:qI q m v=false:=by rw [qI,show q.atoms.length=i by omega];exact hn
   refine ⟨⟨by omega,by omega⟩,?_⟩
   exact ⟨v+1,_,rfl,rfl,⟨by omega,by first | (rw [ho,iH hT];done) | (rw [ho,gQ hF];done)⟩,by omega⟩
 ·replace c0:=nq c0
  refine ⟨?_,trivial⟩
  ·rw [iI,ho,show q.variableCount.toNat=v by omega]
abbrev qK (q:QueryD) (m:Int):AV × List (Nat × Rs):=(.own 0,[(0,.arr 3 1 true ((dN q m).map intD))])
abbrev wN (q:QueryD) (m:Int):Prop:=cO Tryz.prog 180 [.agg [.int .i64 q.variableCount,.sl 131 2 (q.atoms.map aV)],.one (.int .i64 m)] (qK q m).1 (qK q m).2
theorem aG6 (q:QueryD) (m:Int):wN q m:=by
 refine aT bF aQ Tryz.func180 (by kernel_rfl) (.call (vB (gC q m)) []<| .br (.fin []) (bH (qJ q m)<| .fin [(0,1100)])) (p:=(q.atoms.map aV).length≤9223372036854775807→aEg q m∧(((!(gC q m))=true→[]=(dN q m).map intD∧True)∧((!(gC q m))=false→wM q m∧(iI q m).map intD=(dN q m).map intD∧True))) (by kernel_rfl) ?_
 intro n0
 simp only [List.length_map] at n0
 refine ⟨aON _ m,fun c0=>?_,fun c0=>?_⟩
 ·replace c0:=nt c0
  refine ⟨?_,trivial⟩
  ·first | (rw [wD c0];rfl) | (rw [rN c0])
 ·replace c0:=nf c0
  refine ⟨aG5 q m (by first | assumption | exact (iQ (q:=q) (m:=m) (by assumption)).1),?_,trivial⟩
  ·first | (rw [wD c0];rfl) | (rw [rN c0])
abbrev tE (q:QueryD) (m:Int):Prop:=cO Tryz.prog 174 [.agg [.int .i64 q.variableCount,.sl 131 2 (q.atoms.map aV)],.one (.int .i64 m)] (vI (m4 (qI q m))) []
theorem aEi (q:QueryD) (m:Int) (hq:bP q=true):tE q m:=by
 refine aT bF aQ Tryz.func174 (by kernel_rfl) (.loop (Nat × Int) (Q2 Nat Int) [5,6,7,8,9,10,11,12,13,14,15,16,17,18,19,20,21,22,23,24,25,26,27,28,29,30,31,32,33,34,35,36,37,38,39,40,41,42,43,44] [] (fun yy0=>[(6,vI (yy0.1:Int)),(5,vI yy0.2)]) (fun yy0=>[]) (fun yy0=>yy0.1≤q.atoms.length∧yy0.2=m4 (sX q m yy0.1)) (fun yy0=>q.atoms.length - yy0.1) (fun yy0=> .len q.atoms.length<| .br (.loop (Nat × Int) (Q2 Nat Int) [5,7,15,16,17,18,19,20,21,22,23,24,25,26,27,28,29,30,31,32,33,34,35,36,37,38,39,40,41,42,43,44] [] (fun yy1=>[(7,vI (yy1.1:Int)),(5,vI yy1.2)]) (fun yy1=>[]) (fun yy1=>yy1.1≤(q.atoms.getD yy0.1 gJ).vars.length∧yy1.2=m4 (aCl q m (q.atoms.getD yy0.1 gJ) yy0.1 yy1.1)) (fun yy1=>(q.atoms.getD yy0.1 gJ).vars.length - yy1.1) (fun yy1=> .elem _ aV q.atoms (fun e19=> .len e19.vars.length<| .br (.lit<| .lit<| .lit<| .lit<| .lit<| .br (.elem _ aV q.atoms (fun e37=> .elem _ intD e37.vars (fun e41=> .back []))) (.back [])) (.back [])))) (.fin []))) (p:=(q.atoms.map aV).length≤9223372036854775807→(∃(i:Nat) (o:Int),(0:Int)=(i:Int)∧(0:Int)=o∧i≤q.atoms.length∧o=m4 (sX q m i))∧ ∀(i:Nat) (o:Int),(i≤q.atoms.length∧o=m4 (sX q m i))→Lm aV q.atoms∧(((decide ((i:Int)<((q.atoms.length:Nat):Int)))=true→(∃(k:Nat) (p:Int),(0:Int)=(k:Int)∧o=p∧k≤(q.atoms.getD i gJ).vars.length∧p=m4 (aCl q m (q.atoms.getD i gJ) i k))∧ ∀(k:Nat) (p:Int),(k≤(q.atoms.getD i gJ).vars.length∧p=m4 (aCl q m (q.atoms.getD i gJ) i k))→0≤(i:Int)∧Em aV q.atoms i fun e19=>Lm intD e19.vars∧(((decide ((k:Int)<((e19.vars.length:Nat):Int)))=true→(0≤(i:Int)∧(i:Int)≤64)∧(((decide ((fL .and .i64 (m/2^i) (1:Int))=(1:Int)))=true→0≤(i:Int)∧Em aV q.atoms i fun e37=>0≤(k:Int)∧Em intD e37.vars k fun e41=>(0≤e41∧e41≤64)∧cL ((1:Int)*2^(Int.toNat e41))∧cL ((k:Int)+(1:Int))∧ ∃(k' :Nat) (p' :Int),((k:Int)+(1:Int))=(k' :Int)∧(fL .or .i64 p ((1:Int)*2^(Int.toNat e41)))=p' ∧(k' ≤(q.atoms.getD i gJ).vars.length∧p' =m4 (aCl q m (q.atoms.getD i gJ) i k'))∧(q.atoms.getD i gJ).vars.length - k' <(q.atoms.getD i gJ).vars.length - k)∧((decide ((fL .and .i64 (m/2^i) (1:Int))=(1:Int)))=false→cL ((i:Int)+(1:Int))∧ ∃(i' :Nat) (o' :Int),((i:Int)+(1:Int))=(i' :Int)∧p=o' ∧(i' ≤q.atoms.length∧o' =m4 (sX q m i'))∧q.atoms.length - i' <q.atoms.length - i)))∧((decide ((k:Int)<((e19.vars.length:Nat):Int)))=false→cL ((i:Int)+(1:Int))∧ ∃(i' :Nat) (o' :Int),((i:Int)+(1:Int))=(i' :Int)∧p=o' ∧(i' ≤q.atoms.length∧o' =m4 (sX q m i'))∧q.atoms.length - i' <q.atoms.length - i)))∧((decide ((i:Int)<((q.atoms.length:Nat):Int)))=false→o=(m4 (qI q m))∧True))) (by kernel_rfl) ?_
 intro n0
 simp only [List.length_map] at n0
 have w:=(dZ hq).1
 have w2:=(dZ hq).2
 refine ⟨⟨0,(0:Int),rfl,rfl,Nat.zero_le _,rfl⟩,fun i o ⟨hi,ho⟩=>?_⟩
 refine ⟨List.length_map _,fun c0=>?_,fun c0=>?_⟩
 ·replace c0:=yq c0
  obtain ⟨a,ha⟩:=cJ (l:=q.atoms) (k:=i) (by omega)
  have w3:=(sW (w2.2 a (List.mem_of_getElem? ha))).2
  have hga:q.atoms.getD i gJ=a:=aP ha
  have hgl:(q.atoms.getD i gJ).vars.length=a.vars.length:=by rw [hga]
  refine ⟨⟨0,o,rfl,rfl,Nat.zero_le _,by rw [ho,aLm]⟩,fun k p ⟨hk,hp⟩=>?_⟩
  rw [hga] at hp
  refine ⟨by omega,rfl,by omega,fun e19 h19=>?_⟩
  obtain rfl:=(bA ha h19).symm
  refine ⟨List.length_map _,fun g24=>?_,fun g24=>?_⟩
  ·replace g24:=yq g24
   refine ⟨⟨by omega,by omega⟩,fun c1=>?_,fun c1=>?_⟩
   ·replace c1:=yq c1
    refine ⟨by omega,rfl,by omega,fun e37 h37=>?_⟩
    obtain rfl:=(bA ha h37).symm
    refine ⟨by omega,rfl,by omega,fun e41 h41=>?_⟩
    have w8:=w3.2 _ (List.mem_of_getElem? h41)
    obtain ⟨w4,w5,w6⟩:=tA (x:=e41) (jV (by omega) (by omega))
    refine ⟨⟨by omega,by omega⟩,by first | exact w4 | exact ⟨by omega,by omega⟩,by first | exact w4 | exact ⟨by omega,by omega⟩,?_⟩
    exact ⟨k+1,_,rfl,rfl,⟨by omega,by rw [hga,hp,aKh (by omega),aLn (mP c1) h41 (by omega)]⟩,by omega⟩
   ·replace c1:=nq c1
    refine ⟨by first | exact w4 | exact ⟨by omega,by omega⟩,?_⟩
    exact ⟨i+1,_,rfl,rfl,⟨by omega,by first | (rw [hp,xZ ha (.inl (pI c1))];done) | (rw [hp,xZ ha (.inr (by omega))];done)⟩,by omega⟩
  ·replace g24:=nq g24
   refine ⟨by first | exact w4 | exact ⟨by omega,by omega⟩,?_⟩
   exact ⟨i+1,_,rfl,rfl,⟨by omega,by first | (rw [hp,xZ ha (.inl (pI c1))];done) | (rw [hp,xZ ha (.inr (by omega))];done)⟩,by omega⟩
 ·replace c0:=nq c0
  refine ⟨?_,trivial⟩
  ·rw [ho,show i=q.atoms.length by omega];rfl
abbrev oA (m:Int):AV × List (Nat × Rs):=(.own 0,[(0,.arr 3 1 true ((dE (dL m) 4).map intD))])
abbrev tF (m:Int):Prop:=cO Tryz.prog 173 [.one (.int .i64 m)] (oA m).1 (oA m).2
theorem aEj (m:Int):tF m:=by
 refine aT bF aQ Tryz.func173 (by kernel_rfl) (.loop (Nat × (List Int)) (Q2 Nat (List Int)) [3,4,5,6,7,8,9,10,11,12,13,14,15,16,17,18] [500,1700,1800] (fun yy0=>[(4,vI (yy0.1:Int)),(3,.own 500)]) (fun yy0=>[(500,some (.arr 3 1 true (yy0.2.map intD)))]) (fun yy0=>yy0.1≤4∧yy0.2=dE (dL m) yy0.1) (fun yy0=>4 - yy0.1) (fun yy0=> .br (.br (.app Int intD yy0.2 ([(yy0.1:Int)]:List Int)<| .back [(500,1800)]) (.back [(500,500)])) (.fin [(0,500)]))) (p:=(∃(i:Nat) (out:List Int),(0:Int)=(i:Int)∧[]=out.map intD∧i≤4∧out=dE (dL m) i)∧ ∀(i:Nat) (out:List Int),(i≤4∧out=dE (dL m) i)→((decide ((i:Int)<(4:Int)))=true→(0≤(i:Int)∧(i:Int)≤64)∧(((decide ((fL .and .i64 (m/2^i) (1:Int))=(1:Int)))=true→out.map intD=out.map intD∧[[.int .i64 (i:Int)]]=([(i:Int)]:List Int).map intD∧(∀x,eI (intD x)=true)∧(out.length+([(i:Int)]:List Int).length)*8≤140737488355328∧cL ((i:Int)+(1:Int))∧ ∃(i' :Nat) (out' :List Int),((i:Int)+(1:Int))=(i' :Int)∧(out++[(i:Int)]).map intD=out'.map intD∧(i' ≤4∧out' =dE (dL m) i')∧4 - i' <4 - i)∧((decide ((fL .and .i64 (m/2^i) (1:Int))=(1:Int)))=false→cL ((i:Int)+(1:Int))∧ ∃(i' :Nat) (out' :List Int),((i:Int)+(1:Int))=(i' :Int)∧out.map intD=out'.map intD∧(i' ≤4∧out' =dE (dL m) i')∧4 - i' <4 - i)))∧((decide ((i:Int)<(4:Int)))=false→out.map intD=(dE (dL m) 4).map intD∧True)) (by kernel_rfl) ?_
 refine ⟨⟨0,([]:List Int),rfl,rfl,by omega,rfl⟩,fun i out ⟨hi,ho⟩=>?_⟩
 refine ⟨fun c0=>?_,fun c0=>?_⟩
 ·replace c0:=yq c0
  refine ⟨⟨by omega,by omega⟩,fun c1=>?_,fun c1=>?_⟩
  ·replace c1:=yq c1
   refine ⟨rfl,rfl,fun _=>rfl,by first | omega | (rw [ho];have:=lJ (dL m) i;simp only [List.length_cons,List.length_nil];omega),?_⟩
   refine ⟨⟨by omega,by omega⟩,?_⟩
   exact ⟨i+1,_,rfl,rfl,⟨by omega,by first | (rw [ho,iH (mP c1)];done) | (rw [ho,gQ (pI c1)];done)⟩,by omega⟩
  ·replace c1:=nq c1
   refine ⟨⟨by omega,by omega⟩,?_⟩
   exact ⟨i+1,_,rfl,rfl,⟨by omega,by first | (rw [ho,iH (mP c1)];done) | (rw [ho,gQ (pI c1)];done)⟩,by omega⟩
 ·replace c0:=nq c0
  refine ⟨?_,trivial⟩
  ·rw [ho,show i=4 by omega]
abbrev qL (q:QueryD) (m:Int):AV × List (Nat × Rs):=(.own 0,[(0,.arr 3 1 true ((dN q m).map intD))])
abbrev wO (q:QueryD) (m:Int):Prop:=cO Tryz.prog 176 [.agg [.int .i64 q.variableCount,.sl 131 2 (q.atoms.map aV)],.one (.int .i64 m)] (qL q m).1 (qL q m).2
theorem aG7 (q:QueryD) (m:Int):wO q m:=by
 refine aT bF aQ Tryz.func176 (by kernel_rfl) (.call (vB (gC q m)) []<| .br (.fin [(0,900)]) (.call (vI (m4 (qI q m))) []<| bH (oA (m4 (qI q m)))<| .fin [(0,1300)])) (p:=(q.atoms.map aV).length≤9223372036854775807→aEh q m∧(((!(gC q m))=true→[]=(dN q m).map intD∧True)∧((!(gC q m))=false→tE q m∧tF (m4 (qI q m))∧(dE (dL (m4 (qI q m))) 4).map intD=(dN q m).map intD∧True))) (by kernel_rfl) ?_
 intro n0
 simp only [List.length_map] at n0
 refine ⟨aOO _ m,fun c0=>?_,fun c0=>?_⟩
 ·replace c0:=nt c0
  refine ⟨?_,trivial⟩
  ·first | (rw [wD c0];rfl) | (rw [rN c0,zT (iQ c0).1])
 ·replace c0:=nf c0
  refine ⟨aEi q m (by first | assumption | exact (iQ (q:=q) (m:=m) (by assumption)).1),aEj (m4 (qI q m)),?_,trivial⟩
  ·first | (rw [wD c0];rfl) | (rw [rN c0,zT (iQ c0).1])
theorem kV {a b:List Int} {k:Nat} {x:Int} (h:a[k]? =some x):kG (a.take (k+1)) b=if x∈b then kG (a.take k) b++[x] else kG (a.take k) b:=by
 rw [kG,cI h,List.filter_append]
 by_cases e:x∈b<;>simp [kG,e]
theorem aOP (a b:List Int):(kG a b).length≤a.length:=List.length_filter_le _ _
theorem aG8 (a b:List Int) (k:Nat):(kG (a.take k) b).length≤a.length:=Nat.le_trans (aOP _ _) (by simp;omega)
theorem aBm (q:QueryD) (m:Int):(dN q m).length≤4:=by
 cases h:gC q m with
 | false=>rw [wD h];exact Nat.zero_le _
 | true=>rw [rN h];exact aG2 q m (iQ h).1
abbrev wP (a:List Int) (b:List Int):AV × List (Nat × Rs):=(.own 0,[(0,.arr 3 1 true ((kG a b).map intD))])
abbrev aC4 (a:List Int) (b:List Int):Prop:=cO Tryz.prog 179 [.one (.sl 3 1 (a.map intD)),.one (.sl 3 1 (b.map intD))] (wP a b).1 (wP a b).2
theorem aME (a b:List Int) (hl:a.length≤1048576):aC4 a b:=by
 refine aT bF aQ Tryz.func179 (by kernel_rfl) (.len a.length<| .loop (Nat × (List Int)) (Q2 Nat (List Int)) [5,7,8,11,12,13,14,15,16,17,18,19,20,21,22] [800,2000,2100] (fun yy0=>[(11,vI (yy0.1:Int)),(5,.own 800)]) (fun yy0=>[(800,some (.arr 3 1 true (yy0.2.map intD)))]) (fun yy0=>yy0.1≤a.length∧yy0.2=kG (a.take yy0.1) b) (fun yy0=>a.length - yy0.1) (fun yy0=> .br (.elem _ intD a (fun e13=> .call (vB (decide (e13∈b))) []<| .br (.app Int intD yy0.2 ([e13]:List Int)<| .back [(800,2100)]) (.back [(800,800)]))) (.fin [(0,800)]))) (p:=(a.map intD).length≤9223372036854775807→(b.map intD).length≤9223372036854775807→Lm intD a∧((∃(k:Nat) (out:List Int),(0:Int)=(k:Int)∧[]=out.map intD∧k≤a.length∧out=kG (a.take k) b)∧ ∀(k:Nat) (out:List Int),(k≤a.length∧out=kG (a.take k) b)→((decide ((k:Int)<((a.length:Nat):Int)))=true→0≤(k:Int)∧Em intD a k fun e13=>aES b e13∧(((decide (e13∈b))=true→out.map intD=out.map intD∧[[.int .i64 e13]]=([e13]:List Int).map intD∧(∀x,eI (intD x)=true)∧(out.length+([e13]:List Int).length)*8≤140737488355328∧cL ((k:Int)+(1:Int))∧ ∃(k' :Nat) (out' :List Int),((k:Int)+(1:Int))=(k' :Int)∧(out++[e13]).map intD=out'.map intD∧(k' ≤a.length∧out' =kG (a.take k') b)∧a.length - k' <a.length - k)∧((decide (e13∈b))=false→cL ((k:Int)+(1:Int))∧ ∃(k' :Nat) (out' :List Int),((k:Int)+(1:Int))=(k' :Int)∧out.map intD=out'.map intD∧(k' ≤a.length∧out' =kG (a.take k') b)∧a.length - k' <a.length - k)))∧((decide ((k:Int)<((a.length:Nat):Int)))=false→out.map intD=(kG a b).map intD∧True))) (by kernel_rfl) ?_
 intro n0 n1
 simp only [List.length_map] at n0 n1
 refine ⟨List.length_map _,⟨0,([]:List Int),rfl,rfl,Nat.zero_le _,rfl⟩,fun k out ⟨hk,ho⟩=>?_⟩
 refine ⟨fun c0=>?_,fun c0=>?_⟩
 ·replace c0:=yq c0
  refine ⟨by omega,rfl,by omega,fun e13 h13=>?_⟩
  refine ⟨ctI _ _,fun c1=>?_,fun c1=>?_⟩
  ·refine ⟨rfl,rfl,fun _=>rfl,by first | omega | (rw [ho];have:=aG8 a b k;simp only [List.length_cons,List.length_nil];omega),?_⟩
   refine ⟨⟨by omega,by omega⟩,?_⟩
   exact ⟨k+1,_,rfl,rfl,⟨by omega,by first | (rw [kV h13,if_pos (of_decide_eq_true c1),ho];done) | (rw [kV h13,if_neg (of_decide_eq_false c1),ho];done)⟩,by omega⟩
  ·refine ⟨⟨by omega,by omega⟩,?_⟩
   exact ⟨k+1,_,rfl,rfl,⟨by omega,by first | (rw [kV h13,if_pos (of_decide_eq_true c1),ho];done) | (rw [kV h13,if_neg (of_decide_eq_false c1),ho];done)⟩,by omega⟩
 ·replace c0:=nq c0
  refine ⟨?_,trivial⟩
  ·rw [ho,List.take_of_length_le (by omega)]
abbrev zY (q:QueryD) (a:Int) (b:Int):AV × List (Nat × Rs):=(.own 0,[(0,.arr 3 1 true ((cD q a b).map intD))])
abbrev aEk (q:QueryD) (a:Int) (b:Int):Prop:=cO Tryz.prog 109 [.agg [.int .i64 q.variableCount,.sl 131 2 (q.atoms.map aV)],.one (.int .i64 a),.one (.int .i64 b)] (zY q a b).1 (zY q a b).2
theorem aOQ (q:QueryD) (a b:Int):aEk q a b:=by
 refine aT bF aQ Tryz.func109 (by kernel_rfl) (bH (qK q a)<| bH (qK q b)<| bH (wP (dN q a) (dN q b))<| .fin [(0,1300)]) (p:=(q.atoms.map aV).length≤9223372036854775807→wN q a∧wN q b∧aC4 (dN q a) (dN q b)∧(kG (dN q a) (dN q b)).map intD=(cD q a b).map intD∧True) (by kernel_rfl) ?_
 intro n0
 simp only [List.length_map] at n0
 have w1:=aBm q a
 refine ⟨aG6 _ a,aG6 _ b,aME (dN q a) _ (by first | omega | (have:=aBm;simp only [*];omega)),?_,trivial⟩
 ·rfl
abbrev zZ (q:QueryD) (a:Int) (b:Int):AV × List (Nat × Rs):=(.own 0,[(0,.arr 3 1 true ((cD q a b).map intD))])
abbrev aEl (q:QueryD) (a:Int) (b:Int):Prop:=cO Tryz.prog 106 [.agg [.int .i64 q.variableCount,.sl 131 2 (q.atoms.map aV)],.one (.int .i64 a),.one (.int .i64 b)] (zZ q a b).1 (zZ q a b).2
theorem aOR (q:QueryD) (a b:Int):aEl q a b:=by
 refine aT bF aQ Tryz.func106 (by kernel_rfl) (bH (qL q a)<| bH (qL q b)<| .loop (Nat × (List Int)) (Q2 Nat (List Int)) [7,10,11,18,19,20,21,22,23,24,25,26,27,28,29,30,31,32,33,34,35,36] [1100,3500,3600] (fun yy0=>[(10,vI (yy0.1:Int)),(7,.own 1100)]) (fun yy0=>[(1100,some (.arr 3 1 true (yy0.2.map intD)))]) (fun yy0=>yy0.1≤(dN q a).length∧yy0.2=kG ((dN q a).take yy0.1) (dN q b)) (fun yy0=>(dN q a).length - yy0.1) (fun yy0=> .len ((dN q a).length)<| .br (.len ((dN q a).length)<| .elem _ intD (dN q a) (fun e28=> .call (vB (decide (e28∈(dN q b)))) []<| .br (.len ((dN q a).length)<| .elem _ intD (dN q a) (fun e34=> .app Int intD yy0.2 ([e34]:List Int)<| .back [(1100,3600)])) (.back [(1100,1100)]))) (.fin [(0,1100)]))) (p:=(q.atoms.map aV).length≤9223372036854775807→wO q a∧(wO q b∧((∃(k:Nat) (out:List Int),(0:Int)=(k:Int)∧[]=out.map intD∧k≤(dN q a).length∧out=kG ((dN q a).take k) (dN q b))∧ ∀(k:Nat) (out:List Int),(k≤(dN q a).length∧out=kG ((dN q a).take k) (dN q b))→Lm intD (dN q a)∧(((decide ((k:Int)<(((dN q a).length:Nat):Int)))=true→0≤(k:Int)∧Lm intD (dN q a)∧(k:Int)<(((dN q a).length:Nat):Int)∧Em intD (dN q a) k fun e28=>aIb (dN q b) e28∧(((decide (e28∈(dN q b)))=true→0≤(k:Int)∧Lm intD (dN q a)∧(k:Int)<(((dN q a).length:Nat):Int)∧Em intD (dN q a) k fun e34=>out.map intD=out.map intD∧[[.int .i64 e34]]=([e34]:List Int).map intD∧(∀x,eI (intD x)=true)∧(out.length+([e34]:List Int).length)*8≤140737488355328∧cL ((k:Int)+(1:Int))∧ ∃(k' :Nat) (out' :List Int),((k:Int)+(1:Int))=(k' :Int)∧(out++[e34]).map intD=out'.map intD∧(k' ≤(dN q a).length∧out' =kG ((dN q a).take k') (dN q b))∧(dN q a).length - k' <(dN q a).length - k)∧((decide (e28∈(dN q b)))=false→cL ((k:Int)+(1:Int))∧ ∃(k' :Nat) (out' :List Int),((k:Int)+(1:Int))=(k' :Int)∧out.map intD=out'.map intD∧(k' ≤(dN q a).length∧out' =kG ((dN q a).take k') (dN q b))∧(dN q a).length - k' <(dN q a).length - k)))∧((decide ((k:Int)<(((dN q a).length:Nat):Int)))=false→out.map intD=(cD q a b).map intD∧True))))) (by kernel_rfl) ?_
 intro n0
 simp only [List.length_map] at n0
 have w1:=aBm q a
 refine ⟨aG7 _ a,aG7 _ b,⟨0,([]:List Int),rfl,rfl,Nat.zero_le _,rfl⟩,fun k out ⟨hk,ho⟩=>?_⟩
 refine ⟨List.length_map _,fun c0=>?_,fun c0=>?_⟩
 ·replace c0:=yq c0
  refine ⟨by omega,List.length_map _,by omega,rfl,by omega,fun e28 h28=>?_⟩
  refine ⟨hsI _ _,fun c1=>?_,fun c1=>?_⟩
  ·refine ⟨by omega,List.length_map _,by omega,rfl,by omega,fun e34 h34=>?_⟩
   obtain rfl:=(bA h28 h34).symm
   refine ⟨rfl,rfl,fun _=>rfl,by first | omega | (rw [ho];have:=aG8 (dN q a) (dN q b) k;simp only [List.length_cons,List.length_nil];omega),?_⟩
   refine ⟨⟨by omega,by omega⟩,?_⟩
   exact ⟨k+1,_,rfl,rfl,⟨by omega,by first | (rw [kV h28,if_pos (of_decide_eq_true c1),ho];done) | (rw [kV h28,if_neg (of_decide_eq_false c1),ho];done)⟩,by omega⟩
  ·refine ⟨⟨by omega,by omega⟩,?_⟩
   exact ⟨k+1,_,rfl,rfl,⟨by omega,by first | (rw [kV h28,if_pos (of_decide_eq_true c1),ho];done) | (rw [kV h28,if_neg (of_decide_eq_false c1),ho];done)⟩,by omega⟩
 ·replace c0:=nq c0
  refine ⟨?_,trivial⟩
  ·rw [cD,ho,List.take_of_length_le (by omega)]
abbrev nM (a:dF) (l:List Int):AV × List (Nat × Rs):=(.own 0,[(0,.arr 3 1 true ((bO a l).map intD))])
abbrev qM (a:dF) (l:List Int):Prop:=cO Tryz.prog 111 [.agg [.str a.name,.sl 3 1 (a.vars.map intD)],.one (.sl 3 1 (l.map intD))] (nM a l).1 (nM a l).2
theorem aBn (a:dF) (l:List Int) (hl:a.vars.length≤1048576):qM a l:=by
 refine aT bF aQ Tryz.func111 (by kernel_rfl) (.len a.vars.length<| .loop (Nat × (List Int)) (Q2 Nat (List Int)) [5,6,7,8,12,13,14,15,16,17,18,19,20,21,22,23,24] [800,2200,2300] (fun yy0=>[(12,vI (yy0.1:Int)),(5,.own 800)]) (fun yy0=>[(800,some (.arr 3 1 true (yy0.2.map intD)))]) (fun yy0=>yy0.1≤a.vars.length∧yy0.2=dE (fun i=>decide (a.vars.getD i 0∈l)) yy0.1) (fun yy0=>a.vars.length - yy0.1) (fun yy0=> .br (.elem _ intD a.vars (fun e15=> .call (vB (decide (e15∈l))) []<| .br (.app Int intD yy0.2 ([(yy0.1:Int)]:List Int)<| .back [(800,2300)]) (.back [(800,800)]))) (.fin [(0,800)]))) (p:=(a.vars.map intD).length≤9223372036854775807→(l.map intD).length≤9223372036854775807→Lm intD a.vars∧((∃(k:Nat) (out:List Int),(0:Int)=(k:Int)∧[]=out.map intD∧k≤a.vars.length∧out=dE (fun i=>decide (a.vars.getD i 0∈l)) k)∧ ∀(k:Nat) (out:List Int),(k≤a.vars.length∧out=dE (fun i=>decide (a.vars.getD i 0∈l)) k)→((decide ((k:Int)<((a.vars.length:Nat):Int)))=true→0≤(k:Int)∧Em intD a.vars k fun e15=>aES l e15∧(((decide (e15∈l))=true→out.map intD=out.map intD∧[[.int .i64 (k:Int)]]=([(k:Int)]:List Int).map intD∧(∀x,eI (intD x)=true)∧(out.length+([(k:Int)]:List Int).length)*8≤140737488355328∧cL ((k:Int)+(1:Int))∧ ∃(k' :Nat) (out' :List Int),((k:Int)+(1:Int))=(k' :Int)∧(out++[(k:Int)]).map intD=out'.map intD∧(k' ≤a.vars.length∧out' =dE (fun i=>decide (a.vars.getD i 0∈l)) k')∧a.vars.length - k' <a.vars.length - k)∧((decide (e15∈l))=false→cL ((k:Int)+(1:Int))∧ ∃(k' :Nat) (out' :List Int),((k:Int)+(1:Int))=(k' :Int)∧out.map intD=out'.map intD∧(k' ≤a.vars.length∧out' =dE (fun i=>decide (a.vars.getD i 0∈l)) k')∧a.vars.length - k' <a.vars.length - k)))∧((decide ((k:Int)<((a.vars.length:Nat):Int)))=false→out.map intD=(bO a l).map intD∧True))) (by kernel_rfl) ?_
 intro n0 n1
 simp only [List.length_map] at n0 n1
 refine ⟨List.length_map _,⟨0,([]:List Int),rfl,rfl,Nat.zero_le _,rfl⟩,fun k out ⟨hk,ho⟩=>?_⟩
 refine ⟨fun c0=>?_,fun c0=>?_⟩
 ·replace c0:=yq c0
  refine ⟨by omega,rfl,by omega,fun e15 h15=>?_⟩
  refine ⟨ctI _ _,fun c1=>?_,fun c1=>?_⟩
  ·refine ⟨rfl,rfl,fun _=>rfl,by first | omega | (rw [ho];have:=lJ (fun i=>decide (a.vars.getD i 0∈l)) k;simp only [List.length_cons,List.length_nil];omega),?_⟩
   refine ⟨⟨by omega,by omega⟩,?_⟩
   exact ⟨k+1,_,rfl,rfl,⟨by omega,by first | (rw [ho,iH (by rw [aP h15];exact c1)];done) | (rw [ho,gQ (by rw [aP h15];exact c1)];done)⟩,by omega⟩
  ·refine ⟨⟨by omega,by omega⟩,?_⟩
   exact ⟨k+1,_,rfl,rfl,⟨by omega,by first | (rw [ho,iH (by rw [aP h15];exact c1)];done) | (rw [ho,gQ (by rw [aP h15];exact c1)];done)⟩,by omega⟩
 ·replace c0:=nq c0
  refine ⟨?_,trivial⟩
  ·rw [bO,ho,show a.vars.length=k by omega]
abbrev nN (a:dF) (l:List Int):AV × List (Nat × Rs):=(.own 0,[(0,.arr 3 1 true ((bO a l).map intD))])
abbrev qN (a:dF) (l:List Int):Prop:=cO Tryz.prog 101 [.agg [.str a.name,.sl 3 1 (a.vars.map intD)],.one (.sl 3 1 (l.map intD))] (nN a l).1 (nN a l).2
theorem aBo (a:dF) (l:List Int) (hl:a.vars.length≤1048576):qN a l:=by
 refine aT bF aQ Tryz.func101 (by kernel_rfl) (.loop (Nat × (List Int)) (Q2 Nat (List Int)) [5,6,7,8,9,10,11,12,13,14,15,16,17,18,19,20,21,22,23,24,25] [700,2400,2500] (fun yy0=>[(6,vI (yy0.1:Int)),(5,.own 700)]) (fun yy0=>[(700,some (.arr 3 1 true (yy0.2.map intD)))]) (fun yy0=>yy0.1≤a.vars.length∧yy0.2=dE (fun i=>decide (a.vars.getD i 0∈l)) yy0.1) (fun yy0=>a.vars.length - yy0.1) (fun yy0=> .len a.vars.length<| .br (.elem _ intD a.vars (fun e19=> .call (vB (decide (e19∈l))) []<| .br (.app Int intD yy0.2 ([(yy0.1:Int)]:List Int)<| .back [(700,2500)]) (.back [(700,700)]))) (.fin [(0,700)]))) (p:=(a.vars.map intD).length≤9223372036854775807→(l.map intD).length≤9223372036854775807→(∃(k:Nat) (out:List Int),(0:Int)=(k:Int)∧[]=out.map intD∧k≤a.vars.length∧out=dE (fun i=>decide (a.vars.getD i 0∈l)) k)∧ ∀(k:Nat) (out:List Int),(k≤a.vars.length∧out=dE (fun i=>decide (a.vars.getD i 0∈l)) k)→Lm intD a.vars∧(((decide ((k:Int)<((a.vars.length:Nat):Int)))=true→0≤(k:Int)∧Em intD a.vars k fun e19=>aIb l e19∧(((decide (e19∈l))=true→out.map intD=out.map intD∧[[.int .i64 (k:Int)]]=([(k:Int)]:List Int).map intD∧(∀x,eI (intD x)=true)∧(out.length+([(k:Int)]:List Int).length)*8≤140737488355328∧cL ((k:Int)+(1:Int))∧ ∃(k' :Nat) (out' :List Int),((k:Int)+(1:Int))=(k' :Int)∧(out++[(k:Int)]).map intD=out'.map intD∧(k' ≤a.vars.length∧out' =dE (fun i=>decide (a.vars.getD i 0∈l)) k')∧a.vars.length - k' <a.vars.length - k)∧((decide (e19∈l))=false→cL ((k:Int)+(1:Int))∧ ∃(k' :Nat) (out' :List Int),((k:Int)+(1:Int))=(k' :Int)∧out.map intD=out'.map intD∧(k' ≤a.vars.length∧out' =dE (fun i=>decide (a.vars.getD i 0∈l)) k')∧a.vars.length - k' <a.vars.length - k)))∧((decide ((k:Int)<((a.vars.length:Nat):Int)))=false→out.map intD=(bO a l).map intD∧True))) (by kernel_rfl) ?_
 intro n0 n1
 simp only [List.length_map] at n0 n1
 refine ⟨⟨0,([]:List Int),rfl,rfl,Nat.zero_le _,rfl⟩,fun k out ⟨hk,ho⟩=>?_⟩
 refine ⟨List.length_map _,fun c0=>?_,fun c0=>?_⟩
 ·replace c0:=yq c0
  refine ⟨by omega,rfl,by omega,fun e19 h19=>?_⟩
  refine ⟨hsI _ _,fun c1=>?_,fun c1=>?_⟩
  ·refine ⟨rfl,rfl,fun _=>rfl,by first | omega | (rw [ho];have:=lJ (fun i=>decide (a.vars.getD i 0∈l)) k;simp only [List.length_cons,List.length_nil];omega),?_⟩
   refine ⟨⟨by omega,by omega⟩,?_⟩
   exact ⟨k+1,_,rfl,rfl,⟨by omega,by first | (rw [ho,iH (by rw [aP h19];exact c1)];done) | (rw [ho,gQ (by rw [aP h19];exact c1)];done)⟩,by omega⟩
  ·refine ⟨⟨by omega,by omega⟩,?_⟩
   exact ⟨k+1,_,rfl,rfl,⟨by omega,by first | (rw [ho,iH (by rw [aP h19];exact c1)];done) | (rw [ho,gQ (by rw [aP h19];exact c1)];done)⟩,by omega⟩
 ·replace c0:=nq c0
  refine ⟨?_,trivial⟩
  ·rw [bO,ho,show a.vars.length=k by omega]
end Go.Proofs.YtokkjaflmcjlhaaGreat
