/-
  Contracts and plain laws, joined: part 14.
-/
import Derived.Test.YtokkjaflmcjlhaaGreatQC8
import Derived.Test.YtokkjaflmcjlhaaGreatQC7
import Derived.Test.YtokkjaflmcjlhaaGreatQC10
import Derived.Test.YtokkjaflmcjlhaaGreatQC12
import Derived.Test.YtokkjaflmcjlhaaGreatQC11
import Derived.Test.YtokkjaflmcjlhaaGreatQC9
namespace Go.Proofs.YtokkjaflmcjlhaaGreat
open Go.ChangeShapes Go.WideShapes Go.ChangeAt Go.RowKit
set_option linter.unusedVariables false
set_option linter.unusedSimpArgs false
set_option maxRecDepth 100000
set_option maxHeartbeats 4000000
abbrev aA1 (x:aB):AV × List (Nat × Rs):=(.agg [.p none (.str x.name),vI x.arity,vI x.rowCount,.own 0],[(0,.arr 218 3 true (x.groups.map aA))])
abbrev aFM (x:aB):Prop:=dG Tryz.prog 206 [.agg [.str x.name,.int .i64 x.arity,.int .i64 x.rowCount,.sl 218 3 (x.groups.map aA)]] (aA1 x).1 (aA1 x).2
theorem aOa (x:aB) (hc:aW x≤1048576):aFM x:=by
 refine aY bK aU Tryz.func206 (by kernel_rfl) (.loop (Nat × (List aG)) (Q2 Nat (List aG)) [4,5,6,14,15,16,17,18,19,20,21,22,23,24,25,26,27,28,29,30,31,32,33,34,35,36,37,38,39,40,41,42,43,44,45,46,47,48,49,50,51,52,53,54,55,56,57,58,59,60,61,62,63,64,65,66,67,68,69,70] [300,500,2100,2800,2900,3600,5100,6100,6200,6300,6800,6900,9000,9001] (fun yy0=>[(4,vI (yy0.1:Int))]) (fun yy0=>[(300,some (.box 121 [.p none (.str x.name),vI x.arity,vI x.rowCount,.own 9000])),(9000,some (.arr 218 3 true (yy0.2.map aA)))]) (fun yy0=>yy0.1≤x.groups.length∧yy0.2=x.groups.take yy0.1) (fun yy0=>x.groups.length - yy0.1) (fun yy0=> .len x.groups.length<| .br (.elem _ aA x.groups (fun e25=> .app Int intD ([]:List Int) e25.columns<| .elem _ aA x.groups (fun e33=> .app Int intD ([]:List Int) e33.counts<| .loop (Nat × (List (List Int))) (Q2 Nat (List (List Int))) [6,38,39,40,41,42,43,44,45,46,47,48,49,50,51,52,53,54,55,56,57,58,59,60,61,62,63,64] [500,5100,6100,6200,6300,9001] (fun yy1=>[(6,vI (yy1.1:Int))]) (fun yy1=>[(500,some (.box 218 [.own 2800,.own 9001,.own 3600])),(9001,some (.arr 32 1 true (yy1.2.map aE)))]) (fun yy1=>yy1.1≤e25.values.length∧yy1.2=e25.values.take yy1.1) (fun yy1=>e25.values.length - yy1.1) (fun yy1=> .elem _ aA x.groups (fun e42=> .len e42.values.length<| .br (.elem _ aA x.groups (fun e55=> .elem _ aE e55.values (fun e59=> .app Int intD ([]:List Int) e59<| .appx (List Int) aE yy1.2 (([]:List Int)++e59)<| .back [(500,500),(9001,6300)]))) (.appx aG aA yy0.2 (⟨([]:List Int)++e25.columns,yy1.2,([]:List Int)++e33.counts⟩:aG)<| .back [(300,300),(9000,6900)])))))) (.fin [(0,9000)]))) (p:=(x.groups.map aA).length≤9223372036854775807→(∃(k:Nat) (out:List aG),(0:Int)=(k:Int)∧x.name=x.name∧x.arity=x.arity∧x.rowCount=x.rowCount∧[]=out.map aA∧k≤x.groups.length∧out=x.groups.take k)∧ ∀(k:Nat) (out:List aG),(k≤x.groups.length∧out=x.groups.take k)→Lm aA x.groups∧(((decide ((k:Int)<((x.groups.length:Nat):Int)))=true→0≤(k:Int)∧Em aA x.groups k fun e25=>[]=([]:List Int).map intD∧e25.columns.map intD=e25.columns.map intD∧(∀x,eC (intD x)=true)∧(([]:List Int).length+e25.columns.length)*8≤140737488355328∧(0≤(k:Int)∧Em aA x.groups k fun e33=>[]=([]:List Int).map intD∧e33.counts.map intD=e33.counts.map intD∧(∀x,eC (intD x)=true)∧(([]:List Int).length+e33.counts.length)*8≤140737488355328∧((∃(i:Nat) (v:List (List Int)),(0:Int)=(i:Int)∧[]=v.map aE∧i≤e25.values.length∧v=e25.values.take i)∧ ∀(i:Nat) (v:List (List Int)),(i≤e25.values.length∧v=e25.values.take i)→0≤(k:Int)∧Em aA x.groups k fun e42=>Lm aE e42.values∧(((decide ((i:Int)<((e42.values.length:Nat):Int)))=true→0≤(k:Int)∧Em aA x.groups k fun e55=>0≤(i:Int)∧Em aE e55.values i fun e59=>[]=([]:List Int).map intD∧e59.map intD=e59.map intD∧(∀x,eC (intD x)=true)∧(([]:List Int).length+e59.length)*8≤140737488355328∧v.map aE=v.map aE∧(([]:List Int)++e59).map intD=(([]:List Int)++e59).map intD∧(v.length+1)*24≤140737488355328∧dB ((i:Int)+(1:Int))∧ ∃(i' :Nat) (v' :List (List Int)),((i:Int)+(1:Int))=(i' :Int)∧(v++[([]:List Int)++e59]).map aE=v'.map aE∧(i' ≤e25.values.length∧v' =e25.values.take i')∧e25.values.length - i' <e25.values.length - i)∧((decide ((i:Int)<((e42.values.length:Nat):Int)))=false→out.map aA=out.map aA∧(([]:List Int)++e25.columns).map intD=((⟨([]:List Int)++e25.columns,v,([]:List Int)++e33.counts⟩:aG).columns).map intD∧v.map aE=((⟨([]:List Int)++e25.columns,v,([]:List Int)++e33.counts⟩:aG).values).map aE∧(([]:List Int)++e33.counts).map intD=((⟨([]:List Int)++e25.columns,v,([]:List Int)++e33.counts⟩:aG).counts).map intD∧(out.length+1)*72≤140737488355328∧dB ((k:Int)+(1:Int))∧ ∃(k' :Nat) (out' :List aG),((k:Int)+(1:Int))=(k' :Int)∧x.name=x.name∧x.arity=x.arity∧x.rowCount=x.rowCount∧(out++[(⟨([]:List Int)++e25.columns,v,([]:List Int)++e33.counts⟩:aG)]).map aA=out'.map aA∧(k' ≤x.groups.length∧out' =x.groups.take k')∧x.groups.length - k' <x.groups.length - k)))))∧((decide ((k:Int)<((x.groups.length:Nat):Int)))=false→x.name=x.name∧x.arity=x.arity∧x.rowCount=x.rowCount∧out.map aA=x.groups.map aA∧True))) (by kernel_rfl) ?_
 intro n0
 simp only [List.length_map] at n0
 have q2:aW x=x.name.size+cQ x.groups:=rfl
 have q5:=fU x.groups
 refine ⟨⟨0,([]:List aG),rfl,rfl,rfl,rfl,rfl,Nat.zero_le _,rfl⟩,fun k out ⟨hk,ho⟩=>?_⟩
 refine ⟨List.length_map _,fun c0=>?_,fun c0=>?_⟩
 ·replace c0:=yq c0
  refine ⟨by omega,rfl,by omega,fun e25 h25=>?_⟩
  try (obtain rfl:=(bA h25 h25).symm)
  have q1:=gE h25
  have q3:bH e25=bX e25.columns+cM e25.values+bX e25.counts:=rfl
  have q6:bX e25.columns=e25.columns.length:=rfl
  have q7:bX e25.counts=e25.counts.length:=rfl
  have q8:=fL e25.values
  refine ⟨rfl,rfl,fun _=>rfl,by first | omega | (simp;omega) | (simp [ho];omega) | (simp [hv];omega),?_⟩
  refine ⟨by omega,rfl,by omega,fun e33 h33=>?_⟩
  try (obtain rfl:=(bA h25 h33).symm)
  refine ⟨rfl,rfl,fun _=>rfl,by first | omega | (simp;omega) | (simp [ho];omega) | (simp [hv];omega),?_⟩
  refine ⟨⟨0,([]:List (List Int)),rfl,rfl,Nat.zero_le _,rfl⟩,fun i v ⟨hi,hv⟩=>?_⟩
  refine ⟨by omega,rfl,by omega,fun e42 h42=>?_⟩
  try (obtain rfl:=(bA h25 h42).symm)
  refine ⟨List.length_map _,fun c1=>?_,fun c1=>?_⟩
  ·replace c1:=yq c1
   refine ⟨by omega,rfl,by omega,fun e55 h55=>?_⟩
   try (obtain rfl:=(bA h25 h55).symm)
   refine ⟨by omega,rfl,by omega,fun e59 h59=>?_⟩
   have hp3:=yR h59
   refine ⟨rfl,rfl,fun _=>rfl,by first | omega | (simp;omega) | (simp [ho];omega) | (simp [hv];omega),?_⟩
   refine ⟨rfl,rfl,by first | omega | (simp;omega) | (simp [ho];omega) | (simp [hv];omega),⟨by omega,by omega⟩,?_⟩
   exact ⟨i+1,_,rfl,rfl,⟨by omega,by rw [hv,cA h59];rfl⟩,by omega⟩
  ·replace c1:=nq c1
   have hvv:v=e25.values:=by rw [hv,List.take_of_length_le (by omega)]
   refine ⟨rfl,rfl,rfl,rfl,by first | omega | (simp;omega) | (simp [ho];omega) | (simp [hv];omega),⟨by omega,by omega⟩,?_⟩
   exact ⟨k+1,_,rfl,rfl,rfl,rfl,rfl,⟨by omega,by rw [ho,cA h25,hvv];rfl⟩,by omega⟩
 ·replace c0:=nq c0
  refine ⟨rfl,rfl,rfl,?_,trivial⟩
  ·first | rfl | (rw [ho,List.take_of_length_le (by omega)])
def oO (n:ByteArray) (x:aB):Bool:=(x.name.toList==n.toList)&&bP x
def cT (c:bS) (n:ByteArray):aB × Bool:=match c.tables.find? (oO n) with | some x=>(x,true) | none=>(dN,false)
theorem eG {c:bS} {n:ByteArray} {x:aB} (h:c.tables.find? (oO n)=some x):cT c n=(x,true):=by rw [cT,h]
theorem fB {c:bS} {n:ByteArray} (h:c.tables.find? (oO n)=none):cT c n=(dN,false):=by rw [cT,h]
theorem aJZ (c:bS) (n:ByteArray):aW (cT c n).1≤bM c:=by
 have hS:bM c=cX c.tables:=rfl
 cases h:c.tables.find? (oO n) with
 | none=>rw [fB h];exact Nat.zero_le _
 | some x=>
   rw [eG h,hS]
   obtain ⟨i,hi⟩:=List.getElem?_of_mem (List.mem_of_find?_eq_some h)
   exact jN hi
abbrev aCw (c:bS) (n:ByteArray):AV × List (Nat × Rs):=(.tup [.agg [.p none (.str (((cT c n).1).name)),vI (((cT c n).1).arity),vI (((cT c n).1).rowCount),.own 0],vB ((cT c n).2)],[(0,.arr 218 3 true ((((cT c n).1).groups).map aA))])
abbrev aJ0 (c:bS) (n:ByteArray):Prop:=dG Tryz.prog 122 [.agg [.int .i64 c.version,.sl 121 4 (c.tables.map aC)],.one (.str n)] (aCw c n).1 (aCw c n).2
theorem aM4 (c:bS) (n:ByteArray) (hc:bM c≤1048576):aJ0 c n:=by
 refine aY bK aU Tryz.func122 (by kernel_rfl) (.len c.tables.length<| .loop Nat (Q1 Nat) [7,11,12,13,14,15,16,17,18,19,20,21,22,25] [700] (fun k=>[(11,vI (k:Int))]) (fun k=>[]) (fun k=>k≤c.tables.length∧(c.tables.take k).all (fun y=> !oO n y)=true) (fun k=>c.tables.length - k) (fun k=> .br (.elem _ aC c.tables (fun e13=> .br (.call (vB (bP e13)) []<| .lit<| .br (cI (aAO e13)<| .fin [(0,2400)]) (.back [])) (.back []))) (.fin []))) (p:=(c.tables.map aC).length≤9223372036854775807→Lm aC c.tables∧((∃(k:Nat),(0:Int)=(k:Int)∧k≤c.tables.length∧(c.tables.take k).all (fun y=> !oO n y)=true)∧ ∀(k:Nat),(k≤c.tables.length∧(c.tables.take k).all (fun y=> !oO n y)=true)→((decide ((k:Int)<((c.tables.length:Nat):Int)))=true→0≤(k:Int)∧Em aC c.tables k fun e13=>((e13.name.toList==n.toList)=true→aAP e13∧(((bP e13)=true→aEc e13∧e13.name=(((cT c n).1).name)∧e13.arity=(((cT c n).1).arity)∧e13.rowCount=(((cT c n).1).rowCount)∧(true)=((cT c n).2)∧e13.groups.map aA=(((cT c n).1).groups).map aA∧True)∧((bP e13)=false→dB ((k:Int)+(1:Int))∧ ∃(k' :Nat),((k:Int)+(1:Int))=(k' :Int)∧(k' ≤c.tables.length∧(c.tables.take k').all (fun y=> !oO n y)=true)∧c.tables.length - k' <c.tables.length - k)))∧((e13.name.toList==n.toList)=false→dB ((k:Int)+(1:Int))∧ ∃(k' :Nat),((k:Int)+(1:Int))=(k' :Int)∧(k' ≤c.tables.length∧(c.tables.take k').all (fun y=> !oO n y)=true)∧c.tables.length - k' <c.tables.length - k))∧((decide ((k:Int)<((c.tables.length:Nat):Int)))=false→ByteArray.empty=(((cT c n).1).name)∧(0:Int)=(((cT c n).1).arity)∧(0:Int)=(((cT c n).1).rowCount)∧(false)=((cT c n).2)∧[]=(((cT c n).1).groups).map aA∧True))) (by kernel_rfl) ?_
 intro n0
 simp only [List.length_map] at n0
 have hS:bM c=cX c.tables:=rfl
 refine ⟨List.length_map _,⟨0,rfl,Nat.zero_le _,rfl⟩,fun k ⟨hk,ha⟩=>?_⟩
 refine ⟨fun c0=>?_,fun c0=>?_⟩
 ·replace c0:=yq c0
  refine ⟨by omega,rfl,by omega,fun e13 h13=>?_⟩
  try (obtain rfl:=(bA h13 h13).symm)
  have q1:=jN h13
  refine ⟨fun g19=>?_,fun g19=>?_⟩
  ·refine ⟨aJF _ (by omega),fun c1=>?_,fun c1=>?_⟩
   ·have hf:=aHo (p:=oO n) h13 ha (by simp [oO,g19,c1])
    refine ⟨aOK _ (by omega),?_,?_,?_,?_,?_,trivial⟩
    ·first | (rw [eG hf]<;>rfl) | (rw [fB hall]<;>rfl)
    ·first | (rw [eG hf]<;>rfl) | (rw [fB hall]<;>rfl)
    ·first | (rw [eG hf]<;>rfl) | (rw [fB hall]<;>rfl)
    ·first | (rw [eG hf]<;>rfl) | (rw [fB hall]<;>rfl)
    ·first | (rw [eG hf]<;>rfl) | (rw [fB hall]<;>rfl)
   ·refine ⟨⟨by omega,by omega⟩,?_⟩
    exact ⟨k+1,rfl,⟨by omega,dQ h13 ha (by first | (simp [oO,g19,c1];done) | (simp [oO,g19];done))⟩,by omega⟩
  ·refine ⟨⟨by omega,by omega⟩,?_⟩
   exact ⟨k+1,rfl,⟨by omega,dQ h13 ha (by first | (simp [oO,g19,c1];done) | (simp [oO,g19];done))⟩,by omega⟩
 ·replace c0:=nq c0
  have hall:=aD6 (bU (by omega) ha)
  refine ⟨?_,?_,?_,?_,?_,trivial⟩
  ·first | (rw [eG hf]<;>rfl) | (rw [fB hall]<;>rfl)
  ·first | (rw [eG hf]<;>rfl) | (rw [fB hall]<;>rfl)
  ·first | (rw [eG hf]<;>rfl) | (rw [fB hall]<;>rfl)
  ·first | (rw [eG hf]<;>rfl) | (rw [fB hall]<;>rfl)
  ·first | (rw [eG hf]<;>rfl) | (rw [fB hall]<;>rfl)
abbrev aCx (c:bS) (n:ByteArray):AV × List (Nat × Rs):=(.tup [.agg [.p none (.str (((cT c n).1).name)),vI (((cT c n).1).arity),vI (((cT c n).1).rowCount),.own 0],vB ((cT c n).2)],[(0,.arr 218 3 true ((((cT c n).1).groups).map aA))])
abbrev aJ1 (c:bS) (n:ByteArray):Prop:=dG Tryz.prog 166 [.agg [.int .i64 c.version,.sl 121 4 (c.tables.map aC)],.one (.str n)] (aCx c n).1 (aCx c n).2
theorem aM5 (c:bS) (n:ByteArray) (hc:bM c≤1048576):aJ1 c n:=by
 refine aY bK aU Tryz.func166 (by kernel_rfl) (.loop Nat (Q1 Nat) [6,7,8,9,10,11,12,13,14,15,16,17,18,19,20,21,22,23,24,25,26,27,28,29] [] (fun k=>[(6,vI (k:Int))]) (fun k=>[]) (fun k=>k≤c.tables.length∧(c.tables.take k).all (fun y=> !oO n y)=true) (fun k=>c.tables.length - k) (fun k=> .len c.tables.length<| .br (.elem _ aC c.tables (fun e17=> .br (.elem _ aC c.tables (fun e26=> .call (vB (bP e26)) []<| .lit<| .br (.elem _ aC c.tables (fun e33=>cI (aA1 e33)<| .fin [(0,3500)])) (.back []))) (.back []))) (.fin []))) (p:=(c.tables.map aC).length≤9223372036854775807→(∃(k:Nat),(0:Int)=(k:Int)∧k≤c.tables.length∧(c.tables.take k).all (fun y=> !oO n y)=true)∧ ∀(k:Nat),(k≤c.tables.length∧(c.tables.take k).all (fun y=> !oO n y)=true)→Lm aC c.tables∧(((decide ((k:Int)<((c.tables.length:Nat):Int)))=true→0≤(k:Int)∧Em aC c.tables k fun e17=>((e17.name.toList==n.toList)=true→0≤(k:Int)∧Em aC c.tables k fun e26=>uG e26∧(((bP e26)=true→0≤(k:Int)∧Em aC c.tables k fun e33=>aFM e33∧e33.name=(((cT c n).1).name)∧e33.arity=(((cT c n).1).arity)∧e33.rowCount=(((cT c n).1).rowCount)∧(true)=((cT c n).2)∧e33.groups.map aA=(((cT c n).1).groups).map aA∧True)∧((bP e26)=false→dB ((k:Int)+(1:Int))∧ ∃(k' :Nat),((k:Int)+(1:Int))=(k' :Int)∧(k' ≤c.tables.length∧(c.tables.take k').all (fun y=> !oO n y)=true)∧c.tables.length - k' <c.tables.length - k)))∧((e17.name.toList==n.toList)=false→dB ((k:Int)+(1:Int))∧ ∃(k' :Nat),((k:Int)+(1:Int))=(k' :Int)∧(k' ≤c.tables.length∧(c.tables.take k').all (fun y=> !oO n y)=true)∧c.tables.length - k' <c.tables.length - k))∧((decide ((k:Int)<((c.tables.length:Nat):Int)))=false→ByteArray.empty=(((cT c n).1).name)∧(0:Int)=(((cT c n).1).arity)∧(0:Int)=(((cT c n).1).rowCount)∧(false)=((cT c n).2)∧[]=(((cT c n).1).groups).map aA∧True))) (by kernel_rfl) ?_
 intro n0
 simp only [List.length_map] at n0
 have hS:bM c=cX c.tables:=rfl
 refine ⟨⟨0,rfl,Nat.zero_le _,rfl⟩,fun k ⟨hk,ha⟩=>?_⟩
 refine ⟨List.length_map _,fun c0=>?_,fun c0=>?_⟩
 ·replace c0:=yq c0
  refine ⟨by omega,rfl,by omega,fun e17 h17=>?_⟩
  try (obtain rfl:=(bA h17 h17).symm)
  have q1:=jN h17
  refine ⟨fun g22=>?_,fun g22=>?_⟩
  ·refine ⟨by omega,rfl,by omega,fun e26 h26=>?_⟩
   try (obtain rfl:=(bA h17 h26).symm)
   refine ⟨aFD _ (by omega),fun c1=>?_,fun c1=>?_⟩
   ·have hf:=aHo (p:=oO n) h17 ha (by simp [oO,g22,c1])
    refine ⟨by omega,rfl,by omega,fun e33 h33=>?_⟩
    try (obtain rfl:=(bA h17 h33).symm)
    refine ⟨aOa _ (by omega),?_,?_,?_,?_,?_,trivial⟩
    ·first | (rw [eG hf]<;>rfl) | (rw [fB hall]<;>rfl)
    ·first | (rw [eG hf]<;>rfl) | (rw [fB hall]<;>rfl)
    ·first | (rw [eG hf]<;>rfl) | (rw [fB hall]<;>rfl)
    ·first | (rw [eG hf]<;>rfl) | (rw [fB hall]<;>rfl)
    ·first | (rw [eG hf]<;>rfl) | (rw [fB hall]<;>rfl)
   ·refine ⟨⟨by omega,by omega⟩,?_⟩
    exact ⟨k+1,rfl,⟨by omega,dQ h17 ha (by first | (simp [oO,g22,c1];done) | (simp [oO,g22];done))⟩,by omega⟩
  ·refine ⟨⟨by omega,by omega⟩,?_⟩
   exact ⟨k+1,rfl,⟨by omega,dQ h17 ha (by first | (simp [oO,g22,c1];done) | (simp [oO,g22];done))⟩,by omega⟩
 ·replace c0:=nq c0
  have hall:=aD6 (bU (by omega) ha)
  refine ⟨?_,?_,?_,?_,?_,trivial⟩
  ·first | (rw [eG hf]<;>rfl) | (rw [fB hall]<;>rfl)
  ·first | (rw [eG hf]<;>rfl) | (rw [fB hall]<;>rfl)
  ·first | (rw [eG hf]<;>rfl) | (rw [fB hall]<;>rfl)
  ·first | (rw [eG hf]<;>rfl) | (rw [fB hall]<;>rfl)
  ·first | (rw [eG hf]<;>rfl) | (rw [fB hall]<;>rfl)
def dR (d:aV) (q:QueryD):Bool:=cY q&&q.atoms.all fun a=>(aI d a.name).2&&decide ((aI d a.name).1.arity=(a.vars.length:Nat))
def vL (s:StoreD) (q:QueryD) (m:Int):Bool:=eK s&&(dR s.database q&&dP m 1 (lU q))
def fC (s:StoreD) (q:QueryD) (i:Nat):aB:=(cT s.catalogue (q.atoms.getD i pB).name).1
theorem aM6 {d:aV} {q:QueryD} (h:dR d q=true):cY q=true∧ ∀a∈q.atoms,(aI d a.name).2=true∧(aI d a.name).1.arity=(a.vars.length:Nat):=by
 simp only [dR,Bool.and_eq_true] at h
 exact ⟨h.1,fun a ha=>by simpa using List.all_eq_true.1 h.2 a ha⟩
theorem aCR {s:StoreD} {q:QueryD} {m:Int} (h:vL s q m=true):eK s=true∧dR s.database q=true∧cY q=true∧1≤m∧m≤(1:Int)*2^q.atoms.length - 1∧m≤15∧aOZ q m=true∧(1≤q.atoms.length∧q.atoms.length≤4):=by
 simp only [vL,Bool.and_eq_true] at h
 have h1:=eL h.2.2
 have h2:=(aM6 h.2.1).1
 have h3:=sY h2
 have h4:=uF h3.2.1
 rw [sZ h2] at h1
 exact ⟨h.1,h.2.1,h2,h1.1,h1.2,by omega,by rw [aOZ,h2,aBg (by omega) h1.2];rfl,h3.2.1⟩
abbrev aFN (d:aV) (q:QueryD):Prop:=dG Tryz.prog 121 [.agg [.sl 162 3 (d.tables.map aP)],.agg [.int .i64 q.variableCount,.sl 131 2 (q.atoms.map bC)]] (vB (dR d q)) []
theorem aOb (d:aV) (q:QueryD) (hc:bF d≤1048576):aFN d q:=by
 refine aY bK aU Tryz.func121 (by kernel_rfl) (.call (vB (cY q)) []<| .br (.fin []) (.len q.atoms.length<| .loop Nat (Q1 Nat) [6,7,8,15,16,17,18,19,20,21,22,23,24,25,26,27,28,29,30,31,32,33,34,35,36] [600,700] (fun k=>[(15,vI (k:Int))]) (fun k=>[]) (fun k=>k≤q.atoms.length∧(q.atoms.take k).all (fun a=>(aI d a.name).2&&decide ((aI d a.name).1.arity=(a.vars.length:Nat)))=true) (fun k=>q.atoms.length - k) (fun k=> .br (.elem _ bC q.atoms (fun e17=> .call (.tup [.agg [.p none (.str (((aI d e17.name).1).name)),vI (((aI d e17.name).1).arity),.p none (.sl 32 1 ((((aI d e17.name).1).rows).map aE))],vB ((aI d e17.name).2)]) []<| .br (.fin []) (.len e17.vars.length<| .lit<| .lit<| .br (.fin []) (.back [])))) (.fin [])))) (p:=(d.tables.map aP).length≤9223372036854775807→(q.atoms.map bC).length≤9223372036854775807→aAZ q∧(((!(cY q))=true→(false)=(dR d q)∧True)∧((!(cY q))=false→Lm bC q.atoms∧((∃(k:Nat),(0:Int)=(k:Int)∧k≤q.atoms.length∧(q.atoms.take k).all (fun a=>(aI d a.name).2&&decide ((aI d a.name).1.arity=(a.vars.length:Nat)))=true)∧ ∀(k:Nat),(k≤q.atoms.length∧(q.atoms.take k).all (fun a=>(aI d a.name).2&&decide ((aI d a.name).1.arity=(a.vars.length:Nat)))=true)→((decide ((k:Int)<((q.atoms.length:Nat):Int)))=true→0≤(k:Int)∧Em bC q.atoms k fun e17=>dG Tryz.prog 148 [.agg [.sl 162 3 (d.tables.map aP)],.one (.str e17.name)] (.tup [.agg [.p none (.str (((aI d e17.name).1).name)),vI (((aI d e17.name).1).arity),.p none (.sl 32 1 ((((aI d e17.name).1).rows).map aE))],vB ((aI d e17.name).2)]) []∧(((!((aI d e17.name).2))=true→(false)=(dR d q)∧True)∧((!((aI d e17.name).2))=false→Lm intD e17.vars∧(((!(decide ((((aI d e17.name).1).arity)=((e17.vars.length:Nat):Int))))=true→(false)=(dR d q)∧True)∧((!(decide ((((aI d e17.name).1).arity)=((e17.vars.length:Nat):Int))))=false→dB ((k:Int)+(1:Int))∧ ∃(k' :Nat),((k:Int)+(1:Int))=(k' :Int)∧(k' ≤q.atoms.length∧(q.atoms.take k').all (fun a=>(aI d a.name).2&&decide ((aI d a.name).1.arity=(a.vars.length:Nat)))=true)∧q.atoms.length - k' <q.atoms.length - k)))))∧((decide ((k:Int)<((q.atoms.length:Nat):Int)))=false→(true)=(dR d q)∧True))))) (by kernel_rfl) ?_
 intro n0 n1
 simp only [List.length_map] at n0 n1
 refine ⟨aJX q,fun c0=>?_,fun c0=>?_⟩
 ·replace c0:=nt c0
  refine ⟨?_,trivial⟩
  ·first | (rw [dR,c0];rfl) | (rw [dR,cG h17 hA,Bool.and_false];done) | (rw [dR,c0,bU (by omega) ha];rfl)
 ·replace c0:=nf c0
  refine ⟨List.length_map _,⟨0,rfl,Nat.zero_le _,rfl⟩,fun k ⟨hk,ha⟩=>?_⟩
  refine ⟨fun c1=>?_,fun c1=>?_⟩
  ·replace c1:=yq c1
   refine ⟨by omega,rfl,by omega,fun e17 h17=>?_⟩
   try (obtain rfl:=(bA h17 h17).symm)
   refine ⟨iX (qO _ e17.name (by omega)) rfl,fun g28=>?_,fun g28=>?_⟩
   ·replace g28:=nt g28
    have hA:((aI d e17.name).2&&decide ((aI d e17.name).1.arity=(e17.vars.length:Nat)))=false:=by first | (rw [g28];rfl) | (rw [g28];simp [c2];done)
    refine ⟨?_,trivial⟩
    ·first | (rw [dR,c0];rfl) | (rw [dR,cG h17 hA,Bool.and_false];done) | (rw [dR,c0,bU (by omega) ha];rfl)
   ·replace g28:=nf g28
    refine ⟨List.length_map _,fun c2=>?_,fun c2=>?_⟩
    ·replace c2:=nq (nt c2)
     have hA:((aI d e17.name).2&&decide ((aI d e17.name).1.arity=(e17.vars.length:Nat)))=false:=by first | (rw [g28];rfl) | (rw [g28];simp [c2];done)
     refine ⟨?_,trivial⟩
     ·first | (rw [dR,c0];rfl) | (rw [dR,cG h17 hA,Bool.and_false];done) | (rw [dR,c0,bU (by omega) ha];rfl)
    ·replace c2:=yq (nf c2)
     have hA:((aI d e17.name).2&&decide ((aI d e17.name).1.arity=(e17.vars.length:Nat)))=true:=by rw [g28];simp [c2]
     refine ⟨⟨by omega,by omega⟩,?_⟩
     exact ⟨k+1,rfl,⟨by omega,dQ h17 ha hA⟩,by omega⟩
  ·replace c1:=nq c1
   refine ⟨?_,trivial⟩
   ·first | (rw [dR,c0];rfl) | (rw [dR,cG h17 hA,Bool.and_false];done) | (rw [dR,c0,bU (by omega) ha];rfl)
abbrev aCy (q:QueryD):Prop:=dG Tryz.prog 118 [.agg [.int .i64 q.variableCount,.sl 131 2 (q.atoms.map bC)]] (vI (lU q)) []
theorem aM7 (q:QueryD):aCy q:=by
 refine aY bK aU Tryz.func118 (by kernel_rfl) (.call (vB (cY q)) []<| .br (.fin []) (.len q.atoms.length<| .fin [])) (p:=(q.atoms.map bC).length≤9223372036854775807→aAZ q∧(((!(cY q))=true→(0:Int)=(lU q)∧True)∧((!(cY q))=false→Lm bC q.atoms∧(0≤((q.atoms.length:Nat):Int)∧((q.atoms.length:Nat):Int)≤64)∧dB ((1:Int)*2^q.atoms.length)∧dB (((1:Int)*2^q.atoms.length) - (1:Int))∧(((1:Int)*2^q.atoms.length) - (1:Int))=(lU q)∧True))) (by kernel_rfl) ?_
 intro n0
 simp only [List.length_map] at n0
 refine ⟨aJX q,fun c0=>?_,fun c0=>?_⟩
 ·replace c0:=nt c0
  refine ⟨?_,trivial⟩
  ·first | (rw [aBW c0];done) | (rw [sZ c0];done)
 ·replace c0:=nf c0
  have w:=uF (sY c0).2.1
  have w2:=(sY c0).2.1
  refine ⟨List.length_map _,⟨by omega,by omega⟩,⟨by omega,by omega⟩,⟨by omega,by omega⟩,?_,trivial⟩
  ·first | (rw [aBW c0];done) | (rw [sZ c0];done)
abbrev aFO (d:aV) (q:QueryD):Prop:=dG Tryz.prog 165 [.agg [.sl 162 3 (d.tables.map aP)],.agg [.int .i64 q.variableCount,.sl 131 2 (q.atoms.map bC)]] (vB (dR d q)) []
theorem aOc (d:aV) (q:QueryD) (hc:bF d≤1048576):aFO d q:=by
 refine aY bK aU Tryz.func165 (by kernel_rfl) (.call (vB (cY q)) []<| .br (.fin []) (.loop Nat (Q1 Nat) [5,6,7,11,12,13,14,15,16,17,18,19,20,21,22,23,24,25,26,27,28,29,30,31,32,33,34,35,36,37,38,39,40,41,42] [600] (fun k=>[(5,vI (k:Int))]) (fun k=>[]) (fun k=>k≤q.atoms.length∧(q.atoms.take k).all (fun a=>(aI d a.name).2&&decide ((aI d a.name).1.arity=(a.vars.length:Nat)))=true) (fun k=>q.atoms.length - k) (fun k=> .len q.atoms.length<| .br (.elem _ bC q.atoms (fun e23=> .call (.tup [.agg [.p none (.str (((aI d e23.name).1).name)),vI (((aI d e23.name).1).arity),.p none (.sl 32 1 ((((aI d e23.name).1).rows).map aE))],vB ((aI d e23.name).2)]) []<| .br (.fin []) (.elem _ bC q.atoms (fun e37=> .len e37.vars.length<| .lit<| .lit<| .br (.fin []) (.back []))))) (.fin [])))) (p:=(d.tables.map aP).length≤9223372036854775807→(q.atoms.map bC).length≤9223372036854775807→aA0 q∧(((!(cY q))=true→(false)=(dR d q)∧True)∧((!(cY q))=false→(∃(k:Nat),(0:Int)=(k:Int)∧k≤q.atoms.length∧(q.atoms.take k).all (fun a=>(aI d a.name).2&&decide ((aI d a.name).1.arity=(a.vars.length:Nat)))=true)∧ ∀(k:Nat),(k≤q.atoms.length∧(q.atoms.take k).all (fun a=>(aI d a.name).2&&decide ((aI d a.name).1.arity=(a.vars.length:Nat)))=true)→Lm bC q.atoms∧(((decide ((k:Int)<((q.atoms.length:Nat):Int)))=true→0≤(k:Int)∧Em bC q.atoms k fun e23=>dG Tryz.prog 132 [.agg [.sl 162 3 (d.tables.map aP)],.one (.str e23.name)] (.tup [.agg [.p none (.str (((aI d e23.name).1).name)),vI (((aI d e23.name).1).arity),.p none (.sl 32 1 ((((aI d e23.name).1).rows).map aE))],vB ((aI d e23.name).2)]) []∧(((!((aI d e23.name).2))=true→(false)=(dR d q)∧True)∧((!((aI d e23.name).2))=false→0≤(k:Int)∧Em bC q.atoms k fun e37=>Lm intD e37.vars∧(((!(decide ((((aI d e23.name).1).arity)=((e37.vars.length:Nat):Int))))=true→(false)=(dR d q)∧True)∧((!(decide ((((aI d e23.name).1).arity)=((e37.vars.length:Nat):Int))))=false→dB ((k:Int)+(1:Int))∧ ∃(k' :Nat),((k:Int)+(1:Int))=(k' :Int)∧(k' ≤q.atoms.length∧(q.atoms.take k').all (fun a=>(aI d a.name).2&&decide ((aI d a.name).1.arity=(a.vars.length:Nat)))=true)∧q.atoms.length - k' <q.atoms.length - k)))))∧((decide ((k:Int)<((q.atoms.length:Nat):Int)))=false→(true)=(dR d q)∧True))))) (by kernel_rfl) ?_
 intro n0 n1
 simp only [List.length_map] at n0 n1
 refine ⟨aJY q,fun c0=>?_,fun c0=>?_⟩
 ·replace c0:=nt c0
  refine ⟨?_,trivial⟩
  ·first | (rw [dR,c0];rfl) | (rw [dR,cG h23 hA,Bool.and_false];done) | (rw [dR,c0,bU (by omega) ha];rfl)
 ·replace c0:=nf c0
  refine ⟨⟨0,rfl,Nat.zero_le _,rfl⟩,fun k ⟨hk,ha⟩=>?_⟩
  refine ⟨List.length_map _,fun c1=>?_,fun c1=>?_⟩
  ·replace c1:=yq c1
   refine ⟨by omega,rfl,by omega,fun e23 h23=>?_⟩
   try (obtain rfl:=(bA h23 h23).symm)
   refine ⟨iX (qP _ e23.name (by omega)) rfl,fun g31=>?_,fun g31=>?_⟩
   ·replace g31:=nt g31
    have hA:((aI d e23.name).2&&decide ((aI d e23.name).1.arity=(e23.vars.length:Nat)))=false:=by first | (rw [g31];rfl) | (rw [g31];simp [c2];done)
    refine ⟨?_,trivial⟩
    ·first | (rw [dR,c0];rfl) | (rw [dR,cG h23 hA,Bool.and_false];done) | (rw [dR,c0,bU (by omega) ha];rfl)
   ·replace g31:=nf g31
    refine ⟨by omega,rfl,by omega,fun e37 h37=>?_⟩
    try (obtain rfl:=(bA h23 h37).symm)
    refine ⟨List.length_map _,fun c2=>?_,fun c2=>?_⟩
    ·replace c2:=nq (nt c2)
     have hA:((aI d e23.name).2&&decide ((aI d e23.name).1.arity=(e23.vars.length:Nat)))=false:=by first | (rw [g31];rfl) | (rw [g31];simp [c2];done)
     refine ⟨?_,trivial⟩
     ·first | (rw [dR,c0];rfl) | (rw [dR,cG h23 hA,Bool.and_false];done) | (rw [dR,c0,bU (by omega) ha];rfl)
    ·replace c2:=yq (nf c2)
     have hA:((aI d e23.name).2&&decide ((aI d e23.name).1.arity=(e23.vars.length:Nat)))=true:=by rw [g31];simp [c2]
     refine ⟨⟨by omega,by omega⟩,?_⟩
     exact ⟨k+1,rfl,⟨by omega,dQ h23 ha hA⟩,by omega⟩
  ·replace c1:=nq c1
   refine ⟨?_,trivial⟩
   ·first | (rw [dR,c0];rfl) | (rw [dR,cG h23 hA,Bool.and_false];done) | (rw [dR,c0,bU (by omega) ha];rfl)
abbrev aCz (q:QueryD):Prop:=dG Tryz.prog 98 [.agg [.int .i64 q.variableCount,.sl 131 2 (q.atoms.map bC)]] (vI (lU q)) []
theorem aM8 (q:QueryD):aCz q:=by
 refine aY bK aU Tryz.func98 (by kernel_rfl) (.call (vB (cY q)) []<| .br (.fin []) (.len q.atoms.length<| .fin [])) (p:=(q.atoms.map bC).length≤9223372036854775807→aA0 q∧(((!(cY q))=true→(0:Int)=(lU q)∧True)∧((!(cY q))=false→Lm bC q.atoms∧(0≤((q.atoms.length:Nat):Int)∧((q.atoms.length:Nat):Int)≤64)∧dB ((1:Int)*2^q.atoms.length)∧dB (((1:Int)*2^q.atoms.length) - (1:Int))∧(((1:Int)*2^q.atoms.length) - (1:Int))=(lU q)∧True))) (by kernel_rfl) ?_
 intro n0
 simp only [List.length_map] at n0
 refine ⟨aJY q,fun c0=>?_,fun c0=>?_⟩
 ·replace c0:=nt c0
  refine ⟨?_,trivial⟩
  ·first | (rw [aBW c0];done) | (rw [sZ c0];done)
 ·replace c0:=nf c0
  have w:=uF (sY c0).2.1
  have w2:=(sY c0).2.1
  refine ⟨List.length_map _,⟨by omega,by omega⟩,⟨by omega,by omega⟩,⟨by omega,by omega⟩,?_,trivial⟩
  ·first | (rw [aBW c0];done) | (rw [sZ c0];done)
abbrev aA2 (m:Int):AV × List (Nat × Rs):=(.own 0,[(0,.arr 3 1 true ((eX m).map intD))])
abbrev aFP (m:Int):Prop:=dG Tryz.prog 95 [.one (.int .i64 m)] (aA2 m).1 (aA2 m).2
theorem aOd (m:Int):aFP m:=by
 refine aY bK aU Tryz.func95 (by kernel_rfl) (.call (vB (dP m (0:Int) (15:Int))) []<| .br (.fin []) (.loop (Nat × (List Int)) (Q2 Nat (List Int)) [3,4,8,9,10,11,12,13,14,15,16,17,18,19,20,21] [800,2000,2100] (fun yy0=>[(4,vI (yy0.1:Int)),(3,.own 800)]) (fun yy0=>[(800,some (.arr 3 1 true (yy0.2.map intD)))]) (fun yy0=>yy0.1≤4∧yy0.2=kT (jQ m) yy0.1) (fun yy0=>4 - yy0.1) (fun yy0=> .br (.br (.app Int intD yy0.2 ([(yy0.1:Int)]:List Int)<| .back [(800,2100)]) (.back [(800,800)])) (.fin [(0,800)])))) (p:=eY m (0:Int) (15:Int)∧(((!(dP m (0:Int) (15:Int)))=true→[]=(eX m).map intD∧True)∧((!(dP m (0:Int) (15:Int)))=false→(∃(i:Nat) (out:List Int),(0:Int)=(i:Int)∧[]=out.map intD∧i≤4∧out=kT (jQ m) i)∧ ∀(i:Nat) (out:List Int),(i≤4∧out=kT (jQ m) i)→((decide ((i:Int)<(4:Int)))=true→(0≤(i:Int)∧(i:Int)≤64)∧(((decide ((hZ .and .i64 (m/2^i) (1:Int))=(1:Int)))=true→out.map intD=out.map intD∧[[.int .i64 (i:Int)]]=([(i:Int)]:List Int).map intD∧(∀x,eC (intD x)=true)∧(out.length+([(i:Int)]:List Int).length)*8≤140737488355328∧dB ((i:Int)+(1:Int))∧ ∃(i' :Nat) (out' :List Int),((i:Int)+(1:Int))=(i' :Int)∧(out++[(i:Int)]).map intD=out'.map intD∧(i' ≤4∧out' =kT (jQ m) i')∧4 - i' <4 - i)∧((decide ((hZ .and .i64 (m/2^i) (1:Int))=(1:Int)))=false→dB ((i:Int)+(1:Int))∧ ∃(i' :Nat) (out' :List Int),((i:Int)+(1:Int))=(i' :Int)∧out.map intD=out'.map intD∧(i' ≤4∧out' =kT (jQ m) i')∧4 - i' <4 - i)))∧((decide ((i:Int)<(4:Int)))=false→out.map intD=(eX m).map intD∧True)))) (by kernel_rfl) ?_
 refine ⟨iJ _ _ _,fun c0=>?_,fun c0=>?_⟩
 ·replace c0:=nt c0
  refine ⟨?_,trivial⟩
  ·first | (rw [aFB c0];rfl) | (rw [yV c0,ho,show i=4 by omega])
 ·replace c0:=nf c0
  refine ⟨⟨0,([]:List Int),rfl,rfl,by omega,rfl⟩,fun i out ⟨hi,ho⟩=>?_⟩
  refine ⟨fun c1=>?_,fun c1=>?_⟩
  ·replace c1:=yq c1
   refine ⟨⟨by omega,by omega⟩,fun c2=>?_,fun c2=>?_⟩
   ·replace c2:=yq c2
    refine ⟨rfl,rfl,fun _=>rfl,by first | omega | (rw [ho];have:=aEx (jQ m) i;simp only [List.length_cons,List.length_nil];omega),?_⟩
    refine ⟨⟨by omega,by omega⟩,?_⟩
    exact ⟨i+1,_,rfl,rfl,⟨by omega,by first | (rw [ho,sX (aLM c2)];done) | (rw [ho,uE (aCP c2)];done)⟩,by omega⟩
   ·replace c2:=nq c2
    refine ⟨⟨by omega,by omega⟩,?_⟩
    exact ⟨i+1,_,rfl,rfl,⟨by omega,by first | (rw [ho,sX (aLM c2)];done) | (rw [ho,uE (aCP c2)];done)⟩,by omega⟩
  ·replace c1:=nq c1
   refine ⟨?_,trivial⟩
   ·first | (rw [aFB c0];rfl) | (rw [yV c0,ho,show i=4 by omega])
abbrev aFQ (a:bR) (m:Int):Prop:=dG Tryz.prog 192 [.agg [.str a.name,.sl 3 1 (a.vars.map intD)],.one (.int .i64 m)] (vI (zA m a.vars (min a.vars.length 3))) []
theorem aOe (a:bR) (m:Int):aFQ a m:=by
 refine aY bK aU Tryz.func192 (by kernel_rfl) (.loop (Nat × Int) (Q2 Nat Int) [5,6,7,8,9,10,11,12,13,14,15,16,17,18,19,20,21,22,23,24,25,26,27,28,29,30,31,32,33,34,35,36,37,38] [] (fun yy0=>[(6,vI (yy0.1:Int)),(5,vI yy0.2)]) (fun yy0=>[]) (fun yy0=>(yy0.1≤a.vars.length∧yy0.1≤3)∧yy0.2=zA m a.vars yy0.1) (fun yy0=>a.vars.length - yy0.1) (fun yy0=> .len a.vars.length<| .br (.lit<| .lit<| .br (.br (.elem _ intD a.vars (fun e27=> .call (vB (dP e27 (0:Int) (3:Int))) []<| .lit<| .br (.elem _ intD a.vars (fun e35=> .back [])) (.back []))) (.back [])) (.fin [])) (.fin []))) (p:=(a.vars.map intD).length≤9223372036854775807→(∃(k:Nat) (o:Int),(0:Int)=(k:Int)∧(0:Int)=o∧(k≤a.vars.length∧k≤3)∧o=zA m a.vars k)∧ ∀(k:Nat) (o:Int),((k≤a.vars.length∧k≤3)∧o=zA m a.vars k)→Lm intD a.vars∧(((decide ((k:Int)<((a.vars.length:Nat):Int)))=true→((decide ((k:Int)<(3:Int)))=true→(0≤(k:Int)∧(k:Int)≤64)∧(((decide ((hZ .and .i64 (m/2^k) (1:Int))=(1:Int)))=true→0≤(k:Int)∧Em intD a.vars k fun e27=>eZ e27 (0:Int) (3:Int)∧(((dP e27 (0:Int) (3:Int))=true→0≤(k:Int)∧Em intD a.vars k fun e35=>(0≤e35∧e35≤64)∧dB ((1:Int)*2^(Int.toNat e35))∧dB ((k:Int)+(1:Int))∧ ∃(k' :Nat) (o' :Int),((k:Int)+(1:Int))=(k' :Int)∧(hZ .or .i64 o ((1:Int)*2^(Int.toNat e35)))=o' ∧((k' ≤a.vars.length∧k' ≤3)∧o' =zA m a.vars k')∧a.vars.length - k' <a.vars.length - k)∧((dP e27 (0:Int) (3:Int))=false→dB ((k:Int)+(1:Int))∧ ∃(k' :Nat) (o' :Int),((k:Int)+(1:Int))=(k' :Int)∧o=o' ∧((k' ≤a.vars.length∧k' ≤3)∧o' =zA m a.vars k')∧a.vars.length - k' <a.vars.length - k)))∧((decide ((hZ .and .i64 (m/2^k) (1:Int))=(1:Int)))=false→dB ((k:Int)+(1:Int))∧ ∃(k' :Nat) (o' :Int),((k:Int)+(1:Int))=(k' :Int)∧o=o' ∧((k' ≤a.vars.length∧k' ≤3)∧o' =zA m a.vars k')∧a.vars.length - k' <a.vars.length - k)))∧((decide ((k:Int)<(3:Int)))=false→o=(zA m a.vars (min a.vars.length 3))∧True))∧((decide ((k:Int)<((a.vars.length:Nat):Int)))=false→o=(zA m a.vars (min a.vars.length 3))∧True))) (by kernel_rfl) ?_
 intro n0
 simp only [List.length_map] at n0
 refine ⟨⟨0,0,rfl,rfl,⟨Nat.zero_le _,by omega⟩,rfl⟩,fun k o ⟨hk,hv⟩=>?_⟩
 refine ⟨List.length_map _,fun g12=>?_,fun g12=>?_⟩
 ·replace g12:=yq g12
  refine ⟨fun c0=>?_,fun c0=>?_⟩
  ·replace c0:=yq c0
   refine ⟨⟨by omega,by omega⟩,fun g23=>?_,fun g23=>?_⟩
   ·replace g23:=yq g23
    refine ⟨by omega,rfl,by omega,fun e27 h27=>?_⟩
    try (obtain rfl:=(bA h27 h27).symm)
    refine ⟨iK _ _ _,fun c1=>?_,fun c1=>?_⟩
    ·obtain ⟨w1,w2,w3⟩:=aFG c1
     refine ⟨by omega,rfl,by omega,fun e35 h35=>?_⟩
     try (obtain rfl:=(bA h27 h35).symm)
     refine ⟨⟨by omega,by omega⟩,by first | exact w1 | exact ⟨by omega,by omega⟩,by first | exact w1 | exact ⟨by omega,by omega⟩,?_⟩
     exact ⟨k+1,_,rfl,rfl,⟨by omega,by first | (rw [aHq h27 g23 c1,hv];done) | (rw [aCQ h27 (by simp [g23,c1]),hv];done) | (obtain ⟨y,hy⟩:=cC (l:=a.vars) (k:=k) (by omega);rw [aCQ hy (by simp [g23]),hv])⟩,by omega⟩
    ·refine ⟨by first | exact w1 | exact ⟨by omega,by omega⟩,?_⟩
     exact ⟨k+1,_,rfl,rfl,⟨by omega,by first | (rw [aHq h27 g23 c1,hv];done) | (rw [aCQ h27 (by simp [g23,c1]),hv];done) | (obtain ⟨y,hy⟩:=cC (l:=a.vars) (k:=k) (by omega);rw [aCQ hy (by simp [g23]),hv])⟩,by omega⟩
   ·replace g23:=nq g23
    refine ⟨by first | exact w1 | exact ⟨by omega,by omega⟩,?_⟩
    exact ⟨k+1,_,rfl,rfl,⟨by omega,by first | (rw [aHq h27 g23 c1,hv];done) | (rw [aCQ h27 (by simp [g23,c1]),hv];done) | (obtain ⟨y,hy⟩:=cC (l:=a.vars) (k:=k) (by omega);rw [aCQ hy (by simp [g23]),hv])⟩,by omega⟩
  ·replace c0:=nq c0
   refine ⟨?_,trivial⟩
   ·(rw [hv];congr 1;omega)
 ·replace g12:=nq g12
  refine ⟨?_,trivial⟩
  ·(rw [hv];congr 1;omega)
abbrev xL (x:aB) (a:bR):AV × List (Nat × Rs):=(.own 0,[(0,.arr 149 3 true ((kG x a).map aD))])
abbrev aDA (x:aB) (a:bR):Prop:=dG Tryz.prog 123 [.agg [.str x.name,.int .i64 x.arity,.int .i64 x.rowCount,.sl 218 3 (x.groups.map aA)],.agg [.str a.name,.sl 3 1 (a.vars.map intD)]] (xL x a).1 (xL x a).2
theorem aM9 (x:aB) (a:bR) (hc:aW x≤1048576) (ha:fY a≤1048576):aDA x a:=by
 refine aY bK aU Tryz.func123 (by kernel_rfl) (.call (vB (bP x)) []<| .br (.fin []) (.lit<| .lit<| .lit<| .br (.fin []) (.len a.vars.length<| .lit<| .lit<| .lit<| .lit<| .br (.fin []) (.loop (Nat × (List aF)) (Q2 Nat (List aF)) [5,6,7,8,9,26,27,28,29,30,31,32,33,34,35,36,37,38,39,40,41,42,43,44,45,46,47,48,49,50,51,52,53,54,55,56] [2600,3600,4100,5500,5600] (fun yy0=>[(6,vI (yy0.1:Int)),(5,.own 2600)]) (fun yy0=>[(2600,some (.arr 149 3 true (yy0.2.map aD)))]) (fun yy0=>yy0.1≤((2:Int)^x.arity.toNat - 1).toNat∧yy0.2=(List.range yy0.1).map (tcC x a)) (fun yy0=>((2:Int)^x.arity.toNat - 1).toNat - yy0.1) (fun yy0=> .br (cI (rR (yy0.1:Int))<| cI (nD a.vars (eE (yy0.1:Int)))<| .call (vI (fQ ((eO a.vars (eE (yy0.1:Int))).1))) []<| .call (vI (fQ a.vars)) []<| .call (vI ((fZ x (eE (yy0.1:Int))).getD 0 0)) []<| .call (vI (nH ((fZ x (eE (yy0.1:Int))).getD 0 0))) []<| .app aF aD yy0.2 ([(⟨fQ ((eO a.vars (eE (yy0.1:Int))).1),fQ a.vars,nH ((fZ x (eE (yy0.1:Int))).getD 0 0)⟩:aF)]:List aF)<| .back [(2600,5600)]) (.fin [(0,2600)])))))) (p:=(x.groups.map aA).length≤9223372036854775807→(a.vars.map intD).length≤9223372036854775807→aAP x∧(((!(bP x))=true→[]=(kG x a).map aD∧True)∧((!(bP x))=false→((decide (x.rowCount=(0:Int)))=true→[]=(kG x a).map aD∧True)∧((decide (x.rowCount=(0:Int)))=false→Lm intD a.vars∧(((!(decide (((a.vars.length:Nat):Int)=x.arity)))=true→[]=(kG x a).map aD∧True)∧((!(decide (((a.vars.length:Nat):Int)=x.arity)))=false→(∃(m:Nat) (out:List aF),(0:Int)=(m:Int)∧[]=out.map aD∧m≤((2:Int)^x.arity.toNat - 1).toNat∧out=(List.range m).map (tcC x a))∧ ∀(m:Nat) (out:List aF),(m≤((2:Int)^x.arity.toNat - 1).toNat∧out=(List.range m).map (tcC x a))→(0≤x.arity∧x.arity≤64)∧(dB ((1:Int)*2^(Int.toNat x.arity))∧(dB (((1:Int)*2^(Int.toNat x.arity)) - (1:Int))∧(((decide ((m:Int)<(((1:Int)*2^(Int.toNat x.arity)) - (1:Int))))=true→wW (m:Int)∧qK a.vars (eE (m:Int))∧xG ((eO a.vars (eE (m:Int))).1)∧xG a.vars∧aCk x (eE (m:Int))∧aCm ((fZ x (eE (m:Int))).getD 0 0)∧out.map aD=out.map aD∧[[.int .i64 (fQ ((eO a.vars (eE (m:Int))).1)),.int .i64 (fQ a.vars),.int .i64 (nH ((fZ x (eE (m:Int))).getD 0 0))]]=([(⟨fQ ((eO a.vars (eE (m:Int))).1),fQ a.vars,nH ((fZ x (eE (m:Int))).getD 0 0)⟩:aF)]:List aF).map aD∧(∀x,eC (aD x)=true)∧(out.length+([(⟨fQ ((eO a.vars (eE (m:Int))).1),fQ a.vars,nH ((fZ x (eE (m:Int))).getD 0 0)⟩:aF)]:List aF).length)*24≤140737488355328∧dB ((m:Int)+(1:Int))∧ ∃(m' :Nat) (out' :List aF),((m:Int)+(1:Int))=(m' :Int)∧(out++[(⟨fQ ((eO a.vars (eE (m:Int))).1),fQ a.vars,nH ((fZ x (eE (m:Int))).getD 0 0)⟩:aF)]).map aD=out'.map aD∧(m' ≤((2:Int)^x.arity.toNat - 1).toNat∧out' =(List.range m').map (tcC x a))∧((2:Int)^x.arity.toNat - 1).toNat - m' <((2:Int)^x.arity.toNat - 1).toNat - m)∧((decide ((m:Int)<(((1:Int)*2^(Int.toNat x.arity)) - (1:Int))))=false→out.map aD=(kG x a).map aD∧True)))))))))) (by kernel_rfl) ?_
 intro n0 n1
 simp only [List.length_map] at n0 n1
 have q3:fY a=a.name.size+bX a.vars:=rfl
 have q4:bX a.vars=a.vars.length:=rfl
 refine ⟨aJF _ (by omega),fun g13=>?_,fun g13=>?_⟩
 ·replace g13:=nt g13
  have hbad:mA x a=false:=by first | (simp [mA, *];done) | (simp [mA, *] at*;omega)
  refine ⟨?_,trivial⟩
  ·first | (rw [pI hbad]<;>rfl) | (rw [mK hok,ho,show ((2:Int)^x.arity.toNat - 1).toNat=m by omega])
 ·replace g13:=nf g13
  refine ⟨fun g18=>?_,fun g18=>?_⟩
  ·replace g18:=yq g18
   have hbad:mA x a=false:=by first | (simp [mA, *];done) | (simp [mA, *] at*;omega)
   refine ⟨?_,trivial⟩
   ·first | (rw [pI hbad]<;>rfl) | (rw [mK hok,ho,show ((2:Int)^x.arity.toNat - 1).toNat=m by omega])
  ·replace g18:=nq g18
   refine ⟨List.length_map _,fun c0=>?_,fun c0=>?_⟩
   ·replace c0:=nq (nt c0)
    have hbad:mA x a=false:=by first | (simp [mA, *];done) | (simp [mA, *] at*;omega)
    refine ⟨?_,trivial⟩
    ·first | (rw [pI hbad]<;>rfl) | (rw [mK hok,ho,show ((2:Int)^x.arity.toNat - 1).toNat=m by omega])
   ·replace c0:=yq (nf c0)
    have hok:mA x a=true:=by first | (simp [mA, *];done) | (simp [mA, *] at*;omega)
    obtain ⟨hS,hA⟩:=aAY hok
    have hn:=yU hS
    have hp:=pS hn
    refine ⟨⟨0,([]:List aF),rfl,rfl,Nat.zero_le _,rfl⟩,fun m out ⟨hm,ho⟩=>?_⟩
    refine ⟨⟨by omega,by omega⟩,⟨by omega,by omega⟩,⟨by omega,by omega⟩,fun c1=>?_,fun c1=>?_⟩
    ·replace c1:=yq c1
     have hbl:(eE (m:Int)).length≤3:=sT _ 3
     have hE:=aJW (m:=(m:Int)) hn hA (by omega) (by omega)
     have hE2:=aHG (m:=(m:Int)) hn hA (by omega) (by omega)
     refine ⟨aGw (m:Int) (by omega),aBI _ _ (by omega),aHH _,aHH _,aMS _ (eE (m:Int)) (by omega) (by omega),aMU _,rfl,rfl,fun _=>rfl,by first | omega | (simp [ho];omega),?_⟩
     refine ⟨⟨by omega,by omega⟩,?_⟩
     exact ⟨m+1,_,rfl,rfl,⟨by omega,by rw [ho,List.range_succ,List.map_append,List.map_cons,List.map_nil,tcC];first | (rw [hE];done) | (rw [hE2];done)⟩,by omega⟩
    ·replace c1:=nq c1
     refine ⟨?_,trivial⟩
     ·first | (rw [pI hbad]<;>rfl) | (rw [mK hok,ho,show ((2:Int)^x.arity.toNat - 1).toNat=m by omega])
abbrev xM (x:aB) (a:bR):AV × List (Nat × Rs):=(.own 0,[(0,.arr 149 3 true ((kG x a).map aD))])
abbrev aDB (x:aB) (a:bR):Prop:=dG Tryz.prog 120 [.agg [.str x.name,.int .i64 x.arity,.int .i64 x.rowCount,.sl 218 3 (x.groups.map aA)],.agg [.str a.name,.sl 3 1 (a.vars.map intD)]] (xM x a).1 (xM x a).2
theorem aMa (x:aB) (a:bR) (hc:aW x≤1048576) (ha:fY a≤1048576):aDB x a:=by
 refine aY bK aU Tryz.func120 (by kernel_rfl) (.call (vB (bP x)) []<| .br (.fin [(0,700)]) (.lit<| .lit<| .lit<| .br (.fin [(0,700)]) (.len a.vars.length<| .lit<| .lit<| .lit<| .lit<| .br (.fin [(0,700)]) (.loop (Nat × (List aF)) (Q2 Nat (List aF)) [5,6,7,25,26,27,28,29,30,31,32,33,34,35,36,37,38,39,40,41,42,43,44,45,46,47] [700,4200,4600,4700] (fun yy0=>[(6,vI (yy0.1:Int)),(5,.own 700)]) (fun yy0=>[(700,some (.arr 149 3 true (yy0.2.map aD)))]) (fun yy0=>yy0.1≤((2:Int)^x.arity.toNat - 1).toNat∧yy0.2=(List.range yy0.1).map (tcC x a)) (fun yy0=>((2:Int)^x.arity.toNat - 1).toNat - yy0.1) (fun yy0=> .br (.call (vI (zA (yy0.1:Int) a.vars (min a.vars.length 3))) []<| .call (vI (fQ a.vars)) []<| cI (rS (yy0.1:Int))<| .call (vI ((fZ x (eE (yy0.1:Int))).getD 0 0)) []<| .call (vI (nH ((fZ x (eE (yy0.1:Int))).getD 0 0))) []<| .app aF aD yy0.2 ([(⟨zA (yy0.1:Int) a.vars (min a.vars.length 3),fQ a.vars,nH ((fZ x (eE (yy0.1:Int))).getD 0 0)⟩:aF)]:List aF)<| .back [(700,4700)]) (.fin [(0,700)])))))) (p:=(x.groups.map aA).length≤9223372036854775807→(a.vars.map intD).length≤9223372036854775807→uG x∧(((!(bP x))=true→[]=(kG x a).map aD∧True)∧((!(bP x))=false→((decide (x.rowCount=(0:Int)))=true→[]=(kG x a).map aD∧True)∧((decide (x.rowCount=(0:Int)))=false→Lm intD a.vars∧(((!(decide (((a.vars.length:Nat):Int)=x.arity)))=true→[]=(kG x a).map aD∧True)∧((!(decide (((a.vars.length:Nat):Int)=x.arity)))=false→(∃(m:Nat) (out:List aF),(0:Int)=(m:Int)∧[]=out.map aD∧m≤((2:Int)^x.arity.toNat - 1).toNat∧out=(List.range m).map (tcC x a))∧ ∀(m:Nat) (out:List aF),(m≤((2:Int)^x.arity.toNat - 1).toNat∧out=(List.range m).map (tcC x a))→(0≤x.arity∧x.arity≤64)∧(dB ((1:Int)*2^(Int.toNat x.arity))∧(dB (((1:Int)*2^(Int.toNat x.arity)) - (1:Int))∧(((decide ((m:Int)<(((1:Int)*2^(Int.toNat x.arity)) - (1:Int))))=true→aFQ a (m:Int)∧aCl a.vars∧wX (m:Int)∧aCj x (eE (m:Int))∧aCn ((fZ x (eE (m:Int))).getD 0 0)∧out.map aD=out.map aD∧[[.int .i64 (zA (m:Int) a.vars (min a.vars.length 3)),.int .i64 (fQ a.vars),.int .i64 (nH ((fZ x (eE (m:Int))).getD 0 0))]]=([(⟨zA (m:Int) a.vars (min a.vars.length 3),fQ a.vars,nH ((fZ x (eE (m:Int))).getD 0 0)⟩:aF)]:List aF).map aD∧(∀x,eC (aD x)=true)∧(out.length+([(⟨zA (m:Int) a.vars (min a.vars.length 3),fQ a.vars,nH ((fZ x (eE (m:Int))).getD 0 0)⟩:aF)]:List aF).length)*24≤140737488355328∧dB ((m:Int)+(1:Int))∧ ∃(m' :Nat) (out' :List aF),((m:Int)+(1:Int))=(m' :Int)∧(out++[(⟨zA (m:Int) a.vars (min a.vars.length 3),fQ a.vars,nH ((fZ x (eE (m:Int))).getD 0 0)⟩:aF)]).map aD=out'.map aD∧(m' ≤((2:Int)^x.arity.toNat - 1).toNat∧out' =(List.range m').map (tcC x a))∧((2:Int)^x.arity.toNat - 1).toNat - m' <((2:Int)^x.arity.toNat - 1).toNat - m)∧((decide ((m:Int)<(((1:Int)*2^(Int.toNat x.arity)) - (1:Int))))=false→out.map aD=(kG x a).map aD∧True)))))))))) (by kernel_rfl) ?_
 intro n0 n1
 simp only [List.length_map] at n0 n1
 have q3:fY a=a.name.size+bX a.vars:=rfl
 have q4:bX a.vars=a.vars.length:=rfl
 refine ⟨aFD _ (by omega),fun g11=>?_,fun g11=>?_⟩
 ·replace g11:=nt g11
  have hbad:mA x a=false:=by first | (simp [mA, *];done) | (simp [mA, *] at*;omega)
  refine ⟨?_,trivial⟩
  ·first | (rw [pI hbad]<;>rfl) | (rw [mK hok,ho,show ((2:Int)^x.arity.toNat - 1).toNat=m by omega])
 ·replace g11:=nf g11
  refine ⟨fun g16=>?_,fun g16=>?_⟩
  ·replace g16:=yq g16
   have hbad:mA x a=false:=by first | (simp [mA, *];done) | (simp [mA, *] at*;omega)
   refine ⟨?_,trivial⟩
   ·first | (rw [pI hbad]<;>rfl) | (rw [mK hok,ho,show ((2:Int)^x.arity.toNat - 1).toNat=m by omega])
  ·replace g16:=nq g16
   refine ⟨List.length_map _,fun c0=>?_,fun c0=>?_⟩
   ·replace c0:=nq (nt c0)
    have hbad:mA x a=false:=by first | (simp [mA, *];done) | (simp [mA, *] at*;omega)
    refine ⟨?_,trivial⟩
    ·first | (rw [pI hbad]<;>rfl) | (rw [mK hok,ho,show ((2:Int)^x.arity.toNat - 1).toNat=m by omega])
   ·replace c0:=yq (nf c0)
    have hok:mA x a=true:=by first | (simp [mA, *];done) | (simp [mA, *] at*;omega)
    obtain ⟨hS,hA⟩:=aAY hok
    have hn:=yU hS
    have hp:=pS hn
    refine ⟨⟨0,([]:List aF),rfl,rfl,Nat.zero_le _,rfl⟩,fun m out ⟨hm,ho⟩=>?_⟩
    refine ⟨⟨by omega,by omega⟩,⟨by omega,by omega⟩,⟨by omega,by omega⟩,fun c1=>?_,fun c1=>?_⟩
    ·replace c1:=yq c1
     have hbl:(eE (m:Int)).length≤3:=sT _ 3
     have hE:=aJW (m:=(m:Int)) hn hA (by omega) (by omega)
     have hE2:=aHG (m:=(m:Int)) hn hA (by omega) (by omega)
     refine ⟨aOe _ _,aMT _,aGx (m:Int) (by omega),aMR _ (eE (m:Int)) (by omega) (by omega),aMV _,rfl,rfl,fun _=>rfl,by first | omega | (simp [ho];omega),?_⟩
     refine ⟨⟨by omega,by omega⟩,?_⟩
     exact ⟨m+1,_,rfl,rfl,⟨by omega,by rw [ho,List.range_succ,List.map_append,List.map_cons,List.map_nil,tcC];first | (rw [hE];done) | (rw [hE2];done)⟩,by omega⟩
    ·replace c1:=nq c1
     refine ⟨?_,trivial⟩
     ·first | (rw [pI hbad]<;>rfl) | (rw [mK hok,ho,show ((2:Int)^x.arity.toNat - 1).toNat=m by omega])
theorem aHr {s:StoreD} {q:QueryD} {m:Int} (h:vL s q m=true):eX m=kT (jQ m) q.atoms.length:=by
 obtain ⟨_,_,_,h1,h2,_,_,h3⟩:=aCR h
 exact aO1 ⟨by omega,h2⟩ h3.2
theorem aHI (m:Int):(eX m).length≤4:=by
 cases h:dP m 0 15 with
 | false=>rw [aFB h];exact Nat.zero_le _
 | true=>rw [yV h];exact aEx _ _
theorem aOf {s:StoreD} {q:QueryD} {m x:Int} (h:vL s q m=true) (hx:x∈eX m):0≤x∧x.toNat<q.atoms.length∧jQ m x.toNat=true:=by
 rw [aHr h] at hx
 exact aJP.1 hx
def qcA (s:StoreD) (q:QueryD) (x:Int):List aF:=kG (fC s q x.toNat) (q.atoms.getD x.toNat pB)
def qcL (s:StoreD) (q:QueryD) (l:List Int):List aF:=l.flatMap (qcA s q)
def aB2 (s:StoreD) (q:QueryD) (l:List Int):Bool:=l.all fun x=> !decide ((qcA s q x).length=0)
def fD (s:StoreD) (q:QueryD) (m:Int):List aF:=if (vL s q m&&aB2 s q (eX m))=true then qcL s q (eX m) else []
theorem lV {s:StoreD} {q:QueryD} {m:Int} (h:vL s q m=true) (h2:aB2 s q (eX m)=true):fD s q m=qcL s q (eX m):=by rw [fD,if_pos (by rw [h,h2];rfl)]
theorem oP {s:StoreD} {q:QueryD} {m:Int} (h:vL s q m=false):fD s q m= []:=by rw [fD,if_neg (by rw [h];simp)]
theorem lW {s:StoreD} {q:QueryD} {m x:Int} (hx:x∈eX m) (h:(qcA s q x).length=0):fD s q m= []:=by
 rw [fD,if_neg]
 intro h2
 rw [Bool.and_eq_true] at h2
 have:=List.all_eq_true.1 h2.2 x hx
 simp [h] at this
theorem aFR (s:StoreD) (q:QueryD) (l:List Int) (x:Int):qcL s q (l++[x])=qcL s q l++qcA s q x:=by
 rw [qcL,List.flatMap_append];simp [qcL]
theorem aCS {s:StoreD} {q:QueryD} {l:List Int} {x:Int} (h:aB2 s q l=true) (hx: ¬((qcA s q x).length:Int)=0):aB2 s q (l++[x])=true:=by
 rw [aB2,List.all_append,Bool.and_eq_true]
 refine ⟨h,?_⟩
 simp only [List.all_cons,List.all_nil,Bool.and_true,Bool.not_eq_true',decide_eq_false_iff_not]
 omega
theorem aD9 (s:StoreD) (q:QueryD): ∀l:List Int,(qcL s q l).length≤7*l.length
 | []=>Nat.zero_le _
 | x::l=>by
   have h1:=aFL (fC s q x.toNat) (q.atoms.getD x.toNat pB)
   have h2:=aD9 s q l
   have h3:qcL s q (x::l)=qcA s q x++qcL s q l:=by simp [qcL]
   rw [h3,List.length_append,List.length_cons]
   unfold qcA
   omega
theorem aMb (s:StoreD) (q:QueryD) (m:Int):(fD s q m).length≤28:=by
 unfold fD
 split
 ·have h1:=aD9 s q (eX m)
  have h2:=aHI m
  omega
 ·exact Nat.zero_le _
end Go.Proofs.YtokkjaflmcjlhaaGreat
