/-
  Contracts and plain laws, joined: part 16.
-/
import Derived.Test.YtpoobcnmhnbdlaaP111
import Derived.Test.YtpoobcnmhnbdlaaP112
import Derived.Test.YtpoobcnmhnbdlaaP113
import Derived.Test.YtpoobcnmhnbdlaaP114
import Derived.Test.YtpoobcnmhnbdlaaP110
namespace Go.Proofs.Ytpoobcnmhnbdlaa
open Go.ChangeShapes Go.WideShapes Go.ChangeAt Go.RowKit
set_option linter.unusedVariables false
set_option linter.unusedSimpArgs false
set_option maxRecDepth 100000
set_option maxHeartbeats 4000000
theorem aCP {α:Type} {f:α→Nat} {b:Nat}: ∀{l:List α},(∀x∈l,f x≤b)→cZ f l≤l.length*b
 | [],_=>by simp [cZ]
 | a::l,h=>by
   have h1:=h a (by simp)
   have h2:=aCP (l:=l) fun x hx=>h x (by simp [hx])
   simp only [cZ,List.map_cons,List.sum_cons,List.length_cons,Nat.add_mul,Nat.one_mul] at*
   omega
theorem aEE {d:DictionaryD} (h:cB d=true):bU d≤3000:=by
 obtain ⟨b1,b2,b3,b4,b5,b6,b7,b8⟩:=fR h
 have hs:cZ aV d.table≤d.table.length*15:=aCP fun r hr=>by
  have:=(b5 r hr).1
  have e:aV r=r.length:=rfl
  omega
 have e1:bU d=bL d.basic+bL d.others+bQ d.table+aV d.limits+aV d.costs:=rfl
 have e2:bL d.basic=d.basic.length:=rfl
 have e3:bL d.others=d.others.length:=rfl
 have e4:bQ d.table=d.table.length+cZ aV d.table:=rfl
 have e5:aV d.limits=d.limits.length:=rfl
 have e6:aV d.costs=d.costs.length:=rfl
 omega
theorem aEk (d:DictionaryD) (i j:Int):bU (aW d i j).1≤3000:=by
 unfold aW
 split
 ·rename_i h
  cases e:(eA d i.toNat j.toNat).2 with
  | true=>exact aEE (aCi h.1 (by omega) (by omega) e).1
  | false=>
    unfold eA at*
    split at e
    ·cases e
    ·rename_i h2;rw [if_neg h2];decide
 ·decide
theorem lawPivotDictionary (a0:DictionaryD) (a1:Int) (a2:Int) (h0:sZ a0) (h1:Fits a1) (h2:Fits a2):gF Try.prog 4 [.agg [.sl 3 1 (a0.basic.map aG),.sl 3 1 (a0.others.map aG),.sl 29 1 (a0.table.map aD),.sl 28 2 (a0.limits.map aA),.sl 28 2 (a0.costs.map aA),.int .i64 a0.value.num,.int .i64 a0.value.den],.one (.int .i64 a1),.one (.int .i64 a2)] (vB true) []:=by
 refine cT dR bK Try.func4 (by kernel_rfl) (.call (vI (aX (bU a0) (1048576:Int))) []<| .br (.fin []) (dA (hJ a0)<| dA (rB a0 a1 a2)<| dA (hJ a0)<| dA (rA a0 a1 a2)<| .call (vB true) []<| .lit<| .lit<| .lit<| .lit<| .no<| dA (hJ a0)<| .call (vB true) []<| fN (gZ a0 (1:Int)) [(0,3200),(1,3201),(2,3202),(3,3203),(4,3204)]<| .no<| .call (vB true) []<| .lit<| .lit<| .lit<| .lit<| .lit<| .lit<| .no<| fN (gZ ((aW a0 a1 a2).1) (1:Int)) [(0,3700),(1,3701),(2,3702),(3,3703),(4,3704)]<| .call (vI ((1:Int)+((dB ((aW a0 a1 a2).1):Nat):Int))) []<| .no<| .no<| dA (hJ a0)<| dA (rA a0 a1 a2)<| .call (vB true) []<| .lit<| .lit<| .lit<| .lit<| .no<| .call (vI ((1:Int)+((dB ((aW a0 a1 a2).1):Nat):Int))) []<| .no<| .no<| .fin [])) (p:=(a0.basic.map aG).length≤9223372036854775807→(a0.others.map aG).length≤9223372036854775807→(a0.table.map aD).length≤9223372036854775807→(a0.limits.map aA).length≤9223372036854775807→(a0.costs.map aA).length≤9223372036854775807→rX a0 (1048576:Int)∧(((decide ((aX (bU a0) (1048576:Int))<(0:Int)))=true→(true)=true∧True)∧((decide ((aX (bU a0) (1048576:Int))<(0:Int)))=false→iY a0∧vM a0 a1 a2∧iY a0∧vL a0 a1 a2∧iZ ((aW a0 a1 a2).1)∧(!(((aW a0 a1 a2).2)==((aW a0 a1 a2).2)))=false∧iY a0∧iZ a0∧nK a0 (1:Int)∧a0.value.num=a0.value.num∧a0.value.den=a0.value.den∧(1:Int)=(1:Int)∧a0.basic.map aG=a0.basic.map aG∧a0.others.map aG=a0.others.map aG∧a0.table.map aD=a0.table.map aD∧a0.limits.map aA=a0.limits.map aA∧a0.costs.map aA=a0.costs.map aA∧(decide (((1:Int)+((dB a0:Nat):Int))<(0:Int)))=false∧iZ ((aW a0 a1 a2).1)∧(!(((aW a0 a1 a2).2)==((aW a0 a1 a2).2)))=false∧nK ((aW a0 a1 a2).1) (1:Int)∧((((aW a0 a1 a2).1).value).num)=((((aW a0 a1 a2).1).value).num)∧((((aW a0 a1 a2).1).value).den)=((((aW a0 a1 a2).1).value).den)∧(1:Int)=(1:Int)∧(((aW a0 a1 a2).1).basic).map aG=(((aW a0 a1 a2).1).basic).map aG∧(((aW a0 a1 a2).1).others).map aG=(((aW a0 a1 a2).1).others).map aG∧(((aW a0 a1 a2).1).table).map aD=(((aW a0 a1 a2).1).table).map aD∧(((aW a0 a1 a2).1).limits).map aA=(((aW a0 a1 a2).1).limits).map aA∧(((aW a0 a1 a2).1).costs).map aA=(((aW a0 a1 a2).1).costs).map aA∧gF Try.prog 20 [.agg [.sl 3 1 (((bF (1:Int) ((aW a0 a1 a2).1)).basic).map aG),.sl 3 1 (((bF (1:Int) ((aW a0 a1 a2).1)).others).map aG),.sl 29 1 (((bF (1:Int) ((aW a0 a1 a2).1)).table).map aD),.sl 28 2 (((bF (1:Int) ((aW a0 a1 a2).1)).limits).map aA),.sl 28 2 (((bF (1:Int) ((aW a0 a1 a2).1)).costs).map aA),.int .i64 ((((aW a0 a1 a2).1).value).num),.int .i64 ((((aW a0 a1 a2).1).value).den)],.one (.int .i64 (1:Int))] (vI ((1:Int)+((dB ((aW a0 a1 a2).1):Nat):Int))) []∧(decide (((1:Int)+((dB ((aW a0 a1 a2).1):Nat):Int))<(0:Int)))=false∧(!(decide (((1:Int)+((dB ((aW a0 a1 a2).1):Nat):Int))=((1:Int)+((dB ((aW a0 a1 a2).1):Nat):Int)))))=false∧iY a0∧vL a0 a1 a2∧iZ ((aW a0 a1 a2).1)∧(!(((aW a0 a1 a2).2)==((aW a0 a1 a2).2)))=false∧gF Try.prog 20 [.agg [.sl 3 1 (((bF (1:Int) ((aW a0 a1 a2).1)).basic).map aG),.sl 3 1 (((bF (1:Int) ((aW a0 a1 a2).1)).others).map aG),.sl 29 1 (((bF (1:Int) ((aW a0 a1 a2).1)).table).map aD),.sl 28 2 (((bF (1:Int) ((aW a0 a1 a2).1)).limits).map aA),.sl 28 2 (((bF (1:Int) ((aW a0 a1 a2).1)).costs).map aA),.int .i64 ((((aW a0 a1 a2).1).value).num),.int .i64 ((((aW a0 a1 a2).1).value).den)],.one (.int .i64 (1:Int))] (vI ((1:Int)+((dB ((aW a0 a1 a2).1):Nat):Int))) []∧(decide (((1:Int)+((dB ((aW a0 a1 a2).1):Nat):Int))<(0:Int)))=false∧(!(decide (((1:Int)+((dB ((aW a0 a1 a2).1):Nat):Int))=((1:Int)+((dB ((aW a0 a1 a2).1):Nat):Int)))))=false∧(true)=true∧True))) (by kernel_rfl) ?_
 intro n0 n1 n2 n3 n4
 simp only [List.length_map] at n0 n1 n2 n3 n4
 refine ⟨aB2 a0 _ (by first | assumption | exact hf) (by omega) (by omega),fun c0=>?_,fun c0=>?_⟩
 ·replace c0:=yq c0
  refine ⟨?_,trivial⟩
  ·rfl
 ·replace c0:=nq c0
  try (have y0:=pA c0;try rw [bC y0] at*)
  have f2:=aEk a0 a1 a2
  have f6:=rS (aW a0 a1 a2).1
  have f7:a0.basic.length≤bU a0:=by have e1:bU a0=bL a0.basic+bL a0.others+bQ a0.table+aV a0.limits+aV a0.costs:=rfl;have e2:bL a0.basic=a0.basic.length:=rfl;omega
  have f8:a0.others.length≤bU a0:=by have e1:bU a0=bL a0.basic+bL a0.others+bQ a0.table+aV a0.limits+aV a0.costs:=rfl;have e2:bL a0.others=a0.others.length:=rfl;omega
  have sa0:=rS a0
  refine ⟨mN a0 (by first | omega | (have:=cDictionaryS_el ‹x[k]? =some _›;omega)),aEB a0 a1 a2 (by omega) (by omega),mN a0 (by first | omega | (have:=cDictionaryS_el ‹x[k]? =some _›;omega)),aEA a0 a1 a2 (by omega) (by omega),by first | exact gK ((aW a0 a1 a2).1) | exact gK _,by first | (simp;done) | (simp;omega) | (simp [*];done),mN a0 (by first | omega | (have:=cDictionaryS_el ‹x[k]? =some _›;omega)),by first | exact gK a0 | exact gK _,uJ _ _ (by omega) (by first | omega | (dsimp only;omega)),rfl,rfl,rfl,rfl,rfl,rfl,rfl,rfl,by first | (simp;done) | (simp;omega) | (simp [*];done),by first | exact gK ((aW a0 a1 a2).1) | exact gK _,by first | (simp;done) | (simp;omega) | (simp [*];done),uJ _ _ (by omega) (by first | omega | (dsimp only;omega)),rfl,rfl,rfl,rfl,rfl,rfl,rfl,rfl,uL _ _ (by omega) (by first | omega | (dsimp only;omega)),by first | (simp;done) | (simp;omega) | (simp [*];done),by first | (simp;done) | (simp;omega) | (simp [*];done),mN a0 (by first | omega | (have:=cDictionaryS_el ‹x[k]? =some _›;omega)),aEA a0 a1 a2 (by omega) (by omega),by first | exact gK ((aW a0 a1 a2).1) | exact gK _,by first | (simp;done) | (simp;omega) | (simp [*];done),uL _ _ (by omega) (by first | omega | (dsimp only;omega)),by first | (simp;done) | (simp;omega) | (simp [*];done),by first | (simp;done) | (simp;omega) | (simp [*];done),?_,trivial⟩
  ·rfl
theorem aFS {p:ProgramD} (h:(eD p).2=true):cW p=true:=by
 cases e:cW p with
 | true=>rfl
 | false=>rw [dM e] at h;cases h
theorem bO {p:ProgramD} (h:(eD p).2=false):cW p=false:=by
 cases e:cW p with
 | false=>rfl
 | true=>rw [cQ e] at h;cases h
theorem aEF (n:Nat):(List.replicate n (0:Int)).map aJ=List.replicate n (aJ 0):=List.map_replicate
theorem uC {d:DictionaryD} {n k:Nat} {v:Int} {x:aC} (hv:d.basic[k]? =some v) (hx:d.limits[k]? =some x) (h:v<n):jL d n (k+1)=(jL d n k).set v.toNat x:=by rw [jL,aY hv,aY hx,if_pos h]
theorem xG {d:DictionaryD} {n k:Nat} {v:Int} (hv:d.basic[k]? =some v) (h: ¬v<n):jL d n (k+1)=jL d n k:=by rw [jL,aY hv,if_neg h]
theorem uD {d:DictionaryD} {n m k:Nat} {v:Int} {x:aC} (hv:d.others[k]? =some v) (hx:d.costs[k]? =some x) (h:(n:Int)≤v):jM d n m (k+1)=(jM d n m k).set (v - n).toNat (dL x):=by rw [jM,aY hv,aY hx,if_pos h]
theorem xH {d:DictionaryD} {n m k:Nat} {v:Int} (hv:d.others[k]? =some v) (h: ¬(n:Int)≤v):jM d n m (k+1)=jM d n m k:=by rw [jM,aY hv,if_neg h]
abbrev rF (p:ProgramD):AV × List (Nat × Rs):=(.tup [.agg [vI ((((cH p).1).value).num),vI ((((cH p).1).value).den),.own 0,.own 1],vB ((cH p).2)],[(0,.arr 28 2 true ((((cH p).1).primal).map aA)),(1,.arr 28 2 true ((((cH p).1).dual).map aA))])
abbrev vO (p:ProgramD):Prop:=gF Try.prog 8 [.agg [.sl 3 1 (p.objective.map aG),.sl 22 1 (p.rows.map bD),.sl 3 1 (p.limits.map aG)]] (rF p).1 (rF p).2
theorem aEG (p:ProgramD) (hrs: ∀r∈p.rows,r.length≤1048576):vO p:=by
 refine cT dR bK Try.func8 (by kernel_rfl) (dA (vK p)<| .br (.fin []) (.loop (Nat × DictionaryD) (Q2 Nat DictionaryD) [5,6,7,8,15,17,18,23,24,25,26,27,28,29,30,31,32,33,34,35,36,37,38,40,41,42,43,44,45,46,47,48] [400,1700,1701,1702,1703,1704,4400,4401,4402,4403,4404] (fun yy0=>[(6,vI (yy0.1:Int))]) (fun yy0=>[(400,some (.box 49 [.own 1700,.own 1701,.own 1702,.own 1703,.own 1704,vI yy0.2.value.num,vI yy0.2.value.den])),(1700,some (.arr 3 1 true (yy0.2.basic.map aG))),(1701,some (.arr 3 1 true (yy0.2.others.map aG))),(1702,some (.arr 29 1 true (yy0.2.table.map aD))),(1703,some (.arr 28 2 true (yy0.2.limits.map aA))),(1704,some (.arr 28 2 true (yy0.2.costs.map aA)))]) (fun yy0=>yy0.1≤299∧cB yy0.2=true∧yy0.2.basic.length=p.rows.length∧yy0.2.others.length=p.objective.length∧fE (300 - yy0.1) yy0.2=fE 300 (gQ p)) (fun yy0=>300 - yy0.1) (fun yy0=> .call (vI (eC yy0.2)) []<| .br (.call (vI (eC yy0.2)) []<| .call (vI (fJ yy0.2 (eC yy0.2).toNat)) []<| .br (.fin []) (.lit<| .lit<| .br (.fin []) (dA (aCn yy0.2 (fJ yy0.2 (eC yy0.2).toNat) (eC yy0.2))<| .br (.fin []) (.back [(400,400),(1700,4400),(1701,4401),(1702,4402),(1703,4403),(1704,4404)])))) (.len p.objective.length<| .mk p.objective.length [.int .i64 (0:Int)] ((List.replicate p.objective.length (0:Int)).map aG)<| dA (kS (List.replicate p.objective.length (0:Int)))<| .len p.rows.length<| .mk p.rows.length [.int .i64 (0:Int)] ((List.replicate p.rows.length (0:Int)).map aG)<| dA (kS (List.replicate p.rows.length (0:Int)))<| .len yy0.2.basic.length<| .loop (Nat × (List aC)) (Q2 Nat (List aC)) [11,12,67,68,69,70,71,72,73,74,75,76,77,78,79,80,81,82,83,84] [5700] (fun yy1=>[(67,vI (yy1.1:Int))]) (fun yy1=>[(5700,some (.arr 28 2 true (yy1.2.map aA)))]) (fun yy1=>yy1.1≤yy0.2.basic.length∧yy1.2=jL yy0.2 p.objective.length yy1.1∧yy1.2.length=p.objective.length) (fun yy1=>yy0.2.basic.length - yy1.1) (fun yy1=> .br (.len yy0.2.basic.length<| .elem _ aG yy0.2.basic (fun e71=> .br (.len yy0.2.limits.length<| .elem _ aA yy0.2.limits (fun e82=> .len yy1.2.length<| .set aC aA yy1.2 (fun s20_9=>e82) (fun s20_9=> .back [(5700,5700)]))) (.back [(5700,5700)]))) (.len yy0.2.others.length<| .loop (Nat × (List aC)) (Q2 Nat (List aC)) [13,14,88,89,90,91,92,93,94,95,96,97,98,99,100,101,102,103,104,105,106,107,108] [6200] (fun yy2=>[(88,vI (yy2.1:Int))]) (fun yy2=>[(6200,some (.arr 28 2 true (yy2.2.map aA)))]) (fun yy2=>yy2.1≤yy0.2.others.length∧yy2.2=jM yy0.2 p.objective.length p.rows.length yy2.1∧yy2.2.length=p.rows.length) (fun yy2=>yy0.2.others.length - yy2.1) (fun yy2=> .br (.len yy0.2.others.length<| .elem _ aG yy0.2.others (fun e92=> .br (.len yy0.2.costs.length<| .elem _ aA yy0.2.costs (fun e105=> .call (.agg [vI ((dL e105).num),vI ((dL e105).den)]) []<| .len yy2.2.length<| .set aC aA yy2.2 (fun s26_12=>(dL e105)) (fun s26_12=> .back [(6200,6200)]))) (.back [(6200,6200)]))) (.fin [(0,5700),(1,6200)])))))))) (p:=(p.objective.map aG).length≤9223372036854775807→(p.rows.map bD).length≤9223372036854775807→(p.limits.map aG).length≤9223372036854775807→aAu p∧(((!((eD p).2))=true→(0:Int)=((((cH p).1).value).num)∧(0:Int)=((((cH p).1).value).den)∧(false)=((cH p).2)∧[]=(((cH p).1).primal).map aA∧[]=(((cH p).1).dual).map aA∧True)∧((!((eD p).2))=false→(∃(s:Nat) (x:DictionaryD),(0:Int)=(s:Int)∧((((eD p).1).value).num)=x.value.num∧((((eD p).1).value).den)=x.value.den∧(((eD p).1).basic).map aG=x.basic.map aG∧(((eD p).1).others).map aG=x.others.map aG∧(((eD p).1).table).map aD=x.table.map aD∧(((eD p).1).limits).map aA=x.limits.map aA∧(((eD p).1).costs).map aA=x.costs.map aA∧s≤299∧cB x=true∧x.basic.length=p.rows.length∧x.others.length=p.objective.length∧fE (300 - s) x=fE 300 (gQ p))∧ ∀(s:Nat) (x:DictionaryD),(s≤299∧cB x=true∧x.basic.length=p.rows.length∧x.others.length=p.objective.length∧fE (300 - s) x=fE 300 (gQ p))→vG x∧(((decide ((0:Int)≤(eC x)))=true→vG x∧(aAm x (eC x)∧(((decide ((fJ x (eC x).toNat)<(0:Int)))=true→(0:Int)=((((cH p).1).value).num)∧(0:Int)=((((cH p).1).value).den)∧(false)=((cH p).2)∧[]=(((cH p).1).primal).map aA∧[]=(((cH p).1).dual).map aA∧True)∧((decide ((fJ x (eC x).toNat)<(0:Int)))=false→((decide ((s:Int)=(299:Int)))=true→(0:Int)=((((cH p).1).value).num)∧(0:Int)=((((cH p).1).value).den)∧(false)=((cH p).2)∧[]=(((cH p).1).primal).map aA∧[]=(((cH p).1).dual).map aA∧True)∧((decide ((s:Int)=(299:Int)))=false→aEg x (fJ x (eC x).toNat) (eC x)∧(((!((eA x (fJ x (eC x).toNat).toNat (eC x).toNat).2))=true→(0:Int)=((((cH p).1).value).num)∧(0:Int)=((((cH p).1).value).den)∧(false)=((cH p).2)∧[]=(((cH p).1).primal).map aA∧[]=(((cH p).1).dual).map aA∧True)∧((!((eA x (fJ x (eC x).toNat).toNat (eC x).toNat).2))=false→dN ((s:Int)+(1:Int))∧ ∃(s' :Nat) (x' :DictionaryD),((s:Int)+(1:Int))=(s' :Int)∧((((eA x (fJ x (eC x).toNat).toNat (eC x).toNat).1).value).num)=x'.value.num∧((((eA x (fJ x (eC x).toNat).toNat (eC x).toNat).1).value).den)=x'.value.den∧(((eA x (fJ x (eC x).toNat).toNat (eC x).toNat).1).basic).map aG=x'.basic.map aG∧(((eA x (fJ x (eC x).toNat).toNat (eC x).toNat).1).others).map aG=x'.others.map aG∧(((eA x (fJ x (eC x).toNat).toNat (eC x).toNat).1).table).map aD=x'.table.map aD∧(((eA x (fJ x (eC x).toNat).toNat (eC x).toNat).1).limits).map aA=x'.limits.map aA∧(((eA x (fJ x (eC x).toNat).toNat (eC x).toNat).1).costs).map aA=x'.costs.map aA∧(s' ≤299∧cB x' =true∧x'.basic.length=p.rows.length∧x'.others.length=p.objective.length∧fE (300 - s') x' =fE 300 (gQ p))∧300 - s' <300 - s)))))))∧((decide ((0:Int)≤(eC x)))=false→Lm aG p.objective∧(((p.objective.length:Nat):Int)=((p.objective.length:Nat):Int)∧((p.objective.length:Nat):Int)=((p.objective.length:Nat):Int)∧8*p.objective.length≤281474976710656∧p.objective.length≤9223372036854775807∧List.replicate p.objective.length [.int .i64 (0:Int)]=(List.replicate p.objective.length (0:Int)).map aG∧(mG (List.replicate p.objective.length (0:Int))∧(Lm bD p.rows∧(((p.rows.length:Nat):Int)=((p.rows.length:Nat):Int)∧((p.rows.length:Nat):Int)=((p.rows.length:Nat):Int)∧8*p.rows.length≤281474976710656∧p.rows.length≤9223372036854775807∧List.replicate p.rows.length [.int .i64 (0:Int)]=(List.replicate p.rows.length (0:Int)).map aG∧(mG (List.replicate p.rows.length (0:Int))∧(Lm aG x.basic∧((∃(k:Nat) (pm:List aC),(0:Int)=(k:Int)∧((List.replicate p.objective.length (0:Int)).map aJ).map aA=pm.map aA∧k≤x.basic.length∧pm=jL x p.objective.length k∧pm.length=p.objective.length)∧ ∀(k:Nat) (pm:List aC),(k≤x.basic.length∧pm=jL x p.objective.length k∧pm.length=p.objective.length)→((decide ((k:Int)<((x.basic.length:Nat):Int)))=true→0≤(k:Int)∧Lm aG x.basic∧(k:Int)<((x.basic.length:Nat):Int)∧Em aG x.basic k fun e71=>((decide (e71<((p.objective.length:Nat):Int)))=true→0≤(k:Int)∧Lm aA x.limits∧(k:Int)<((x.limits.length:Nat):Int)∧Em aA x.limits k fun e82=>0≤e71∧Lm aA pm∧e71<((pm.length:Nat):Int)∧(pm.map aA=pm.map aA∧(e71).toNat<pm.length∧ ∀s20_9,pm[(e71).toNat]? =some s20_9→cV (aA s20_9)=true∧0+2≤(aA s20_9).length∧(aA s20_9).take 0++[.int .i64 e82.num,.int .i64 e82.den]++(aA s20_9).drop (0+2)=aA e82∧dN ((k:Int)+(1:Int))∧ ∃(k' :Nat) (pm' :List aC),((k:Int)+(1:Int))=(k' :Int)∧(pm.set ((e71).toNat) e82).map aA=pm'.map aA∧(k' ≤x.basic.length∧pm' =jL x p.objective.length k' ∧pm'.length=p.objective.length)∧x.basic.length - k' <x.basic.length - k))∧((decide (e71<((p.objective.length:Nat):Int)))=false→dN ((k:Int)+(1:Int))∧ ∃(k' :Nat) (pm' :List aC),((k:Int)+(1:Int))=(k' :Int)∧pm.map aA=pm'.map aA∧(k' ≤x.basic.length∧pm' =jL x p.objective.length k' ∧pm'.length=p.objective.length)∧x.basic.length - k' <x.basic.length - k))∧((decide ((k:Int)<((x.basic.length:Nat):Int)))=false→Lm aG x.others∧((∃(k2:Nat) (dl:List aC),(0:Int)=(k2:Int)∧((List.replicate p.rows.length (0:Int)).map aJ).map aA=dl.map aA∧k2≤x.others.length∧dl=jM x p.objective.length p.rows.length k2∧dl.length=p.rows.length)∧ ∀(k2:Nat) (dl:List aC),(k2≤x.others.length∧dl=jM x p.objective.length p.rows.length k2∧dl.length=p.rows.length)→((decide ((k2:Int)<((x.others.length:Nat):Int)))=true→0≤(k2:Int)∧Lm aG x.others∧(k2:Int)<((x.others.length:Nat):Int)∧Em aG x.others k2 fun e92=>((decide (((p.objective.length:Nat):Int)≤e92))=true→dN (e92 - ((p.objective.length:Nat):Int))∧(0≤(k2:Int)∧Lm aA x.costs∧(k2:Int)<((x.costs.length:Nat):Int)∧Em aA x.costs k2 fun e105=>mF e105∧(0≤(e92 - ((p.objective.length:Nat):Int))∧Lm aA dl∧(e92 - ((p.objective.length:Nat):Int))<((dl.length:Nat):Int)∧(dl.map aA=dl.map aA∧(e92 - ((p.objective.length:Nat):Int)).toNat<dl.length∧ ∀s26_12,dl[(e92 - ((p.objective.length:Nat):Int)).toNat]? =some s26_12→cV (aA s26_12)=true∧0+2≤(aA s26_12).length∧(aA s26_12).take 0++[.int .i64 ((dL e105).num),.int .i64 ((dL e105).den)]++(aA s26_12).drop (0+2)=aA (dL e105)∧dN ((k2:Int)+(1:Int))∧ ∃(k2' :Nat) (dl' :List aC),((k2:Int)+(1:Int))=(k2' :Int)∧(dl.set ((e92 - ((p.objective.length:Nat):Int)).toNat) (dL e105)).map aA=dl'.map aA∧(k2' ≤x.others.length∧dl' =jM x p.objective.length p.rows.length k2' ∧dl'.length=p.rows.length)∧x.others.length - k2' <x.others.length - k2))))∧((decide (((p.objective.length:Nat):Int)≤e92))=false→dN ((k2:Int)+(1:Int))∧ ∃(k2' :Nat) (dl' :List aC),((k2:Int)+(1:Int))=(k2' :Int)∧dl.map aA=dl'.map aA∧(k2' ≤x.others.length∧dl' =jM x p.objective.length p.rows.length k2' ∧dl'.length=p.rows.length)∧x.others.length - k2' <x.others.length - k2))∧((decide ((k2:Int)<((x.others.length:Nat):Int)))=false→x.value.num=((((cH p).1).value).num)∧x.value.den=((((cH p).1).value).den)∧(true)=((cH p).2)∧pm.map aA=(((cH p).1).primal).map aA∧dl.map aA=(((cH p).1).dual).map aA∧True))))))))))))))) (by kernel_rfl) ?_
 intro n0 n1 n2
 simp only [List.length_map] at n0 n1 n2
 refine ⟨aHn p (by assumption),fun c0=>?_,fun c0=>?_⟩
 ·replace c0:=nt c0
  refine ⟨?_,?_,?_,?_,?_,trivial⟩
  ·first | (rw [cA (bO c0)]<;>rfl) | (rw [hSB]<;>rfl) | (rw [hSP]<;>first | rfl | (rw [hpm,show k=x.basic.length by omega];rfl) | (rw [hdl,show k2=x.others.length by omega];rfl))
  ·first | (rw [cA (bO c0)]<;>rfl) | (rw [hSB]<;>rfl) | (rw [hSP]<;>first | rfl | (rw [hpm,show k=x.basic.length by omega];rfl) | (rw [hdl,show k2=x.others.length by omega];rfl))
  ·first | (rw [cA (bO c0)]<;>rfl) | (rw [hSB]<;>rfl) | (rw [hSP]<;>first | rfl | (rw [hpm,show k=x.basic.length by omega];rfl) | (rw [hdl,show k2=x.others.length by omega];rfl))
  ·first | (rw [cA (bO c0)]<;>rfl) | (rw [hSB]<;>rfl) | (rw [hSP]<;>first | rfl | (rw [hpm,show k=x.basic.length by omega];rfl) | (rw [hdl,show k2=x.others.length by omega];rfl))
  ·first | (rw [cA (bO c0)]<;>rfl) | (rw [hSB]<;>rfl) | (rw [hSP]<;>first | rfl | (rw [hpm,show k=x.basic.length by omega];rfl) | (rw [hdl,show k2=x.others.length by omega];rfl))
 ·replace c0:=nf c0
  have hp:cW p=true:=aFS c0
  have hIP:=cQ hp
  obtain ⟨q1,q2,q3,q4,q5⟩:=kP hp
  have hil:=aCE p
  rw [hIP]
  refine ⟨⟨0,gQ p,rfl,rfl,rfl,rfl,rfl,rfl,rfl,rfl,by omega,aDt hp,hil.1,hil.2,rfl⟩,fun s x ⟨hn,hd,hbl,hol,hs⟩=>?_⟩
  refine ⟨aDw x (by assumption),fun c1=>?_,fun c1=>?_⟩
  ·replace c1:=yq c1
   obtain ⟨b1,b2,b3,b4,b5,b6,b7,b8⟩:=fR hd
   have eb:=tD x x.others.length
   have hlv:=aDr x (eC x).toNat
   have hedef:eC x=iV x x.others.length:=rfl
   refine ⟨aDw x (by assumption),aHg x (eC x) (by assumption) (by omega),fun g35=>?_,fun g35=>?_⟩
   ·replace g35:=yq g35
    have hSB:cH p=(aCj,false):=qF (hs.symm.trans (yG (by omega) (by omega) (by omega)))
    refine ⟨?_,?_,?_,?_,?_,trivial⟩
    ·first | (rw [cA (bO c0)]<;>rfl) | (rw [hSB]<;>rfl) | (rw [hSP]<;>first | rfl | (rw [hpm,show k=x.basic.length by omega];rfl) | (rw [hdl,show k2=x.others.length by omega];rfl))
    ·first | (rw [cA (bO c0)]<;>rfl) | (rw [hSB]<;>rfl) | (rw [hSP]<;>first | rfl | (rw [hpm,show k=x.basic.length by omega];rfl) | (rw [hdl,show k2=x.others.length by omega];rfl))
    ·first | (rw [cA (bO c0)]<;>rfl) | (rw [hSB]<;>rfl) | (rw [hSP]<;>first | rfl | (rw [hpm,show k=x.basic.length by omega];rfl) | (rw [hdl,show k2=x.others.length by omega];rfl))
    ·first | (rw [cA (bO c0)]<;>rfl) | (rw [hSB]<;>rfl) | (rw [hSP]<;>first | rfl | (rw [hpm,show k=x.basic.length by omega];rfl) | (rw [hdl,show k2=x.others.length by omega];rfl))
    ·first | (rw [cA (bO c0)]<;>rfl) | (rw [hSB]<;>rfl) | (rw [hSP]<;>first | rfl | (rw [hpm,show k=x.basic.length by omega];rfl) | (rw [hdl,show k2=x.others.length by omega];rfl))
   ·replace g35:=nq g35
    refine ⟨fun c2=>?_,fun c2=>?_⟩
    ·replace c2:=yq c2
     have hSB:cH p=(aCj,false):=qF (hs.symm.trans (by first | exact yG (by omega) (by omega) (by omega) | exact aEf (by omega) (by omega)))
     refine ⟨?_,?_,?_,?_,?_,trivial⟩
     ·first | (rw [cA (bO c0)]<;>rfl) | (rw [hSB]<;>rfl) | (rw [hSP]<;>first | rfl | (rw [hpm,show k=x.basic.length by omega];rfl) | (rw [hdl,show k2=x.others.length by omega];rfl))
     ·first | (rw [cA (bO c0)]<;>rfl) | (rw [hSB]<;>rfl) | (rw [hSP]<;>first | rfl | (rw [hpm,show k=x.basic.length by omega];rfl) | (rw [hdl,show k2=x.others.length by omega];rfl))
     ·first | (rw [cA (bO c0)]<;>rfl) | (rw [hSB]<;>rfl) | (rw [hSP]<;>first | rfl | (rw [hpm,show k=x.basic.length by omega];rfl) | (rw [hdl,show k2=x.others.length by omega];rfl))
     ·first | (rw [cA (bO c0)]<;>rfl) | (rw [hSB]<;>rfl) | (rw [hSP]<;>first | rfl | (rw [hpm,show k=x.basic.length by omega];rfl) | (rw [hdl,show k2=x.others.length by omega];rfl))
     ·first | (rw [cA (bO c0)]<;>rfl) | (rw [hSB]<;>rfl) | (rw [hSP]<;>first | rfl | (rw [hpm,show k=x.basic.length by omega];rfl) | (rw [hdl,show k2=x.others.length by omega];rfl))
    ·replace c2:=nq c2
     refine ⟨aKY x (fJ x (eC x).toNat) (eC x) (by assumption) (by omega) (by omega),fun c3=>?_,fun c3=>?_⟩
     ·replace c3:=nt c3
      have hSB:cH p=(aCj,false):=qF (hs.symm.trans (aCF (by omega) (by omega) (by omega) (by assumption)))
      refine ⟨?_,?_,?_,?_,?_,trivial⟩
      ·first | (rw [cA (bO c0)]<;>rfl) | (rw [hSB]<;>rfl) | (rw [hSP]<;>first | rfl | (rw [hpm,show k=x.basic.length by omega];rfl) | (rw [hdl,show k2=x.others.length by omega];rfl))
      ·first | (rw [cA (bO c0)]<;>rfl) | (rw [hSB]<;>rfl) | (rw [hSP]<;>first | rfl | (rw [hpm,show k=x.basic.length by omega];rfl) | (rw [hdl,show k2=x.others.length by omega];rfl))
      ·first | (rw [cA (bO c0)]<;>rfl) | (rw [hSB]<;>rfl) | (rw [hSP]<;>first | rfl | (rw [hpm,show k=x.basic.length by omega];rfl) | (rw [hdl,show k2=x.others.length by omega];rfl))
      ·first | (rw [cA (bO c0)]<;>rfl) | (rw [hSB]<;>rfl) | (rw [hSP]<;>first | rfl | (rw [hpm,show k=x.basic.length by omega];rfl) | (rw [hdl,show k2=x.others.length by omega];rfl))
      ·first | (rw [cA (bO c0)]<;>rfl) | (rw [hSB]<;>rfl) | (rw [hSP]<;>first | rfl | (rw [hpm,show k=x.basic.length by omega];rfl) | (rw [hdl,show k2=x.others.length by omega];rfl))
     ·replace c3:=nf c3
      have hpo:=aCi hd (i:=(fJ x (eC x).toNat).toNat) (j:=(eC x).toNat) (by omega) (by omega) (by assumption)
      refine ⟨⟨by omega,by omega⟩,?_⟩
      exact ⟨s+1,(eA x (fJ x (eC x).toNat).toNat (eC x).toNat).1,rfl,rfl,rfl,rfl,rfl,rfl,rfl,rfl,⟨by omega,hpo.1,hpo.2.1.trans hbl,hpo.2.2.trans hol,(aAh (by omega) (by omega) (by omega) (by assumption)).symm.trans hs⟩,by omega⟩
  ·replace c1:=nq c1
   obtain ⟨b1,b2,b3,b4,b5,b6,b7,b8⟩:=fR hd
   have hF:=aAg (n:=300) (s:=s) (d:=x) (by omega) (by omega)
   have hSP:=aDu hp (hs.symm.trans hF)
   have hft:=aCC hd
   refine ⟨List.length_map _,rfl,rfl,by first | omega | (simp;omega),by first | omega | (simp;omega),by first | (rw [List.map_replicate];done) | (rw [List.map_replicate];rfl),tI (List.replicate p.objective.length (0:Int)) (by first | omega | (simp;omega)),List.length_map _,rfl,rfl,by first | omega | (simp;omega),by first | omega | (simp;omega),by first | (rw [List.map_replicate];done) | (rw [List.map_replicate];rfl),tI (List.replicate p.rows.length (0:Int)) (by first | omega | (simp;omega)),List.length_map _,⟨0,(List.replicate p.objective.length (0:Int)).map aJ,rfl,rfl,Nat.zero_le _,aEF _,by simp⟩,fun k pm ⟨hk,hpm,hpL⟩=>?_⟩
   refine ⟨fun c4=>?_,fun c4=>?_⟩
   ·replace c4:=yq c4
    refine ⟨by omega,List.length_map _,by first | omega | (rw [hpL];omega) | (rw [hdL];omega),rfl,by first | omega | (rw [hpL];omega) | (rw [hdL];omega),fun e71 h71=>?_⟩
    have hv71:=hft.1 _ (List.mem_of_getElem? h71)
    refine ⟨fun c5=>?_,fun c5=>?_⟩
    ·replace c5:=yq c5
     refine ⟨by omega,List.length_map _,by first | omega | (rw [hpL];omega) | (rw [hdL];omega),rfl,by first | omega | (rw [hpL];omega) | (rw [hdL];omega),fun e82 h82=>?_⟩
     refine ⟨by omega,List.length_map _,by first | omega | (rw [hpL];omega) | (rw [hdL];omega),rfl,by first | omega | (rw [hpL];omega) | (rw [hdL];omega),fun s20_9 hs20_9=>⟨rfl,Nat.le_of_ble_eq_true rfl,rfl,?_⟩⟩
     refine ⟨⟨by omega,by omega⟩,?_⟩
     exact ⟨k+1,_,rfl,rfl,⟨by omega,by first | (rw [hpm,uC h71 h82 (by omega)]<;>rfl) | (rw [hpm,xG h71 (by omega)]<;>rfl),by first | exact hpL | (rw [List.length_set];exact hpL)⟩,by omega⟩
    ·replace c5:=nq c5
     refine ⟨⟨by omega,by omega⟩,?_⟩
     exact ⟨k+1,_,rfl,rfl,⟨by omega,by first | (rw [hpm,uC h71 h82 (by omega)]<;>rfl) | (rw [hpm,xG h71 (by omega)]<;>rfl),by first | exact hpL | (rw [List.length_set];exact hpL)⟩,by omega⟩
   ·replace c4:=nq c4
    refine ⟨List.length_map _,⟨0,(List.replicate p.rows.length (0:Int)).map aJ,rfl,rfl,Nat.zero_le _,aEF _,by simp⟩,fun k2 dl ⟨hk2,hdl,hdL⟩=>?_⟩
    refine ⟨fun c6=>?_,fun c6=>?_⟩
    ·replace c6:=yq c6
     refine ⟨by omega,List.length_map _,by first | omega | (rw [hpL];omega) | (rw [hdL];omega),rfl,by first | omega | (rw [hpL];omega) | (rw [hdL];omega),fun e92 h92=>?_⟩
     have hv92:=hft.2 _ (List.mem_of_getElem? h92)
     refine ⟨fun c7=>?_,fun c7=>?_⟩
     ·replace c7:=yq c7
      refine ⟨⟨by omega,by omega⟩,by omega,List.length_map _,by first | omega | (rw [hpL];omega) | (rw [hdL];omega),rfl,by first | omega | (rw [hpL];omega) | (rw [hdL];omega),fun e105 h105=>?_⟩
      have hc105:=cF (b7.2 _ (List.mem_of_getElem? h105))
      refine ⟨tH e105 (by first | omega | exact aAr _ _),by omega,List.length_map _,by first | omega | (rw [hpL];omega) | (rw [hdL];omega),rfl,by first | omega | (rw [hpL];omega) | (rw [hdL];omega),fun s26_12 hs26_12=>⟨rfl,Nat.le_of_ble_eq_true rfl,rfl,?_⟩⟩
      refine ⟨⟨by omega,by omega⟩,?_⟩
      exact ⟨k2+1,_,rfl,rfl,⟨by omega,by first | (rw [hdl,uD h92 h105 (by omega)]<;>rfl) | (rw [hdl,xH h92 (by omega)]<;>rfl),by first | exact hdL | (rw [List.length_set];exact hdL)⟩,by omega⟩
     ·replace c7:=nq c7
      refine ⟨⟨by omega,by omega⟩,?_⟩
      exact ⟨k2+1,_,rfl,rfl,⟨by omega,by first | (rw [hdl,uD h92 h105 (by omega)]<;>rfl) | (rw [hdl,xH h92 (by omega)]<;>rfl),by first | exact hdL | (rw [List.length_set];exact hdL)⟩,by omega⟩
    ·replace c6:=nq c6
     refine ⟨?_,?_,?_,?_,?_,trivial⟩
     ·first | (rw [cA (bO c0)]<;>rfl) | (rw [hSB]<;>rfl) | (rw [hSP]<;>first | rfl | (rw [hpm,show k=x.basic.length by omega];rfl) | (rw [hdl,show k2=x.others.length by omega];rfl))
     ·first | (rw [cA (bO c0)]<;>rfl) | (rw [hSB]<;>rfl) | (rw [hSP]<;>first | rfl | (rw [hpm,show k=x.basic.length by omega];rfl) | (rw [hdl,show k2=x.others.length by omega];rfl))
     ·first | (rw [cA (bO c0)]<;>rfl) | (rw [hSB]<;>rfl) | (rw [hSP]<;>first | rfl | (rw [hpm,show k=x.basic.length by omega];rfl) | (rw [hdl,show k2=x.others.length by omega];rfl))
     ·first | (rw [cA (bO c0)]<;>rfl) | (rw [hSB]<;>rfl) | (rw [hSP]<;>first | rfl | (rw [hpm,show k=x.basic.length by omega];rfl) | (rw [hdl,show k2=x.others.length by omega];rfl))
     ·first | (rw [cA (bO c0)]<;>rfl) | (rw [hSB]<;>rfl) | (rw [hSP]<;>first | rfl | (rw [hpm,show k=x.basic.length by omega];rfl) | (rw [hdl,show k2=x.others.length by omega];rfl))
abbrev vP (p:ProgramD):AV × List (Nat × Rs):=(.tup [.agg [.own 0,.own 1,.own 2,.own 3,.own 4,vI ((((eD p).1).value).num),vI ((((eD p).1).value).den)],vB ((eD p).2)],[(0,.arr 3 1 true ((((eD p).1).basic).map aG)),(1,.arr 3 1 true ((((eD p).1).others).map aG)),(2,.arr 29 1 true ((((eD p).1).table).map aD)),(3,.arr 28 2 true ((((eD p).1).limits).map aA)),(4,.arr 28 2 true ((((eD p).1).costs).map aA))])
abbrev aBB (p:ProgramD):Prop:=gF Try.prog 23 [.agg [.sl 3 1 (p.objective.map aG),.sl 22 1 (p.rows.map bD),.sl 3 1 (p.limits.map aG)]] (vP p).1 (vP p).2
theorem aHr (p:ProgramD):aBB p:=by
 refine cT dR bK Try.func23 (by kernel_rfl) (.call (vB (cW p)) []<| .br (.fin []) (.len p.objective.length<| .call (.agg [vI ((aJ (0:Int)).num),vI ((aJ (0:Int)).den)]) []<| .loop (Nat × (List Int) × (List aC)) (Q3 Nat (List Int) (List aC)) [6,19,20,21,22,23,24,25,26,27,28,29,30,31,32,33,34,35,36,37,38,39,40] [500,2700,2800,3800,3900,9001,9004] (fun yy0=>[(6,vI (yy0.1:Int))]) (fun yy0=>[(500,some (.box 49 [.nil,.own 9001,.nil,.nil,.own 9004,vI ((aJ 0).num),vI ((aJ 0).den)])),(9001,some (.arr 3 1 true (yy0.2.1.map aG))),(9004,some (.arr 28 2 true (yy0.2.2.map aA)))]) (fun yy0=>yy0.1≤p.objective.length∧yy0.2.1=upto yy0.1∧yy0.2.1.length=yy0.1∧yy0.2.2=(p.objective.take yy0.1).map aJ∧yy0.2.2.length=yy0.1) (fun yy0=>p.objective.length - yy0.1) (fun yy0=> .br (.app Int aG yy0.2.1 ([(yy0.1:Int)]:List Int)<| .elem _ aG p.objective (fun e35=> .call (.agg [vI ((aJ e35).num),vI ((aJ e35).den)]) []<| .app aC aA yy0.2.2 ([(aJ e35)]:List aC)<| .back [(500,500),(9001,2800),(9004,3900)])) (.loop (Nat × (List Int) × (List (List aC)) × (List aC)) (Q4 Nat (List Int) (List (List aC)) (List aC)) [7,8,9,41,42,43,44,45,46,47,48,49,50,51,52,53,54,55,56,57,58,59,60,61,62,63,64,65,66,67,68,69,70,71,72,73,74,75,76,77,78,79,80,81,82,83,84,85,86,87,88,89,90] [500,4800,6400,6500,7100,7200,7700,7800,8800,8900,9002,9003,9005] (fun yy1=>[(7,vI (yy1.1:Int))]) (fun yy1=>[(500,some (.box 49 [.own 9002,.own 9001,.own 9003,.own 9005,.own 9004,vI ((aJ 0).num),vI ((aJ 0).den)])),(9002,some (.arr 3 1 true (yy1.2.1.map aG))),(9003,some (.arr 29 1 true (yy1.2.2.1.map aD))),(9005,some (.arr 28 2 true (yy1.2.2.2.map aA)))]) (fun yy1=>yy1.1≤p.rows.length∧yy1.2.1=aAt p.objective.length yy1.1∧yy1.2.1.length=yy1.1∧yy1.2.2.1=(p.rows.take yy1.1).map (List.map aJ)∧yy1.2.2.1.length=yy1.1∧yy1.2.2.2=(p.limits.take yy1.1).map aJ∧yy1.2.2.2.length=yy1.1) (fun yy1=>p.rows.length - yy1.1) (fun yy1=> .len p.rows.length<| .br (.loop (Nat × (List aC)) (Q2 Nat (List aC)) [8,9,48,49,50,51,52,53,54,55,56,57,58,59,60,61,62,63,64,65] [4800,6400,6500] (fun yy2=>[(9,vI (yy2.1:Int)),(8,.own 4800)]) (fun yy2=>[(4800,some (.arr 28 2 true (yy2.2.map aA)))]) (fun yy2=>yy2.1≤p.objective.length∧yy2.2=((p.rows.getD yy1.1 []).take yy2.1).map aJ∧yy2.2.length=yy2.1) (fun yy2=>p.objective.length - yy2.1) (fun yy2=> .br (.elem _ bD p.rows (fun e58=> .elem _ aG e58 (fun e61=> .call (.agg [vI ((aJ e61).num),vI ((aJ e61).den)]) []<| .app aC aA yy2.2 ([(aJ e61)]:List aC)<| .back [(4800,6500)]))) (.app Int aG yy1.2.1 ([((p.objective.length:Nat):Int)+(yy1.1:Int)]:List Int)<| .appx (List aC) aD yy1.2.2.1 yy2.2<| .elem _ aG p.limits (fun e85=> .call (.agg [vI ((aJ e85).num),vI ((aJ e85).den)]) []<| .app aC aA yy1.2.2.2 ([(aJ e85)]:List aC)<| .back [(500,500),(9002,7200),(9003,7800),(9005,8900)])))) (.fin [(0,9002),(1,9001),(2,9003),(3,9005),(4,9004)])))))) (p:=(p.objective.map aG).length≤9223372036854775807→(p.rows.map bD).length≤9223372036854775807→(p.limits.map aG).length≤9223372036854775807→yU p∧(((!(cW p))=true→(0:Int)=((((eD p).1).value).num)∧(0:Int)=((((eD p).1).value).den)∧(false)=((eD p).2)∧[]=(((eD p).1).basic).map aG∧[]=(((eD p).1).others).map aG∧[]=(((eD p).1).table).map aD∧[]=(((eD p).1).limits).map aA∧[]=(((eD p).1).costs).map aA∧True)∧((!(cW p))=false→Lm aG p.objective∧(iK (0:Int)∧((∃(k:Nat) (o:List Int) (cs:List aC),(0:Int)=(k:Int)∧((aJ (0:Int)).num)=((aJ 0).num)∧((aJ (0:Int)).den)=((aJ 0).den)∧[]=o.map aG∧[]=cs.map aA∧k≤p.objective.length∧o=upto k∧o.length=k∧cs=(p.objective.take k).map aJ∧cs.length=k)∧ ∀(k:Nat) (o:List Int) (cs:List aC),(k≤p.objective.length∧o=upto k∧o.length=k∧cs=(p.objective.take k).map aJ∧cs.length=k)→((decide ((k:Int)<((p.objective.length:Nat):Int)))=true→o.map aG=o.map aG∧[[.int .i64 (k:Int)]]=([(k:Int)]:List Int).map aG∧(∀x,cV (aG x)=true)∧(o.length+([(k:Int)]:List Int).length)*8≤140737488355328∧0≤(k:Int)∧Em aG p.objective k fun e35=>iK e35∧cs.map aA=cs.map aA∧[[.int .i64 ((aJ e35).num),.int .i64 ((aJ e35).den)]]=([(aJ e35)]:List aC).map aA∧(∀x,cV (aA x)=true)∧(cs.length+([(aJ e35)]:List aC).length)*16≤140737488355328∧dN ((k:Int)+(1:Int))∧ ∃(k' :Nat) (o' :List Int) (cs' :List aC),((k:Int)+(1:Int))=(k' :Int)∧((aJ 0).num)=((aJ 0).num)∧((aJ 0).den)=((aJ 0).den)∧(o++[(k:Int)]).map aG=o'.map aG∧(cs++[(aJ e35)]).map aA=cs'.map aA∧(k' ≤p.objective.length∧o' =upto k' ∧o'.length=k' ∧cs' =(p.objective.take k').map aJ∧cs'.length=k')∧p.objective.length - k' <p.objective.length - k)∧((decide ((k:Int)<((p.objective.length:Nat):Int)))=false→(∃(i:Nat) (bs:List Int) (tb:List (List aC)) (ls:List aC),(0:Int)=(i:Int)∧((aJ 0).num)=((aJ 0).num)∧((aJ 0).den)=((aJ 0).den)∧[]=bs.map aG∧[]=tb.map aD∧[]=ls.map aA∧i≤p.rows.length∧bs=aAt p.objective.length i∧bs.length=i∧tb=(p.rows.take i).map (List.map aJ)∧tb.length=i∧ls=(p.limits.take i).map aJ∧ls.length=i)∧ ∀(i:Nat) (bs:List Int) (tb:List (List aC)) (ls:List aC),(i≤p.rows.length∧bs=aAt p.objective.length i∧bs.length=i∧tb=(p.rows.take i).map (List.map aJ)∧tb.length=i∧ls=(p.limits.take i).map aJ∧ls.length=i)→Lm bD p.rows∧(((decide ((i:Int)<((p.rows.length:Nat):Int)))=true→(∃(j:Nat) (rw_:List aC),(0:Int)=(j:Int)∧[]=rw_.map aA∧j≤p.objective.length∧rw_=((p.rows.getD i []).take j).map aJ∧rw_.length=j)∧ ∀(j:Nat) (rw_:List aC),(j≤p.objective.length∧rw_=((p.rows.getD i []).take j).map aJ∧rw_.length=j)→((decide ((j:Int)<((p.objective.length:Nat):Int)))=true→0≤(i:Int)∧Em bD p.rows i fun e58=>0≤(j:Int)∧Em aG e58 j fun e61=>iK e61∧rw_.map aA=rw_.map aA∧[[.int .i64 ((aJ e61).num),.int .i64 ((aJ e61).den)]]=([(aJ e61)]:List aC).map aA∧(∀x,cV (aA x)=true)∧(rw_.length+([(aJ e61)]:List aC).length)*16≤140737488355328∧dN ((j:Int)+(1:Int))∧ ∃(j' :Nat) (rw_' :List aC),((j:Int)+(1:Int))=(j' :Int)∧(rw_++[(aJ e61)]).map aA=rw_'.map aA∧(j' ≤p.objective.length∧rw_' =((p.rows.getD i []).take j').map aJ∧rw_'.length=j')∧p.objective.length - j' <p.objective.length - j)∧((decide ((j:Int)<((p.objective.length:Nat):Int)))=false→dN (((p.objective.length:Nat):Int)+(i:Int))∧bs.map aG=bs.map aG∧[[.int .i64 (((p.objective.length:Nat):Int)+(i:Int))]]=([((p.objective.length:Nat):Int)+(i:Int)]:List Int).map aG∧(∀x,cV (aG x)=true)∧(bs.length+([((p.objective.length:Nat):Int)+(i:Int)]:List Int).length)*8≤140737488355328∧tb.map aD=tb.map aD∧rw_.map aA=rw_.map aA∧(tb.length+1)*24≤140737488355328∧0≤(i:Int)∧Em aG p.limits i fun e85=>iK e85∧ls.map aA=ls.map aA∧[[.int .i64 ((aJ e85).num),.int .i64 ((aJ e85).den)]]=([(aJ e85)]:List aC).map aA∧(∀x,cV (aA x)=true)∧(ls.length+([(aJ e85)]:List aC).length)*16≤140737488355328∧dN ((i:Int)+(1:Int))∧ ∃(i' :Nat) (bs' :List Int) (tb' :List (List aC)) (ls' :List aC),((i:Int)+(1:Int))=(i' :Int)∧((aJ 0).num)=((aJ 0).num)∧((aJ 0).den)=((aJ 0).den)∧(bs++[((p.objective.length:Nat):Int)+(i:Int)]).map aG=bs'.map aG∧(tb++[rw_]).map aD=tb'.map aD∧(ls++[(aJ e85)]).map aA=ls'.map aA∧(i' ≤p.rows.length∧bs' =aAt p.objective.length i' ∧bs'.length=i' ∧tb' =(p.rows.take i').map (List.map aJ)∧tb'.length=i' ∧ls' =(p.limits.take i').map aJ∧ls'.length=i')∧p.rows.length - i' <p.rows.length - i))∧((decide ((i:Int)<((p.rows.length:Nat):Int)))=false→((aJ 0).num)=((((eD p).1).value).num)∧((aJ 0).den)=((((eD p).1).value).den)∧(true)=((eD p).2)∧bs.map aG=(((eD p).1).basic).map aG∧o.map aG=(((eD p).1).others).map aG∧tb.map aD=(((eD p).1).table).map aD∧ls.map aA=(((eD p).1).limits).map aA∧cs.map aA=(((eD p).1).costs).map aA∧True)))))))) (by kernel_rfl) ?_
 intro n0 n1 n2
 simp only [List.length_map] at n0 n1 n2
 refine ⟨aGA p,fun c0=>?_,fun c0=>?_⟩
 ·replace c0:=nt c0
  refine ⟨?_,?_,?_,?_,?_,?_,?_,?_,trivial⟩
  ·first | (rw [dM c0]<;>rfl) | (rw [cQ c0]<;>first | rfl | (rw [ho,show k=p.objective.length by omega];rfl) | (rw [hc,List.take_of_length_le (by omega)];rfl) | (rw [hb,show i=p.rows.length by omega];rfl) | (rw [ht,List.take_of_length_le (by omega)];rfl) | (rw [hl,List.take_of_length_le (by omega)];rfl))
  ·first | (rw [dM c0]<;>rfl) | (rw [cQ c0]<;>first | rfl | (rw [ho,show k=p.objective.length by omega];rfl) | (rw [hc,List.take_of_length_le (by omega)];rfl) | (rw [hb,show i=p.rows.length by omega];rfl) | (rw [ht,List.take_of_length_le (by omega)];rfl) | (rw [hl,List.take_of_length_le (by omega)];rfl))
  ·first | (rw [dM c0]<;>rfl) | (rw [cQ c0]<;>first | rfl | (rw [ho,show k=p.objective.length by omega];rfl) | (rw [hc,List.take_of_length_le (by omega)];rfl) | (rw [hb,show i=p.rows.length by omega];rfl) | (rw [ht,List.take_of_length_le (by omega)];rfl) | (rw [hl,List.take_of_length_le (by omega)];rfl))
  ·first | (rw [dM c0]<;>rfl) | (rw [cQ c0]<;>first | rfl | (rw [ho,show k=p.objective.length by omega];rfl) | (rw [hc,List.take_of_length_le (by omega)];rfl) | (rw [hb,show i=p.rows.length by omega];rfl) | (rw [ht,List.take_of_length_le (by omega)];rfl) | (rw [hl,List.take_of_length_le (by omega)];rfl))
  ·first | (rw [dM c0]<;>rfl) | (rw [cQ c0]<;>first | rfl | (rw [ho,show k=p.objective.length by omega];rfl) | (rw [hc,List.take_of_length_le (by omega)];rfl) | (rw [hb,show i=p.rows.length by omega];rfl) | (rw [ht,List.take_of_length_le (by omega)];rfl) | (rw [hl,List.take_of_length_le (by omega)];rfl))
  ·first | (rw [dM c0]<;>rfl) | (rw [cQ c0]<;>first | rfl | (rw [ho,show k=p.objective.length by omega];rfl) | (rw [hc,List.take_of_length_le (by omega)];rfl) | (rw [hb,show i=p.rows.length by omega];rfl) | (rw [ht,List.take_of_length_le (by omega)];rfl) | (rw [hl,List.take_of_length_le (by omega)];rfl))
  ·first | (rw [dM c0]<;>rfl) | (rw [cQ c0]<;>first | rfl | (rw [ho,show k=p.objective.length by omega];rfl) | (rw [hc,List.take_of_length_le (by omega)];rfl) | (rw [hb,show i=p.rows.length by omega];rfl) | (rw [ht,List.take_of_length_le (by omega)];rfl) | (rw [hl,List.take_of_length_le (by omega)];rfl))
  ·first | (rw [dM c0]<;>rfl) | (rw [cQ c0]<;>first | rfl | (rw [ho,show k=p.objective.length by omega];rfl) | (rw [hc,List.take_of_length_le (by omega)];rfl) | (rw [hb,show i=p.rows.length by omega];rfl) | (rw [ht,List.take_of_length_le (by omega)];rfl) | (rw [hl,List.take_of_length_le (by omega)];rfl))
 ·replace c0:=nf c0
  obtain ⟨b1,b2,b3,b4,b5⟩:=kP (p:=p) c0
  refine ⟨List.length_map _,mM (0:Int),⟨0,([]:List Int),([]:List aC),rfl,rfl,rfl,rfl,rfl,Nat.zero_le _,rfl,rfl,rfl,rfl⟩,fun k o cs ⟨hk,ho,hL,hc,hcL⟩=>?_⟩
  refine ⟨fun c1=>?_,fun c1=>?_⟩
  ·replace c1:=yq c1
   refine ⟨rfl,rfl,fun _=>rfl,by first | omega | (simp;omega),?_⟩
   refine ⟨by omega,rfl,by omega,fun e35 h35=>?_⟩
   refine ⟨mM e35,rfl,rfl,fun _=>rfl,by first | omega | (simp;omega),?_⟩
   refine ⟨⟨by omega,by omega⟩,?_⟩
   exact ⟨k+1,_,_,rfl,rfl,rfl,rfl,rfl,⟨by omega,by rw [ho,aCO],by simp;omega,by rw [hc,jA h35,List.map_append];rfl,by simp;omega⟩,by omega⟩
  ·replace c1:=nq c1
   refine ⟨⟨0,([]:List Int),([]:List (List aC)),([]:List aC),rfl,rfl,rfl,rfl,rfl,rfl,Nat.zero_le _,rfl,rfl,rfl,rfl,rfl,rfl⟩,fun i bs tb ls ⟨hi,hb,hbL,ht,htL,hl,hlL⟩=>?_⟩
   refine ⟨List.length_map _,fun c2=>?_,fun c2=>?_⟩
   ·replace c2:=yq c2
    refine ⟨⟨0,([]:List aC),rfl,rfl,Nat.zero_le _,rfl,rfl⟩,fun j rw_ ⟨hj,hw,hwL⟩=>?_⟩
    refine ⟨fun c3=>?_,fun c3=>?_⟩
    ·replace c3:=yq c3
     refine ⟨by omega,rfl,by omega,fun e58 h58=>?_⟩
     have hr58:=(b4 e58 (List.mem_append_left _ (List.mem_of_getElem? h58))).1
     refine ⟨by omega,rfl,by omega,fun e61 h61=>?_⟩
     refine ⟨mM e61,rfl,rfl,fun _=>rfl,by first | omega | (simp;omega),?_⟩
     refine ⟨⟨by omega,by omega⟩,?_⟩
     exact ⟨j+1,_,rfl,rfl,⟨by omega,by rw [hw,aY h58,jA h61,List.map_append];rfl,by simp;omega⟩,by omega⟩
    ·replace c3:=nq c3
     have hrl:=aIx (p:=p) c0 (i:=i) (by omega)
     have hw' :rw_=(p.rows.getD i []).map aJ:=by rw [hw,List.take_of_length_le (by omega)]
     refine ⟨⟨by omega,by omega⟩,rfl,rfl,fun _=>rfl,by first | omega | (simp;omega),?_⟩
     refine ⟨rfl,rfl,by first | omega | (simp;omega),by omega,rfl,by omega,fun e85 h85=>?_⟩
     refine ⟨mM e85,rfl,rfl,fun _=>rfl,by first | omega | (simp;omega),?_⟩
     refine ⟨⟨by omega,by omega⟩,?_⟩
     exact ⟨i+1,_,_,_,rfl,rfl,rfl,rfl,rfl,rfl,⟨by omega,by first | (rw [hb,uB];done) | (rw [hb,uB];simp),by simp;omega,by rw [ht,jA (getD_some (x:=[]) (show i<p.rows.length by omega)),List.map_append,hw'];rfl,by simp;omega,by rw [hl,jA h85,List.map_append];rfl,by simp;omega⟩,by omega⟩
   ·replace c2:=nq c2
    refine ⟨?_,?_,?_,?_,?_,?_,?_,?_,trivial⟩
    ·first | (rw [dM c0]<;>rfl) | (rw [cQ c0]<;>first | rfl | (rw [ho,show k=p.objective.length by omega];rfl) | (rw [hc,List.take_of_length_le (by omega)];rfl) | (rw [hb,show i=p.rows.length by omega];rfl) | (rw [ht,List.take_of_length_le (by omega)];rfl) | (rw [hl,List.take_of_length_le (by omega)];rfl))
    ·first | (rw [dM c0]<;>rfl) | (rw [cQ c0]<;>first | rfl | (rw [ho,show k=p.objective.length by omega];rfl) | (rw [hc,List.take_of_length_le (by omega)];rfl) | (rw [hb,show i=p.rows.length by omega];rfl) | (rw [ht,List.take_of_length_le (by omega)];rfl) | (rw [hl,List.take_of_length_le (by omega)];rfl))
    ·first | (rw [dM c0]<;>rfl) | (rw [cQ c0]<;>first | rfl | (rw [ho,show k=p.objective.length by omega];rfl) | (rw [hc,List.take_of_length_le (by omega)];rfl) | (rw [hb,show i=p.rows.length by omega];rfl) | (rw [ht,List.take_of_length_le (by omega)];rfl) | (rw [hl,List.take_of_length_le (by omega)];rfl))
    ·first | (rw [dM c0]<;>rfl) | (rw [cQ c0]<;>first | rfl | (rw [ho,show k=p.objective.length by omega];rfl) | (rw [hc,List.take_of_length_le (by omega)];rfl) | (rw [hb,show i=p.rows.length by omega];rfl) | (rw [ht,List.take_of_length_le (by omega)];rfl) | (rw [hl,List.take_of_length_le (by omega)];rfl))
    ·first | (rw [dM c0]<;>rfl) | (rw [cQ c0]<;>first | rfl | (rw [ho,show k=p.objective.length by omega];rfl) | (rw [hc,List.take_of_length_le (by omega)];rfl) | (rw [hb,show i=p.rows.length by omega];rfl) | (rw [ht,List.take_of_length_le (by omega)];rfl) | (rw [hl,List.take_of_length_le (by omega)];rfl))
    ·first | (rw [dM c0]<;>rfl) | (rw [cQ c0]<;>first | rfl | (rw [ho,show k=p.objective.length by omega];rfl) | (rw [hc,List.take_of_length_le (by omega)];rfl) | (rw [hb,show i=p.rows.length by omega];rfl) | (rw [ht,List.take_of_length_le (by omega)];rfl) | (rw [hl,List.take_of_length_le (by omega)];rfl))
    ·first | (rw [dM c0]<;>rfl) | (rw [cQ c0]<;>first | rfl | (rw [ho,show k=p.objective.length by omega];rfl) | (rw [hc,List.take_of_length_le (by omega)];rfl) | (rw [hb,show i=p.rows.length by omega];rfl) | (rw [ht,List.take_of_length_le (by omega)];rfl) | (rw [hl,List.take_of_length_le (by omega)];rfl))
    ·first | (rw [dM c0]<;>rfl) | (rw [cQ c0]<;>first | rfl | (rw [ho,show k=p.objective.length by omega];rfl) | (rw [hc,List.take_of_length_le (by omega)];rfl) | (rw [hb,show i=p.rows.length by omega];rfl) | (rw [ht,List.take_of_length_le (by omega)];rfl) | (rw [hl,List.take_of_length_le (by omega)];rfl))
end Go.Proofs.Ytpoobcnmhnbdlaa
