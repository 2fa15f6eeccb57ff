/-
  Contracts and plain laws, joined: part 17.
-/
import Derived.Test.YtpoobcnmhnbdlaaP115
import Derived.Test.YtpoobcnmhnbdlaaP112
import Derived.Test.YtpoobcnmhnbdlaaP113
import Derived.Test.YtpoobcnmhnbdlaaP114
import Derived.Test.YtpoobcnmhnbdlaaP13
import Derived.Test.YtpoobcnmhnbdlaaP10
namespace Go.Proofs.Ytpoobcnmhnbdlaa
open Go.ChangeShapes Go.WideShapes Go.ChangeAt Go.RowKit
set_option linter.unusedVariables false
set_option linter.unusedSimpArgs false
set_option maxRecDepth 100000
set_option maxHeartbeats 4000000
theorem aGN {d:DictionaryD} {n s:Nat} (hs:n≤s):fE (n - s) d=(tF,false):=by rw [Nat.sub_eq_zero_of_le hs,fE]
theorem aEH {α:Type} (k:Nat) (x:α):List.replicate k x++[x]=List.replicate (k+1) x:=by rw [List.replicate_succ']
abbrev vQ (p:ProgramD):AV × List (Nat × Rs):=(.tup [.agg [vI ((((cH p).1).value).num),vI ((((cH p).1).value).den),.own 0,.own 1],vB ((cH p).2)],[(0,.arr 28 2 true ((((cH p).1).primal).map aA)),(1,.arr 28 2 true ((((cH p).1).dual).map aA))])
abbrev aBC (p:ProgramD):Prop:=gF Try.prog 6 [.agg [.sl 3 1 (p.objective.map aG),.sl 22 1 (p.rows.map bD),.sl 3 1 (p.limits.map aG)]] (vQ p).1 (vQ p).2
theorem aHs (p:ProgramD):aBC p:=by
 refine cT dR bK Try.func6 (by kernel_rfl) (dA (vP p)<| .br (.fin []) (.loop (Nat × DictionaryD) (Q2 Nat DictionaryD) [6,7,13,14,15,16,18,19,24,25,26,27,28,29,30,31,133,134,135,136,137,139,140,141,142,143,144,145,146,147,149] [400,1400,1800,1801,1802,1803,1804,14300,14301,14302,14303,14304] (fun yy0=>[(6,vI (yy0.1:Int))]) (fun yy0=>[(400,some (.box 49 [.own 1800,.own 1801,.own 1802,.own 1803,.own 1804,vI yy0.2.value.num,vI yy0.2.value.den])),(1800,some (.arr 3 1 true (yy0.2.basic.map aG))),(1801,some (.arr 3 1 true (yy0.2.others.map aG))),(1802,some (.arr 29 1 true (yy0.2.table.map aD))),(1803,some (.arr 28 2 true (yy0.2.limits.map aA))),(1804,some (.arr 28 2 true (yy0.2.costs.map aA)))]) (fun yy0=>yy0.1≤300∧cB yy0.2=true∧yy0.2.basic.length=p.rows.length∧yy0.2.others.length=p.objective.length∧fE (300 - yy0.1) yy0.2=fE 300 (gQ p)) (fun yy0=>300 - yy0.1) (fun yy0=> .br (.call (vI (iC yy0.2)) []<| .br (.loop (Nat × (List aC)) (Q2 Nat (List aC)) [9,35,36,37,38,39,40,41,42,43,44,45,46,47] [800,4500,4600,9006] (fun yy1=>[(9,vI (yy1.1:Int))]) (fun yy1=>[(800,some (.box 31 [vI yy0.2.value.num,vI yy0.2.value.den,.own 9006,.nil])),(9006,some (.arr 28 2 true (yy1.2.map aA)))]) (fun yy1=>yy1.1≤p.objective.length∧yy1.2=List.replicate yy1.1 (aJ 0)∧yy1.2.length=yy1.1) (fun yy1=>p.objective.length - yy1.1) (fun yy1=> .len p.objective.length<| .br (.call (.agg [vI ((aJ (0:Int)).num),vI ((aJ (0:Int)).den)]) []<| .app aC aA yy1.2 ([(aJ (0:Int))]:List aC)<| .back [(800,800),(9006,4600)]) (.loop (Nat × (List aC)) (Q2 Nat (List aC)) [10,48,49,50,51,52,53,54,55,56,57,58,59,60] [800,5800,5900,9007] (fun yy2=>[(10,vI (yy2.1:Int))]) (fun yy2=>[(800,some (.box 31 [vI yy0.2.value.num,vI yy0.2.value.den,.own 9006,.own 9007])),(9007,some (.arr 28 2 true (yy2.2.map aA)))]) (fun yy2=>yy2.1≤p.rows.length∧yy2.2=List.replicate yy2.1 (aJ 0)∧yy2.2.length=yy2.1) (fun yy2=>p.rows.length - yy2.1) (fun yy2=> .len p.rows.length<| .br (.call (.agg [vI ((aJ (0:Int)).num),vI ((aJ (0:Int)).den)]) []<| .app aC aA yy2.2 ([(aJ (0:Int))]:List aC)<| .back [(800,800),(9007,5900)]) (.loop (Nat × (List aC)) (Q2 Nat (List aC)) [11,61,62,63,64,65,66,67,68,69,70,71,72,73,74,75,76,77,78,79,80,81,82,83,84,85,86,87,88,89] [9006] (fun yy3=>[(11,vI (yy3.1:Int))]) (fun yy3=>[(9006,some (.arr 28 2 true (yy3.2.map aA)))]) (fun yy3=>yy3.1≤yy0.2.basic.length∧yy3.2=jL yy0.2 p.objective.length yy3.1∧yy3.2.length=p.objective.length) (fun yy3=>yy0.2.basic.length - yy3.1) (fun yy3=> .len yy0.2.basic.length<| .br (.len yy0.2.basic.length<| .elem _ aG yy0.2.basic (fun e72=> .len p.objective.length<| .br (.len yy0.2.basic.length<| .elem _ aG yy0.2.basic (fun e83=> .len yy0.2.limits.length<| .elem _ aA yy0.2.limits (fun e88=> .len yy3.2.length<| .set aC aA yy3.2 (fun s22_13=>e88) (fun s22_13=> .back [(9006,9006)])))) (.back [(9006,9006)]))) (.loop (Nat × (List aC)) (Q2 Nat (List aC)) [12,90,91,92,93,94,95,96,97,98,99,100,101,102,103,104,105,106,107,108,109,110,111,112,113,114,115,116,117,118,119,120,121,122,123,124,125,126,127,128,129,130,131] [9007] (fun yy4=>[(12,vI (yy4.1:Int))]) (fun yy4=>[(9007,some (.arr 28 2 true (yy4.2.map aA)))]) (fun yy4=>yy4.1≤yy0.2.others.length∧yy4.2=jM yy0.2 p.objective.length p.rows.length yy4.1∧yy4.2.length=p.rows.length) (fun yy4=>yy0.2.others.length - yy4.1) (fun yy4=> .len yy0.2.others.length<| .br (.len yy0.2.others.length<| .elem _ aG yy0.2.others (fun e101=> .len p.objective.length<| .br (.len yy0.2.others.length<| .elem _ aG yy0.2.others (fun e112=> .len p.objective.length<| .len yy0.2.costs.length<| .elem _ aA yy0.2.costs (fun e122=> .len yy0.2.costs.length<| .elem _ aA yy0.2.costs (fun e129=> .len yy4.2.length<| .set aC aA yy4.2 (fun s27_26=>(⟨-e122.num,e129.den⟩:aC)) (fun s27_26=> .back [(9007,9007)]))))) (.back [(9007,9007)]))) (.fin [(0,9006),(1,9007)]))))))))) (.call (vI (lH yy0.2 (iC yy0.2))) []<| .br (.fin []) (dA (rB yy0.2 (lH yy0.2 (iC yy0.2)) (iC yy0.2))<| .br (.fin []) (.back [(400,400),(1800,14300),(1801,14301),(1802,14302),(1803,14303),(1804,14304)])))) (.fin [])))) (p:=(p.objective.map aG).length≤9223372036854775807→(p.rows.map bD).length≤9223372036854775807→(p.limits.map aG).length≤9223372036854775807→aBB p∧(((!((eD p).2))=true→(0:Int)=((((cH p).1).value).num)∧(0:Int)=((((cH p).1).value).den)∧(false)=((cH p).2)∧[]=(((cH p).1).primal).map aA∧[]=(((cH p).1).dual).map aA∧True)∧((!((eD p).2))=false→(∃(s:Nat) (x:DictionaryD),(0:Int)=(s:Int)∧((((eD p).1).value).num)=x.value.num∧((((eD p).1).value).den)=x.value.den∧(((eD p).1).basic).map aG=x.basic.map aG∧(((eD p).1).others).map aG=x.others.map aG∧(((eD p).1).table).map aD=x.table.map aD∧(((eD p).1).limits).map aA=x.limits.map aA∧(((eD p).1).costs).map aA=x.costs.map aA∧s≤300∧cB x=true∧x.basic.length=p.rows.length∧x.others.length=p.objective.length∧fE (300 - s) x=fE 300 (gQ p))∧ ∀(s:Nat) (x:DictionaryD),(s≤300∧cB x=true∧x.basic.length=p.rows.length∧x.others.length=p.objective.length∧fE (300 - s) x=fE 300 (gQ p))→((decide ((s:Int)<(300:Int)))=true→aAl x∧(((decide ((iC x)<(0:Int)))=true→(∃(k1:Nat) (pm:List aC),(0:Int)=(k1:Int)∧x.value.num=x.value.num∧x.value.den=x.value.den∧[]=pm.map aA∧k1≤p.objective.length∧pm=List.replicate k1 (aJ 0)∧pm.length=k1)∧ ∀(k1:Nat) (pm:List aC),(k1≤p.objective.length∧pm=List.replicate k1 (aJ 0)∧pm.length=k1)→Lm aG p.objective∧(((decide ((k1:Int)<((p.objective.length:Nat):Int)))=true→iK (0:Int)∧pm.map aA=pm.map aA∧[[.int .i64 ((aJ (0:Int)).num),.int .i64 ((aJ (0:Int)).den)]]=([(aJ (0:Int))]:List aC).map aA∧(∀x,cV (aA x)=true)∧(pm.length+([(aJ (0:Int))]:List aC).length)*16≤140737488355328∧dN ((k1:Int)+(1:Int))∧ ∃(k1' :Nat) (pm' :List aC),((k1:Int)+(1:Int))=(k1' :Int)∧x.value.num=x.value.num∧x.value.den=x.value.den∧(pm++[(aJ (0:Int))]).map aA=pm'.map aA∧(k1' ≤p.objective.length∧pm' =List.replicate k1' (aJ 0)∧pm'.length=k1')∧p.objective.length - k1' <p.objective.length - k1)∧((decide ((k1:Int)<((p.objective.length:Nat):Int)))=false→(∃(k2:Nat) (dl:List aC),(0:Int)=(k2:Int)∧x.value.num=x.value.num∧x.value.den=x.value.den∧[]=dl.map aA∧k2≤p.rows.length∧dl=List.replicate k2 (aJ 0)∧dl.length=k2)∧ ∀(k2:Nat) (dl:List aC),(k2≤p.rows.length∧dl=List.replicate k2 (aJ 0)∧dl.length=k2)→Lm bD p.rows∧(((decide ((k2:Int)<((p.rows.length:Nat):Int)))=true→iK (0:Int)∧dl.map aA=dl.map aA∧[[.int .i64 ((aJ (0:Int)).num),.int .i64 ((aJ (0:Int)).den)]]=([(aJ (0:Int))]:List aC).map aA∧(∀x,cV (aA x)=true)∧(dl.length+([(aJ (0:Int))]:List aC).length)*16≤140737488355328∧dN ((k2:Int)+(1:Int))∧ ∃(k2' :Nat) (dl' :List aC),((k2:Int)+(1:Int))=(k2' :Int)∧x.value.num=x.value.num∧x.value.den=x.value.den∧(dl++[(aJ (0:Int))]).map aA=dl'.map aA∧(k2' ≤p.rows.length∧dl' =List.replicate k2' (aJ 0)∧dl'.length=k2')∧p.rows.length - k2' <p.rows.length - k2)∧((decide ((k2:Int)<((p.rows.length:Nat):Int)))=false→(∃(k3:Nat) (pm2:List aC),(0:Int)=(k3:Int)∧pm.map aA=pm2.map aA∧k3≤x.basic.length∧pm2=jL x p.objective.length k3∧pm2.length=p.objective.length)∧ ∀(k3:Nat) (pm2:List aC),(k3≤x.basic.length∧pm2=jL x p.objective.length k3∧pm2.length=p.objective.length)→Lm aG x.basic∧(((decide ((k3:Int)<((x.basic.length:Nat):Int)))=true→0≤(k3:Int)∧Lm aG x.basic∧(k3:Int)<((x.basic.length:Nat):Int)∧Em aG x.basic k3 fun e72=>Lm aG p.objective∧(((decide (e72<((p.objective.length:Nat):Int)))=true→0≤(k3:Int)∧Lm aG x.basic∧(k3:Int)<((x.basic.length:Nat):Int)∧Em aG x.basic k3 fun e83=>0≤(k3:Int)∧Lm aA x.limits∧(k3:Int)<((x.limits.length:Nat):Int)∧Em aA x.limits k3 fun e88=>0≤e83∧Lm aA pm2∧e83<((pm2.length:Nat):Int)∧(pm2.map aA=pm2.map aA∧(e83).toNat<pm2.length∧ ∀s22_13,pm2[(e83).toNat]? =some s22_13→cV (aA s22_13)=true∧0+2≤(aA s22_13).length∧(aA s22_13).take 0++[.int .i64 e88.num,.int .i64 e88.den]++(aA s22_13).drop (0+2)=aA e88∧dN ((k3:Int)+(1:Int))∧ ∃(k3' :Nat) (pm2' :List aC),((k3:Int)+(1:Int))=(k3' :Int)∧(pm2.set ((e83).toNat) e88).map aA=pm2'.map aA∧(k3' ≤x.basic.length∧pm2' =jL x p.objective.length k3' ∧pm2'.length=p.objective.length)∧x.basic.length - k3' <x.basic.length - k3))∧((decide (e72<((p.objective.length:Nat):Int)))=false→dN ((k3:Int)+(1:Int))∧ ∃(k3' :Nat) (pm2' :List aC),((k3:Int)+(1:Int))=(k3' :Int)∧pm2.map aA=pm2'.map aA∧(k3' ≤x.basic.length∧pm2' =jL x p.objective.length k3' ∧pm2'.length=p.objective.length)∧x.basic.length - k3' <x.basic.length - k3)))∧((decide ((k3:Int)<((x.basic.length:Nat):Int)))=false→(∃(k4:Nat) (dl2:List aC),(0:Int)=(k4:Int)∧dl.map aA=dl2.map aA∧k4≤x.others.length∧dl2=jM x p.objective.length p.rows.length k4∧dl2.length=p.rows.length)∧ ∀(k4:Nat) (dl2:List aC),(k4≤x.others.length∧dl2=jM x p.objective.length p.rows.length k4∧dl2.length=p.rows.length)→Lm aG x.others∧(((decide ((k4:Int)<((x.others.length:Nat):Int)))=true→0≤(k4:Int)∧Lm aG x.others∧(k4:Int)<((x.others.length:Nat):Int)∧Em aG x.others k4 fun e101=>Lm aG p.objective∧(((decide (((p.objective.length:Nat):Int)≤e101))=true→0≤(k4:Int)∧Lm aG x.others∧(k4:Int)<((x.others.length:Nat):Int)∧Em aG x.others k4 fun e112=>Lm aG p.objective∧(dN (e112 - ((p.objective.length:Nat):Int))∧(0≤(k4:Int)∧Lm aA x.costs∧(k4:Int)<((x.costs.length:Nat):Int)∧Em aA x.costs k4 fun e122=>dN (-e122.num)∧(0≤(k4:Int)∧Lm aA x.costs∧(k4:Int)<((x.costs.length:Nat):Int)∧Em aA x.costs k4 fun e129=>0≤(e112 - ((p.objective.length:Nat):Int))∧Lm aA dl2∧(e112 - ((p.objective.length:Nat):Int))<((dl2.length:Nat):Int)∧(dl2.map aA=dl2.map aA∧(e112 - ((p.objective.length:Nat):Int)).toNat<dl2.length∧ ∀s27_26,dl2[(e112 - ((p.objective.length:Nat):Int)).toNat]? =some s27_26→cV (aA s27_26)=true∧0+2≤(aA s27_26).length∧(aA s27_26).take 0++[.int .i64 (-e122.num),.int .i64 e129.den]++(aA s27_26).drop (0+2)=aA (⟨-e122.num,e129.den⟩:aC)∧dN ((k4:Int)+(1:Int))∧ ∃(k4' :Nat) (dl2' :List aC),((k4:Int)+(1:Int))=(k4' :Int)∧(dl2.set ((e112 - ((p.objective.length:Nat):Int)).toNat) (⟨-e122.num,e129.den⟩:aC)).map aA=dl2'.map aA∧(k4' ≤x.others.length∧dl2' =jM x p.objective.length p.rows.length k4' ∧dl2'.length=p.rows.length)∧x.others.length - k4' <x.others.length - k4)))))∧((decide (((p.objective.length:Nat):Int)≤e101))=false→dN ((k4:Int)+(1:Int))∧ ∃(k4' :Nat) (dl2' :List aC),((k4:Int)+(1:Int))=(k4' :Int)∧dl2.map aA=dl2'.map aA∧(k4' ≤x.others.length∧dl2' =jM x p.objective.length p.rows.length k4' ∧dl2'.length=p.rows.length)∧x.others.length - k4' <x.others.length - k4)))∧((decide ((k4:Int)<((x.others.length:Nat):Int)))=false→x.value.num=((((cH p).1).value).num)∧x.value.den=((((cH p).1).value).den)∧(true)=((cH p).2)∧pm2.map aA=(((cH p).1).primal).map aA∧dl2.map aA=(((cH p).1).dual).map aA∧True)))))))))∧((decide ((iC x)<(0:Int)))=false→aAn x (iC x)∧(((decide ((lH x (iC x))<(0:Int)))=true→(0:Int)=((((cH p).1).value).num)∧(0:Int)=((((cH p).1).value).den)∧(false)=((cH p).2)∧[]=(((cH p).1).primal).map aA∧[]=(((cH p).1).dual).map aA∧True)∧((decide ((lH x (iC x))<(0:Int)))=false→vM x (lH x (iC x)) (iC x)∧(((!((aW x (lH x (iC x)) (iC x)).2))=true→(0:Int)=((((cH p).1).value).num)∧(0:Int)=((((cH p).1).value).den)∧(false)=((cH p).2)∧[]=(((cH p).1).primal).map aA∧[]=(((cH p).1).dual).map aA∧True)∧((!((aW x (lH x (iC x)) (iC x)).2))=false→dN ((s:Int)+(1:Int))∧ ∃(s' :Nat) (x' :DictionaryD),((s:Int)+(1:Int))=(s' :Int)∧((((aW x (lH x (iC x)) (iC x)).1).value).num)=x'.value.num∧((((aW x (lH x (iC x)) (iC x)).1).value).den)=x'.value.den∧(((aW x (lH x (iC x)) (iC x)).1).basic).map aG=x'.basic.map aG∧(((aW x (lH x (iC x)) (iC x)).1).others).map aG=x'.others.map aG∧(((aW x (lH x (iC x)) (iC x)).1).table).map aD=x'.table.map aD∧(((aW x (lH x (iC x)) (iC x)).1).limits).map aA=x'.limits.map aA∧(((aW x (lH x (iC x)) (iC x)).1).costs).map aA=x'.costs.map aA∧(s' ≤300∧cB x' =true∧x'.basic.length=p.rows.length∧x'.others.length=p.objective.length∧fE (300 - s') x' =fE 300 (gQ p))∧300 - s' <300 - s)))))))∧((decide ((s:Int)<(300:Int)))=false→(0:Int)=((((cH p).1).value).num)∧(0:Int)=((((cH p).1).value).den)∧(false)=((cH p).2)∧[]=(((cH p).1).primal).map aA∧[]=(((cH p).1).dual).map aA∧True)))) (by kernel_rfl) ?_
 intro n0 n1 n2
 simp only [List.length_map] at n0 n1 n2
 refine ⟨aHr p,fun c0=>?_,fun c0=>?_⟩
 ·replace c0:=nt c0
  refine ⟨?_,?_,?_,?_,?_,trivial⟩
  ·first | (rw [cA (bO c0)]<;>rfl) | (rw [hSB]<;>rfl) | (rw [hSP]<;>first | rfl | (rw [hpm2,show k3=x.basic.length by omega];rfl) | (rw [hdl2,show k4=x.others.length by omega];rfl))
  ·first | (rw [cA (bO c0)]<;>rfl) | (rw [hSB]<;>rfl) | (rw [hSP]<;>first | rfl | (rw [hpm2,show k3=x.basic.length by omega];rfl) | (rw [hdl2,show k4=x.others.length by omega];rfl))
  ·first | (rw [cA (bO c0)]<;>rfl) | (rw [hSB]<;>rfl) | (rw [hSP]<;>first | rfl | (rw [hpm2,show k3=x.basic.length by omega];rfl) | (rw [hdl2,show k4=x.others.length by omega];rfl))
  ·first | (rw [cA (bO c0)]<;>rfl) | (rw [hSB]<;>rfl) | (rw [hSP]<;>first | rfl | (rw [hpm2,show k3=x.basic.length by omega];rfl) | (rw [hdl2,show k4=x.others.length by omega];rfl))
  ·first | (rw [cA (bO c0)]<;>rfl) | (rw [hSB]<;>rfl) | (rw [hSP]<;>first | rfl | (rw [hpm2,show k3=x.basic.length by omega];rfl) | (rw [hdl2,show k4=x.others.length by omega];rfl))
 ·replace c0:=nf c0
  have hp:cW p=true:=aFS c0
  have hIP:=cQ hp
  obtain ⟨q1,q2,q3,q4,q5⟩:=kP hp
  have hil:=aCE p
  rw [hIP]
  refine ⟨⟨0,gQ p,rfl,rfl,rfl,rfl,rfl,rfl,rfl,rfl,by omega,aDt hp,hil.1,hil.2,rfl⟩,fun s x ⟨hn,hd,hbl,hol,hs⟩=>?_⟩
  refine ⟨fun c1=>?_,fun c1=>?_⟩
  ·replace c1:=yq c1
   obtain ⟨b1,b2,b3,b4,b5,b6,b7,b8⟩:=fR hd
   have eb:=tD x x.others.length
   have hlv:=aDr x (eC x).toNat
   have hedef:eC x=iV x x.others.length:=rfl
   have e1:=wW hd
   refine ⟨aHf x (by omega) (by omega),fun c2=>?_,fun c2=>?_⟩
   ·replace c2:=yq c2
    have hF:=aAg (n:=300) (s:=s) (d:=x) (by omega) (by omega)
    have hSP:=aDu hp (hs.symm.trans hF)
    have hft:=aCC hd
    refine ⟨⟨0,([]:List aC),rfl,rfl,rfl,rfl,Nat.zero_le _,rfl,rfl⟩,fun k1 pm ⟨hk1,hpm,hpL⟩=>?_⟩
    refine ⟨List.length_map _,fun c3=>?_,fun c3=>?_⟩
    ·replace c3:=yq c3
     refine ⟨mM (0:Int),rfl,rfl,fun _=>rfl,by first | omega | (simp;omega),?_⟩
     refine ⟨⟨by omega,by omega⟩,?_⟩
     exact ⟨k1+1,_,rfl,rfl,rfl,rfl,⟨by omega,by rw [hpm];exact aEH _ _,by simp;omega⟩,by omega⟩
    ·replace c3:=nq c3
     refine ⟨⟨0,([]:List aC),rfl,rfl,rfl,rfl,Nat.zero_le _,rfl,rfl⟩,fun k2 dl ⟨hk2,hdl,hdL⟩=>?_⟩
     refine ⟨List.length_map _,fun c4=>?_,fun c4=>?_⟩
     ·replace c4:=yq c4
      refine ⟨mM (0:Int),rfl,rfl,fun _=>rfl,by first | omega | (simp;omega),?_⟩
      refine ⟨⟨by omega,by omega⟩,?_⟩
      exact ⟨k2+1,_,rfl,rfl,rfl,rfl,⟨by omega,by rw [hdl];exact aEH _ _,by simp;omega⟩,by omega⟩
     ·replace c4:=nq c4
      refine ⟨⟨0,pm,rfl,rfl,Nat.zero_le _,by rw [hpm,show k1=p.objective.length by omega];rfl,by rw [hpL];omega⟩,fun k3 pm2 ⟨hk3,hpm2,hp2L⟩=>?_⟩
      refine ⟨List.length_map _,fun c5=>?_,fun c5=>?_⟩
      ·replace c5:=yq c5
       refine ⟨by omega,List.length_map _,by first | omega | (rw [hp2L];omega) | (rw [hd2L];omega),rfl,by first | omega | (rw [hp2L];omega) | (rw [hd2L];omega),fun e72 h72=>?_⟩
       have hv72:=hft.1 _ (List.mem_of_getElem? h72)
       refine ⟨List.length_map _,fun c6=>?_,fun c6=>?_⟩
       ·replace c6:=yq c6
        refine ⟨by omega,List.length_map _,by first | omega | (rw [hp2L];omega) | (rw [hd2L];omega),rfl,by first | omega | (rw [hp2L];omega) | (rw [hd2L];omega),fun e83 h83=>?_⟩
        obtain rfl:=dE h72 h83
        refine ⟨by omega,List.length_map _,by first | omega | (rw [hp2L];omega) | (rw [hd2L];omega),rfl,by first | omega | (rw [hp2L];omega) | (rw [hd2L];omega),fun e88 h88=>?_⟩
        refine ⟨by omega,List.length_map _,by first | omega | (rw [hp2L];omega) | (rw [hd2L];omega),rfl,by first | omega | (rw [hp2L];omega) | (rw [hd2L];omega),fun s22_13 hs22_13=>⟨rfl,Nat.le_of_ble_eq_true rfl,rfl,?_⟩⟩
        refine ⟨⟨by omega,by omega⟩,?_⟩
        exact ⟨k3+1,_,rfl,rfl,⟨by omega,by first | (rw [hpm2,uC h72 h88 (by omega)]<;>rfl) | (rw [hpm2,xG h72 (by omega)]<;>rfl),by first | exact hp2L | (rw [List.length_set];exact hp2L)⟩,by omega⟩
       ·replace c6:=nq c6
        refine ⟨⟨by omega,by omega⟩,?_⟩
        exact ⟨k3+1,_,rfl,rfl,⟨by omega,by first | (rw [hpm2,uC h72 h88 (by omega)]<;>rfl) | (rw [hpm2,xG h72 (by omega)]<;>rfl),by first | exact hp2L | (rw [List.length_set];exact hp2L)⟩,by omega⟩
      ·replace c5:=nq c5
       refine ⟨⟨0,dl,rfl,rfl,Nat.zero_le _,by rw [hdl,show k2=p.rows.length by omega];rfl,by rw [hdL];omega⟩,fun k4 dl2 ⟨hk4,hdl2,hd2L⟩=>?_⟩
       refine ⟨List.length_map _,fun c7=>?_,fun c7=>?_⟩
       ·replace c7:=yq c7
        refine ⟨by omega,List.length_map _,by first | omega | (rw [hp2L];omega) | (rw [hd2L];omega),rfl,by first | omega | (rw [hp2L];omega) | (rw [hd2L];omega),fun e101 h101=>?_⟩
        have hv101:=hft.2 _ (List.mem_of_getElem? h101)
        refine ⟨List.length_map _,fun c8=>?_,fun c8=>?_⟩
        ·replace c8:=yq c8
         refine ⟨by omega,List.length_map _,by first | omega | (rw [hp2L];omega) | (rw [hd2L];omega),rfl,by first | omega | (rw [hp2L];omega) | (rw [hd2L];omega),fun e112 h112=>?_⟩
         obtain rfl:=dE h101 h112
         refine ⟨List.length_map _,⟨by omega,by omega⟩,by omega,List.length_map _,by first | omega | (rw [hp2L];omega) | (rw [hd2L];omega),rfl,by first | omega | (rw [hp2L];omega) | (rw [hd2L];omega),fun e122 h122=>?_⟩
         have hc122:=cF (b7.2 _ (List.mem_of_getElem? h122))
         refine ⟨⟨by omega,by omega⟩,by omega,List.length_map _,by first | omega | (rw [hp2L];omega) | (rw [hd2L];omega),rfl,by first | omega | (rw [hp2L];omega) | (rw [hd2L];omega),fun e129 h129=>?_⟩
         obtain rfl:=dE h122 h129
         refine ⟨by omega,List.length_map _,by first | omega | (rw [hp2L];omega) | (rw [hd2L];omega),rfl,by first | omega | (rw [hp2L];omega) | (rw [hd2L];omega),fun s27_26 hs27_26=>⟨rfl,Nat.le_of_ble_eq_true rfl,rfl,?_⟩⟩
         refine ⟨⟨by omega,by omega⟩,?_⟩
         exact ⟨k4+1,_,rfl,rfl,⟨by omega,by first | (rw [hdl2,uD h101 h122 (by omega)]<;>rfl) | (rw [hdl2,xH h101 (by omega)]<;>rfl),by first | exact hd2L | (rw [List.length_set];exact hd2L)⟩,by omega⟩
        ·replace c8:=nq c8
         refine ⟨⟨by omega,by omega⟩,?_⟩
         exact ⟨k4+1,_,rfl,rfl,⟨by omega,by first | (rw [hdl2,uD h101 h122 (by omega)]<;>rfl) | (rw [hdl2,xH h101 (by omega)]<;>rfl),by first | exact hd2L | (rw [List.length_set];exact hd2L)⟩,by omega⟩
       ·replace c7:=nq c7
        refine ⟨?_,?_,?_,?_,?_,trivial⟩
        ·first | (rw [cA (bO c0)]<;>rfl) | (rw [hSB]<;>rfl) | (rw [hSP]<;>first | rfl | (rw [hpm2,show k3=x.basic.length by omega];rfl) | (rw [hdl2,show k4=x.others.length by omega];rfl))
        ·first | (rw [cA (bO c0)]<;>rfl) | (rw [hSB]<;>rfl) | (rw [hSP]<;>first | rfl | (rw [hpm2,show k3=x.basic.length by omega];rfl) | (rw [hdl2,show k4=x.others.length by omega];rfl))
        ·first | (rw [cA (bO c0)]<;>rfl) | (rw [hSB]<;>rfl) | (rw [hSP]<;>first | rfl | (rw [hpm2,show k3=x.basic.length by omega];rfl) | (rw [hdl2,show k4=x.others.length by omega];rfl))
        ·first | (rw [cA (bO c0)]<;>rfl) | (rw [hSB]<;>rfl) | (rw [hSP]<;>first | rfl | (rw [hpm2,show k3=x.basic.length by omega];rfl) | (rw [hdl2,show k4=x.others.length by omega];rfl))
        ·first | (rw [cA (bO c0)]<;>rfl) | (rw [hSB]<;>rfl) | (rw [hSP]<;>first | rfl | (rw [hpm2,show k3=x.basic.length by omega];rfl) | (rw [hdl2,show k4=x.others.length by omega];rfl))
   ·replace c2:=nq c2
    have e2:lH x (iC x)=fJ x (eC x).toNat:=by rw [iL hd (by omega),e1]
    refine ⟨aHh x (iC x) (by omega) (by omega),fun c9=>?_,fun c9=>?_⟩
    ·replace c9:=yq c9
     have hSB:cH p=(aCj,false):=qF (hs.symm.trans (yG (by omega) (by omega) (by omega)))
     refine ⟨?_,?_,?_,?_,?_,trivial⟩
     ·first | (rw [cA (bO c0)]<;>rfl) | (rw [hSB]<;>rfl) | (rw [hSP]<;>first | rfl | (rw [hpm2,show k3=x.basic.length by omega];rfl) | (rw [hdl2,show k4=x.others.length by omega];rfl))
     ·first | (rw [cA (bO c0)]<;>rfl) | (rw [hSB]<;>rfl) | (rw [hSP]<;>first | rfl | (rw [hpm2,show k3=x.basic.length by omega];rfl) | (rw [hdl2,show k4=x.others.length by omega];rfl))
     ·first | (rw [cA (bO c0)]<;>rfl) | (rw [hSB]<;>rfl) | (rw [hSP]<;>first | rfl | (rw [hpm2,show k3=x.basic.length by omega];rfl) | (rw [hdl2,show k4=x.others.length by omega];rfl))
     ·first | (rw [cA (bO c0)]<;>rfl) | (rw [hSB]<;>rfl) | (rw [hSP]<;>first | rfl | (rw [hpm2,show k3=x.basic.length by omega];rfl) | (rw [hdl2,show k4=x.others.length by omega];rfl))
     ·first | (rw [cA (bO c0)]<;>rfl) | (rw [hSB]<;>rfl) | (rw [hSP]<;>first | rfl | (rw [hpm2,show k3=x.basic.length by omega];rfl) | (rw [hdl2,show k4=x.others.length by omega];rfl))
    ·replace c9:=nq c9
     have PP:(aW x (lH x (iC x)) (iC x))=(eA x (fJ x (eC x).toNat).toNat (eC x).toNat):=by rw [eP hd (by omega) (by omega),e2,e1]
     refine ⟨aEB x (lH x (iC x)) (iC x) (by omega) (by omega),fun c10=>?_,fun c10=>?_⟩
     ·replace c10:=nt c10
      have hSB:cH p=(aCj,false):=qF (hs.symm.trans (aCF (by omega) (by omega) (by omega) (by rw [←PP];assumption)))
      refine ⟨?_,?_,?_,?_,?_,trivial⟩
      ·first | (rw [cA (bO c0)]<;>rfl) | (rw [hSB]<;>rfl) | (rw [hSP]<;>first | rfl | (rw [hpm2,show k3=x.basic.length by omega];rfl) | (rw [hdl2,show k4=x.others.length by omega];rfl))
      ·first | (rw [cA (bO c0)]<;>rfl) | (rw [hSB]<;>rfl) | (rw [hSP]<;>first | rfl | (rw [hpm2,show k3=x.basic.length by omega];rfl) | (rw [hdl2,show k4=x.others.length by omega];rfl))
      ·first | (rw [cA (bO c0)]<;>rfl) | (rw [hSB]<;>rfl) | (rw [hSP]<;>first | rfl | (rw [hpm2,show k3=x.basic.length by omega];rfl) | (rw [hdl2,show k4=x.others.length by omega];rfl))
      ·first | (rw [cA (bO c0)]<;>rfl) | (rw [hSB]<;>rfl) | (rw [hSP]<;>first | rfl | (rw [hpm2,show k3=x.basic.length by omega];rfl) | (rw [hdl2,show k4=x.others.length by omega];rfl))
      ·first | (rw [cA (bO c0)]<;>rfl) | (rw [hSB]<;>rfl) | (rw [hSP]<;>first | rfl | (rw [hpm2,show k3=x.basic.length by omega];rfl) | (rw [hdl2,show k4=x.others.length by omega];rfl))
     ·replace c10:=nf c10
      have hpo:=aCi hd (i:=(fJ x (eC x).toNat).toNat) (j:=(eC x).toNat) (by omega) (by omega) (by rw [←PP];assumption)
      rw [←PP] at hpo
      refine ⟨⟨by omega,by omega⟩,?_⟩
      exact ⟨s+1,(aW x (lH x (iC x)) (iC x)).1,rfl,rfl,rfl,rfl,rfl,rfl,rfl,rfl,⟨by omega,hpo.1,hpo.2.1.trans hbl,hpo.2.2.trans hol,by rw [PP];exact (aAh (by omega) (by omega) (by omega) (by rw [←PP];assumption)).symm.trans hs⟩,by omega⟩
  ·replace c1:=nq c1
   have hSB:cH p=(aCj,false):=qF (hs.symm.trans (aGN (by omega)))
   refine ⟨?_,?_,?_,?_,?_,trivial⟩
   ·first | (rw [cA (bO c0)]<;>rfl) | (rw [hSB]<;>rfl) | (rw [hSP]<;>first | rfl | (rw [hpm2,show k3=x.basic.length by omega];rfl) | (rw [hdl2,show k4=x.others.length by omega];rfl))
   ·first | (rw [cA (bO c0)]<;>rfl) | (rw [hSB]<;>rfl) | (rw [hSP]<;>first | rfl | (rw [hpm2,show k3=x.basic.length by omega];rfl) | (rw [hdl2,show k4=x.others.length by omega];rfl))
   ·first | (rw [cA (bO c0)]<;>rfl) | (rw [hSB]<;>rfl) | (rw [hSP]<;>first | rfl | (rw [hpm2,show k3=x.basic.length by omega];rfl) | (rw [hdl2,show k4=x.others.length by omega];rfl))
   ·first | (rw [cA (bO c0)]<;>rfl) | (rw [hSB]<;>rfl) | (rw [hSP]<;>first | rfl | (rw [hpm2,show k3=x.basic.length by omega];rfl) | (rw [hdl2,show k4=x.others.length by omega];rfl))
   ·first | (rw [cA (bO c0)]<;>rfl) | (rw [hSB]<;>rfl) | (rw [hSP]<;>first | rfl | (rw [hpm2,show k3=x.basic.length by omega];rfl) | (rw [hdl2,show k4=x.others.length by omega];rfl))
theorem aEl (p:ProgramD):kW (cH p).1≤100:=by
 unfold cH
 split
 ·rename_i h
  have:=kP h.1
  have e1:kW (aKB (fE 300 (gQ p)).1 p.objective.length p.rows.length)=(jL (fE 300 (gQ p)).1 p.objective.length (fE 300 (gQ p)).1.basic.length).length+(jM (fE 300 (gQ p)).1 p.objective.length p.rows.length (fE 300 (gQ p)).1.others.length).length:=rfl
  rw [e1,aCG,aCH]
  omega
 ·decide
theorem lawSolveProgram (a0:ProgramD) (h0:aA3 a0):gF Try.prog 3 [.agg [.sl 3 1 (a0.objective.map aG),.sl 22 1 (a0.rows.map bD),.sl 3 1 (a0.limits.map aG)]] (vB true) []:=by
 refine cT dR bK Try.func3 (by kernel_rfl) (.call (vI (aX (fB a0) (1048576:Int))) []<| .br (.fin []) (dA (jY a0)<| dA (vQ a0)<| dA (jY a0)<| dA (rF a0)<| .call (vB true) []<| .lit<| .lit<| .lit<| .lit<| .no<| dA (jY a0)<| .call (vB true) []<| fN (lK a0 (1:Int)) [(0,2600),(1,2601),(2,2602)]<| .no<| .call (vB true) []<| .lit<| .lit<| .lit<| .lit<| .lit<| .lit<| .no<| fN (kH ((cH a0).1) (1:Int)) [(0,2900),(1,2901)]<| .call (vI ((1:Int)+((dY ((cH a0).1):Nat):Int))) []<| .no<| .no<| dA (jY a0)<| dA (rF a0)<| .call (vB true) []<| .lit<| .lit<| .lit<| .lit<| .no<| .call (vI ((1:Int)+((dY ((cH a0).1):Nat):Int))) []<| .no<| .no<| .fin [])) (p:=(a0.objective.map aG).length≤9223372036854775807→(a0.rows.map bD).length≤9223372036854775807→(a0.limits.map aG).length≤9223372036854775807→xF a0 (1048576:Int)∧(((decide ((aX (fB a0) (1048576:Int))<(0:Int)))=true→(true)=true∧True)∧((decide ((aX (fB a0) (1048576:Int))<(0:Int)))=false→lN a0∧aBC a0∧lN a0∧vO a0∧mP ((cH a0).1)∧(!(((cH a0).2)==((cH a0).2)))=false∧lN a0∧xD a0∧xB a0 (1:Int)∧(1:Int)=(1:Int)∧a0.objective.map aG=a0.objective.map aG∧a0.rows.map bD=a0.rows.map bD∧a0.limits.map aG=a0.limits.map aG∧(decide (((1:Int)+((nW a0:Nat):Int))<(0:Int)))=false∧mP ((cH a0).1)∧(!(((cH a0).2)==((cH a0).2)))=false∧uK ((cH a0).1) (1:Int)∧((((cH a0).1).value).num)=((((cH a0).1).value).num)∧((((cH a0).1).value).den)=((((cH a0).1).value).den)∧(1:Int)=(1:Int)∧(((cH a0).1).primal).map aA=(((cH a0).1).primal).map aA∧(((cH a0).1).dual).map aA=(((cH a0).1).dual).map aA∧gF Try.prog 13 [.agg [.int .i64 ((((cH a0).1).value).num),.int .i64 ((((cH a0).1).value).den),.sl 28 2 (((eQ (1:Int) ((cH a0).1)).primal).map aA),.sl 28 2 (((eQ (1:Int) ((cH a0).1)).dual).map aA)],.one (.int .i64 (1:Int))] (vI ((1:Int)+((dY ((cH a0).1):Nat):Int))) []∧(decide (((1:Int)+((dY ((cH a0).1):Nat):Int))<(0:Int)))=false∧(!(decide (((1:Int)+((dY ((cH a0).1):Nat):Int))=((1:Int)+((dY ((cH a0).1):Nat):Int)))))=false∧lN a0∧vO a0∧mP ((cH a0).1)∧(!(((cH a0).2)==((cH a0).2)))=false∧gF Try.prog 13 [.agg [.int .i64 ((((cH a0).1).value).num),.int .i64 ((((cH a0).1).value).den),.sl 28 2 (((eQ (1:Int) ((cH a0).1)).primal).map aA),.sl 28 2 (((eQ (1:Int) ((cH a0).1)).dual).map aA)],.one (.int .i64 (1:Int))] (vI ((1:Int)+((dY ((cH a0).1):Nat):Int))) []∧(decide (((1:Int)+((dY ((cH a0).1):Nat):Int))<(0:Int)))=false∧(!(decide (((1:Int)+((dY ((cH a0).1):Nat):Int))=((1:Int)+((dY ((cH a0).1):Nat):Int)))))=false∧(true)=true∧True))) (by kernel_rfl) ?_
 intro n0 n1 n2
 simp only [List.length_map] at n0 n1 n2
 refine ⟨aEj a0 _ (by first | assumption | exact hf) (by omega) (by omega),fun c0=>?_,fun c0=>?_⟩
 ·replace c0:=yq c0
  refine ⟨?_,trivial⟩
  ·rfl
 ·replace c0:=nq c0
  try (have y0:=pA c0;try rw [bC y0] at*)
  have f2:=aEl a0
  have f6:=aBW (cH a0).1
  have f7: ∀r∈a0.rows,r.length≤1048576:=fun r hr=>by obtain ⟨k,hk⟩:=List.getElem?_of_mem hr;have h2:=nT hk;have e:bL r=r.length:=rfl;have e1:fB a0=bL a0.objective+gV a0.rows+bL a0.limits:=rfl;omega
  have sa0:=aCp a0
  refine ⟨rD a0 (by first | omega | (have:=cProgramS_el ‹x[k]? =some _›;omega)),aHs a0,rD a0 (by first | omega | (have:=cProgramS_el ‹x[k]? =some _›;omega)),aEG a0 (by assumption),by first | exact lA ((cH a0).1) | exact lA _,by first | (simp;done) | (simp;omega) | (simp [*];done),rD a0 (by first | omega | (have:=cProgramS_el ‹x[k]? =some _›;omega)),by first | exact aAz a0 | exact aAz _,aEi _ _ (by omega) (by first | omega | (dsimp only;omega)),rfl,rfl,rfl,rfl,by first | (simp;done) | (simp;omega) | (simp [*];done),by first | exact lA ((cH a0).1) | exact lA _,by first | (simp;done) | (simp;omega) | (simp [*];done),aEC _ _ (by omega) (by first | omega | (dsimp only;omega)),rfl,rfl,rfl,rfl,rfl,yX _ _ (by omega) (by first | omega | (dsimp only;omega)),by first | (simp;done) | (simp;omega) | (simp [*];done),by first | (simp;done) | (simp;omega) | (simp [*];done),rD a0 (by first | omega | (have:=cProgramS_el ‹x[k]? =some _›;omega)),aEG a0 (by assumption),by first | exact lA ((cH a0).1) | exact lA _,by first | (simp;done) | (simp;omega) | (simp [*];done),yX _ _ (by omega) (by first | omega | (dsimp only;omega)),by first | (simp;done) | (simp;omega) | (simp [*];done),by first | (simp;done) | (simp;omega) | (simp [*];done),?_,trivial⟩
  ·rfl
end Go.Proofs.Ytpoobcnmhnbdlaa
namespace Go.Proofs.Ytpoobcnmhnbdlaa
open Go.ChangeShapes Go.WideShapes Go.ChangeAt Go.RowKit
set_option linter.unusedVariables false
set_option linter.unusedSimpArgs false
set_option maxRecDepth 100000
set_option maxHeartbeats 4000000
def aHt:Rd (List Int):=fun w cs l=>jR (Lv w) w (bD l) cs∧yS l
theorem tJ {H:Type} {enc:TypeId × Value→H} {w:World} {base:Nat} {spare:Nat→Bool} {held:Bool} {fuel:Nat} {cs:List Value} {x:DataW H × List MemPlace} (h:DataW.trod enc Try.prog w base spare held fuel 22 cs=some x): ∃l,aHt w cs l:=by
 obtain ⟨l,hl⟩:=qJ (k:=1) (R:=aFT) Try.underlying22 (by kernel_rfl) (by omega) (fun _ _ _ h=>trod_int Try.underlying3 h) h
 have hf:yS l:=hl.all_ (fun _ _ _ h=>h.2)
 obtain ⟨A,c,rfl,_⟩:=id hl
 exact ⟨l,oF (wG (R:=aFT) (enc:=aG) (fun cs x h=>by obtain ⟨rfl,_⟩:=h;exact oF rdV_int oX) hl) oX,hf⟩
def aKE:Rd (List (List Int)):=fun w cs l=>jR (Lv w) w (aKA l) cs∧aCb l
theorem aGO {H:Type} {enc:TypeId × Value→H} {w:World} {base:Nat} {spare:Nat→Bool} {held:Bool} {fuel:Nat} {cs:List Value} {x:DataW H × List MemPlace} (h:DataW.trod enc Try.prog w base spare held fuel 23 cs=some x): ∃l,aKE w cs l:=by
 obtain ⟨l,hl⟩:=qJ (k:=1) (R:=aHt) Try.underlying23 (by kernel_rfl) (by omega) (fun _ _ _ h=>tJ h) h
 have hf:aCb l:=hl.all_ (fun _ _ _ h=>h.2)
 obtain ⟨A,c,rfl,_⟩:=id hl
 exact ⟨l,oF (wG (R:=aHt) (enc:=bD) (fun cs x h=>h.1) hl) oX,hf⟩
def yJ:Rd aC:=fun w cs x=>jR (Lv w) w (aA x) cs∧yD x
set_option maxRecDepth 100000 in
theorem xI {H:Type} {enc:TypeId × Value→H} {w:World} {base:Nat} {spare:Nat→Bool} {held:Bool} {fuel:Nat} {cs:List Value} {x:DataW H × List MemPlace} (h:DataW.trod enc Try.prog w base spare held fuel 43 cs=some x): ∃b,yJ w cs b:=by
 obtain ⟨xs,n,_,_,hl,hxl,hf⟩:=DataW.trod_struct Try.underlying43 h
 have hl2:cs.length=2:=hl.trans (by kernel_rfl)
 match cs,hl2 with
 | [c0,c1],_=>
   match xs,hxl with
   | [y0,y1],_=>
     obtain ⟨l0,r0⟩:=trod_int Try.underlying3 (hf 0 _ rfl)
     obtain ⟨l1,r1⟩:=trod_int Try.underlying3 (hf 1 _ rfl)
     exact ⟨⟨l0,l1⟩,(oF (rdI r0) (oF (rdI r1) oX)),r0.2,r1.2⟩
def vR:Rd (List aC):=fun w cs l=>jR (Lv w) w (aD l) cs∧mB l
theorem pS {H:Type} {enc:TypeId × Value→H} {w:World} {base:Nat} {spare:Nat→Bool} {held:Bool} {fuel:Nat} {cs:List Value} {x:DataW H × List MemPlace} (h:DataW.trod enc Try.prog w base spare held fuel 42 cs=some x): ∃l,vR w cs l:=by
 obtain ⟨l,hl⟩:=qJ (k:=2) (R:=yJ) Try.underlying42 (by kernel_rfl) (by omega) (fun _ _ _ h=>xI h) h
 have hf:mB l:=hl.all_ (fun _ _ _ h=>h.2)
 obtain ⟨A,c,rfl,_⟩:=id hl
 exact ⟨l,oF (wG (R:=yJ) (enc:=aA) (fun cs x h=>h.1) hl) oX,hf⟩
def aEI:Rd (List (List aC)):=fun w cs l=>jR (Lv w) w (aDd l) cs∧pB l
theorem aBD {H:Type} {enc:TypeId × Value→H} {w:World} {base:Nat} {spare:Nat→Bool} {held:Bool} {fuel:Nat} {cs:List Value} {x:DataW H × List MemPlace} (h:DataW.trod enc Try.prog w base spare held fuel 41 cs=some x): ∃l,aEI w cs l:=by
 obtain ⟨l,hl⟩:=qJ (k:=1) (R:=vR) Try.underlying41 (by kernel_rfl) (by omega) (fun _ _ _ h=>pS h) h
 have hf:pB l:=hl.all_ (fun _ _ _ h=>h.2)
 obtain ⟨A,c,rfl,_⟩:=id hl
 exact ⟨l,oF (wG (R:=vR) (enc:=aD) (fun cs x h=>h.1) hl) oX,hf⟩
def RProgram:Rd ProgramD:=fun w cs x=>jR (Lv w) w (aHU x) cs∧aA3 x
set_option maxRecDepth 100000 in
theorem openProgram {H:Type} {enc:TypeId × Value→H} {w:World} {base:Nat} {spare:Nat→Bool} {held:Bool} {fuel:Nat} {cs:List Value} {x:DataW H × List MemPlace} (h:DataW.trod enc Try.prog w base spare held fuel 25 cs=some x): ∃b,RProgram w cs b:=by
 obtain ⟨xs,n,_,_,hl,hxl,hf⟩:=DataW.trod_struct Try.underlying25 h
 have hl2:cs.length=3:=hl.trans (by kernel_rfl)
 match cs,hl2 with
 | [c0,c1,c2],_=>
   match xs,hxl with
   | [y0,y1,y2],_=>
     obtain ⟨l0,r0,f0⟩:=tJ (hf 0 _ rfl)
     obtain ⟨l1,r1,f1⟩:=aGO (hf 1 _ rfl)
     obtain ⟨l2,r2,f2⟩:=tJ (hf 2 _ rfl)
     exact ⟨⟨l0,l1,l2⟩,(jR.append r0 (jR.append r1 (jR.append r2 oX))),f0,f1,f2⟩
def RDictionary:Rd DictionaryD:=fun w cs x=>jR (Lv w) w (aDe x) cs∧sZ x
set_option maxRecDepth 100000 in
theorem openDictionary {H:Type} {enc:TypeId × Value→H} {w:World} {base:Nat} {spare:Nat→Bool} {held:Bool} {fuel:Nat} {cs:List Value} {x:DataW H × List MemPlace} (h:DataW.trod enc Try.prog w base spare held fuel 45 cs=some x): ∃b,RDictionary w cs b:=by
 obtain ⟨xs,n,_,_,hl,hxl,hf⟩:=DataW.trod_struct Try.underlying45 h
 have hl2:cs.length=7:=hl.trans (by kernel_rfl)
 match cs,hl2 with
 | [c0,c1,c2,c3,c4,c5,c6],_=>
   match xs,hxl with
   | [y0,y1,y2,y3,y4,y5],_=>
     obtain ⟨l0,r0,f0⟩:=tJ (hf 0 _ rfl)
     obtain ⟨l1,r1,f1⟩:=tJ (hf 1 _ rfl)
     obtain ⟨l2,r2,f2⟩:=aBD (hf 2 _ rfl)
     obtain ⟨l3,r3,f3⟩:=pS (hf 3 _ rfl)
     obtain ⟨l4,r4,f4⟩:=pS (hf 4 _ rfl)
     obtain ⟨l5,r5,f5⟩:=xI (hf 5 _ rfl)
     exact ⟨⟨l0,l1,l2,l3,l4,l5⟩,(jR.append r0 (jR.append r1 (jR.append r2 (jR.append r3 (jR.append r4 (jR.append r5 oX)))))),f0,f1,f2,f3,f4,f5⟩
end Go.Proofs.Ytpoobcnmhnbdlaa
namespace Go.Proofs.Ytpoobcnmhnbdlaa
open Go.ChangeShapes Go.WideShapes Go.ChangeAt Go.RowKit
set_option linter.unusedVariables false
set_option linter.unusedSimpArgs false
set_option maxRecDepth 100000
set_option maxHeartbeats 4000000
theorem fr_own:ownKnob Try.prog.godebug=none:=by kernel_rfl
theorem fr_laid:laidOutB Try.prog=true:=by kernel_rfl
theorem fr_maps:mapsRowed Try.prog=true:=by kernel_rfl
theorem fr_stops:(Try.prog.stops== [])=true:=by kernel_rfl
theorem fr_sk:(Try.prog.stopKnobs== [])=true:=by kernel_rfl
theorem fr_heard:Try.prog.stopsHeard=true:=by kernel_rfl
theorem fr_enter:Try.prog.mayEnter=true:=by kernel_rfl
theorem fr_keys:(Rows.fnExactSolveProgramRow.plainKeys==Try.prog.plainKeys)=true:=by kernel_rfl
theorem fr_lifts:(Rows.fnExactSolveProgramRow.lifted==Try.prog.liftsFinal)=true:=by kernel_rfl
theorem fr_make:(Try.prog.make==some Rows.fnExactSolveProgramRow.make)=true:=by kernel_rfl
end Go.Proofs.Ytpoobcnmhnbdlaa
