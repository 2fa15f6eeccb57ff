/-
  Contracts and plain laws, joined: part 13.
-/
import Derived.Test.YtokkjaflmcjlhaaGreatQA10
import Derived.Test.YtokkjaflmcjlhaaGreatQA11
import Derived.Test.YtokkjaflmcjlhaaGreatQA9
import Derived.Test.YtokkjaflmcjlhaaGreatQA8
import Derived.Test.YtokkjaflmcjlhaaGreatQA7
namespace Go.Proofs.YtokkjaflmcjlhaaGreat
open Go.ChangeShapes Go.WideShapes Go.ChangeAt Go.RowKit
set_option linter.unusedVariables false
set_option linter.unusedSimpArgs false
set_option maxRecDepth 100000
set_option maxHeartbeats 4000000
abbrev wJ (d:aR) (x:aU):AV × List (Nat × Rs):=(.own 0,[(0,.arr 3 1 true ((tX d x).map intD))])
abbrev aCV (d:aR) (x:aU):Prop:=cO Tryz.prog 234 [.agg [.sl 162 3 (d.tables.map aO)],.agg [.str x.name,.int .i64 x.column,.str x.into,.int .i64 x.intoColumn]] (wJ d x).1 (wJ d x).2
theorem aLv (d:aR) (x:aU) (hc:bD d≤1048576):aCV d x:=by
 refine aT bF aQ Tryz.func234 (by kernel_rfl) (.call (vB (dU d x)) []<| .br (.fin []) (.call (.tup [.agg [.p none (.str (((aE d x.name).1).name)),vI (((aE d x.name).1).arity),.p none (.sl 32 1 ((((aE d x.name).1).rows).map aC))],vB ((aE d x.name).2)]) []<| .call (.tup [.agg [.p none (.str (((aE d x.into).1).name)),vI (((aE d x.into).1).arity),.p none (.sl 32 1 ((((aE d x.into).1).rows).map aC))],vB ((aE d x.into).2)]) []<| .len ((((aE d x.into).1).rows).length)<| .loop (Nat × (List Int)) (Q2 Nat (List Int)) [9,11,34,38,39,40,41,42,43,44,45,46,47,48,49,50] [3400,4800,4900] (fun yy0=>[(38,vI (yy0.1:Int)),(9,.own 3400)]) (fun yy0=>[(3400,some (.arr 3 1 true (yy0.2.map intD)))]) (fun yy0=>yy0.1≤(aE d x.into).1.rows.length∧yy0.2=gF ((aE d x.into).1.rows.take yy0.1) x.intoColumn) (fun yy0=>(aE d x.into).1.rows.length - yy0.1) (fun yy0=> .br (.elem _ aC (((aE d x.into).1).rows) (fun e40=> .elem _ intD e40 (fun e46=> .app Int intD yy0.2 ([e46]:List Int)<| .back [(3400,4900)]))) (.len ((((aE d x.name).1).rows).length)<| .loop (Nat × (List Int)) (Q2 Nat (List Int)) [12,14,15,51,55,56,57,58,59,60,61,62,63,64,65,66,67,68,69,70,71,72] [5100,7000,7100] (fun yy1=>[(55,vI (yy1.1:Int)),(12,.own 5100)]) (fun yy1=>[(5100,some (.arr 3 1 true (yy1.2.map intD)))]) (fun yy1=>yy1.1≤(aE d x.name).1.rows.length∧yy1.2=(gF ((aE d x.name).1.rows.take yy1.1) x.column).filter fun v=> !decide (v∈yy0.2)) (fun yy1=>(aE d x.name).1.rows.length - yy1.1) (fun yy1=> .br (.elem _ aC (((aE d x.name).1).rows) (fun e57=> .elem _ intD e57 (fun e62=> .call (vB (decide (e62∈yy0.2))) []<| .br (.app Int intD yy1.2 ([e62]:List Int)<| .back [(5100,7100)]) (.back [(5100,5100)])))) (.callx [.own 0] [(0,.arr 3 1 true (yy1.2.map intD))] [(0,5100)] (.tup []) [(0,.arr 3 1 true ((iE yy1.2).map intD))]<| .callx [.own 0] [(0,.arr 3 1 true ((iE yy1.2).map intD))] [(0,5100)] (.own 1) [(1,.arr 3 1 true ((qH (iE yy1.2)).map intD))]<| .fin [(0,7601)])))))) (p:=(d.tables.map aO).length≤9223372036854775807→sT d x∧(((!(dU d x))=true→[]=(tX d x).map intD∧True)∧((!(dU d x))=false→cO Tryz.prog 148 [.agg [.sl 162 3 (d.tables.map aO)],.one (.str x.name)] (.tup [.agg [.p none (.str (((aE d x.name).1).name)),vI (((aE d x.name).1).arity),.p none (.sl 32 1 ((((aE d x.name).1).rows).map aC))],vB ((aE d x.name).2)]) []∧(cO Tryz.prog 148 [.agg [.sl 162 3 (d.tables.map aO)],.one (.str x.into)] (.tup [.agg [.p none (.str (((aE d x.into).1).name)),vI (((aE d x.into).1).arity),.p none (.sl 32 1 ((((aE d x.into).1).rows).map aC))],vB ((aE d x.into).2)]) []∧(Lm aC (((aE d x.into).1).rows)∧((∃(k:Nat) (there:List Int),(0:Int)=(k:Int)∧[]=there.map intD∧k≤(aE d x.into).1.rows.length∧there=gF ((aE d x.into).1.rows.take k) x.intoColumn)∧ ∀(k:Nat) (there:List Int),(k≤(aE d x.into).1.rows.length∧there=gF ((aE d x.into).1.rows.take k) x.intoColumn)→((decide ((k:Int)<(((((aE d x.into).1).rows).length:Nat):Int)))=true→0≤(k:Int)∧Em aC (((aE d x.into).1).rows) k fun e40=>0≤x.intoColumn∧Em intD e40 ((x.intoColumn).toNat) fun e46=>there.map intD=there.map intD∧[[.int .i64 e46]]=([e46]:List Int).map intD∧(∀x,eI (intD x)=true)∧(there.length+([e46]:List Int).length)*8≤140737488355328∧cL ((k:Int)+(1:Int))∧ ∃(k' :Nat) (there' :List Int),((k:Int)+(1:Int))=(k' :Int)∧(there++[e46]).map intD=there'.map intD∧(k' ≤(aE d x.into).1.rows.length∧there' =gF ((aE d x.into).1.rows.take k') x.intoColumn)∧(aE d x.into).1.rows.length - k' <(aE d x.into).1.rows.length - k)∧((decide ((k:Int)<(((((aE d x.into).1).rows).length:Nat):Int)))=false→Lm aC (((aE d x.name).1).rows)∧((∃(j:Nat) (out:List Int),(0:Int)=(j:Int)∧[]=out.map intD∧j≤(aE d x.name).1.rows.length∧out=(gF ((aE d x.name).1.rows.take j) x.column).filter fun v=> !decide (v∈there))∧ ∀(j:Nat) (out:List Int),(j≤(aE d x.name).1.rows.length∧out=(gF ((aE d x.name).1.rows.take j) x.column).filter fun v=> !decide (v∈there))→((decide ((j:Int)<(((((aE d x.name).1).rows).length:Nat):Int)))=true→0≤(j:Int)∧Em aC (((aE d x.name).1).rows) j fun e57=>0≤x.column∧Em intD e57 ((x.column).toNat) fun e62=>aES there e62∧(((!(decide (e62∈there)))=true→out.map intD=out.map intD∧[[.int .i64 e62]]=([e62]:List Int).map intD∧(∀x,eI (intD x)=true)∧(out.length+([e62]:List Int).length)*8≤140737488355328∧cL ((j:Int)+(1:Int))∧ ∃(j' :Nat) (out' :List Int),((j:Int)+(1:Int))=(j' :Int)∧(out++[e62]).map intD=out'.map intD∧(j' ≤(aE d x.name).1.rows.length∧out' =(gF ((aE d x.name).1.rows.take j') x.column).filter fun v=> !decide (v∈there))∧(aE d x.name).1.rows.length - j' <(aE d x.name).1.rows.length - j)∧((!(decide (e62∈there)))=false→cL ((j:Int)+(1:Int))∧ ∃(j' :Nat) (out' :List Int),((j:Int)+(1:Int))=(j' :Int)∧out.map intD=out'.map intD∧(j' ≤(aE d x.name).1.rows.length∧out' =(gF ((aE d x.name).1.rows.take j') x.column).filter fun v=> !decide (v∈there))∧(aE d x.name).1.rows.length - j' <(aE d x.name).1.rows.length - j)))∧((decide ((j:Int)<(((((aE d x.name).1).rows).length:Nat):Int)))=false→yX Tryz.prog 248 [.own 0] [(0,.arr 3 1 true (out.map intD))] (.tup []) [(0,.arr 3 1 true ((iE out).map intD))]∧out.map intD=out.map intD∧yX Tryz.prog 273 [.own 0] [(0,.arr 3 1 true ((iE out).map intD))] (.own 1) [(1,.arr 3 1 true ((qH (iE out)).map intD))]∧(iE out).map intD=(iE out).map intD∧(qH (iE out)).map intD=(tX d x).map intD∧True))))))))) (by kernel_rfl) ?_
 intro n0
 simp only [List.length_map] at n0
 refine ⟨aE0 _ _ (by omega),fun c0=>?_,fun c0=>?_⟩
 ·replace c0:=nt c0
  have hbad:tX d x= []:=by rw [tX,if_neg (by simpa using c0)]
  refine ⟨?_,trivial⟩
  ·first | (rw [hbad]<;>rfl) | (rw [hE]<;>rfl)
 ·replace c0:=nf c0
  have hok:dU d x=true:=by simpa using c0
  obtain ⟨hTa,hTb,hca,hcb⟩:=wB hok
  have hA8:=bT hTa
  have hB8:=bT hTb
  refine ⟨iF (pG _ x.name (by omega)) rfl,iF (pG _ x.into (by omega)) rfl,List.length_map _,⟨0,([]:List Int),rfl,rfl,Nat.zero_le _,rfl⟩,fun k there ⟨hk,hth⟩=>?_⟩
  have htl:there.length=k:=by rw [hth,gF,List.length_map,List.length_take];omega
  refine ⟨fun c1=>?_,fun c1=>?_⟩
  ·replace c1:=yq c1
   refine ⟨by omega,rfl,by omega,fun e40 h40=>?_⟩
   have hl40:=mO hTb (List.mem_of_getElem? h40)
   refine ⟨by omega,rfl,by omega,fun e46 h46=>?_⟩
   refine ⟨rfl,rfl,fun _=>rfl,by first | omega | (simp [hth];omega) | (simp;omega),?_⟩
   refine ⟨⟨by omega,by omega⟩,?_⟩
   exact ⟨k+1,_,rfl,rfl,⟨by omega,by rw [kN _ _ h40,←hth,aP h46]⟩,by omega⟩
  ·replace c1:=nq c1
   have hTH:there=gF (aE d x.into).1.rows x.intoColumn:=by rw [hth,List.take_of_length_le (by omega)]
   refine ⟨List.length_map _,⟨0,([]:List Int),rfl,rfl,Nat.zero_le _,rfl⟩,fun j out ⟨hj,ho⟩=>?_⟩
   have hol:out.length≤j:=by rw [ho];refine Nat.le_trans (List.length_filter_le _ _) ?_;simp [gF];omega
   refine ⟨fun c2=>?_,fun c2=>?_⟩
   ·replace c2:=yq c2
    refine ⟨by omega,rfl,by omega,fun e57 h57=>?_⟩
    have hl57:=mO hTa (List.mem_of_getElem? h57)
    refine ⟨by omega,rfl,by omega,fun e62 h62=>?_⟩
    refine ⟨ctI _ _,fun c3=>?_,fun c3=>?_⟩
    ·replace c3:=nt c3
     refine ⟨rfl,rfl,fun _=>rfl,by first | omega | (simp [hth];omega) | (simp;omega),?_⟩
     refine ⟨⟨by omega,by omega⟩,?_⟩
     exact ⟨j+1,_,rfl,rfl,⟨by omega,by rw [kN _ _ h57,List.filter_append,←ho,aP h62,List.filter_cons_of_pos (by simpa using c3)];rfl⟩,by omega⟩
    ·replace c3:=nf c3
     refine ⟨⟨by omega,by omega⟩,?_⟩
     exact ⟨j+1,_,rfl,rfl,⟨by omega,by rw [kN _ _ h57,List.filter_append,←ho,aP h62,List.filter_cons_of_neg (by simpa using c3)];simp⟩,by omega⟩
   ·replace c2:=nq c2
    have hE:tX d x=qH (iE out):=by rw [tX,if_pos hok,aCP,ho,hTH,List.take_of_length_le (by omega)]
    refine ⟨aGY out (by omega),rfl,aLg (iE out) (by first | omega | (rw [rL];omega)),rfl,?_,trivial⟩
    ·first | (rw [hbad]<;>rfl) | (rw [hE]<;>rfl)
abbrev aAx (d:aR) (x:aU):Prop:=cO Tryz.prog 153 [.agg [.sl 162 3 (d.tables.map aO)],.agg [.str x.name,.int .i64 x.column,.str x.into,.int .i64 x.intoColumn]] (vB (gM d x)) []
theorem aJp (d:aR) (x:aU) (hc:bD d≤1048576):aAx d x:=by
 refine aT bF aQ Tryz.func153 (by kernel_rfl) (.call (vB (dU d x)) []<| .br (bH (wJ d x)<| .len ((tX d x).length)<| .fin []) (.fin [])) (p:=(d.tables.map aO).length≤9223372036854775807→sT d x∧(((dU d x)=true→aCV d x∧Lm intD (tX d x)∧(decide ((((tX d x).length:Nat):Int)=(0:Int)))=(gM d x)∧True)∧((dU d x)=false→(false)=(gM d x)∧True))) (by kernel_rfl) ?_
 intro n0
 simp only [List.length_map] at n0
 refine ⟨aE0 _ _ (by omega),fun g8=>?_,fun g8=>?_⟩
 ·refine ⟨aLv _ _ (by omega),List.length_map _,?_,trivial⟩
  ·first | (simp [gM, *];done) | (rw [gM,g8,nL,aG0 g8];rfl)
 ·refine ⟨?_,trivial⟩
  ·first | (simp [gM, *];done) | (rw [gM,g8,nL,aG0 g8];rfl)
abbrev wK (d:aR) (x:aU):AV × List (Nat × Rs):=(.own 0,[(0,.arr 3 1 true ((tY d x).map intD))])
abbrev aCW (d:aR) (x:aU):Prop:=cO Tryz.prog 215 [.agg [.sl 162 3 (d.tables.map aO)],.agg [.str x.name,.int .i64 x.column,.str x.into,.int .i64 x.intoColumn]] (wK d x).1 (wK d x).2
theorem aLw (d:aR) (x:aU) (hc:bD d≤1048576):aCW d x:=by
 refine aT bF aQ Tryz.func215 (by kernel_rfl) (.call (vB (dU d x)) []<| .br (.fin [(0,1500)]) (.call (.tup [.agg [.p none (.str (((aE d x.name).1).name)),vI (((aE d x.name).1).arity),.p none (.sl 32 1 ((((aE d x.name).1).rows).map aC))],vB ((aE d x.name).2)]) []<| .call (.tup [.agg [.p none (.str (((aE d x.into).1).name)),vI (((aE d x.into).1).arity),.p none (.sl 32 1 ((((aE d x.into).1).rows).map aC))],vB ((aE d x.into).2)]) []<| .loop (Nat × (List Int)) (Q2 Nat (List Int)) [5,10,11,12,13,14,15,35,36,37,38,39,40,41,42,43,44,45,46,47,48,49,50,51,52,53,54,55,56,57,58,59,60,61,62,63,64,65,66,67,68,69,70,71,72,73,74,75,76,77,78,79,80,81,82,83,84,85,86,87,88,89] [1500,8800,8900] (fun yy0=>[(10,vI (yy0.1:Int)),(5,.own 1500)]) (fun yy0=>[(1500,some (.arr 3 1 true (yy0.2.map intD)))]) (fun yy0=>yy0.1≤10∧yy0.2=lU d x yy0.1) (fun yy0=>10 - yy0.1) (fun yy0=> .br (.loop (Nat × Bool) (Q2 Nat Bool) [11,13,39,40,41,42,43,44,45,46,47,48,49,50,51,52,53,54,55,56,57,58,59] [] (fun yy1=>[(13,vI (yy1.1:Int)),(11,vB yy1.2)]) (fun yy1=>[]) (fun yy1=>yy1.1≤(aE d x.name).1.rows.length∧yy1.2=decide ((yy0.1:Int)∈gF ((aE d x.name).1.rows.take yy1.1) x.column)) (fun yy1=>(aE d x.name).1.rows.length - yy1.1) (fun yy1=> .len ((((aE d x.name).1).rows).length)<| .br (.br (.back []) (.elem _ aC (((aE d x.name).1).rows) (fun e51=> .elem _ intD e51 (fun e55=> .back [])))) (.loop (Nat × Bool) (Q2 Nat Bool) [12,14,60,61,62,63,64,65,66,67,68,69,70,71,72,73,74,75,76,77,78,79,80] [] (fun yy2=>[(14,vI (yy2.1:Int)),(12,vB yy2.2)]) (fun yy2=>[]) (fun yy2=>yy2.1≤(aE d x.into).1.rows.length∧yy2.2=decide ((yy0.1:Int)∈gF ((aE d x.into).1.rows.take yy2.1) x.intoColumn)) (fun yy2=>(aE d x.into).1.rows.length - yy2.1) (fun yy2=> .len ((((aE d x.into).1).rows).length)<| .br (.br (.back []) (.elem _ aC (((aE d x.into).1).rows) (fun e72=> .elem _ intD e72 (fun e76=> .back [])))) (.br (.lit<| .lit<| .br (.app Int intD yy0.2 ([(yy0.1:Int)]:List Int)<| .back [(1500,8900)]) (.back [(1500,1500)])) (.back [(1500,1500)])))))) (.fin [(0,1500)])))) (p:=(d.tables.map aO).length≤9223372036854775807→sU d x∧(((!(dU d x))=true→[]=(tY d x).map intD∧True)∧((!(dU d x))=false→cO Tryz.prog 132 [.agg [.sl 162 3 (d.tables.map aO)],.one (.str x.name)] (.tup [.agg [.p none (.str (((aE d x.name).1).name)),vI (((aE d x.name).1).arity),.p none (.sl 32 1 ((((aE d x.name).1).rows).map aC))],vB ((aE d x.name).2)]) []∧(cO Tryz.prog 132 [.agg [.sl 162 3 (d.tables.map aO)],.one (.str x.into)] (.tup [.agg [.p none (.str (((aE d x.into).1).name)),vI (((aE d x.into).1).arity),.p none (.sl 32 1 ((((aE d x.into).1).rows).map aC))],vB ((aE d x.into).2)]) []∧((∃(v:Nat) (out:List Int),(0:Int)=(v:Int)∧[]=out.map intD∧v≤10∧out=lU d x v)∧ ∀(v:Nat) (out:List Int),(v≤10∧out=lU d x v)→((decide ((v:Int)≤(9:Int)))=true→(∃(k:Nat) (p:Bool),(0:Int)=(k:Int)∧(false)=p∧k≤(aE d x.name).1.rows.length∧p=decide ((v:Int)∈gF ((aE d x.name).1.rows.take k) x.column))∧ ∀(k:Nat) (p:Bool),(k≤(aE d x.name).1.rows.length∧p=decide ((v:Int)∈gF ((aE d x.name).1.rows.take k) x.column))→Lm aC (((aE d x.name).1).rows)∧(((decide ((k:Int)<(((((aE d x.name).1).rows).length:Nat):Int)))=true→((p)=true→cL ((k:Int)+(1:Int))∧ ∃(k' :Nat) (p' :Bool),((k:Int)+(1:Int))=(k' :Int)∧(true)=p' ∧(k' ≤(aE d x.name).1.rows.length∧p' =decide ((v:Int)∈gF ((aE d x.name).1.rows.take k') x.column))∧(aE d x.name).1.rows.length - k' <(aE d x.name).1.rows.length - k)∧((p)=false→0≤(k:Int)∧Em aC (((aE d x.name).1).rows) k fun e51=>0≤x.column∧Em intD e51 ((x.column).toNat) fun e55=>cL ((k:Int)+(1:Int))∧ ∃(k' :Nat) (p' :Bool),((k:Int)+(1:Int))=(k' :Int)∧(decide (e55=(v:Int)))=p' ∧(k' ≤(aE d x.name).1.rows.length∧p' =decide ((v:Int)∈gF ((aE d x.name).1.rows.take k') x.column))∧(aE d x.name).1.rows.length - k' <(aE d x.name).1.rows.length - k))∧((decide ((k:Int)<(((((aE d x.name).1).rows).length:Nat):Int)))=false→(∃(j:Nat) (q:Bool),(0:Int)=(j:Int)∧(false)=q∧j≤(aE d x.into).1.rows.length∧q=decide ((v:Int)∈gF ((aE d x.into).1.rows.take j) x.intoColumn))∧ ∀(j:Nat) (q:Bool),(j≤(aE d x.into).1.rows.length∧q=decide ((v:Int)∈gF ((aE d x.into).1.rows.take j) x.intoColumn))→Lm aC (((aE d x.into).1).rows)∧(((decide ((j:Int)<(((((aE d x.into).1).rows).length:Nat):Int)))=true→((q)=true→cL ((j:Int)+(1:Int))∧ ∃(j' :Nat) (q' :Bool),((j:Int)+(1:Int))=(j' :Int)∧(true)=q' ∧(j' ≤(aE d x.into).1.rows.length∧q' =decide ((v:Int)∈gF ((aE d x.into).1.rows.take j') x.intoColumn))∧(aE d x.into).1.rows.length - j' <(aE d x.into).1.rows.length - j)∧((q)=false→0≤(j:Int)∧Em aC (((aE d x.into).1).rows) j fun e72=>0≤x.intoColumn∧Em intD e72 ((x.intoColumn).toNat) fun e76=>cL ((j:Int)+(1:Int))∧ ∃(j' :Nat) (q' :Bool),((j:Int)+(1:Int))=(j' :Int)∧(decide (e76=(v:Int)))=q' ∧(j' ≤(aE d x.into).1.rows.length∧q' =decide ((v:Int)∈gF ((aE d x.into).1.rows.take j') x.intoColumn))∧(aE d x.into).1.rows.length - j' <(aE d x.into).1.rows.length - j))∧((decide ((j:Int)<(((((aE d x.into).1).rows).length:Nat):Int)))=false→((p)=true→((!q)=true→out.map intD=out.map intD∧[[.int .i64 (v:Int)]]=([(v:Int)]:List Int).map intD∧(∀x,eI (intD x)=true)∧(out.length+([(v:Int)]:List Int).length)*8≤140737488355328∧cL ((v:Int)+(1:Int))∧ ∃(v' :Nat) (out' :List Int),((v:Int)+(1:Int))=(v' :Int)∧(out++[(v:Int)]).map intD=out'.map intD∧(v' ≤10∧out' =lU d x v')∧10 - v' <10 - v)∧((!q)=false→cL ((v:Int)+(1:Int))∧ ∃(v' :Nat) (out' :List Int),((v:Int)+(1:Int))=(v' :Int)∧out.map intD=out'.map intD∧(v' ≤10∧out' =lU d x v')∧10 - v' <10 - v))∧((p)=false→cL ((v:Int)+(1:Int))∧ ∃(v' :Nat) (out' :List Int),((v:Int)+(1:Int))=(v' :Int)∧out.map intD=out'.map intD∧(v' ≤10∧out' =lU d x v')∧10 - v' <10 - v))))))∧((decide ((v:Int)≤(9:Int)))=false→out.map intD=(tY d x).map intD∧True)))))) (by kernel_rfl) ?_
 intro n0
 simp only [List.length_map] at n0
 refine ⟨aE1 _ _ (by omega),fun c0=>?_,fun c0=>?_⟩
 ·replace c0:=nt c0
  have hbad:tY d x= []:=by rw [tY,if_neg (by simpa using c0)]
  refine ⟨?_,trivial⟩
  ·first | (rw [hbad]<;>rfl) | (rw [hE]<;>rfl)
 ·replace c0:=nf c0
  have hok:dU d x=true:=by simpa using c0
  obtain ⟨hTa,hTb,hca,hcb⟩:=wB hok
  have hA8:=bT hTa
  have hB8:=bT hTb
  refine ⟨iF (pH _ x.name (by omega)) rfl,iF (pH _ x.into (by omega)) rfl,⟨0,([]:List Int),rfl,rfl,by omega,rfl⟩,fun v out ⟨hvv,ho⟩=>?_⟩
  have hol:=aLi d x v
  rw [←ho] at hol
  refine ⟨fun c1=>?_,fun c1=>?_⟩
  ·replace c1:=yq c1
   refine ⟨⟨0,false,rfl,rfl,Nat.zero_le _,rfl⟩,fun k p ⟨hk,hp⟩=>?_⟩
   refine ⟨List.length_map _,fun c2=>?_,fun c2=>?_⟩
   ·replace c2:=yq c2
    obtain ⟨ra,hra⟩:=cJ (l:=(aE d x.name).1.rows) (k:=k) (by omega)
    refine ⟨fun g47=>?_,fun g47=>?_⟩
    ·refine ⟨⟨by omega,by omega⟩,?_⟩
     exact ⟨k+1,_,rfl,rfl,⟨by omega,by rw [kN _ _ hra,rM,←hp,g47];rfl⟩,by omega⟩
    ·refine ⟨by omega,rfl,by omega,fun e51 h51=>?_⟩
     have hl51:=mO hTa (List.mem_of_getElem? h51)
     refine ⟨by omega,rfl,by omega,fun e55 h55=>?_⟩
     refine ⟨⟨by omega,by omega⟩,?_⟩
     exact ⟨k+1,_,rfl,rfl,⟨by omega,by obtain rfl:=bA h51 hra;rw [kN _ _ hra,rM,←hp,g47,aP h55,Bool.false_or];exact decide_eq_decide.2 ⟨Eq.symm,Eq.symm⟩⟩,by omega⟩
   ·replace c2:=nq c2
    have hP:p=decide ((v:Int)∈gF (aE d x.name).1.rows x.column):=by rw [hp,List.take_of_length_le (by omega)]
    refine ⟨⟨0,false,rfl,rfl,Nat.zero_le _,rfl⟩,fun j q ⟨hj,hq⟩=>?_⟩
    refine ⟨List.length_map _,fun c3=>?_,fun c3=>?_⟩
    ·replace c3:=yq c3
     obtain ⟨rb,hrb⟩:=cJ (l:=(aE d x.into).1.rows) (k:=j) (by omega)
     refine ⟨fun g68=>?_,fun g68=>?_⟩
     ·refine ⟨⟨by omega,by omega⟩,?_⟩
      exact ⟨j+1,_,rfl,rfl,⟨by omega,by rw [kN _ _ hrb,rM,←hq,g68];rfl⟩,by omega⟩
     ·refine ⟨by omega,rfl,by omega,fun e72 h72=>?_⟩
      have hl72:=mO hTb (List.mem_of_getElem? h72)
      refine ⟨by omega,rfl,by omega,fun e76 h76=>?_⟩
      refine ⟨⟨by omega,by omega⟩,?_⟩
      exact ⟨j+1,_,rfl,rfl,⟨by omega,by obtain rfl:=bA h72 hrb;rw [kN _ _ hrb,rM,←hq,g68,aP h76,Bool.false_or];exact decide_eq_decide.2 ⟨Eq.symm,Eq.symm⟩⟩,by omega⟩
    ·replace c3:=nq c3
     have hQ:q=decide ((v:Int)∈gF (aE d x.into).1.rows x.intoColumn):=by rw [hq,List.take_of_length_le (by omega)]
     refine ⟨fun g82=>?_,fun g82=>?_⟩
     ·refine ⟨fun c4=>?_,fun c4=>?_⟩
      ·replace c4:=nt c4
       refine ⟨rfl,rfl,fun _=>rfl,by first | omega | (simp [ho];omega) | (simp;omega),?_⟩
       refine ⟨⟨by omega,by omega⟩,?_⟩
       exact ⟨v+1,_,rfl,rfl,⟨by omega,by rw [ho,aLh (by rw [aAr,←hP,←hQ,g82,c4];rfl)]⟩,by omega⟩
      ·replace c4:=nf c4
       refine ⟨⟨by omega,by omega⟩,?_⟩
       exact ⟨v+1,_,rfl,rfl,⟨by omega,by rw [ho,aId (by rw [aAr,←hP,←hQ,g82,c4];rfl)]⟩,by omega⟩
     ·refine ⟨⟨by omega,by omega⟩,?_⟩
      exact ⟨v+1,_,rfl,rfl,⟨by omega,by rw [ho,aId (by rw [aAr,←hP,←hQ,g82];rfl)]⟩,by omega⟩
  ·replace c1:=nq c1
   have hE:tY d x=out:=by rw [tY,if_pos hok,ho,show v=10 by omega]
   refine ⟨?_,trivial⟩
   ·first | (rw [hbad]<;>rfl) | (rw [hE]<;>rfl)
abbrev aAy (d:aR) (x:aU):Prop:=cO Tryz.prog 137 [.agg [.sl 162 3 (d.tables.map aO)],.agg [.str x.name,.int .i64 x.column,.str x.into,.int .i64 x.intoColumn]] (vB (gM d x)) []
theorem aJq (d:aR) (x:aU) (hc:bD d≤1048576):aAy d x:=by
 refine aT bF aQ Tryz.func137 (by kernel_rfl) (.call (vB (dU d x)) []<| .br (bH (wK d x)<| .len ((tY d x).length)<| .fin []) (.fin [])) (p:=(d.tables.map aO).length≤9223372036854775807→sU d x∧(((dU d x)=true→aCW d x∧Lm intD (tY d x)∧(decide ((((tY d x).length:Nat):Int)=(0:Int)))=(gM d x)∧True)∧((dU d x)=false→(false)=(gM d x)∧True))) (by kernel_rfl) ?_
 intro n0
 simp only [List.length_map] at n0
 refine ⟨aE1 _ _ (by omega),fun g8=>?_,fun g8=>?_⟩
 ·refine ⟨aLw _ _ (by omega),List.length_map _,?_,trivial⟩
  ·first | (simp [gM, *];done) | (rw [gM,g8,nL,aG1 g8];rfl)
 ·refine ⟨?_,trivial⟩
  ·first | (simp [gM, *];done) | (rw [gM,g8,nL,aG1 g8];rfl)
def eE (d:aR) (l:List aW) (m:List aU):Bool:=l.all (gL d)&&(m.all (gM d)&&(decide ((l.length:Int)≤8)&&decide ((m.length:Int)≤8)))
abbrev aCX (d:aR) (l:List aW) (m:List aU):Prop:=cO Tryz.prog 75 [.agg [.sl 162 3 (d.tables.map aO)],.one (.sl 168 3 (l.map aH)),.one (.sl 170 4 (m.map aJ))] (vB (eE d l m)) []
theorem aLx (d:aR) (l:List aW) (m:List aU) (hc:bD d≤1048576):aCX d l m:=by
 refine aT bF aQ Tryz.func75 (by kernel_rfl) (.len l.length<| .loop Nat (Q1 Nat) [8,13,14,15,16,17,18,19,20,21] [800] (fun k=>[(13,vI (k:Int))]) (fun k=>[]) (fun k=>k≤l.length∧(l.take k).all (gL d)=true) (fun k=>l.length - k) (fun k=> .br (.elem _ aH l (fun e15=> .call (vB (gL d e15)) []<| .br (.fin []) (.back []))) (.len m.length<| .loop Nat (Q1 Nat) [10,24,25,26,27,28,29,30,31,32] [1000] (fun j=>[(24,vI (j:Int))]) (fun j=>[]) (fun j=>j≤m.length∧(m.take j).all (gM d)=true) (fun j=>m.length - j) (fun j=> .br (.elem _ aJ m (fun e26=> .call (vB (gM d e26)) []<| .br (.fin []) (.back []))) (.len l.length<| .br (.len m.length<| .fin []) (.fin [])))))) (p:=(d.tables.map aO).length≤9223372036854775807→(l.map aH).length≤9223372036854775807→(m.map aJ).length≤9223372036854775807→Lm aH l∧((∃(k:Nat),(0:Int)=(k:Int)∧k≤l.length∧(l.take k).all (gL d)=true)∧ ∀(k:Nat),(k≤l.length∧(l.take k).all (gL d)=true)→((decide ((k:Int)<((l.length:Nat):Int)))=true→0≤(k:Int)∧Em aH l k fun e15=>aAv d e15∧(((!(gL d e15))=true→(false)=(eE d l m)∧True)∧((!(gL d e15))=false→cL ((k:Int)+(1:Int))∧ ∃(k' :Nat),((k:Int)+(1:Int))=(k' :Int)∧(k' ≤l.length∧(l.take k').all (gL d)=true)∧l.length - k' <l.length - k)))∧((decide ((k:Int)<((l.length:Nat):Int)))=false→Lm aJ m∧((∃(j:Nat),(0:Int)=(j:Int)∧j≤m.length∧(m.take j).all (gM d)=true)∧ ∀(j:Nat),(j≤m.length∧(m.take j).all (gM d)=true)→((decide ((j:Int)<((m.length:Nat):Int)))=true→0≤(j:Int)∧Em aJ m j fun e26=>aAx d e26∧(((!(gM d e26))=true→(false)=(eE d l m)∧True)∧((!(gM d e26))=false→cL ((j:Int)+(1:Int))∧ ∃(j' :Nat),((j:Int)+(1:Int))=(j' :Int)∧(j' ≤m.length∧(m.take j').all (gM d)=true)∧m.length - j' <m.length - j)))∧((decide ((j:Int)<((m.length:Nat):Int)))=false→Lm aH l∧(((decide (((l.length:Nat):Int)≤(8:Int)))=true→Lm aJ m∧(decide (((m.length:Nat):Int)≤(8:Int)))=(eE d l m)∧True)∧((decide (((l.length:Nat):Int)≤(8:Int)))=false→(false)=(eE d l m)∧True))))))) (by kernel_rfl) ?_
 intro n0 n1 n2
 simp only [List.length_map] at n0 n1 n2
 refine ⟨List.length_map _,⟨0,rfl,Nat.zero_le _,rfl⟩,fun k ⟨hk,ha⟩=>?_⟩
 refine ⟨fun c0=>?_,fun c0=>?_⟩
 ·replace c0:=yq c0
  refine ⟨by omega,rfl,by omega,fun e15 h15=>?_⟩
  refine ⟨aJn _ _ (by omega),fun c1=>?_,fun c1=>?_⟩
  ·replace c1:=nt c1
   have hL:l.all (gL d)=false:=bY h15 (by simpa using c1)
   refine ⟨?_,trivial⟩
   ·first | (simp [eE,hL];done) | (simp [eE,hL,hM];done) | (simp [eE,hL,hM, *];done)
  ·replace c1:=nf c1
   refine ⟨⟨by omega,by omega⟩,?_⟩
   exact ⟨k+1,rfl,⟨by omega,dO h15 ha (by simpa using c1)⟩,by omega⟩
 ·replace c0:=nq c0
  have hL:=bR (by omega) ha
  refine ⟨List.length_map _,⟨0,rfl,Nat.zero_le _,rfl⟩,fun j ⟨hj,hb⟩=>?_⟩
  refine ⟨fun c2=>?_,fun c2=>?_⟩
  ·replace c2:=yq c2
   refine ⟨by omega,rfl,by omega,fun e26 h26=>?_⟩
   refine ⟨aJp _ _ (by omega),fun c3=>?_,fun c3=>?_⟩
   ·replace c3:=nt c3
    have hM:m.all (gM d)=false:=bY h26 (by simpa using c3)
    refine ⟨?_,trivial⟩
    ·first | (simp [eE,hL];done) | (simp [eE,hL,hM];done) | (simp [eE,hL,hM, *];done)
   ·replace c3:=nf c3
    refine ⟨⟨by omega,by omega⟩,?_⟩
    exact ⟨j+1,rfl,⟨by omega,dO h26 hb (by simpa using c3)⟩,by omega⟩
  ·replace c2:=nq c2
   have hM:=bR (by omega) hb
   refine ⟨List.length_map _,fun g36=>?_,fun g36=>?_⟩
   ·replace g36:=yq g36
    refine ⟨List.length_map _,?_,trivial⟩
    ·first | (simp [eE,hL];done) | (simp [eE,hL,hM];done) | (simp [eE,hL,hM, *];done)
   ·replace g36:=nq g36
    refine ⟨?_,trivial⟩
    ·first | (simp [eE,hL];done) | (simp [eE,hL,hM];done) | (simp [eE,hL,hM, *];done)
abbrev aCY (d:aR) (l:List aW) (m:List aU):Prop:=cO Tryz.prog 65 [.agg [.sl 162 3 (d.tables.map aO)],.one (.sl 168 3 (l.map aH)),.one (.sl 170 4 (m.map aJ))] (vB (eE d l m)) []
theorem aLy (d:aR) (l:List aW) (m:List aU) (hc:bD d≤1048576):aCY d l m:=by
 refine aT bF aQ Tryz.func65 (by kernel_rfl) (.len l.length<| .br (.fin []) (.len m.length<| .lit<| .lit<| .br (.fin []) (.loop Nat (Q1 Nat) [7,17,18,19,20,21,22,23,24,25,26,27,28,29] [] (fun k=>[(7,vI (k:Int))]) (fun k=>[]) (fun k=>k≤l.length∧(l.take k).all (gL d)=true) (fun k=>l.length - k) (fun k=> .len l.length<| .br (.elem _ aH l (fun e26=> .call (vB (gL d e26)) []<| .br (.fin []) (.back []))) (.loop Nat (Q1 Nat) [8,30,31,32,33,34,35,36,37,38,39,40,41,42] [] (fun j=>[(8,vI (j:Int))]) (fun j=>[]) (fun j=>j≤m.length∧(m.take j).all (gM d)=true) (fun j=>m.length - j) (fun j=> .len m.length<| .br (.elem _ aJ m (fun e39=> .call (vB (gM d e39)) []<| .br (.fin []) (.back []))) (.fin []))))))) (p:=(d.tables.map aO).length≤9223372036854775807→(l.map aH).length≤9223372036854775807→(m.map aJ).length≤9223372036854775807→Lm aH l∧(((decide ((8:Int)<((l.length:Nat):Int)))=true→(false)=(eE d l m)∧True)∧((decide ((8:Int)<((l.length:Nat):Int)))=false→Lm aJ m∧(((decide ((8:Int)<((m.length:Nat):Int)))=true→(false)=(eE d l m)∧True)∧((decide ((8:Int)<((m.length:Nat):Int)))=false→(∃(k:Nat),(0:Int)=(k:Int)∧k≤l.length∧(l.take k).all (gL d)=true)∧ ∀(k:Nat),(k≤l.length∧(l.take k).all (gL d)=true)→Lm aH l∧(((decide ((k:Int)<((l.length:Nat):Int)))=true→0≤(k:Int)∧Em aH l k fun e26=>aAw d e26∧(((!(gL d e26))=true→(false)=(eE d l m)∧True)∧((!(gL d e26))=false→cL ((k:Int)+(1:Int))∧ ∃(k' :Nat),((k:Int)+(1:Int))=(k' :Int)∧(k' ≤l.length∧(l.take k').all (gL d)=true)∧l.length - k' <l.length - k)))∧((decide ((k:Int)<((l.length:Nat):Int)))=false→(∃(j:Nat),(0:Int)=(j:Int)∧j≤m.length∧(m.take j).all (gM d)=true)∧ ∀(j:Nat),(j≤m.length∧(m.take j).all (gM d)=true)→Lm aJ m∧(((decide ((j:Int)<((m.length:Nat):Int)))=true→0≤(j:Int)∧Em aJ m j fun e39=>aAy d e39∧(((!(gM d e39))=true→(false)=(eE d l m)∧True)∧((!(gM d e39))=false→cL ((j:Int)+(1:Int))∧ ∃(j' :Nat),((j:Int)+(1:Int))=(j' :Int)∧(j' ≤m.length∧(m.take j').all (gM d)=true)∧m.length - j' <m.length - j)))∧((decide ((j:Int)<((m.length:Nat):Int)))=false→(true)=(eE d l m)∧True))))))))) (by kernel_rfl) ?_
 intro n0 n1 n2
 simp only [List.length_map] at n0 n1 n2
 refine ⟨List.length_map _,fun g12=>?_,fun g12=>?_⟩
 ·replace g12:=yq g12
  have hbad:(decide ((l.length:Int)≤8)&&decide ((m.length:Int)≤8))=false:=by first | (simp;omega) | (simp [*];omega)
  refine ⟨?_,trivial⟩
  ·first | (rw [eE,hbad];simp;done) | (rw [eE,hL,hM,hz];rfl) | (rw [eE,hL];rfl) | (rw [eE,hL,hM];rfl)
 ·replace g12:=nq g12
  refine ⟨List.length_map _,fun c0=>?_,fun c0=>?_⟩
  ·replace c0:=yq c0
   have hbad:(decide ((l.length:Int)≤8)&&decide ((m.length:Int)≤8))=false:=by first | (simp;omega) | (simp [*];omega)
   refine ⟨?_,trivial⟩
   ·first | (rw [eE,hbad];simp;done) | (rw [eE,hL,hM,hz];rfl) | (rw [eE,hL];rfl) | (rw [eE,hL,hM];rfl)
  ·replace c0:=nq c0
   have hz:(decide ((l.length:Int)≤8)&&decide ((m.length:Int)≤8))=true:=by simp;omega
   refine ⟨⟨0,rfl,Nat.zero_le _,rfl⟩,fun k ⟨hk,ha⟩=>?_⟩
   refine ⟨List.length_map _,fun c1=>?_,fun c1=>?_⟩
   ·replace c1:=yq c1
    refine ⟨by omega,rfl,by omega,fun e26 h26=>?_⟩
    refine ⟨aJo _ _ (by omega),fun c2=>?_,fun c2=>?_⟩
    ·replace c2:=nt c2
     have hL:l.all (gL d)=false:=bY h26 (by simpa using c2)
     refine ⟨?_,trivial⟩
     ·first | (rw [eE,hbad];simp;done) | (rw [eE,hL,hM,hz];rfl) | (rw [eE,hL];rfl) | (rw [eE,hL,hM];rfl)
    ·replace c2:=nf c2
     refine ⟨⟨by omega,by omega⟩,?_⟩
     exact ⟨k+1,rfl,⟨by omega,dO h26 ha (by simpa using c2)⟩,by omega⟩
   ·replace c1:=nq c1
    have hL:=bR (by omega) ha
    refine ⟨⟨0,rfl,Nat.zero_le _,rfl⟩,fun j ⟨hj,hb⟩=>?_⟩
    refine ⟨List.length_map _,fun c3=>?_,fun c3=>?_⟩
    ·replace c3:=yq c3
     refine ⟨by omega,rfl,by omega,fun e39 h39=>?_⟩
     refine ⟨aJq _ _ (by omega),fun c4=>?_,fun c4=>?_⟩
     ·replace c4:=nt c4
      have hM:m.all (gM d)=false:=bY h39 (by simpa using c4)
      refine ⟨?_,trivial⟩
      ·first | (rw [eE,hbad];simp;done) | (rw [eE,hL,hM,hz];rfl) | (rw [eE,hL];rfl) | (rw [eE,hL,hM];rfl)
     ·replace c4:=nf c4
      refine ⟨⟨by omega,by omega⟩,?_⟩
      exact ⟨j+1,rfl,⟨by omega,dO h39 hb (by simpa using c4)⟩,by omega⟩
    ·replace c3:=nq c3
     have hM:=bR (by omega) hb
     refine ⟨?_,trivial⟩
     ·first | (rw [eE,hbad];simp;done) | (rw [eE,hL,hM,hz];rfl) | (rw [eE,hL];rfl) | (rw [eE,hL,hM];rfl)
def dD (s:StoreD):Bool:=(eO s.database s.catalogue.version).2&&(decide ((eO s.database s.catalogue.version).1=s.catalogue)&&eE s.database s.dependencies s.inclusions)
abbrev aCZ (s:StoreD):Prop:=cO Tryz.prog 73 [.agg [.sl 162 3 (s.database.tables.map aO),.int .i64 s.catalogue.version,.sl 121 4 (s.catalogue.tables.map aB),.sl 168 3 (s.dependencies.map aH),.sl 170 4 (s.inclusions.map aJ)]] (vB (dD s)) []
theorem aLz (s:StoreD) (hc:cC s≤1048576):aCZ s:=by
 refine aT bF aQ Tryz.func73 (by kernel_rfl) (bH (zP s.database s.catalogue.version)<| .br (.call (vB (decide (((eO s.database s.catalogue.version).1)=s.catalogue))) []<| .lit<| .br (.call (vB (eE s.database s.dependencies s.inclusions)) []<| .fin []) (.fin [])) (.fin [])) (p:=(s.database.tables.map aO).length≤9223372036854775807→(s.catalogue.tables.map aB).length≤9223372036854775807→(s.dependencies.map aH).length≤9223372036854775807→(s.inclusions.map aJ).length≤9223372036854775807→aEK s.database s.catalogue.version∧((((eO s.database s.catalogue.version).2)=true→aAb ((eO s.database s.catalogue.version).1) s.catalogue∧(((decide (((eO s.database s.catalogue.version).1)=s.catalogue))=true→aCX s.database s.dependencies s.inclusions∧(eE s.database s.dependencies s.inclusions)=(dD s)∧True)∧((decide (((eO s.database s.catalogue.version).1)=s.catalogue))=false→(false)=(dD s)∧True)))∧(((eO s.database s.catalogue.version).2)=false→(false)=(dD s)∧True))) (by kernel_rfl) ?_
 intro n0 n1 n2 n3
 simp only [List.length_map] at n0 n1 n2 n3
 have hS:cC s=bD s.database+bL s.catalogue+bV s.dependencies+cR s.inclusions:=rfl
 have hsm:=aGW s.database s.catalogue.version
 refine ⟨aNs s.database s.catalogue.version,fun g15=>?_,fun g15=>?_⟩
 ·refine ⟨aJb _ _,fun g21=>?_,fun g21=>?_⟩
  ·replace g21:=yq g21
   refine ⟨aLx s.database _ _ (by omega),?_,trivial⟩
   ·first | (simp [dD, *];done) | (simp_all [dD];done)
  ·replace g21:=nq g21
   refine ⟨?_,trivial⟩
   ·first | (simp [dD, *];done) | (simp_all [dD];done)
 ·refine ⟨?_,trivial⟩
  ·first | (simp [dD, *];done) | (simp_all [dD];done)
abbrev aC0 (s:StoreD):Prop:=cO Tryz.prog 62 [.agg [.sl 162 3 (s.database.tables.map aO),.int .i64 s.catalogue.version,.sl 121 4 (s.catalogue.tables.map aB),.sl 168 3 (s.dependencies.map aH),.sl 170 4 (s.inclusions.map aJ)]] (vB (dD s)) []
theorem aMA (s:StoreD) (hc:cC s≤1048576):aC0 s:=by
 refine aT bF aQ Tryz.func62 (by kernel_rfl) (bH (zQ s.database s.catalogue.version)<| .br (.call (vB (decide (((eO s.database s.catalogue.version).1)=s.catalogue))) []<| .lit<| .br (.call (vB (eE s.database s.dependencies s.inclusions)) []<| .fin []) (.fin [])) (.fin [])) (p:=(s.database.tables.map aO).length≤9223372036854775807→(s.catalogue.tables.map aB).length≤9223372036854775807→(s.dependencies.map aH).length≤9223372036854775807→(s.inclusions.map aJ).length≤9223372036854775807→aEL s.database s.catalogue.version∧((((eO s.database s.catalogue.version).2)=true→aAd ((eO s.database s.catalogue.version).1) s.catalogue∧(((decide (((eO s.database s.catalogue.version).1)=s.catalogue))=true→aCY s.database s.dependencies s.inclusions∧(eE s.database s.dependencies s.inclusions)=(dD s)∧True)∧((decide (((eO s.database s.catalogue.version).1)=s.catalogue))=false→(false)=(dD s)∧True)))∧(((eO s.database s.catalogue.version).2)=false→(false)=(dD s)∧True))) (by kernel_rfl) ?_
 intro n0 n1 n2 n3
 simp only [List.length_map] at n0 n1 n2 n3
 have hS:cC s=bD s.database+bL s.catalogue+bV s.dependencies+cR s.inclusions:=rfl
 have hsm:=aGW s.database s.catalogue.version
 refine ⟨aNt s.database s.catalogue.version,fun g15=>?_,fun g15=>?_⟩
 ·refine ⟨aJc _ _ (by omega),fun g21=>?_,fun g21=>?_⟩
  ·replace g21:=yq g21
   refine ⟨aLy s.database _ _ (by omega),?_,trivial⟩
   ·first | (simp [dD, *];done) | (simp_all [dD];done)
  ·replace g21:=nq g21
   refine ⟨?_,trivial⟩
   ·first | (simp [dD, *];done) | (simp_all [dD];done)
 ·refine ⟨?_,trivial⟩
  ·first | (simp [dD, *];done) | (simp_all [dD];done)
abbrev zW (x:aF):AV × List (Nat × Rs):=(.agg [.p none (.str x.name),vI x.arity,vI x.rowCount,.own 0],[(0,.arr 218 3 true (x.groups.map aA))])
abbrev aEc (x:aF):Prop:=cO Tryz.prog 206 [.agg [.str x.name,.int .i64 x.arity,.int .i64 x.rowCount,.sl 218 3 (x.groups.map aA)]] (zW x).1 (zW x).2
theorem aOJ (x:aF) (hc:aZ x≤1048576):aEc x:=by
 refine aT bF aQ Tryz.func206 (by kernel_rfl) (.loop (Nat × (List aN)) (Q2 Nat (List aN)) [4,5,6,14,15,16,17,18,19,20,21,22,23,24,25,26,27,28,29,30,31,32,33,34,35,36,37,38,39,40,41,42,43,44,45,46,47,48,49,50,51,52,53,54,55,56,57,58,59,60,61,62,63,64,65,66,67,68,69,70] [300,500,2100,2800,2900,3600,5100,6100,6200,6300,6800,6900,9000,9001] (fun yy0=>[(4,vI (yy0.1:Int))]) (fun yy0=>[(300,some (.box 121 [.p none (.str x.name),vI x.arity,vI x.rowCount,.own 9000])),(9000,some (.arr 218 3 true (yy0.2.map aA)))]) (fun yy0=>yy0.1≤x.groups.length∧yy0.2=x.groups.take yy0.1) (fun yy0=>x.groups.length - yy0.1) (fun yy0=> .len x.groups.length<| .br (.elem _ aA x.groups (fun e25=> .app Int intD ([]:List Int) e25.columns<| .elem _ aA x.groups (fun e33=> .app Int intD ([]:List Int) e33.counts<| .loop (Nat × (List (List Int))) (Q2 Nat (List (List Int))) [6,38,39,40,41,42,43,44,45,46,47,48,49,50,51,52,53,54,55,56,57,58,59,60,61,62,63,64] [500,5100,6100,6200,6300,9001] (fun yy1=>[(6,vI (yy1.1:Int))]) (fun yy1=>[(500,some (.box 218 [.own 2800,.own 9001,.own 3600])),(9001,some (.arr 32 1 true (yy1.2.map aC)))]) (fun yy1=>yy1.1≤e25.values.length∧yy1.2=e25.values.take yy1.1) (fun yy1=>e25.values.length - yy1.1) (fun yy1=> .elem _ aA x.groups (fun e42=> .len e42.values.length<| .br (.elem _ aA x.groups (fun e55=> .elem _ aC e55.values (fun e59=> .app Int intD ([]:List Int) e59<| .appx (List Int) aC yy1.2 (([]:List Int)++e59)<| .back [(500,500),(9001,6300)]))) (.appx aN aA yy0.2 (⟨([]:List Int)++e25.columns,yy1.2,([]:List Int)++e33.counts⟩:aN)<| .back [(300,300),(9000,6900)])))))) (.fin [(0,9000)]))) (p:=(x.groups.map aA).length≤9223372036854775807→(∃(k:Nat) (out:List aN),(0:Int)=(k:Int)∧x.name=x.name∧x.arity=x.arity∧x.rowCount=x.rowCount∧[]=out.map aA∧k≤x.groups.length∧out=x.groups.take k)∧ ∀(k:Nat) (out:List aN),(k≤x.groups.length∧out=x.groups.take k)→Lm aA x.groups∧(((decide ((k:Int)<((x.groups.length:Nat):Int)))=true→0≤(k:Int)∧Em aA x.groups k fun e25=>[]=([]:List Int).map intD∧e25.columns.map intD=e25.columns.map intD∧(∀x,eI (intD x)=true)∧(([]:List Int).length+e25.columns.length)*8≤140737488355328∧(0≤(k:Int)∧Em aA x.groups k fun e33=>[]=([]:List Int).map intD∧e33.counts.map intD=e33.counts.map intD∧(∀x,eI (intD x)=true)∧(([]:List Int).length+e33.counts.length)*8≤140737488355328∧((∃(i:Nat) (v:List (List Int)),(0:Int)=(i:Int)∧[]=v.map aC∧i≤e25.values.length∧v=e25.values.take i)∧ ∀(i:Nat) (v:List (List Int)),(i≤e25.values.length∧v=e25.values.take i)→0≤(k:Int)∧Em aA x.groups k fun e42=>Lm aC e42.values∧(((decide ((i:Int)<((e42.values.length:Nat):Int)))=true→0≤(k:Int)∧Em aA x.groups k fun e55=>0≤(i:Int)∧Em aC e55.values i fun e59=>[]=([]:List Int).map intD∧e59.map intD=e59.map intD∧(∀x,eI (intD x)=true)∧(([]:List Int).length+e59.length)*8≤140737488355328∧v.map aC=v.map aC∧(([]:List Int)++e59).map intD=(([]:List Int)++e59).map intD∧(v.length+1)*24≤140737488355328∧cL ((i:Int)+(1:Int))∧ ∃(i' :Nat) (v' :List (List Int)),((i:Int)+(1:Int))=(i' :Int)∧(v++[([]:List Int)++e59]).map aC=v'.map aC∧(i' ≤e25.values.length∧v' =e25.values.take i')∧e25.values.length - i' <e25.values.length - i)∧((decide ((i:Int)<((e42.values.length:Nat):Int)))=false→out.map aA=out.map aA∧(([]:List Int)++e25.columns).map intD=((⟨([]:List Int)++e25.columns,v,([]:List Int)++e33.counts⟩:aN).columns).map intD∧v.map aC=((⟨([]:List Int)++e25.columns,v,([]:List Int)++e33.counts⟩:aN).values).map aC∧(([]:List Int)++e33.counts).map intD=((⟨([]:List Int)++e25.columns,v,([]:List Int)++e33.counts⟩:aN).counts).map intD∧(out.length+1)*72≤140737488355328∧cL ((k:Int)+(1:Int))∧ ∃(k' :Nat) (out' :List aN),((k:Int)+(1:Int))=(k' :Int)∧x.name=x.name∧x.arity=x.arity∧x.rowCount=x.rowCount∧(out++[(⟨([]:List Int)++e25.columns,v,([]:List Int)++e33.counts⟩:aN)]).map aA=out'.map aA∧(k' ≤x.groups.length∧out' =x.groups.take k')∧x.groups.length - k' <x.groups.length - k)))))∧((decide ((k:Int)<((x.groups.length:Nat):Int)))=false→x.name=x.name∧x.arity=x.arity∧x.rowCount=x.rowCount∧out.map aA=x.groups.map aA∧True))) (by kernel_rfl) ?_
 intro n0
 simp only [List.length_map] at n0
 have q2:aZ x=x.name.size+dB x.groups:=rfl
 have q5:=fJ x.groups
 refine ⟨⟨0,([]:List aN),rfl,rfl,rfl,rfl,rfl,Nat.zero_le _,rfl⟩,fun k out ⟨hk,ho⟩=>?_⟩
 refine ⟨List.length_map _,fun c0=>?_,fun c0=>?_⟩
 ·replace c0:=yq c0
  refine ⟨by omega,rfl,by omega,fun e25 h25=>?_⟩
  try (obtain rfl:=(bA h25 h25).symm)
  have q1:=fT h25
  have q3:bN e25=cG e25.columns+cK e25.values+cG e25.counts:=rfl
  have q6:cG e25.columns=e25.columns.length:=rfl
  have q7:cG e25.counts=e25.counts.length:=rfl
  have q8:=fA e25.values
  refine ⟨rfl,rfl,fun _=>rfl,by first | omega | (simp;omega) | (simp [ho];omega) | (simp [hv];omega),?_⟩
  refine ⟨by omega,rfl,by omega,fun e33 h33=>?_⟩
  try (obtain rfl:=(bA h25 h33).symm)
  refine ⟨rfl,rfl,fun _=>rfl,by first | omega | (simp;omega) | (simp [ho];omega) | (simp [hv];omega),?_⟩
  refine ⟨⟨0,([]:List (List Int)),rfl,rfl,Nat.zero_le _,rfl⟩,fun i v ⟨hi,hv⟩=>?_⟩
  refine ⟨by omega,rfl,by omega,fun e42 h42=>?_⟩
  try (obtain rfl:=(bA h25 h42).symm)
  refine ⟨List.length_map _,fun c1=>?_,fun c1=>?_⟩
  ·replace c1:=yq c1
   refine ⟨by omega,rfl,by omega,fun e55 h55=>?_⟩
   try (obtain rfl:=(bA h25 h55).symm)
   refine ⟨by omega,rfl,by omega,fun e59 h59=>?_⟩
   have hp3:=xS h59
   refine ⟨rfl,rfl,fun _=>rfl,by first | omega | (simp;omega) | (simp [ho];omega) | (simp [hv];omega),?_⟩
   refine ⟨rfl,rfl,by first | omega | (simp;omega) | (simp [ho];omega) | (simp [hv];omega),⟨by omega,by omega⟩,?_⟩
   exact ⟨i+1,_,rfl,rfl,⟨by omega,by rw [hv,cI h59];rfl⟩,by omega⟩
  ·replace c1:=nq c1
   have hvv:v=e25.values:=by rw [hv,List.take_of_length_le (by omega)]
   refine ⟨rfl,rfl,rfl,rfl,by first | omega | (simp;omega) | (simp [ho];omega) | (simp [hv];omega),⟨by omega,by omega⟩,?_⟩
   exact ⟨k+1,_,rfl,rfl,rfl,rfl,rfl,⟨by omega,by rw [ho,cI h25,hvv];rfl⟩,by omega⟩
 ·replace c0:=nq c0
  refine ⟨rfl,rfl,rfl,?_,trivial⟩
  ·first | rfl | (rw [ho,List.take_of_length_le (by omega)])
def lL (n:ByteArray) (x:aF):Bool:=(x.name.toList==n.toList)&&bM x
def dA (c:cA) (n:ByteArray):aF × Bool:=match c.tables.find? (lL n) with | some x=>(x,true) | none=>(dJ,false)
theorem dV {c:cA} {n:ByteArray} {x:aF} (h:c.tables.find? (lL n)=some x):dA c n=(x,true):=by rw [dA,h]
theorem eP {c:cA} {n:ByteArray} (h:c.tables.find? (lL n)=none):dA c n=(dJ,false):=by rw [dA,h]
theorem aIm (c:cA) (n:ByteArray):aZ (dA c n).1≤bL c:=by
 have hS:bL c=dQ c.tables:=rfl
 cases h:c.tables.find? (lL n) with
 | none=>rw [eP h];exact Nat.zero_le _
 | some x=>
   rw [dV h,hS]
   obtain ⟨i,hi⟩:=List.getElem?_of_mem (List.mem_of_find?_eq_some h)
   exact iS hi
abbrev aC1 (c:cA) (n:ByteArray):AV × List (Nat × Rs):=(.tup [.agg [.p none (.str (((dA c n).1).name)),vI (((dA c n).1).arity),vI (((dA c n).1).rowCount),.own 0],vB ((dA c n).2)],[(0,.arr 218 3 true ((((dA c n).1).groups).map aA))])
abbrev aIn (c:cA) (n:ByteArray):Prop:=cO Tryz.prog 122 [.agg [.int .i64 c.version,.sl 121 4 (c.tables.map aB)],.one (.str n)] (aC1 c n).1 (aC1 c n).2
theorem aMB (c:cA) (n:ByteArray) (hc:bL c≤1048576):aIn c n:=by
 refine aT bF aQ Tryz.func122 (by kernel_rfl) (.len c.tables.length<| .loop Nat (Q1 Nat) [7,11,12,13,14,15,16,17,18,19,20,21,22,25] [700] (fun k=>[(11,vI (k:Int))]) (fun k=>[]) (fun k=>k≤c.tables.length∧(c.tables.take k).all (fun y=> !lL n y)=true) (fun k=>c.tables.length - k) (fun k=> .br (.elem _ aB c.tables (fun e13=> .br (.call (vB (bM e13)) []<| .lit<| .br (bH (zO e13)<| .fin [(0,2400)]) (.back [])) (.back []))) (.fin []))) (p:=(c.tables.map aB).length≤9223372036854775807→Lm aB c.tables∧((∃(k:Nat),(0:Int)=(k:Int)∧k≤c.tables.length∧(c.tables.take k).all (fun y=> !lL n y)=true)∧ ∀(k:Nat),(k≤c.tables.length∧(c.tables.take k).all (fun y=> !lL n y)=true)→((decide ((k:Int)<((c.tables.length:Nat):Int)))=true→0≤(k:Int)∧Em aB c.tables k fun e13=>((e13.name.toList==n.toList)=true→aEH e13∧(((bM e13)=true→aEF e13∧e13.name=(((dA c n).1).name)∧e13.arity=(((dA c n).1).arity)∧e13.rowCount=(((dA c n).1).rowCount)∧(true)=((dA c n).2)∧e13.groups.map aA=(((dA c n).1).groups).map aA∧True)∧((bM e13)=false→cL ((k:Int)+(1:Int))∧ ∃(k' :Nat),((k:Int)+(1:Int))=(k' :Int)∧(k' ≤c.tables.length∧(c.tables.take k').all (fun y=> !lL n y)=true)∧c.tables.length - k' <c.tables.length - k)))∧((e13.name.toList==n.toList)=false→cL ((k:Int)+(1:Int))∧ ∃(k' :Nat),((k:Int)+(1:Int))=(k' :Int)∧(k' ≤c.tables.length∧(c.tables.take k').all (fun y=> !lL n y)=true)∧c.tables.length - k' <c.tables.length - k))∧((decide ((k:Int)<((c.tables.length:Nat):Int)))=false→ByteArray.empty=(((dA c n).1).name)∧(0:Int)=(((dA c n).1).arity)∧(0:Int)=(((dA c n).1).rowCount)∧(false)=((dA c n).2)∧[]=(((dA c n).1).groups).map aA∧True))) (by kernel_rfl) ?_
 intro n0
 simp only [List.length_map] at n0
 have hS:bL c=dQ c.tables:=rfl
 refine ⟨List.length_map _,⟨0,rfl,Nat.zero_le _,rfl⟩,fun k ⟨hk,ha⟩=>?_⟩
 refine ⟨fun c0=>?_,fun c0=>?_⟩
 ·replace c0:=yq c0
  refine ⟨by omega,rfl,by omega,fun e13 h13=>?_⟩
  try (obtain rfl:=(bA h13 h13).symm)
  have q1:=iS h13
  refine ⟨fun g19=>?_,fun g19=>?_⟩
  ·refine ⟨aNo _ (by omega),fun c1=>?_,fun c1=>?_⟩
   ·have hf:=aHL (p:=lL n) h13 ha (by simp [lL,g19,c1])
    refine ⟨aNn _ (by omega),?_,?_,?_,?_,?_,trivial⟩
    ·first | (rw [dV hf]<;>rfl) | (rw [eP hall]<;>rfl)
    ·first | (rw [dV hf]<;>rfl) | (rw [eP hall]<;>rfl)
    ·first | (rw [dV hf]<;>rfl) | (rw [eP hall]<;>rfl)
    ·first | (rw [dV hf]<;>rfl) | (rw [eP hall]<;>rfl)
    ·first | (rw [dV hf]<;>rfl) | (rw [eP hall]<;>rfl)
   ·refine ⟨⟨by omega,by omega⟩,?_⟩
    exact ⟨k+1,rfl,⟨by omega,dO h13 ha (by first | (simp [lL,g19,c1];done) | (simp [lL,g19];done))⟩,by omega⟩
  ·refine ⟨⟨by omega,by omega⟩,?_⟩
   exact ⟨k+1,rfl,⟨by omega,dO h13 ha (by first | (simp [lL,g19,c1];done) | (simp [lL,g19];done))⟩,by omega⟩
 ·replace c0:=nq c0
  have hall:=aDA (bR (by omega) ha)
  refine ⟨?_,?_,?_,?_,?_,trivial⟩
  ·first | (rw [dV hf]<;>rfl) | (rw [eP hall]<;>rfl)
  ·first | (rw [dV hf]<;>rfl) | (rw [eP hall]<;>rfl)
  ·first | (rw [dV hf]<;>rfl) | (rw [eP hall]<;>rfl)
  ·first | (rw [dV hf]<;>rfl) | (rw [eP hall]<;>rfl)
  ·first | (rw [dV hf]<;>rfl) | (rw [eP hall]<;>rfl)
abbrev aC2 (c:cA) (n:ByteArray):AV × List (Nat × Rs):=(.tup [.agg [.p none (.str (((dA c n).1).name)),vI (((dA c n).1).arity),vI (((dA c n).1).rowCount),.own 0],vB ((dA c n).2)],[(0,.arr 218 3 true ((((dA c n).1).groups).map aA))])
abbrev aIo (c:cA) (n:ByteArray):Prop:=cO Tryz.prog 166 [.agg [.int .i64 c.version,.sl 121 4 (c.tables.map aB)],.one (.str n)] (aC2 c n).1 (aC2 c n).2
theorem aMC (c:cA) (n:ByteArray) (hc:bL c≤1048576):aIo c n:=by
 refine aT bF aQ Tryz.func166 (by kernel_rfl) (.loop Nat (Q1 Nat) [6,7,8,9,10,11,12,13,14,15,16,17,18,19,20,21,22,23,24,25,26,27,28,29] [] (fun k=>[(6,vI (k:Int))]) (fun k=>[]) (fun k=>k≤c.tables.length∧(c.tables.take k).all (fun y=> !lL n y)=true) (fun k=>c.tables.length - k) (fun k=> .len c.tables.length<| .br (.elem _ aB c.tables (fun e17=> .br (.elem _ aB c.tables (fun e26=> .call (vB (bM e26)) []<| .lit<| .br (.elem _ aB c.tables (fun e33=>bH (zW e33)<| .fin [(0,3500)])) (.back []))) (.back []))) (.fin []))) (p:=(c.tables.map aB).length≤9223372036854775807→(∃(k:Nat),(0:Int)=(k:Int)∧k≤c.tables.length∧(c.tables.take k).all (fun y=> !lL n y)=true)∧ ∀(k:Nat),(k≤c.tables.length∧(c.tables.take k).all (fun y=> !lL n y)=true)→Lm aB c.tables∧(((decide ((k:Int)<((c.tables.length:Nat):Int)))=true→0≤(k:Int)∧Em aB c.tables k fun e17=>((e17.name.toList==n.toList)=true→0≤(k:Int)∧Em aB c.tables k fun e26=>zV e26∧(((bM e26)=true→0≤(k:Int)∧Em aB c.tables k fun e33=>aEc e33∧e33.name=(((dA c n).1).name)∧e33.arity=(((dA c n).1).arity)∧e33.rowCount=(((dA c n).1).rowCount)∧(true)=((dA c n).2)∧e33.groups.map aA=(((dA c n).1).groups).map aA∧True)∧((bM e26)=false→cL ((k:Int)+(1:Int))∧ ∃(k' :Nat),((k:Int)+(1:Int))=(k' :Int)∧(k' ≤c.tables.length∧(c.tables.take k').all (fun y=> !lL n y)=true)∧c.tables.length - k' <c.tables.length - k)))∧((e17.name.toList==n.toList)=false→cL ((k:Int)+(1:Int))∧ ∃(k' :Nat),((k:Int)+(1:Int))=(k' :Int)∧(k' ≤c.tables.length∧(c.tables.take k').all (fun y=> !lL n y)=true)∧c.tables.length - k' <c.tables.length - k))∧((decide ((k:Int)<((c.tables.length:Nat):Int)))=false→ByteArray.empty=(((dA c n).1).name)∧(0:Int)=(((dA c n).1).arity)∧(0:Int)=(((dA c n).1).rowCount)∧(false)=((dA c n).2)∧[]=(((dA c n).1).groups).map aA∧True))) (by kernel_rfl) ?_
 intro n0
 simp only [List.length_map] at n0
 have hS:bL c=dQ c.tables:=rfl
 refine ⟨⟨0,rfl,Nat.zero_le _,rfl⟩,fun k ⟨hk,ha⟩=>?_⟩
 refine ⟨List.length_map _,fun c0=>?_,fun c0=>?_⟩
 ·replace c0:=yq c0
  refine ⟨by omega,rfl,by omega,fun e17 h17=>?_⟩
  try (obtain rfl:=(bA h17 h17).symm)
  have q1:=iS h17
  refine ⟨fun g22=>?_,fun g22=>?_⟩
  ·refine ⟨by omega,rfl,by omega,fun e26 h26=>?_⟩
   try (obtain rfl:=(bA h17 h26).symm)
   refine ⟨aIk _ (by omega),fun c1=>?_,fun c1=>?_⟩
   ·have hf:=aHL (p:=lL n) h17 ha (by simp [lL,g22,c1])
    refine ⟨by omega,rfl,by omega,fun e33 h33=>?_⟩
    try (obtain rfl:=(bA h17 h33).symm)
    refine ⟨aOJ _ (by omega),?_,?_,?_,?_,?_,trivial⟩
    ·first | (rw [dV hf]<;>rfl) | (rw [eP hall]<;>rfl)
    ·first | (rw [dV hf]<;>rfl) | (rw [eP hall]<;>rfl)
    ·first | (rw [dV hf]<;>rfl) | (rw [eP hall]<;>rfl)
    ·first | (rw [dV hf]<;>rfl) | (rw [eP hall]<;>rfl)
    ·first | (rw [dV hf]<;>rfl) | (rw [eP hall]<;>rfl)
   ·refine ⟨⟨by omega,by omega⟩,?_⟩
    exact ⟨k+1,rfl,⟨by omega,dO h17 ha (by first | (simp [lL,g22,c1];done) | (simp [lL,g22];done))⟩,by omega⟩
  ·refine ⟨⟨by omega,by omega⟩,?_⟩
   exact ⟨k+1,rfl,⟨by omega,dO h17 ha (by first | (simp [lL,g22,c1];done) | (simp [lL,g22];done))⟩,by omega⟩
 ·replace c0:=nq c0
  have hall:=aDA (bR (by omega) ha)
  refine ⟨?_,?_,?_,?_,?_,trivial⟩
  ·first | (rw [dV hf]<;>rfl) | (rw [eP hall]<;>rfl)
  ·first | (rw [dV hf]<;>rfl) | (rw [eP hall]<;>rfl)
  ·first | (rw [dV hf]<;>rfl) | (rw [eP hall]<;>rfl)
  ·first | (rw [dV hf]<;>rfl) | (rw [eP hall]<;>rfl)
  ·first | (rw [dV hf]<;>rfl) | (rw [eP hall]<;>rfl)
end Go.Proofs.YtokkjaflmcjlhaaGreat
