/-
  Contracts and plain laws, joined: part 22.
-/
import Derived.Test.YtdfebigfnjfgpaaGreatQP20
import Derived.Test.YtdfebigfnjfgpaaGreatQP16
namespace Go.Proofs.YtdfebigfnjfgpaaGreat
open Go.ChangeShapes Go.WideShapes Go.ChangeAt Go.RowKit
set_option linter.unusedVariables false
set_option linter.unusedSimpArgs false
set_option maxRecDepth 100000
set_option maxHeartbeats 4000000
abbrev uF (s:StoreD) (q:QueryD) (m:Int) (ws:List RationalD):AV × List (Nat × Rs):=(.own 0,[(0,.arr 3 1 true ((kS s q m ws).map intD))])
abbrev aAR (s:StoreD) (q:QueryD) (m:Int) (ws:List RationalD):Prop:=cX Tryz.prog 12 [.agg [.sl 167 3 (s.database.tables.map aP),.int .i64 s.catalogue.version,.sl 161 4 (s.catalogue.tables.map aD),.sl 131 3 (s.dependencies.map aJ),.sl 133 4 (s.inclusions.map aM)],.agg [.int .i64 q.variableCount,.sl 135 2 (q.atoms.map aZ)],.one (.int .i64 m),.one (.sl 70 2 (ws.map aW))] (uF s q m ws).1 (uF s q m ws).2
theorem aJn (s:StoreD) (q:QueryD) (m:Int) (ws:List RationalD) (hc:dU s≤1048576) (hcq:gF q≤1048576):aAR s q m ws:=by
 refine aX bG aR Tryz.func12 (by kernel_rfl) (cB (aAP s q m)<| .br (.fin []) (.len ((((dX s q m).1).rows).length)<| .call (vB (gO ws (((((dX s q m).1).rows).length:Nat):Int))) []<| .lit<| .lit<| .br (.fin []) (.len ((((dX s q m).1).rows).length)<| .len ((bT s q m).length)<| .len ((bT s q m).length)<| .loop (Nat × (List Int)) (Q2 Nat (List Int)) [13,14,39,42,43,44,45,46,47,48,49,50,51,52,53,54,55,56,57] [3900,5500,5600] (fun yy0=>[(42,vI (yy0.1:Int)),(13,.own 3900)]) (fun yy0=>[(3900,some (.arr 3 1 true (yy0.2.map intD)))]) (fun yy0=>yy0.1≤(bT s q m).length∧yy0.2=fX (yC ws (cE ((((cJ q m).length:Nat)):Int)).length) yy0.1) (fun yy0=>(bT s q m).length - yy0.1) (fun yy0=> .br (.elem _ aW ws (fun e49=> .br (.app Int intD yy0.2 ([(yy0.1:Int)]:List Int)<| .back [(3900,5600)]) (.back [(3900,3900)]))) (.fin [(0,3900)]))))) (p:=(s.database.tables.map aP).length≤9223372036854775807→(s.catalogue.tables.map aD).length≤9223372036854775807→(s.dependencies.map aJ).length≤9223372036854775807→(s.inclusions.map aM).length≤9223372036854775807→(q.atoms.map aZ).length≤9223372036854775807→(ws.map aW).length≤9223372036854775807→aEy s q m∧(((!((dX s q m).2))=true→[]=(kS s q m ws).map intD∧True)∧((!((dX s q m).2))=false→Lm aC (((dX s q m).1).rows)∧(aJm ws (((((dX s q m).1).rows).length:Nat):Int)∧(((!(gO ws (((((dX s q m).1).rows).length:Nat):Int)))=true→[]=(kS s q m ws).map intD∧True)∧((!(gO ws (((((dX s q m).1).rows).length:Nat):Int)))=false→Lm aC (((dX s q m).1).rows)∧(Lm aE (bT s q m)∧(cC ((((((dX s q m).1).rows).length:Nat):Int) - (((bT s q m).length:Nat):Int))∧(Lm aE (bT s q m)∧((∃(k:Nat) (out:List Int),(0:Int)=(k:Int)∧[]=out.map intD∧k≤(bT s q m).length∧out=fX (yC ws (cE ((((cJ q m).length:Nat)):Int)).length) k)∧ ∀(k:Nat) (out:List Int),(k≤(bT s q m).length∧out=fX (yC ws (cE ((((cJ q m).length:Nat)):Int)).length) k)→((decide ((k:Int)<(((bT s q m).length:Nat):Int)))=true→cC (((((((dX s q m).1).rows).length:Nat):Int) - (((bT s q m).length:Nat):Int))+(k:Int))∧(0≤(((((((dX s q m).1).rows).length:Nat):Int) - (((bT s q m).length:Nat):Int))+(k:Int))∧Em aW ws ((((((((dX s q m).1).rows).length:Nat):Int) - (((bT s q m).length:Nat):Int))+(k:Int)).toNat) fun e49=>((decide ((0:Int)<e49.num))=true→out.map intD=out.map intD∧[[.int .i64 (k:Int)]]=([(k:Int)]:List Int).map intD∧(∀x,dT (intD x)=true)∧(out.length+([(k:Int)]:List Int).length)*8≤140737488355328∧cC ((k:Int)+(1:Int))∧ ∃(k' :Nat) (out' :List Int),((k:Int)+(1:Int))=(k' :Int)∧(out++[(k:Int)]).map intD=out'.map intD∧(k' ≤(bT s q m).length∧out' =fX (yC ws (cE ((((cJ q m).length:Nat)):Int)).length) k')∧(bT s q m).length - k' <(bT s q m).length - k)∧((decide ((0:Int)<e49.num))=false→cC ((k:Int)+(1:Int))∧ ∃(k' :Nat) (out' :List Int),((k:Int)+(1:Int))=(k' :Int)∧out.map intD=out'.map intD∧(k' ≤(bT s q m).length∧out' =fX (yC ws (cE ((((cJ q m).length:Nat)):Int)).length) k')∧(bT s q m).length - k' <(bT s q m).length - k)))∧((decide ((k:Int)<(((bT s q m).length:Nat):Int)))=false→out.map intD=(kS s q m ws).map intD∧True))))))))))) (by kernel_rfl) ?_
 intro n0 n1 n2 n3 n4 n5
 simp only [List.length_map] at n0 n1 n2 n3 n4 n5
 have hS:dU s=bH s.database+bO s.catalogue+bY s.dependencies+cR s.inclusions:=rfl
 have hI:=fK s.inclusions
 have hQ:gF q=jA q.atoms:=rfl
 have hrs0:=aTd s q m
 have hql:=vK s q m
 refine ⟨aPs s q m (by omega) (by omega),fun g25=>?_,fun g25=>?_⟩
 ·replace g25:=nt g25
  have hbad:((dX s q m).2&&gO ws (dX s q m).1.rows.length)=false:=by first | (rw [g25];rfl) | (rw [g25,c0];rfl)
  refine ⟨?_,trivial⟩
  ·first | (rw [xB hbad]<;>rfl) | (rw [tC hok,ho,show (bT s q m).length=k by omega])
 ·replace g25:=nf g25
  refine ⟨List.length_map _,aTe ws (((((dX s q m).1).rows).length:Nat):Int),fun c0=>?_,fun c0=>?_⟩
  ·replace c0:=nt c0
   have hbad:((dX s q m).2&&gO ws (dX s q m).1.rows.length)=false:=by first | (rw [g25];rfl) | (rw [g25,c0];rfl)
   refine ⟨?_,trivial⟩
   ·first | (rw [xB hbad]<;>rfl) | (rw [tC hok,ho,show (bT s q m).length=k by omega])
  ·replace c0:=nf c0
   have hent:(dX s q m).2=true:=g25
   have hnn:gO ws (dX s q m).1.rows.length=true:=c0
   have hok:((dX s q m).2&&gO ws (dX s q m).1.rows.length)=true:=by rw [hent,hnn];rfl
   have hrw:=aJl hent
   have hwl:=aHo hnn
   have hsm:=aCG s q m
   have hrl:(dX s q m).1.rows.length≤2000:=by have e1:sK (dX s q m).1=bS (dX s q m).1.objective+cM (dX s q m).1.rows+bS (dX s q m).1.limits:=rfl;have e2:=fD (dX s q m).1.rows;omega
   refine ⟨List.length_map _,List.length_map _,⟨by omega,by omega⟩,List.length_map _,⟨0,([]:List Int),rfl,rfl,Nat.zero_le _,rfl⟩,fun k out ⟨hk,ho⟩=>?_⟩
   refine ⟨fun c1=>?_,fun c1=>?_⟩
   ·replace c1:=yq c1
    refine ⟨⟨by omega,by omega⟩,by omega,rfl,by omega,fun e49 h49=>?_⟩
    have hpw:yC ws (cE ((((cJ q m).length:Nat)):Int)).length k=decide (0<e49.num):=by rw [yC,bD (show ws[(cE ((((cJ q m).length:Nat)):Int)).length+k]? =some e49 by rw [←h49];congr 1;omega)]
    refine ⟨fun c2=>?_,fun c2=>?_⟩
    ·replace c2:=yq c2
     refine ⟨rfl,rfl,fun _=>rfl,by first | omega | (rw [ho];have:=qO (yC ws (cE ((((cJ q m).length:Nat)):Int)).length) k;simp only [List.length_cons,List.length_nil];omega),?_⟩
     refine ⟨⟨by omega,by omega⟩,?_⟩
     exact ⟨k+1,_,rfl,rfl,⟨by omega,by first | (rw [ho,jS (by rw [hpw];exact decide_eq_true c2)];done) | (rw [ho,kW (by rw [hpw];exact decide_eq_false c2)];done)⟩,by omega⟩
    ·replace c2:=nq c2
     refine ⟨⟨by omega,by omega⟩,?_⟩
     exact ⟨k+1,_,rfl,rfl,⟨by omega,by first | (rw [ho,jS (by rw [hpw];exact decide_eq_true c2)];done) | (rw [ho,kW (by rw [hpw];exact decide_eq_false c2)];done)⟩,by omega⟩
   ·replace c1:=nq c1
    refine ⟨?_,trivial⟩
    ·first | (rw [xB hbad]<;>rfl) | (rw [tC hok,ho,show (bT s q m).length=k by omega])
abbrev aAS (s:StoreD) (q:QueryD) (m:Int) (ws:List RationalD):AV × List (Nat × Rs):=(.own 0,[(0,.arr 3 1 true ((kS s q m ws).map intD))])
abbrev aFA (s:StoreD) (q:QueryD) (m:Int) (ws:List RationalD):Prop:=cX Tryz.prog 8 [.agg [.sl 167 3 (s.database.tables.map aP),.int .i64 s.catalogue.version,.sl 161 4 (s.catalogue.tables.map aD),.sl 131 3 (s.dependencies.map aJ),.sl 133 4 (s.inclusions.map aM)],.agg [.int .i64 q.variableCount,.sl 135 2 (q.atoms.map aZ)],.one (.int .i64 m),.one (.sl 70 2 (ws.map aW))] (aAS s q m ws).1 (aAS s q m ws).2
theorem aPu (s:StoreD) (q:QueryD) (m:Int) (ws:List RationalD) (hc:dU s≤1048576) (hcq:gF q≤1048576):aFA s q m ws:=by
 refine aX bG aR Tryz.func8 (by kernel_rfl) (cB (aAQ s q m)<| .br (.fin [(0,1400)]) (.len ws.length<| .len ((((dX s q m).1).rows).length)<| .lit<| .lit<| .br (.fin [(0,1400)]) (.call (vB (ws.all uM)) []<| .lit<| .lit<| .br (.fin [(0,1400)]) (cB (uA q m)<| .len ((cJ q m).length)<| cB (uB (((cJ q m).length:Nat):Int))<| .len ((cE (((cJ q m).length:Nat):Int)).length)<| .loop (Nat × Int × (List Int)) (Q3 Nat Int (List Int)) [9,13,14,45,46,47,48,49,50,51,52,53,54,55,56,57,58,59,60,61,62] [1400,6100,6200] (fun yy0=>[(13,vI yy0.2.1),(9,.own 1400)]) (fun yy0=>[(1400,some (.arr 3 1 true (yy0.2.2.map intD)))]) (fun yy0=>yy0.1≤(bT s q m).length∧yy0.2.1=(((cE ((((cJ q m).length:Nat)):Int)).length+yy0.1:Nat):Int)∧yy0.2.2=fX (yC ws (cE ((((cJ q m).length:Nat)):Int)).length) yy0.1) (fun yy0=>(bT s q m).length - yy0.1) (fun yy0=> .len ws.length<| .br (.elem _ aW ws (fun e53=> .br (.app Int intD yy0.2.2 ([yy0.2.1 - (((cE (((cJ q m).length:Nat):Int)).length:Nat):Int)]:List Int)<| .back [(1400,6200)]) (.back [(1400,1400)]))) (.fin [(0,1400)])))))) (p:=(s.database.tables.map aP).length≤9223372036854775807→(s.catalogue.tables.map aD).length≤9223372036854775807→(s.dependencies.map aJ).length≤9223372036854775807→(s.inclusions.map aM).length≤9223372036854775807→(q.atoms.map aZ).length≤9223372036854775807→(ws.map aW).length≤9223372036854775807→aEz s q m∧(((!((dX s q m).2))=true→[]=(kS s q m ws).map intD∧True)∧((!((dX s q m).2))=false→Lm aW ws∧(Lm aC (((dX s q m).1).rows)∧(((!(decide (((ws.length:Nat):Int)=(((((dX s q m).1).rows).length:Nat):Int))))=true→[]=(kS s q m ws).map intD∧True)∧((!(decide (((ws.length:Nat):Int)=(((((dX s q m).1).rows).length:Nat):Int))))=false→aHq ws∧(((!(ws.all uM))=true→[]=(kS s q m ws).map intD∧True)∧((!(ws.all uM))=false→aAF q m∧(Lm intD (cJ q m)∧(aAK (((cJ q m).length:Nat):Int)∧(Lm aC (cE (((cJ q m).length:Nat):Int))∧((∃(k:Nat) (i:Int) (out:List Int),(((cE (((cJ q m).length:Nat):Int)).length:Nat):Int)=i∧[]=out.map intD∧k≤(bT s q m).length∧i=(((cE ((((cJ q m).length:Nat)):Int)).length+k:Nat):Int)∧out=fX (yC ws (cE ((((cJ q m).length:Nat)):Int)).length) k)∧ ∀(k:Nat) (i:Int) (out:List Int),(k≤(bT s q m).length∧i=(((cE ((((cJ q m).length:Nat)):Int)).length+k:Nat):Int)∧out=fX (yC ws (cE ((((cJ q m).length:Nat)):Int)).length) k)→Lm aW ws∧(((decide (i<((ws.length:Nat):Int)))=true→0≤i∧Em aW ws ((i).toNat) fun e53=>((decide ((0:Int)<e53.num))=true→cC (i - (((cE (((cJ q m).length:Nat):Int)).length:Nat):Int))∧out.map intD=out.map intD∧[[.int .i64 (i - (((cE (((cJ q m).length:Nat):Int)).length:Nat):Int))]]=([i - (((cE (((cJ q m).length:Nat):Int)).length:Nat):Int)]:List Int).map intD∧(∀x,dT (intD x)=true)∧(out.length+([i - (((cE (((cJ q m).length:Nat):Int)).length:Nat):Int)]:List Int).length)*8≤140737488355328∧cC (i+(1:Int))∧ ∃(k' :Nat) (i' :Int) (out' :List Int),(i+(1:Int))=i' ∧(out++[i - (((cE (((cJ q m).length:Nat):Int)).length:Nat):Int)]).map intD=out'.map intD∧(k' ≤(bT s q m).length∧i' =(((cE ((((cJ q m).length:Nat)):Int)).length+k' :Nat):Int)∧out' =fX (yC ws (cE ((((cJ q m).length:Nat)):Int)).length) k')∧(bT s q m).length - k' <(bT s q m).length - k)∧((decide ((0:Int)<e53.num))=false→cC (i+(1:Int))∧ ∃(k' :Nat) (i' :Int) (out' :List Int),(i+(1:Int))=i' ∧out.map intD=out'.map intD∧(k' ≤(bT s q m).length∧i' =(((cE ((((cJ q m).length:Nat)):Int)).length+k' :Nat):Int)∧out' =fX (yC ws (cE ((((cJ q m).length:Nat)):Int)).length) k')∧(bT s q m).length - k' <(bT s q m).length - k))∧((decide (i<((ws.length:Nat):Int)))=false→out.map intD=(kS s q m ws).map intD∧True)))))))))))))) (by kernel_rfl) ?_
 intro n0 n1 n2 n3 n4 n5
 simp only [List.length_map] at n0 n1 n2 n3 n4 n5
 have hS:dU s=bH s.database+bO s.catalogue+bY s.dependencies+cR s.inclusions:=rfl
 have hI:=fK s.inclusions
 have hQ:gF q=jA q.atoms:=rfl
 have hql:=vK s q m
 refine ⟨aPt s q m (by omega) (by omega),fun g24=>?_,fun g24=>?_⟩
 ·replace g24:=nt g24
  have hbad:((dX s q m).2&&gO ws (dX s q m).1.rows.length)=false:=by first | (rw [g24];rfl) | (rw [g24,gO,decide_eq_false (by omega)];rfl) | (rw [gO,c0];simp)
  refine ⟨?_,trivial⟩
  ·first | (rw [xB hbad]<;>rfl) | (rw [tC hok,ho,show (bT s q m).length=k by omega])
 ·replace g24:=nf g24
  refine ⟨List.length_map _,List.length_map _,fun g32=>?_,fun g32=>?_⟩
  ·replace g32:=nq (nt g32)
   have hbad:((dX s q m).2&&gO ws (dX s q m).1.rows.length)=false:=by first | (rw [g24];rfl) | (rw [g24,gO,decide_eq_false (by omega)];rfl) | (rw [gO,c0];simp)
   refine ⟨?_,trivial⟩
   ·first | (rw [xB hbad]<;>rfl) | (rw [tC hok,ho,show (bT s q m).length=k by omega])
  ·replace g32:=yq (nf g32)
   refine ⟨aSX ws,fun c0=>?_,fun c0=>?_⟩
   ·replace c0:=nt c0
    have hbad:((dX s q m).2&&gO ws (dX s q m).1.rows.length)=false:=by first | (rw [g24];rfl) | (rw [g24,gO,decide_eq_false (by omega)];rfl) | (rw [gO,c0];simp)
    refine ⟨?_,trivial⟩
    ·first | (rw [xB hbad]<;>rfl) | (rw [tC hok,ho,show (bT s q m).length=k by omega])
   ·replace c0:=nf c0
    have hent:(dX s q m).2=true:=g24
    have hnn:gO ws (dX s q m).1.rows.length=true:=by rw [gO,decide_eq_true (by omega),c0];rfl
    have hok:((dX s q m).2&&gO ws (dX s q m).1.rows.length)=true:=by rw [hent,hnn];rfl
    have hrw:=aJl hent
    have hwl:=aHo hnn
    have hsm:=aCG s q m
    have hrl:(dX s q m).1.rows.length≤2000:=by have e1:sK (dX s q m).1=bS (dX s q m).1.objective+cM (dX s q m).1.rows+bS (dX s q m).1.limits:=rfl;have e2:=fD (dX s q m).1.rows;omega
    refine ⟨aJc _ m,List.length_map _,aJh _,List.length_map _,⟨0,(((cE (((cJ q m).length:Nat):Int)).length:Nat):Int),([]:List Int),rfl,rfl,Nat.zero_le _,by omega,rfl⟩,fun k i out ⟨hk,hi,ho⟩=>?_⟩
    refine ⟨List.length_map _,fun c1=>?_,fun c1=>?_⟩
    ·replace c1:=yq c1
     refine ⟨by omega,rfl,by omega,fun e53 h53=>?_⟩
     have hpw:yC ws (cE ((((cJ q m).length:Nat)):Int)).length k=decide (0<e53.num):=by rw [yC,bD (show ws[(cE ((((cJ q m).length:Nat)):Int)).length+k]? =some e53 by rw [←h53];congr 1;omega)]
     refine ⟨fun c2=>?_,fun c2=>?_⟩
     ·replace c2:=yq c2
      refine ⟨⟨by omega,by omega⟩,rfl,rfl,fun _=>rfl,by first | omega | (rw [ho];have:=qO (yC ws (cE ((((cJ q m).length:Nat)):Int)).length) k;simp only [List.length_cons,List.length_nil];omega),?_⟩
      refine ⟨⟨by omega,by omega⟩,?_⟩
      exact ⟨k+1,_,_,rfl,rfl,⟨by omega,by omega,by first | (rw [ho,jS (by rw [hpw];exact decide_eq_true c2),show i - ((((cE ((((cJ q m).length:Nat)):Int)).length:Nat)):Int)=((k:Nat):Int) by omega];done) | (rw [ho,kW (by rw [hpw];exact decide_eq_false c2)];done)⟩,by omega⟩
     ·replace c2:=nq c2
      refine ⟨⟨by omega,by omega⟩,?_⟩
      exact ⟨k+1,_,_,rfl,rfl,⟨by omega,by omega,by first | (rw [ho,jS (by rw [hpw];exact decide_eq_true c2),show i - ((((cE ((((cJ q m).length:Nat)):Int)).length:Nat)):Int)=((k:Nat):Int) by omega];done) | (rw [ho,kW (by rw [hpw];exact decide_eq_false c2)];done)⟩,by omega⟩
    ·replace c1:=nq c1
     refine ⟨?_,trivial⟩
     ·first | (rw [xB hbad]<;>rfl) | (rw [tC hok,ho,show (bT s q m).length=k by omega])
end Go.Proofs.YtdfebigfnjfgpaaGreat
