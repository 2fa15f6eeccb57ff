/-
  Contracts and plain laws, joined: part 12.
-/
import Derived.Test.YtokkjaflmcjlhaaGreatQU10
import Derived.Test.YtokkjaflmcjlhaaGreatQU9
import Derived.Test.YtokkjaflmcjlhaaGreatQU7
namespace Go.Proofs.YtokkjaflmcjlhaaGreat
open Go.ChangeShapes Go.WideShapes Go.ChangeAt Go.RowKit
set_option linter.unusedVariables false
set_option linter.unusedSimpArgs false
set_option maxRecDepth 100000
set_option maxHeartbeats 4000000
abbrev wO (d:aP) (x:aL):AV × List (Nat × Rs):=(.own 0,[(0,.arr 3 1 true ((uF d x).map intD))])
abbrev aCT (d:aP) (x:aL):Prop:=dJ Tryz.prog 215 [.agg [.sl 162 3 (d.tables.map aD)],.agg [.str x.name,.int .i64 x.column,.str x.into,.int .i64 x.intoColumn]] (wO d x).1 (wO d x).2
theorem aLI (d:aP) (x:aL) (hc:aW d≤1048576):aCT d x:=by
 refine aZ bR aT Tryz.func215 (by kernel_rfl) (.call (vB (eA d x)) []<| .br (.fin [(0,1500)]) (.call (.tup [.agg [.p none (.str (((aM d x.name).1).name)),vI (((aM d x.name).1).arity),.p none (.sl 32 1 ((((aM d x.name).1).rows).map aF))],vB ((aM d x.name).2)]) []<| .call (.tup [.agg [.p none (.str (((aM d x.into).1).name)),vI (((aM d x.into).1).arity),.p none (.sl 32 1 ((((aM d x.into).1).rows).map aF))],vB ((aM d x.into).2)]) []<| .loop (Nat × (List Int)) (Q2 Nat (List Int)) [5,10,11,12,13,14,15,35,36,37,38,39,40,41,42,43,44,45,46,47,48,49,50,51,52,53,54,55,56,57,58,59,60,61,62,63,64,65,66,67,68,69,70,71,72,73,74,75,76,77,78,79,80,81,82,83,84,85,86,87,88,89] [1500,8800,8900] (fun yy0=>[(10,vI (yy0.1:Int)),(5,.own 1500)]) (fun yy0=>[(1500,some (.arr 3 1 true (yy0.2.map intD)))]) (fun yy0=>yy0.1≤10∧yy0.2=mQ d x yy0.1) (fun yy0=>10 - yy0.1) (fun yy0=> .br (.loop (Nat × Bool) (Q2 Nat Bool) [11,13,39,40,41,42,43,44,45,46,47,48,49,50,51,52,53,54,55,56,57,58,59] [] (fun yy1=>[(13,vI (yy1.1:Int)),(11,vB yy1.2)]) (fun yy1=>[]) (fun yy1=>yy1.1≤(aM d x.name).1.rows.length∧yy1.2=decide ((yy0.1:Int)∈gM ((aM d x.name).1.rows.take yy1.1) x.column)) (fun yy1=>(aM d x.name).1.rows.length - yy1.1) (fun yy1=> .len ((((aM d x.name).1).rows).length)<| .br (.br (.back []) (.elem _ aF (((aM d x.name).1).rows) (fun e51=> .elem _ intD e51 (fun e55=> .back [])))) (.loop (Nat × Bool) (Q2 Nat Bool) [12,14,60,61,62,63,64,65,66,67,68,69,70,71,72,73,74,75,76,77,78,79,80] [] (fun yy2=>[(14,vI (yy2.1:Int)),(12,vB yy2.2)]) (fun yy2=>[]) (fun yy2=>yy2.1≤(aM d x.into).1.rows.length∧yy2.2=decide ((yy0.1:Int)∈gM ((aM d x.into).1.rows.take yy2.1) x.intoColumn)) (fun yy2=>(aM d x.into).1.rows.length - yy2.1) (fun yy2=> .len ((((aM d x.into).1).rows).length)<| .br (.br (.back []) (.elem _ aF (((aM d x.into).1).rows) (fun e72=> .elem _ intD e72 (fun e76=> .back [])))) (.br (.lit<| .lit<| .br (.app Int intD yy0.2 ([(yy0.1:Int)]:List Int)<| .back [(1500,8900)]) (.back [(1500,1500)])) (.back [(1500,1500)])))))) (.fin [(0,1500)])))) (p:=(d.tables.map aD).length≤9223372036854775807→tS d x∧(((!(eA d x))=true→[]=(uF d x).map intD∧True)∧((!(eA d x))=false→dJ Tryz.prog 132 [.agg [.sl 162 3 (d.tables.map aD)],.one (.str x.name)] (.tup [.agg [.p none (.str (((aM d x.name).1).name)),vI (((aM d x.name).1).arity),.p none (.sl 32 1 ((((aM d x.name).1).rows).map aF))],vB ((aM d x.name).2)]) []∧(dJ Tryz.prog 132 [.agg [.sl 162 3 (d.tables.map aD)],.one (.str x.into)] (.tup [.agg [.p none (.str (((aM d x.into).1).name)),vI (((aM d x.into).1).arity),.p none (.sl 32 1 ((((aM d x.into).1).rows).map aF))],vB ((aM d x.into).2)]) []∧((∃(v:Nat) (out:List Int),(0:Int)=(v:Int)∧[]=out.map intD∧v≤10∧out=mQ d x v)∧ ∀(v:Nat) (out:List Int),(v≤10∧out=mQ d x v)→((decide ((v:Int)≤(9:Int)))=true→(∃(k:Nat) (p:Bool),(0:Int)=(k:Int)∧(false)=p∧k≤(aM d x.name).1.rows.length∧p=decide ((v:Int)∈gM ((aM d x.name).1.rows.take k) x.column))∧ ∀(k:Nat) (p:Bool),(k≤(aM d x.name).1.rows.length∧p=decide ((v:Int)∈gM ((aM d x.name).1.rows.take k) x.column))→Lm aF (((aM d x.name).1).rows)∧(((decide ((k:Int)<(((((aM d x.name).1).rows).length:Nat):Int)))=true→((p)=true→dO ((k:Int)+(1:Int))∧ ∃(k' :Nat) (p' :Bool),((k:Int)+(1:Int))=(k' :Int)∧(true)=p' ∧(k' ≤(aM d x.name).1.rows.length∧p' =decide ((v:Int)∈gM ((aM d x.name).1.rows.take k') x.column))∧(aM d x.name).1.rows.length - k' <(aM d x.name).1.rows.length - k)∧((p)=false→0≤(k:Int)∧Em aF (((aM d x.name).1).rows) k fun e51=>0≤x.column∧Em intD e51 ((x.column).toNat) fun e55=>dO ((k:Int)+(1:Int))∧ ∃(k' :Nat) (p' :Bool),((k:Int)+(1:Int))=(k' :Int)∧(decide (e55=(v:Int)))=p' ∧(k' ≤(aM d x.name).1.rows.length∧p' =decide ((v:Int)∈gM ((aM d x.name).1.rows.take k') x.column))∧(aM d x.name).1.rows.length - k' <(aM d x.name).1.rows.length - k))∧((decide ((k:Int)<(((((aM d x.name).1).rows).length:Nat):Int)))=false→(∃(j:Nat) (q:Bool),(0:Int)=(j:Int)∧(false)=q∧j≤(aM d x.into).1.rows.length∧q=decide ((v:Int)∈gM ((aM d x.into).1.rows.take j) x.intoColumn))∧ ∀(j:Nat) (q:Bool),(j≤(aM d x.into).1.rows.length∧q=decide ((v:Int)∈gM ((aM d x.into).1.rows.take j) x.intoColumn))→Lm aF (((aM d x.into).1).rows)∧(((decide ((j:Int)<(((((aM d x.into).1).rows).length:Nat):Int)))=true→((q)=true→dO ((j:Int)+(1:Int))∧ ∃(j' :Nat) (q' :Bool),((j:Int)+(1:Int))=(j' :Int)∧(true)=q' ∧(j' ≤(aM d x.into).1.rows.length∧q' =decide ((v:Int)∈gM ((aM d x.into).1.rows.take j') x.intoColumn))∧(aM d x.into).1.rows.length - j' <(aM d x.into).1.rows.length - j)∧((q)=false→0≤(j:Int)∧Em aF (((aM d x.into).1).rows) j fun e72=>0≤x.intoColumn∧Em intD e72 ((x.intoColumn).toNat) fun e76=>dO ((j:Int)+(1:Int))∧ ∃(j' :Nat) (q' :Bool),((j:Int)+(1:Int))=(j' :Int)∧(decide (e76=(v:Int)))=q' ∧(j' ≤(aM d x.into).1.rows.length∧q' =decide ((v:Int)∈gM ((aM d x.into).1.rows.take j') x.intoColumn))∧(aM d x.into).1.rows.length - j' <(aM d x.into).1.rows.length - j))∧((decide ((j:Int)<(((((aM d x.into).1).rows).length:Nat):Int)))=false→((p)=true→((!q)=true→out.map intD=out.map intD∧[[.int .i64 (v:Int)]]=([(v:Int)]:List Int).map intD∧(∀x,fG (intD x)=true)∧(out.length+([(v:Int)]:List Int).length)*8≤140737488355328∧dO ((v:Int)+(1:Int))∧ ∃(v' :Nat) (out' :List Int),((v:Int)+(1:Int))=(v' :Int)∧(out++[(v:Int)]).map intD=out'.map intD∧(v' ≤10∧out' =mQ d x v')∧10 - v' <10 - v)∧((!q)=false→dO ((v:Int)+(1:Int))∧ ∃(v' :Nat) (out' :List Int),((v:Int)+(1:Int))=(v' :Int)∧out.map intD=out'.map intD∧(v' ≤10∧out' =mQ d x v')∧10 - v' <10 - v))∧((p)=false→dO ((v:Int)+(1:Int))∧ ∃(v' :Nat) (out' :List Int),((v:Int)+(1:Int))=(v' :Int)∧out.map intD=out'.map intD∧(v' ≤10∧out' =mQ d x v')∧10 - v' <10 - v))))))∧((decide ((v:Int)≤(9:Int)))=false→out.map intD=(uF d x).map intD∧True)))))) (by kernel_rfl) ?_
 intro n0
 simp only [List.length_map] at n0
 refine ⟨aEK _ _ (by omega),fun c0=>?_,fun c0=>?_⟩
 ·replace c0:=nt c0
  have hbad:uF d x= []:=by rw [uF,if_neg (by simpa using c0)]
  refine ⟨?_,trivial⟩
  ·first | (rw [hbad]<;>rfl) | (rw [hE]<;>rfl)
 ·replace c0:=nf c0
  have hok:eA d x=true:=by simpa using c0
  obtain ⟨hTa,hTb,hca,hcb⟩:=wK hok
  have hA8:=cD hTa
  have hB8:=cD hTb
  refine ⟨lE (qK _ x.name (by omega)) rfl,lE (qK _ x.into (by omega)) rfl,⟨0,([]:List Int),rfl,rfl,by omega,rfl⟩,fun v out ⟨hvv,ho⟩=>?_⟩
  have hol:=aLD d x v
  rw [←ho] at hol
  refine ⟨fun c1=>?_,fun c1=>?_⟩
  ·replace c1:=yq c1
   refine ⟨⟨0,false,rfl,rfl,Nat.zero_le _,rfl⟩,fun k p ⟨hk,hp⟩=>?_⟩
   refine ⟨List.length_map _,fun c2=>?_,fun c2=>?_⟩
   ·replace c2:=yq c2
    obtain ⟨ra,hra⟩:=cE (l:=(aM d x.name).1.rows) (k:=k) (by omega)
    refine ⟨fun g47=>?_,fun g47=>?_⟩
    ·refine ⟨⟨by omega,by omega⟩,?_⟩
     exact ⟨k+1,_,rfl,rfl,⟨by omega,by rw [lQ _ _ hra,aAz,←hp,g47];rfl⟩,by omega⟩
    ·refine ⟨by omega,rfl,by omega,fun e51 h51=>?_⟩
     have hl51:=nR hTa (List.mem_of_getElem? h51)
     refine ⟨by omega,rfl,by omega,fun e55 h55=>?_⟩
     refine ⟨⟨by omega,by omega⟩,?_⟩
     exact ⟨k+1,_,rfl,rfl,⟨by omega,by obtain rfl:=aV h51 hra;rw [lQ _ _ hra,aAz,←hp,g47,cM h55,Bool.false_or];exact decide_eq_decide.2 ⟨Eq.symm,Eq.symm⟩⟩,by omega⟩
   ·replace c2:=nq c2
    have hP:p=decide ((v:Int)∈gM (aM d x.name).1.rows x.column):=by rw [hp,List.take_of_length_le (by omega)]
    refine ⟨⟨0,false,rfl,rfl,Nat.zero_le _,rfl⟩,fun j q ⟨hj,hq⟩=>?_⟩
    refine ⟨List.length_map _,fun c3=>?_,fun c3=>?_⟩
    ·replace c3:=yq c3
     obtain ⟨rb,hrb⟩:=cE (l:=(aM d x.into).1.rows) (k:=j) (by omega)
     refine ⟨fun g68=>?_,fun g68=>?_⟩
     ·refine ⟨⟨by omega,by omega⟩,?_⟩
      exact ⟨j+1,_,rfl,rfl,⟨by omega,by rw [lQ _ _ hrb,aAz,←hq,g68];rfl⟩,by omega⟩
     ·refine ⟨by omega,rfl,by omega,fun e72 h72=>?_⟩
      have hl72:=nR hTb (List.mem_of_getElem? h72)
      refine ⟨by omega,rfl,by omega,fun e76 h76=>?_⟩
      refine ⟨⟨by omega,by omega⟩,?_⟩
      exact ⟨j+1,_,rfl,rfl,⟨by omega,by obtain rfl:=aV h72 hrb;rw [lQ _ _ hrb,aAz,←hq,g68,cM h76,Bool.false_or];exact decide_eq_decide.2 ⟨Eq.symm,Eq.symm⟩⟩,by omega⟩
    ·replace c3:=nq c3
     have hQ:q=decide ((v:Int)∈gM (aM d x.into).1.rows x.intoColumn):=by rw [hq,List.take_of_length_le (by omega)]
     refine ⟨fun g82=>?_,fun g82=>?_⟩
     ·refine ⟨fun c4=>?_,fun c4=>?_⟩
      ·replace c4:=nt c4
       refine ⟨rfl,rfl,fun _=>rfl,by first | omega | (simp [ho];omega) | (simp;omega),?_⟩
       refine ⟨⟨by omega,by omega⟩,?_⟩
       exact ⟨v+1,_,rfl,rfl,⟨by omega,by rw [ho,aLC (by rw [aAy,←hP,←hQ,g82,c4];rfl)]⟩,by omega⟩
      ·replace c4:=nf c4
       refine ⟨⟨by omega,by omega⟩,?_⟩
       exact ⟨v+1,_,rfl,rfl,⟨by omega,by rw [ho,aIN (by rw [aAy,←hP,←hQ,g82,c4];rfl)]⟩,by omega⟩
     ·refine ⟨⟨by omega,by omega⟩,?_⟩
      exact ⟨v+1,_,rfl,rfl,⟨by omega,by rw [ho,aIN (by rw [aAy,←hP,←hQ,g82];rfl)]⟩,by omega⟩
  ·replace c1:=nq c1
   have hE:uF d x=out:=by rw [uF,if_pos hok,ho,show v=10 by omega]
   refine ⟨?_,trivial⟩
   ·first | (rw [hbad]<;>rfl) | (rw [hE]<;>rfl)
abbrev aBD (d:aP) (x:aL):Prop:=dJ Tryz.prog 137 [.agg [.sl 162 3 (d.tables.map aD)],.agg [.str x.name,.int .i64 x.column,.str x.into,.int .i64 x.intoColumn]] (vB (gN d x)) []
theorem aJN (d:aP) (x:aL) (hc:aW d≤1048576):aBD d x:=by
 refine aZ bR aT Tryz.func137 (by kernel_rfl) (.call (vB (eA d x)) []<| .br (bG (wO d x)<| .len ((uF d x).length)<| .fin []) (.fin [])) (p:=(d.tables.map aD).length≤9223372036854775807→tS d x∧(((eA d x)=true→aCT d x∧Lm intD (uF d x)∧(decide ((((uF d x).length:Nat):Int)=(0:Int)))=(gN d x)∧True)∧((eA d x)=false→(false)=(gN d x)∧True))) (by kernel_rfl) ?_
 intro n0
 simp only [List.length_map] at n0
 refine ⟨aEK _ _ (by omega),fun g8=>?_,fun g8=>?_⟩
 ·refine ⟨aLI _ _ (by omega),List.length_map _,?_,trivial⟩
  ·first | (simp [gN, *];done) | (rw [gN,g8,oI,aFy g8];rfl)
 ·refine ⟨?_,trivial⟩
  ·first | (simp [gN, *];done) | (rw [gN,g8,oI,aFy g8];rfl)
def dY (d:aP) (l:List aJ) (m:List aL):Bool:=l.all (gL d)&&(m.all (gN d)&&(decide ((l.length:Int)≤8)&&decide ((m.length:Int)≤8)))
abbrev wP (d:aP) (l:List aJ) (m:List aL):Prop:=dJ Tryz.prog 75 [.agg [.sl 162 3 (d.tables.map aD)],.one (.sl 168 3 (l.map aB)),.one (.sl 170 4 (m.map aE))] (vB (dY d l m)) []
theorem aFz (d:aP) (l:List aJ) (m:List aL) (hc:aW d≤1048576):wP d l m:=by
 refine aZ bR aT Tryz.func75 (by kernel_rfl) (.len l.length<| .loop Nat (Q1 Nat) [8,13,14,15,16,17,18,19,20,21] [800] (fun k=>[(13,vI (k:Int))]) (fun k=>[]) (fun k=>k≤l.length∧(l.take k).all (gL d)=true) (fun k=>l.length - k) (fun k=> .br (.elem _ aB l (fun e15=> .call (vB (gL d e15)) []<| .br (.fin []) (.back []))) (.len m.length<| .loop Nat (Q1 Nat) [10,24,25,26,27,28,29,30,31,32] [1000] (fun j=>[(24,vI (j:Int))]) (fun j=>[]) (fun j=>j≤m.length∧(m.take j).all (gN d)=true) (fun j=>m.length - j) (fun j=> .br (.elem _ aE m (fun e26=> .call (vB (gN d e26)) []<| .br (.fin []) (.back []))) (.len l.length<| .br (.len m.length<| .fin []) (.fin [])))))) (p:=(d.tables.map aD).length≤9223372036854775807→(l.map aB).length≤9223372036854775807→(m.map aE).length≤9223372036854775807→Lm aB l∧((∃(k:Nat),(0:Int)=(k:Int)∧k≤l.length∧(l.take k).all (gL d)=true)∧ ∀(k:Nat),(k≤l.length∧(l.take k).all (gL d)=true)→((decide ((k:Int)<((l.length:Nat):Int)))=true→0≤(k:Int)∧Em aB l k fun e15=>aBA d e15∧(((!(gL d e15))=true→(false)=(dY d l m)∧True)∧((!(gL d e15))=false→dO ((k:Int)+(1:Int))∧ ∃(k' :Nat),((k:Int)+(1:Int))=(k' :Int)∧(k' ≤l.length∧(l.take k').all (gL d)=true)∧l.length - k' <l.length - k)))∧((decide ((k:Int)<((l.length:Nat):Int)))=false→Lm aE m∧((∃(j:Nat),(0:Int)=(j:Int)∧j≤m.length∧(m.take j).all (gN d)=true)∧ ∀(j:Nat),(j≤m.length∧(m.take j).all (gN d)=true)→((decide ((j:Int)<((m.length:Nat):Int)))=true→0≤(j:Int)∧Em aE m j fun e26=>aBC d e26∧(((!(gN d e26))=true→(false)=(dY d l m)∧True)∧((!(gN d e26))=false→dO ((j:Int)+(1:Int))∧ ∃(j' :Nat),((j:Int)+(1:Int))=(j' :Int)∧(j' ≤m.length∧(m.take j').all (gN d)=true)∧m.length - j' <m.length - j)))∧((decide ((j:Int)<((m.length:Nat):Int)))=false→Lm aB l∧(((decide (((l.length:Nat):Int)≤(8:Int)))=true→Lm aE m∧(decide (((m.length:Nat):Int)≤(8:Int)))=(dY d l m)∧True)∧((decide (((l.length:Nat):Int)≤(8:Int)))=false→(false)=(dY d l m)∧True))))))) (by kernel_rfl) ?_
 intro n0 n1 n2
 simp only [List.length_map] at n0 n1 n2
 refine ⟨List.length_map _,⟨0,rfl,Nat.zero_le _,rfl⟩,fun k ⟨hk,ha⟩=>?_⟩
 refine ⟨fun c0=>?_,fun c0=>?_⟩
 ·replace c0:=yq c0
  refine ⟨by omega,rfl,by omega,fun e15 h15=>?_⟩
  refine ⟨aJK _ _ (by omega),fun c1=>?_,fun c1=>?_⟩
  ·replace c1:=nt c1
   have hL:l.all (gL d)=false:=dM h15 (by simpa using c1)
   refine ⟨?_,trivial⟩
   ·first | (simp [dY,hL];done) | (simp [dY,hL,hM];done) | (simp [dY,hL,hM, *];done)
  ·replace c1:=nf c1
   refine ⟨⟨by omega,by omega⟩,?_⟩
   exact ⟨k+1,rfl,⟨by omega,eZ h15 ha (by simpa using c1)⟩,by omega⟩
 ·replace c0:=nq c0
  have hL:=cZ (by omega) ha
  refine ⟨List.length_map _,⟨0,rfl,Nat.zero_le _,rfl⟩,fun j ⟨hj,hb⟩=>?_⟩
  refine ⟨fun c2=>?_,fun c2=>?_⟩
  ·replace c2:=yq c2
   refine ⟨by omega,rfl,by omega,fun e26 h26=>?_⟩
   refine ⟨aJM _ _ (by omega),fun c3=>?_,fun c3=>?_⟩
   ·replace c3:=nt c3
    have hM:m.all (gN d)=false:=dM h26 (by simpa using c3)
    refine ⟨?_,trivial⟩
    ·first | (simp [dY,hL];done) | (simp [dY,hL,hM];done) | (simp [dY,hL,hM, *];done)
   ·replace c3:=nf c3
    refine ⟨⟨by omega,by omega⟩,?_⟩
    exact ⟨j+1,rfl,⟨by omega,eZ h26 hb (by simpa using c3)⟩,by omega⟩
  ·replace c2:=nq c2
   have hM:=cZ (by omega) hb
   refine ⟨List.length_map _,fun g36=>?_,fun g36=>?_⟩
   ·replace g36:=yq g36
    refine ⟨List.length_map _,?_,trivial⟩
    ·first | (simp [dY,hL];done) | (simp [dY,hL,hM];done) | (simp [dY,hL,hM, *];done)
   ·replace g36:=nq g36
    refine ⟨?_,trivial⟩
    ·first | (simp [dY,hL];done) | (simp [dY,hL,hM];done) | (simp [dY,hL,hM, *];done)
abbrev wQ (d:aP) (l:List aJ) (m:List aL):Prop:=dJ Tryz.prog 65 [.agg [.sl 162 3 (d.tables.map aD)],.one (.sl 168 3 (l.map aB)),.one (.sl 170 4 (m.map aE))] (vB (dY d l m)) []
theorem aGA (d:aP) (l:List aJ) (m:List aL) (hc:aW d≤1048576):wQ d l m:=by
 refine aZ bR aT Tryz.func65 (by kernel_rfl) (.len l.length<| .br (.fin []) (.len m.length<| .lit<| .lit<| .br (.fin []) (.loop Nat (Q1 Nat) [7,17,18,19,20,21,22,23,24,25,26,27,28,29] [] (fun k=>[(7,vI (k:Int))]) (fun k=>[]) (fun k=>k≤l.length∧(l.take k).all (gL d)=true) (fun k=>l.length - k) (fun k=> .len l.length<| .br (.elem _ aB l (fun e26=> .call (vB (gL d e26)) []<| .br (.fin []) (.back []))) (.loop Nat (Q1 Nat) [8,30,31,32,33,34,35,36,37,38,39,40,41,42] [] (fun j=>[(8,vI (j:Int))]) (fun j=>[]) (fun j=>j≤m.length∧(m.take j).all (gN d)=true) (fun j=>m.length - j) (fun j=> .len m.length<| .br (.elem _ aE m (fun e39=> .call (vB (gN d e39)) []<| .br (.fin []) (.back []))) (.fin []))))))) (p:=(d.tables.map aD).length≤9223372036854775807→(l.map aB).length≤9223372036854775807→(m.map aE).length≤9223372036854775807→Lm aB l∧(((decide ((8:Int)<((l.length:Nat):Int)))=true→(false)=(dY d l m)∧True)∧((decide ((8:Int)<((l.length:Nat):Int)))=false→Lm aE m∧(((decide ((8:Int)<((m.length:Nat):Int)))=true→(false)=(dY d l m)∧True)∧((decide ((8:Int)<((m.length:Nat):Int)))=false→(∃(k:Nat),(0:Int)=(k:Int)∧k≤l.length∧(l.take k).all (gL d)=true)∧ ∀(k:Nat),(k≤l.length∧(l.take k).all (gL d)=true)→Lm aB l∧(((decide ((k:Int)<((l.length:Nat):Int)))=true→0≤(k:Int)∧Em aB l k fun e26=>aBB d e26∧(((!(gL d e26))=true→(false)=(dY d l m)∧True)∧((!(gL d e26))=false→dO ((k:Int)+(1:Int))∧ ∃(k' :Nat),((k:Int)+(1:Int))=(k' :Int)∧(k' ≤l.length∧(l.take k').all (gL d)=true)∧l.length - k' <l.length - k)))∧((decide ((k:Int)<((l.length:Nat):Int)))=false→(∃(j:Nat),(0:Int)=(j:Int)∧j≤m.length∧(m.take j).all (gN d)=true)∧ ∀(j:Nat),(j≤m.length∧(m.take j).all (gN d)=true)→Lm aE m∧(((decide ((j:Int)<((m.length:Nat):Int)))=true→0≤(j:Int)∧Em aE m j fun e39=>aBD d e39∧(((!(gN d e39))=true→(false)=(dY d l m)∧True)∧((!(gN d e39))=false→dO ((j:Int)+(1:Int))∧ ∃(j' :Nat),((j:Int)+(1:Int))=(j' :Int)∧(j' ≤m.length∧(m.take j').all (gN d)=true)∧m.length - j' <m.length - j)))∧((decide ((j:Int)<((m.length:Nat):Int)))=false→(true)=(dY d l m)∧True))))))))) (by kernel_rfl) ?_
 intro n0 n1 n2
 simp only [List.length_map] at n0 n1 n2
 refine ⟨List.length_map _,fun g12=>?_,fun g12=>?_⟩
 ·replace g12:=yq g12
  have hbad:(decide ((l.length:Int)≤8)&&decide ((m.length:Int)≤8))=false:=by first | (simp;omega) | (simp [*];omega)
  refine ⟨?_,trivial⟩
  ·first | (rw [dY,hbad];simp;done) | (rw [dY,hL,hM,hz];rfl) | (rw [dY,hL];rfl) | (rw [dY,hL,hM];rfl)
 ·replace g12:=nq g12
  refine ⟨List.length_map _,fun c0=>?_,fun c0=>?_⟩
  ·replace c0:=yq c0
   have hbad:(decide ((l.length:Int)≤8)&&decide ((m.length:Int)≤8))=false:=by first | (simp;omega) | (simp [*];omega)
   refine ⟨?_,trivial⟩
   ·first | (rw [dY,hbad];simp;done) | (rw [dY,hL,hM,hz];rfl) | (rw [dY,hL];rfl) | (rw [dY,hL,hM];rfl)
  ·replace c0:=nq c0
   have hz:(decide ((l.length:Int)≤8)&&decide ((m.length:Int)≤8))=true:=by simp;omega
   refine ⟨⟨0,rfl,Nat.zero_le _,rfl⟩,fun k ⟨hk,ha⟩=>?_⟩
   refine ⟨List.length_map _,fun c1=>?_,fun c1=>?_⟩
   ·replace c1:=yq c1
    refine ⟨by omega,rfl,by omega,fun e26 h26=>?_⟩
    refine ⟨aJL _ _ (by omega),fun c2=>?_,fun c2=>?_⟩
    ·replace c2:=nt c2
     have hL:l.all (gL d)=false:=dM h26 (by simpa using c2)
     refine ⟨?_,trivial⟩
     ·first | (rw [dY,hbad];simp;done) | (rw [dY,hL,hM,hz];rfl) | (rw [dY,hL];rfl) | (rw [dY,hL,hM];rfl)
    ·replace c2:=nf c2
     refine ⟨⟨by omega,by omega⟩,?_⟩
     exact ⟨k+1,rfl,⟨by omega,eZ h26 ha (by simpa using c2)⟩,by omega⟩
   ·replace c1:=nq c1
    have hL:=cZ (by omega) ha
    refine ⟨⟨0,rfl,Nat.zero_le _,rfl⟩,fun j ⟨hj,hb⟩=>?_⟩
    refine ⟨List.length_map _,fun c3=>?_,fun c3=>?_⟩
    ·replace c3:=yq c3
     refine ⟨by omega,rfl,by omega,fun e39 h39=>?_⟩
     refine ⟨aJN _ _ (by omega),fun c4=>?_,fun c4=>?_⟩
     ·replace c4:=nt c4
      have hM:m.all (gN d)=false:=dM h39 (by simpa using c4)
      refine ⟨?_,trivial⟩
      ·first | (rw [dY,hbad];simp;done) | (rw [dY,hL,hM,hz];rfl) | (rw [dY,hL];rfl) | (rw [dY,hL,hM];rfl)
     ·replace c4:=nf c4
      refine ⟨⟨by omega,by omega⟩,?_⟩
      exact ⟨j+1,rfl,⟨by omega,eZ h39 hb (by simpa using c4)⟩,by omega⟩
    ·replace c3:=nq c3
     have hM:=cZ (by omega) hb
     refine ⟨?_,trivial⟩
     ·first | (rw [dY,hbad];simp;done) | (rw [dY,hL,hM,hz];rfl) | (rw [dY,hL];rfl) | (rw [dY,hL,hM];rfl)
def eE (s:StoreD):Bool:=(eK s.database s.catalogue.version).2&&(decide ((eK s.database s.catalogue.version).1=s.catalogue)&&dY s.database s.dependencies s.inclusions)
abbrev aCU (s:StoreD):Prop:=dJ Tryz.prog 73 [.agg [.sl 162 3 (s.database.tables.map aD),.int .i64 s.catalogue.version,.sl 121 4 (s.catalogue.tables.map aA),.sl 168 3 (s.dependencies.map aB),.sl 170 4 (s.inclusions.map aE)]] (vB (eE s)) []
theorem aLJ (s:StoreD) (hc:dQ s≤1048576):aCU s:=by
 refine aZ bR aT Tryz.func73 (by kernel_rfl) (bG (tL s.database s.catalogue.version)<| .br (.call (vB (decide (((eK s.database s.catalogue.version).1)=s.catalogue))) []<| .lit<| .br (.call (vB (dY s.database s.dependencies s.inclusions)) []<| .fin []) (.fin [])) (.fin [])) (p:=(s.database.tables.map aD).length≤9223372036854775807→(s.catalogue.tables.map aA).length≤9223372036854775807→(s.dependencies.map aB).length≤9223372036854775807→(s.inclusions.map aE).length≤9223372036854775807→zT s.database s.catalogue.version∧((((eK s.database s.catalogue.version).2)=true→aAj ((eK s.database s.catalogue.version).1) s.catalogue∧(((decide (((eK s.database s.catalogue.version).1)=s.catalogue))=true→wP s.database s.dependencies s.inclusions∧(dY s.database s.dependencies s.inclusions)=(eE s)∧True)∧((decide (((eK s.database s.catalogue.version).1)=s.catalogue))=false→(false)=(eE s)∧True)))∧(((eK s.database s.catalogue.version).2)=false→(false)=(eE s)∧True))) (by kernel_rfl) ?_
 intro n0 n1 n2 n3
 simp only [List.length_map] at n0 n1 n2 n3
 have hS:dQ s=aW s.database+bK s.catalogue+bH s.dependencies+cG s.inclusions:=rfl
 have hsm:=aBn s.database s.catalogue.version
 refine ⟨aIE s.database s.catalogue.version,fun g15=>?_,fun g15=>?_⟩
 ·refine ⟨aJC _ _,fun g21=>?_,fun g21=>?_⟩
  ·replace g21:=yq g21
   refine ⟨aFz s.database _ _ (by omega),?_,trivial⟩
   ·first | (simp [eE, *];done) | (simp_all [eE];done)
  ·replace g21:=nq g21
   refine ⟨?_,trivial⟩
   ·first | (simp [eE, *];done) | (simp_all [eE];done)
 ·refine ⟨?_,trivial⟩
  ·first | (simp [eE, *];done) | (simp_all [eE];done)
abbrev aCV (s:StoreD):Prop:=dJ Tryz.prog 62 [.agg [.sl 162 3 (s.database.tables.map aD),.int .i64 s.catalogue.version,.sl 121 4 (s.catalogue.tables.map aA),.sl 168 3 (s.dependencies.map aB),.sl 170 4 (s.inclusions.map aE)]] (vB (eE s)) []
theorem aLK (s:StoreD) (hc:dQ s≤1048576):aCV s:=by
 refine aZ bR aT Tryz.func62 (by kernel_rfl) (bG (tM s.database s.catalogue.version)<| .br (.call (vB (decide (((eK s.database s.catalogue.version).1)=s.catalogue))) []<| .lit<| .br (.call (vB (dY s.database s.dependencies s.inclusions)) []<| .fin []) (.fin [])) (.fin [])) (p:=(s.database.tables.map aD).length≤9223372036854775807→(s.catalogue.tables.map aA).length≤9223372036854775807→(s.dependencies.map aB).length≤9223372036854775807→(s.inclusions.map aE).length≤9223372036854775807→zU s.database s.catalogue.version∧((((eK s.database s.catalogue.version).2)=true→aAk ((eK s.database s.catalogue.version).1) s.catalogue∧(((decide (((eK s.database s.catalogue.version).1)=s.catalogue))=true→wQ s.database s.dependencies s.inclusions∧(dY s.database s.dependencies s.inclusions)=(eE s)∧True)∧((decide (((eK s.database s.catalogue.version).1)=s.catalogue))=false→(false)=(eE s)∧True)))∧(((eK s.database s.catalogue.version).2)=false→(false)=(eE s)∧True))) (by kernel_rfl) ?_
 intro n0 n1 n2 n3
 simp only [List.length_map] at n0 n1 n2 n3
 have hS:dQ s=aW s.database+bK s.catalogue+bH s.dependencies+cG s.inclusions:=rfl
 have hsm:=aBn s.database s.catalogue.version
 refine ⟨aIF s.database s.catalogue.version,fun g15=>?_,fun g15=>?_⟩
 ·refine ⟨aJD _ _ (by omega),fun g21=>?_,fun g21=>?_⟩
  ·replace g21:=yq g21
   refine ⟨aGA s.database _ _ (by omega),?_,trivial⟩
   ·first | (simp [eE, *];done) | (simp_all [eE];done)
  ·replace g21:=nq g21
   refine ⟨?_,trivial⟩
   ·first | (simp [eE, *];done) | (simp_all [eE];done)
 ·refine ⟨?_,trivial⟩
  ·first | (simp [eE, *];done) | (simp_all [eE];done)
abbrev iR (d:aP):AV × List (Nat × Rs):=(.agg [.own 0],[(0,.arr 162 3 true (d.tables.map aD))])
abbrev jI (d:aP):Prop:=dJ Tryz.prog 144 [.agg [.sl 162 3 (d.tables.map aD)]] (iR d).1 (iR d).2
theorem oJ (d:aP) (hc:aW d≤1048576):jI d:=by
 refine aZ bR aT Tryz.func144 (by kernel_rfl) (.len d.tables.length<| .loop (Nat × (List aN)) (Q2 Nat (List aN)) [5,10,11,12,13,14,15,16,17,18,19,20,21] [300,500,1700,1800,1900,9000] (fun yy0=>[(10,vI (yy0.1:Int))]) (fun yy0=>[(300,some (.box 39 [.own 9000])),(9000,some (.arr 162 3 true (yy0.2.map aD)))]) (fun yy0=>yy0.1≤d.tables.length∧yy0.2=d.tables.take yy0.1) (fun yy0=>d.tables.length - yy0.1) (fun yy0=> .br (.elem _ aD d.tables (fun e12=>bG (gX e12)<| .appx aN aD yy0.2 e12<| .back [(300,300),(9000,1900)])) (.fin [(0,9000)]))) (p:=(d.tables.map aD).length≤9223372036854775807→Lm aD d.tables∧((∃(k:Nat) (out:List aN),(0:Int)=(k:Int)∧[]=out.map aD∧k≤d.tables.length∧out=d.tables.take k)∧ ∀(k:Nat) (out:List aN),(k≤d.tables.length∧out=d.tables.take k)→((decide ((k:Int)<((d.tables.length:Nat):Int)))=true→0≤(k:Int)∧Em aD d.tables k fun e12=>iP e12∧out.map aD=out.map aD∧e12.name=e12.name∧e12.arity=e12.arity∧e12.rows.map aF=e12.rows.map aF∧(out.length+1)*48≤140737488355328∧dO ((k:Int)+(1:Int))∧ ∃(k' :Nat) (out' :List aN),((k:Int)+(1:Int))=(k' :Int)∧(out++[e12]).map aD=out'.map aD∧(k' ≤d.tables.length∧out' =d.tables.take k')∧d.tables.length - k' <d.tables.length - k)∧((decide ((k:Int)<((d.tables.length:Nat):Int)))=false→out.map aD=d.tables.map aD∧True))) (by kernel_rfl) ?_
 intro n0
 simp only [List.length_map] at n0
 have q1:aW d=eW d.tables:=rfl
 have q2:=rB d.tables
 refine ⟨List.length_map _,⟨0,([]:List aN),rfl,rfl,Nat.zero_le _,rfl⟩,fun k out ⟨hk,ho⟩=>?_⟩
 refine ⟨fun c0=>?_,fun c0=>?_⟩
 ·replace c0:=yq c0
  refine ⟨by omega,rfl,by omega,fun e12 h12=>?_⟩
  have q3:=jG h12
  refine ⟨mJ _ (by omega),rfl,rfl,rfl,rfl,by first | omega | (simp;omega) | (simp [ho];omega),⟨by omega,by omega⟩,?_⟩
  exact ⟨k+1,_,rfl,rfl,⟨by omega,by rw [ho,cU h12]⟩,by omega⟩
 ·replace c0:=nq c0
  refine ⟨?_,trivial⟩
  ·first | rfl | (rw [ho,List.take_of_length_le (by omega)])
abbrev iS (d:aP):AV × List (Nat × Rs):=(.agg [.own 0],[(0,.arr 162 3 true (d.tables.map aD))])
abbrev jJ (d:aP):Prop:=dJ Tryz.prog 130 [.agg [.sl 162 3 (d.tables.map aD)]] (iS d).1 (iS d).2
theorem oK (d:aP) (hc:aW d≤1048576):jJ d:=by
 refine aZ bR aT Tryz.func130 (by kernel_rfl) (.loop (Nat × (List aN)) (Q2 Nat (List aN)) [4,5,7,8,9,10,11,12,13,14,15,16,17,18,19,20,21,22,23,24,25] [300,500,1900,2300,2400,9000] (fun yy0=>[(4,vI (yy0.1:Int))]) (fun yy0=>[(300,some (.box 39 [.own 9000])),(9000,some (.arr 162 3 true (yy0.2.map aD)))]) (fun yy0=>yy0.1≤d.tables.length∧yy0.2=d.tables.take yy0.1) (fun yy0=>d.tables.length - yy0.1) (fun yy0=> .len d.tables.length<| .br (.elem _ aD d.tables (fun e17=>bG (gY e17)<| .appx aN aD yy0.2 e17<| .back [(300,300),(9000,2400)])) (.fin [(0,9000)]))) (p:=(d.tables.map aD).length≤9223372036854775807→(∃(k:Nat) (out:List aN),(0:Int)=(k:Int)∧[]=out.map aD∧k≤d.tables.length∧out=d.tables.take k)∧ ∀(k:Nat) (out:List aN),(k≤d.tables.length∧out=d.tables.take k)→Lm aD d.tables∧(((decide ((k:Int)<((d.tables.length:Nat):Int)))=true→0≤(k:Int)∧Em aD d.tables k fun e17=>iQ e17∧out.map aD=out.map aD∧e17.name=e17.name∧e17.arity=e17.arity∧e17.rows.map aF=e17.rows.map aF∧(out.length+1)*48≤140737488355328∧dO ((k:Int)+(1:Int))∧ ∃(k' :Nat) (out' :List aN),((k:Int)+(1:Int))=(k' :Int)∧(out++[e17]).map aD=out'.map aD∧(k' ≤d.tables.length∧out' =d.tables.take k')∧d.tables.length - k' <d.tables.length - k)∧((decide ((k:Int)<((d.tables.length:Nat):Int)))=false→out.map aD=d.tables.map aD∧True))) (by kernel_rfl) ?_
 intro n0
 simp only [List.length_map] at n0
 have q1:aW d=eW d.tables:=rfl
 have q2:=rB d.tables
 refine ⟨⟨0,([]:List aN),rfl,rfl,Nat.zero_le _,rfl⟩,fun k out ⟨hk,ho⟩=>?_⟩
 refine ⟨List.length_map _,fun c0=>?_,fun c0=>?_⟩
 ·replace c0:=yq c0
  refine ⟨by omega,rfl,by omega,fun e17 h17=>?_⟩
  have q3:=jG h17
  refine ⟨mK _ (by omega),rfl,rfl,rfl,rfl,by first | omega | (simp;omega) | (simp [ho];omega),⟨by omega,by omega⟩,?_⟩
  exact ⟨k+1,_,rfl,rfl,⟨by omega,by rw [ho,cU h17]⟩,by omega⟩
 ·replace c0:=nq c0
  refine ⟨?_,trivial⟩
  ·first | rfl | (rw [ho,List.take_of_length_le (by omega)])
abbrev zZ (c:cA):AV × List (Nat × Rs):=(.agg [vI c.version,.own 0],[(0,.arr 121 4 true (c.tables.map aA))])
abbrev aEL (c:cA):Prop:=dJ Tryz.prog 145 [.agg [.int .i64 c.version,.sl 121 4 (c.tables.map aA)]] (zZ c).1 (zZ c).2
theorem aNB (c:cA) (hc:bK c≤1048576):aEL c:=by
 refine aZ bR aT Tryz.func145 (by kernel_rfl) (.len c.tables.length<| .loop (Nat × (List aG)) (Q2 Nat (List aG)) [5,12,13,14,15,16,17,18,19,20,21,22,23] [300,500,1900,2000,2100,9000] (fun yy0=>[(12,vI (yy0.1:Int))]) (fun yy0=>[(300,some (.box 42 [vI c.version,.own 9000])),(9000,some (.arr 121 4 true (yy0.2.map aA)))]) (fun yy0=>yy0.1≤c.tables.length∧yy0.2=c.tables.take yy0.1) (fun yy0=>c.tables.length - yy0.1) (fun yy0=> .br (.elem _ aA c.tables (fun e14=>bG (zP e14)<| .appx aG aA yy0.2 e14<| .back [(300,300),(9000,2100)])) (.fin [(0,9000)]))) (p:=(c.tables.map aA).length≤9223372036854775807→Lm aA c.tables∧((∃(k:Nat) (out:List aG),(0:Int)=(k:Int)∧c.version=c.version∧[]=out.map aA∧k≤c.tables.length∧out=c.tables.take k)∧ ∀(k:Nat) (out:List aG),(k≤c.tables.length∧out=c.tables.take k)→((decide ((k:Int)<((c.tables.length:Nat):Int)))=true→0≤(k:Int)∧Em aA c.tables k fun e14=>aDp e14∧out.map aA=out.map aA∧e14.name=e14.name∧e14.arity=e14.arity∧e14.rowCount=e14.rowCount∧e14.groups.map aC=e14.groups.map aC∧(out.length+1)*56≤140737488355328∧dO ((k:Int)+(1:Int))∧ ∃(k' :Nat) (out' :List aG),((k:Int)+(1:Int))=(k' :Int)∧c.version=c.version∧(out++[e14]).map aA=out'.map aA∧(k' ≤c.tables.length∧out' =c.tables.take k')∧c.tables.length - k' <c.tables.length - k)∧((decide ((k:Int)<((c.tables.length:Nat):Int)))=false→c.version=c.version∧out.map aA=c.tables.map aA∧True))) (by kernel_rfl) ?_
 intro n0
 simp only [List.length_map] at n0
 have q1:bK c=cT c.tables:=rfl
 have q2:=kN c.tables
 refine ⟨List.length_map _,⟨0,([]:List aG),rfl,rfl,rfl,Nat.zero_le _,rfl⟩,fun k out ⟨hk,ho⟩=>?_⟩
 refine ⟨fun c0=>?_,fun c0=>?_⟩
 ·replace c0:=yq c0
  refine ⟨by omega,rfl,by omega,fun e14 h14=>?_⟩
  have q3:=lI h14
  refine ⟨aMp _ (by omega),rfl,rfl,rfl,rfl,rfl,by first | omega | (simp;omega) | (simp [ho];omega),⟨by omega,by omega⟩,?_⟩
  exact ⟨k+1,_,rfl,rfl,rfl,⟨by omega,by rw [ho,cU h14]⟩,by omega⟩
 ·replace c0:=nq c0
  refine ⟨rfl,?_,trivial⟩
  ·first | rfl | (rw [ho,List.take_of_length_le (by omega)])
abbrev aAA (c:cA):AV × List (Nat × Rs):=(.agg [vI c.version,.own 0],[(0,.arr 121 4 true (c.tables.map aA))])
abbrev aEM (c:cA):Prop:=dJ Tryz.prog 131 [.agg [.int .i64 c.version,.sl 121 4 (c.tables.map aA)]] (aAA c).1 (aAA c).2
theorem aNC (c:cA) (hc:bK c≤1048576):aEM c:=by
 refine aZ bR aT Tryz.func131 (by kernel_rfl) (.loop (Nat × (List aG)) (Q2 Nat (List aG)) [4,5,9,10,11,12,13,14,15,16,17,18,19,20,21,22,23,24,25,26,27] [300,500,2100,2500,2600,9000] (fun yy0=>[(4,vI (yy0.1:Int))]) (fun yy0=>[(300,some (.box 42 [vI c.version,.own 9000])),(9000,some (.arr 121 4 true (yy0.2.map aA)))]) (fun yy0=>yy0.1≤c.tables.length∧yy0.2=c.tables.take yy0.1) (fun yy0=>c.tables.length - yy0.1) (fun yy0=> .len c.tables.length<| .br (.elem _ aA c.tables (fun e19=>bG (zQ e19)<| .appx aG aA yy0.2 e19<| .back [(300,300),(9000,2600)])) (.fin [(0,9000)]))) (p:=(c.tables.map aA).length≤9223372036854775807→(∃(k:Nat) (out:List aG),(0:Int)=(k:Int)∧c.version=c.version∧[]=out.map aA∧k≤c.tables.length∧out=c.tables.take k)∧ ∀(k:Nat) (out:List aG),(k≤c.tables.length∧out=c.tables.take k)→Lm aA c.tables∧(((decide ((k:Int)<((c.tables.length:Nat):Int)))=true→0≤(k:Int)∧Em aA c.tables k fun e19=>aDq e19∧out.map aA=out.map aA∧e19.name=e19.name∧e19.arity=e19.arity∧e19.rowCount=e19.rowCount∧e19.groups.map aC=e19.groups.map aC∧(out.length+1)*56≤140737488355328∧dO ((k:Int)+(1:Int))∧ ∃(k' :Nat) (out' :List aG),((k:Int)+(1:Int))=(k' :Int)∧c.version=c.version∧(out++[e19]).map aA=out'.map aA∧(k' ≤c.tables.length∧out' =c.tables.take k')∧c.tables.length - k' <c.tables.length - k)∧((decide ((k:Int)<((c.tables.length:Nat):Int)))=false→c.version=c.version∧out.map aA=c.tables.map aA∧True))) (by kernel_rfl) ?_
 intro n0
 simp only [List.length_map] at n0
 have q1:bK c=cT c.tables:=rfl
 have q2:=kN c.tables
 refine ⟨⟨0,([]:List aG),rfl,rfl,rfl,Nat.zero_le _,rfl⟩,fun k out ⟨hk,ho⟩=>?_⟩
 refine ⟨List.length_map _,fun c0=>?_,fun c0=>?_⟩
 ·replace c0:=yq c0
  refine ⟨by omega,rfl,by omega,fun e19 h19=>?_⟩
  have q3:=lI h19
  refine ⟨aMq _ (by omega),rfl,rfl,rfl,rfl,rfl,by first | omega | (simp;omega) | (simp [ho];omega),⟨by omega,by omega⟩,?_⟩
  exact ⟨k+1,_,rfl,rfl,rfl,⟨by omega,by rw [ho,cU h19]⟩,by omega⟩
 ·replace c0:=nq c0
  refine ⟨rfl,?_,trivial⟩
  ·first | rfl | (rw [ho,List.take_of_length_le (by omega)])
abbrev aAB (l:List aJ):AV × List (Nat × Rs):=(.own 0,[(0,.arr 168 3 true (l.map aB))])
abbrev aEN (l:List aJ):Prop:=dJ Tryz.prog 146 [.one (.sl 168 3 (l.map aB))] (aAB l).1 (aAB l).2
theorem aND (l:List aJ) (hc:bH l≤1048576):aEN l:=by
 refine aZ bR aT Tryz.func146 (by kernel_rfl) (.len l.length<| .loop (Nat × (List aJ)) (Q2 Nat (List aJ)) [3,5,6,9,10,11,12,13,14,15,16,17,18,19,20,21] [500,600,1500,1900,2000] (fun yy0=>[(9,vI (yy0.1:Int)),(3,.own 600)]) (fun yy0=>[(600,some (.arr 168 3 true (yy0.2.map aB)))]) (fun yy0=>yy0.1≤l.length∧yy0.2=l.take yy0.1) (fun yy0=>l.length - yy0.1) (fun yy0=> .br (.elem _ aB l (fun e11=>bG (aFm e11.src)<| .appx aJ aB yy0.2 e11<| .back [(600,2000)])) (.fin [(0,600)]))) (p:=(l.map aB).length≤9223372036854775807→Lm aB l∧((∃(k:Nat) (out:List aJ),(0:Int)=(k:Int)∧[]=out.map aB∧k≤l.length∧out=l.take k)∧ ∀(k:Nat) (out:List aJ),(k≤l.length∧out=l.take k)→((decide ((k:Int)<((l.length:Nat):Int)))=true→0≤(k:Int)∧Em aB l k fun e11=>aHo e11.src∧out.map aB=out.map aB∧e11.name=e11.name∧e11.src.map intD=e11.src.map intD∧e11.dst=e11.dst∧(out.length+1)*48≤140737488355328∧dO ((k:Int)+(1:Int))∧ ∃(k' :Nat) (out' :List aJ),((k:Int)+(1:Int))=(k' :Int)∧(out++[e11]).map aB=out'.map aB∧(k' ≤l.length∧out' =l.take k')∧l.length - k' <l.length - k)∧((decide ((k:Int)<((l.length:Nat):Int)))=false→out.map aB=l.map aB∧True))) (by kernel_rfl) ?_
 intro n0
 simp only [List.length_map] at n0
 have q2:=kO l
 refine ⟨List.length_map _,⟨0,([]:List aJ),rfl,rfl,Nat.zero_le _,rfl⟩,fun k out ⟨hk,ho⟩=>?_⟩
 refine ⟨fun c0=>?_,fun c0=>?_⟩
 ·replace c0:=yq c0
  refine ⟨by omega,rfl,by omega,fun e11 h11=>?_⟩
  try (obtain rfl:=(aV h11 h11).symm)
  have q3:=oO h11
  have q4:bI e11=e11.name.size+bZ e11.src:=rfl
  have q5:bZ e11.src=e11.src.length:=rfl
  refine ⟨cpI _ (by omega),rfl,rfl,rfl,rfl,by first | omega | (simp;omega) | (simp [ho];omega),⟨by omega,by omega⟩,?_⟩
  exact ⟨k+1,_,rfl,rfl,⟨by omega,by rw [ho,cU h11]<;>rfl⟩,by omega⟩
 ·replace c0:=nq c0
  refine ⟨?_,trivial⟩
  ·first | rfl | (rw [ho,List.take_of_length_le (by omega)])
abbrev tT (l:List aJ):AV × List (Nat × Rs):=(.own 0,[(0,.arr 168 3 true (l.map aB))])
abbrev aAC (l:List aJ):Prop:=dJ Tryz.prog 67 [.one (.sl 168 3 (l.map aB))] (tT l).1 (tT l).2
theorem aIO (l:List aJ) (hc:bH l≤1048576):aAC l:=by
 refine aZ bR aT Tryz.func67 (by kernel_rfl) (.loop (Nat × (List aJ)) (Q2 Nat (List aJ)) [3,4,5,6,7,8,9,10,11,12,13,14,15,16,17,18,19,20,21,22,23,24,25,26,27,28,29,30,31,32] [500,1800,2400,3100,3200] (fun yy0=>[(4,vI (yy0.1:Int)),(3,.own 500)]) (fun yy0=>[(500,some (.arr 168 3 true (yy0.2.map aB)))]) (fun yy0=>yy0.1≤l.length∧yy0.2=l.take yy0.1) (fun yy0=>l.length - yy0.1) (fun yy0=> .len l.length<| .br (.elem _ aB l (fun e15=> .elem _ aB l (fun e21=> .app Int intD ([]:List Int) e21.src<| .elem _ aB l (fun e27=> .appx aJ aB yy0.2 (⟨e15.name,([]:List Int)++e21.src,e27.dst⟩:aJ)<| .back [(500,3200)])))) (.fin [(0,500)]))) (p:=(l.map aB).length≤9223372036854775807→(∃(k:Nat) (out:List aJ),(0:Int)=(k:Int)∧[]=out.map aB∧k≤l.length∧out=l.take k)∧ ∀(k:Nat) (out:List aJ),(k≤l.length∧out=l.take k)→Lm aB l∧(((decide ((k:Int)<((l.length:Nat):Int)))=true→0≤(k:Int)∧Em aB l k fun e15=>0≤(k:Int)∧Em aB l k fun e21=>[]=([]:List Int).map intD∧e21.src.map intD=e21.src.map intD∧(∀x,fG (intD x)=true)∧(([]:List Int).length+e21.src.length)*8≤140737488355328∧0≤(k:Int)∧Em aB l k fun e27=>out.map aB=out.map aB∧e15.name=((⟨e15.name,([]:List Int)++e21.src,e27.dst⟩:aJ).name)∧(([]:List Int)++e21.src).map intD=((⟨e15.name,([]:List Int)++e21.src,e27.dst⟩:aJ).src).map intD∧e27.dst=((⟨e15.name,([]:List Int)++e21.src,e27.dst⟩:aJ).dst)∧(out.length+1)*48≤140737488355328∧dO ((k:Int)+(1:Int))∧ ∃(k' :Nat) (out' :List aJ),((k:Int)+(1:Int))=(k' :Int)∧(out++[(⟨e15.name,([]:List Int)++e21.src,e27.dst⟩:aJ)]).map aB=out'.map aB∧(k' ≤l.length∧out' =l.take k')∧l.length - k' <l.length - k)∧((decide ((k:Int)<((l.length:Nat):Int)))=false→out.map aB=l.map aB∧True))) (by kernel_rfl) ?_
 intro n0
 simp only [List.length_map] at n0
 have q2:=kO l
 refine ⟨⟨0,([]:List aJ),rfl,rfl,Nat.zero_le _,rfl⟩,fun k out ⟨hk,ho⟩=>?_⟩
 refine ⟨List.length_map _,fun c0=>?_,fun c0=>?_⟩
 ·replace c0:=yq c0
  refine ⟨by omega,rfl,by omega,fun e15 h15=>?_⟩
  try (obtain rfl:=(aV h15 h15).symm)
  have q3:=oO h15
  have q4:bI e15=e15.name.size+bZ e15.src:=rfl
  have q5:bZ e15.src=e15.src.length:=rfl
  refine ⟨by omega,rfl,by omega,fun e21 h21=>?_⟩
  try (obtain rfl:=(aV h15 h21).symm)
  refine ⟨rfl,rfl,fun _=>rfl,by first | omega | (simp;omega) | (simp [ho];omega),?_⟩
  refine ⟨by omega,rfl,by omega,fun e27 h27=>?_⟩
  try (obtain rfl:=(aV h15 h27).symm)
  refine ⟨rfl,rfl,rfl,rfl,by first | omega | (simp;omega) | (simp [ho];omega),⟨by omega,by omega⟩,?_⟩
  exact ⟨k+1,_,rfl,rfl,⟨by omega,by rw [ho,cU h15]<;>rfl⟩,by omega⟩
 ·replace c0:=nq c0
  refine ⟨?_,trivial⟩
  ·first | rfl | (rw [ho,List.take_of_length_le (by omega)])
abbrev rH (s:StoreD):AV × List (Nat × Rs):=(.agg [.own 0,vI s.catalogue.version,.own 1,.own 2,.own 3],[(0,.arr 162 3 true (s.database.tables.map aD)),(1,.arr 121 4 true (s.catalogue.tables.map aA)),(2,.arr 168 3 true (s.dependencies.map aB)),(3,.arr 170 4 true (s.inclusions.map aE))])
abbrev wR (s:StoreD):Prop:=dJ Tryz.prog 72 [.agg [.sl 162 3 (s.database.tables.map aD),.int .i64 s.catalogue.version,.sl 121 4 (s.catalogue.tables.map aA),.sl 168 3 (s.dependencies.map aB),.sl 170 4 (s.inclusions.map aE)]] (rH s).1 (rH s).2
theorem aGB (s:StoreD) (h1:aW s.database≤1048576) (h2:bK s.catalogue≤1048576) (h3:bH s.dependencies≤1048576) (h4:s.inclusions.length≤1048576):wR s:=by
 refine aZ bR aT Tryz.func72 (by kernel_rfl) (bG (iR s.database)<| bG (zZ s.catalogue)<| bG (aAB s.dependencies)<| .app aL aE ([]:List aL) s.inclusions<| .fin [(0,500),(1,800),(2,1100),(3,1500)]) (p:=(s.database.tables.map aD).length≤9223372036854775807→(s.catalogue.tables.map aA).length≤9223372036854775807→(s.dependencies.map aB).length≤9223372036854775807→(s.inclusions.map aE).length≤9223372036854775807→jI s.database∧aEL s.catalogue∧aEN s.dependencies∧[]=([]:List aL).map aE∧s.inclusions.map aE=s.inclusions.map aE∧(∀x,fG (aE x)=true)∧(([]:List aL).length+s.inclusions.length)*48≤140737488355328∧s.catalogue.version=s.catalogue.version∧s.database.tables.map aD=s.database.tables.map aD∧s.catalogue.tables.map aA=s.catalogue.tables.map aA∧s.dependencies.map aB=s.dependencies.map aB∧(([]:List aL)++s.inclusions).map aE=s.inclusions.map aE∧True) (by kernel_rfl) ?_
 intro n0 n1 n2 n3
 simp only [List.length_map] at n0 n1 n2 n3
 refine ⟨oJ s.database (by omega),aNB s.catalogue (by omega),aND _ (by omega),rfl,rfl,fun _=>rfl,by first | omega | (simp;omega),?_⟩
 refine ⟨rfl,rfl,rfl,rfl,?_,trivial⟩
 ·rfl
abbrev kG (s:StoreD):AV × List (Nat × Rs):=(.agg [.own 0,vI s.catalogue.version,.own 1,.own 2,.own 3],[(0,.arr 162 3 true (s.database.tables.map aD)),(1,.arr 121 4 true (s.catalogue.tables.map aA)),(2,.arr 168 3 true (s.dependencies.map aB)),(3,.arr 170 4 true (s.inclusions.map aE))])
abbrev lZ (s:StoreD):Prop:=dJ Tryz.prog 63 [.agg [.sl 162 3 (s.database.tables.map aD),.int .i64 s.catalogue.version,.sl 121 4 (s.catalogue.tables.map aA),.sl 168 3 (s.dependencies.map aB),.sl 170 4 (s.inclusions.map aE)]] (kG s).1 (kG s).2
theorem sO (s:StoreD) (h1:aW s.database≤1048576) (h2:bK s.catalogue≤1048576) (h3:bH s.dependencies≤1048576) (h4:s.inclusions.length≤1048576):lZ s:=by
 refine aZ bR aT Tryz.func63 (by kernel_rfl) (bG (iS s.database)<| bG (aAA s.catalogue)<| bG (tT s.dependencies)<| .app aL aE ([]:List aL) s.inclusions<| .fin [(0,500),(1,800),(2,1100),(3,1500)]) (p:=(s.database.tables.map aD).length≤9223372036854775807→(s.catalogue.tables.map aA).length≤9223372036854775807→(s.dependencies.map aB).length≤9223372036854775807→(s.inclusions.map aE).length≤9223372036854775807→jJ s.database∧aEM s.catalogue∧aAC s.dependencies∧[]=([]:List aL).map aE∧s.inclusions.map aE=s.inclusions.map aE∧(∀x,fG (aE x)=true)∧(([]:List aL).length+s.inclusions.length)*48≤140737488355328∧s.catalogue.version=s.catalogue.version∧s.database.tables.map aD=s.database.tables.map aD∧s.catalogue.tables.map aA=s.catalogue.tables.map aA∧s.dependencies.map aB=s.dependencies.map aB∧(([]:List aL)++s.inclusions).map aE=s.inclusions.map aE∧True) (by kernel_rfl) ?_
 intro n0 n1 n2 n3
 simp only [List.length_map] at n0 n1 n2 n3
 refine ⟨oK s.database (by omega),aNC s.catalogue (by omega),aIO _ (by omega),rfl,rfl,fun _=>rfl,by first | omega | (simp;omega),?_⟩
 refine ⟨rfl,rfl,rfl,rfl,?_,trivial⟩
 ·rfl
end Go.Proofs.YtokkjaflmcjlhaaGreat
