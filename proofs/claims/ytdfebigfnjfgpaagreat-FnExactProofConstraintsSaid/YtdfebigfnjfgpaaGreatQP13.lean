/-
  Contracts and plain laws, joined: part 14.
-/
import Derived.Test.YtdfebigfnjfgpaaGreatQP10
import Derived.Test.YtdfebigfnjfgpaaGreatQP12
import Derived.Test.YtdfebigfnjfgpaaGreatQP9
import Derived.Test.YtdfebigfnjfgpaaGreatQP8
import Derived.Test.YtdfebigfnjfgpaaGreatQP7
import Derived.Test.YtdfebigfnjfgpaaGreatQP11
namespace Go.Proofs.YtdfebigfnjfgpaaGreat
open Go.ChangeShapes Go.WideShapes Go.ChangeAt Go.RowKit
set_option linter.unusedVariables false
set_option linter.unusedSimpArgs false
set_option maxRecDepth 100000
set_option maxHeartbeats 4000000
abbrev aAC (d:aV) (x:aL):AV × List (Nat × Rs):=(.own 0,[(0,.arr 3 1 true ((xK d x).map intD))])
abbrev aEc (d:aV) (x:aL):Prop:=cX Tryz.prog 216 [.agg [.sl 167 3 (d.tables.map aP)],.agg [.str x.name,.int .i64 x.column,.str x.into,.int .i64 x.intoColumn]] (aAC d x).1 (aAC d x).2
theorem aP9 (d:aV) (x:aL) (hc:bH d≤1048576):aEc d x:=by
 refine aX bG aR Tryz.func216 (by kernel_rfl) (.call (vB (eL d x)) []<| .br (.fin [(0,1500)]) (.call (.tup [.agg [.p none (.str (((aI d x.name).1).name)),vI (((aI d x.name).1).arity),.p none (.sl 39 1 ((((aI d x.name).1).rows).map aC))],vB ((aI d x.name).2)]) []<| .call (.tup [.agg [.p none (.str (((aI d x.into).1).name)),vI (((aI d x.into).1).arity),.p none (.sl 39 1 ((((aI d x.into).1).rows).map aC))],vB ((aI d x.into).2)]) []<| .loop (Nat × (List Int)) (Q2 Nat (List Int)) [5,10,11,12,13,14,15,35,36,37,38,39,40,41,42,43,44,45,46,47,48,49,50,51,52,53,54,55,56,57,58,59,60,61,62,63,64,65,66,67,68,69,70,71,72,73,74,75,76,77,78,79,80,81,82,83,84,85,86,87,88,89] [1500,8800,8900] (fun yy0=>[(10,vI (yy0.1:Int)),(5,.own 1500)]) (fun yy0=>[(1500,some (.arr 3 1 true (yy0.2.map intD)))]) (fun yy0=>yy0.1≤10∧yy0.2=oQ d x yy0.1) (fun yy0=>10 - yy0.1) (fun yy0=> .br (.loop (Nat × Bool) (Q2 Nat Bool) [11,13,39,40,41,42,43,44,45,46,47,48,49,50,51,52,53,54,55,56,57,58,59] [] (fun yy1=>[(13,vI (yy1.1:Int)),(11,vB yy1.2)]) (fun yy1=>[]) (fun yy1=>yy1.1≤(aI d x.name).1.rows.length∧yy1.2=decide ((yy0.1:Int)∈iS ((aI d x.name).1.rows.take yy1.1) x.column)) (fun yy1=>(aI d x.name).1.rows.length - yy1.1) (fun yy1=> .len ((((aI d x.name).1).rows).length)<| .br (.br (.back []) (.elem _ aC (((aI d x.name).1).rows) (fun e51=> .elem _ intD e51 (fun e55=> .back [])))) (.loop (Nat × Bool) (Q2 Nat Bool) [12,14,60,61,62,63,64,65,66,67,68,69,70,71,72,73,74,75,76,77,78,79,80] [] (fun yy2=>[(14,vI (yy2.1:Int)),(12,vB yy2.2)]) (fun yy2=>[]) (fun yy2=>yy2.1≤(aI d x.into).1.rows.length∧yy2.2=decide ((yy0.1:Int)∈iS ((aI d x.into).1.rows.take yy2.1) x.intoColumn)) (fun yy2=>(aI d x.into).1.rows.length - yy2.1) (fun yy2=> .len ((((aI d x.into).1).rows).length)<| .br (.br (.back []) (.elem _ aC (((aI d x.into).1).rows) (fun e72=> .elem _ intD e72 (fun e76=> .back [])))) (.br (.lit<| .lit<| .br (.app Int intD yy0.2 ([(yy0.1:Int)]:List Int)<| .back [(1500,8900)]) (.back [(1500,1500)])) (.back [(1500,1500)])))))) (.fin [(0,1500)])))) (p:=(d.tables.map aP).length≤9223372036854775807→wO d x∧(((!(eL d x))=true→[]=(xK d x).map intD∧True)∧((!(eL d x))=false→cX Tryz.prog 168 [.agg [.sl 167 3 (d.tables.map aP)],.one (.str x.name)] (.tup [.agg [.p none (.str (((aI d x.name).1).name)),vI (((aI d x.name).1).arity),.p none (.sl 39 1 ((((aI d x.name).1).rows).map aC))],vB ((aI d x.name).2)]) []∧(cX Tryz.prog 168 [.agg [.sl 167 3 (d.tables.map aP)],.one (.str x.into)] (.tup [.agg [.p none (.str (((aI d x.into).1).name)),vI (((aI d x.into).1).arity),.p none (.sl 39 1 ((((aI d x.into).1).rows).map aC))],vB ((aI d x.into).2)]) []∧((∃(v:Nat) (out:List Int),(0:Int)=(v:Int)∧[]=out.map intD∧v≤10∧out=oQ d x v)∧ ∀(v:Nat) (out:List Int),(v≤10∧out=oQ d x v)→((decide ((v:Int)≤(9:Int)))=true→(∃(k:Nat) (p:Bool),(0:Int)=(k:Int)∧(false)=p∧k≤(aI d x.name).1.rows.length∧p=decide ((v:Int)∈iS ((aI d x.name).1.rows.take k) x.column))∧ ∀(k:Nat) (p:Bool),(k≤(aI d x.name).1.rows.length∧p=decide ((v:Int)∈iS ((aI d x.name).1.rows.take k) x.column))→Lm aC (((aI d x.name).1).rows)∧(((decide ((k:Int)<(((((aI d x.name).1).rows).length:Nat):Int)))=true→((p)=true→cC ((k:Int)+(1:Int))∧ ∃(k' :Nat) (p' :Bool),((k:Int)+(1:Int))=(k' :Int)∧(true)=p' ∧(k' ≤(aI d x.name).1.rows.length∧p' =decide ((v:Int)∈iS ((aI d x.name).1.rows.take k') x.column))∧(aI d x.name).1.rows.length - k' <(aI d x.name).1.rows.length - k)∧((p)=false→0≤(k:Int)∧Em aC (((aI d x.name).1).rows) k fun e51=>0≤x.column∧Em intD e51 ((x.column).toNat) fun e55=>cC ((k:Int)+(1:Int))∧ ∃(k' :Nat) (p' :Bool),((k:Int)+(1:Int))=(k' :Int)∧(decide (e55=(v:Int)))=p' ∧(k' ≤(aI d x.name).1.rows.length∧p' =decide ((v:Int)∈iS ((aI d x.name).1.rows.take k') x.column))∧(aI d x.name).1.rows.length - k' <(aI d x.name).1.rows.length - k))∧((decide ((k:Int)<(((((aI d x.name).1).rows).length:Nat):Int)))=false→(∃(j:Nat) (q:Bool),(0:Int)=(j:Int)∧(false)=q∧j≤(aI d x.into).1.rows.length∧q=decide ((v:Int)∈iS ((aI d x.into).1.rows.take j) x.intoColumn))∧ ∀(j:Nat) (q:Bool),(j≤(aI d x.into).1.rows.length∧q=decide ((v:Int)∈iS ((aI d x.into).1.rows.take j) x.intoColumn))→Lm aC (((aI d x.into).1).rows)∧(((decide ((j:Int)<(((((aI d x.into).1).rows).length:Nat):Int)))=true→((q)=true→cC ((j:Int)+(1:Int))∧ ∃(j' :Nat) (q' :Bool),((j:Int)+(1:Int))=(j' :Int)∧(true)=q' ∧(j' ≤(aI d x.into).1.rows.length∧q' =decide ((v:Int)∈iS ((aI d x.into).1.rows.take j') x.intoColumn))∧(aI d x.into).1.rows.length - j' <(aI d x.into).1.rows.length - j)∧((q)=false→0≤(j:Int)∧Em aC (((aI d x.into).1).rows) j fun e72=>0≤x.intoColumn∧Em intD e72 ((x.intoColumn).toNat) fun e76=>cC ((j:Int)+(1:Int))∧ ∃(j' :Nat) (q' :Bool),((j:Int)+(1:Int))=(j' :Int)∧(decide (e76=(v:Int)))=q' ∧(j' ≤(aI d x.into).1.rows.length∧q' =decide ((v:Int)∈iS ((aI d x.into).1.rows.take j') x.intoColumn))∧(aI d x.into).1.rows.length - j' <(aI d x.into).1.rows.length - j))∧((decide ((j:Int)<(((((aI d x.into).1).rows).length:Nat):Int)))=false→((p)=true→((!q)=true→out.map intD=out.map intD∧[[.int .i64 (v:Int)]]=([(v:Int)]:List Int).map intD∧(∀x,dT (intD x)=true)∧(out.length+([(v:Int)]:List Int).length)*8≤140737488355328∧cC ((v:Int)+(1:Int))∧ ∃(v' :Nat) (out' :List Int),((v:Int)+(1:Int))=(v' :Int)∧(out++[(v:Int)]).map intD=out'.map intD∧(v' ≤10∧out' =oQ d x v')∧10 - v' <10 - v)∧((!q)=false→cC ((v:Int)+(1:Int))∧ ∃(v' :Nat) (out' :List Int),((v:Int)+(1:Int))=(v' :Int)∧out.map intD=out'.map intD∧(v' ≤10∧out' =oQ d x v')∧10 - v' <10 - v))∧((p)=false→cC ((v:Int)+(1:Int))∧ ∃(v' :Nat) (out' :List Int),((v:Int)+(1:Int))=(v' :Int)∧out.map intD=out'.map intD∧(v' ≤10∧out' =oQ d x v')∧10 - v' <10 - v))))))∧((decide ((v:Int)≤(9:Int)))=false→out.map intD=(xK d x).map intD∧True)))))) (by kernel_rfl) ?_
 intro n0
 simp only [List.length_map] at n0
 refine ⟨aGy _ _ (by omega),fun c0=>?_,fun c0=>?_⟩
 ·replace c0:=nt c0
  have hbad:xK d x= []:=by rw [xK,if_neg (by simpa using c0)]
  refine ⟨?_,trivial⟩
  ·first | (rw [hbad]<;>rfl) | (rw [hE]<;>rfl)
 ·replace c0:=nf c0
  have hok:eL d x=true:=by simpa using c0
  obtain ⟨hTa,hTb,hca,hcb⟩:=zU hok
  have hA8:=cN hTa
  have hB8:=cN hTb
  refine ⟨kJ (sS _ x.name (by omega)) rfl,kJ (sS _ x.into (by omega)) rfl,⟨0,([]:List Int),rfl,rfl,by omega,rfl⟩,fun v out ⟨hvv,ho⟩=>?_⟩
  have hol:=aPP d x v
  rw [←ho] at hol
  refine ⟨fun c1=>?_,fun c1=>?_⟩
  ·replace c1:=yq c1
   refine ⟨⟨0,false,rfl,rfl,Nat.zero_le _,rfl⟩,fun k p ⟨hk,hp⟩=>?_⟩
   refine ⟨List.length_map _,fun c2=>?_,fun c2=>?_⟩
   ·replace c2:=yq c2
    obtain ⟨ra,hra⟩:=cK (l:=(aI d x.name).1.rows) (k:=k) (by omega)
    refine ⟨fun g47=>?_,fun g47=>?_⟩
    ·refine ⟨⟨by omega,by omega⟩,?_⟩
     exact ⟨k+1,_,rfl,rfl,⟨by omega,by rw [nC _ _ hra,vH,←hp,g47];rfl⟩,by omega⟩
    ·refine ⟨by omega,rfl,by omega,fun e51 h51=>?_⟩
     have hl51:=pV hTa (List.mem_of_getElem? h51)
     refine ⟨by omega,rfl,by omega,fun e55 h55=>?_⟩
     refine ⟨⟨by omega,by omega⟩,?_⟩
     exact ⟨k+1,_,rfl,rfl,⟨by omega,by obtain rfl:=aY h51 hra;rw [nC _ _ hra,vH,←hp,g47,bD h55,Bool.false_or];exact decide_eq_decide.2 ⟨Eq.symm,Eq.symm⟩⟩,by omega⟩
   ·replace c2:=nq c2
    have hP:p=decide ((v:Int)∈iS (aI d x.name).1.rows x.column):=by rw [hp,List.take_of_length_le (by omega)]
    refine ⟨⟨0,false,rfl,rfl,Nat.zero_le _,rfl⟩,fun j q ⟨hj,hq⟩=>?_⟩
    refine ⟨List.length_map _,fun c3=>?_,fun c3=>?_⟩
    ·replace c3:=yq c3
     obtain ⟨rb,hrb⟩:=cK (l:=(aI d x.into).1.rows) (k:=j) (by omega)
     refine ⟨fun g68=>?_,fun g68=>?_⟩
     ·refine ⟨⟨by omega,by omega⟩,?_⟩
      exact ⟨j+1,_,rfl,rfl,⟨by omega,by rw [nC _ _ hrb,vH,←hq,g68];rfl⟩,by omega⟩
     ·refine ⟨by omega,rfl,by omega,fun e72 h72=>?_⟩
      have hl72:=pV hTb (List.mem_of_getElem? h72)
      refine ⟨by omega,rfl,by omega,fun e76 h76=>?_⟩
      refine ⟨⟨by omega,by omega⟩,?_⟩
      exact ⟨j+1,_,rfl,rfl,⟨by omega,by obtain rfl:=aY h72 hrb;rw [nC _ _ hrb,vH,←hq,g68,bD h76,Bool.false_or];exact decide_eq_decide.2 ⟨Eq.symm,Eq.symm⟩⟩,by omega⟩
    ·replace c3:=nq c3
     have hQ:q=decide ((v:Int)∈iS (aI d x.into).1.rows x.intoColumn):=by rw [hq,List.take_of_length_le (by omega)]
     refine ⟨fun g82=>?_,fun g82=>?_⟩
     ·refine ⟨fun c4=>?_,fun c4=>?_⟩
      ·replace c4:=nt c4
       refine ⟨rfl,rfl,fun _=>rfl,by first | omega | (simp [ho];omega) | (simp;omega),?_⟩
       refine ⟨⟨by omega,by omega⟩,?_⟩
       exact ⟨v+1,_,rfl,rfl,⟨by omega,by rw [ho,aPO (by rw [aCv,←hP,←hQ,g82,c4];rfl)]⟩,by omega⟩
      ·replace c4:=nf c4
       refine ⟨⟨by omega,by omega⟩,?_⟩
       exact ⟨v+1,_,rfl,rfl,⟨by omega,by rw [ho,aLy (by rw [aCv,←hP,←hQ,g82,c4];rfl)]⟩,by omega⟩
     ·refine ⟨⟨by omega,by omega⟩,?_⟩
      exact ⟨v+1,_,rfl,rfl,⟨by omega,by rw [ho,aLy (by rw [aCv,←hP,←hQ,g82];rfl)]⟩,by omega⟩
  ·replace c1:=nq c1
   have hE:xK d x=out:=by rw [xK,if_pos hok,ho,show v=10 by omega]
   refine ⟨?_,trivial⟩
   ·first | (rw [hbad]<;>rfl) | (rw [hE]<;>rfl)
abbrev aDC (d:aV) (x:aL):Prop:=cX Tryz.prog 194 [.agg [.sl 167 3 (d.tables.map aP)],.agg [.str x.name,.int .i64 x.column,.str x.into,.int .i64 x.intoColumn]] (vB (jE d x)) []
theorem aNR (d:aV) (x:aL) (hc:bH d≤1048576):aDC d x:=by
 refine aX bG aR Tryz.func194 (by kernel_rfl) (.call (vB (eL d x)) []<| .br (cB (aAC d x)<| .len ((xK d x).length)<| .fin []) (.fin [])) (p:=(d.tables.map aP).length≤9223372036854775807→wO d x∧(((eL d x)=true→aEc d x∧Lm intD (xK d x)∧(decide ((((xK d x).length:Nat):Int)=(0:Int)))=(jE d x)∧True)∧((eL d x)=false→(false)=(jE d x)∧True))) (by kernel_rfl) ?_
 intro n0
 simp only [List.length_map] at n0
 refine ⟨aGy _ _ (by omega),fun g8=>?_,fun g8=>?_⟩
 ·refine ⟨aP9 _ _ (by omega),List.length_map _,?_,trivial⟩
  ·first | (simp [jE, *];done) | (rw [jE,g8,qN,aJ9 g8];rfl)
 ·refine ⟨?_,trivial⟩
  ·first | (simp [jE, *];done) | (rw [jE,g8,qN,aJ9 g8];rfl)
def fB (d:aV) (l:List aN) (m:List aL):Bool:=l.all (jD d)&&(m.all (jE d)&&(decide ((l.length:Int)≤8)&&decide ((m.length:Int)≤8)))
abbrev aEd (d:aV) (l:List aN) (m:List aL):Prop:=cX Tryz.prog 148 [.agg [.sl 167 3 (d.tables.map aP)],.one (.sl 131 3 (l.map aJ)),.one (.sl 133 4 (m.map aM))] (vB (fB d l m)) []
theorem aPa (d:aV) (l:List aN) (m:List aL) (hc:bH d≤1048576):aEd d l m:=by
 refine aX bG aR Tryz.func148 (by kernel_rfl) (.len l.length<| .loop Nat (Q1 Nat) [8,13,14,15,16,17,18,19,20,21] [800] (fun k=>[(13,vI (k:Int))]) (fun k=>[]) (fun k=>k≤l.length∧(l.take k).all (jD d)=true) (fun k=>l.length - k) (fun k=> .br (.elem _ aJ l (fun e15=> .call (vB (jD d e15)) []<| .br (.fin []) (.back []))) (.len m.length<| .loop Nat (Q1 Nat) [10,24,25,26,27,28,29,30,31,32] [1000] (fun j=>[(24,vI (j:Int))]) (fun j=>[]) (fun j=>j≤m.length∧(m.take j).all (jE d)=true) (fun j=>m.length - j) (fun j=> .br (.elem _ aM m (fun e26=> .call (vB (jE d e26)) []<| .br (.fin []) (.back []))) (.len l.length<| .br (.len m.length<| .fin []) (.fin [])))))) (p:=(d.tables.map aP).length≤9223372036854775807→(l.map aJ).length≤9223372036854775807→(m.map aM).length≤9223372036854775807→Lm aJ l∧((∃(k:Nat),(0:Int)=(k:Int)∧k≤l.length∧(l.take k).all (jD d)=true)∧ ∀(k:Nat),(k≤l.length∧(l.take k).all (jD d)=true)→((decide ((k:Int)<((l.length:Nat):Int)))=true→0≤(k:Int)∧Em aJ l k fun e15=>aCz d e15∧(((!(jD d e15))=true→(false)=(fB d l m)∧True)∧((!(jD d e15))=false→cC ((k:Int)+(1:Int))∧ ∃(k' :Nat),((k:Int)+(1:Int))=(k' :Int)∧(k' ≤l.length∧(l.take k').all (jD d)=true)∧l.length - k' <l.length - k)))∧((decide ((k:Int)<((l.length:Nat):Int)))=false→Lm aM m∧((∃(j:Nat),(0:Int)=(j:Int)∧j≤m.length∧(m.take j).all (jE d)=true)∧ ∀(j:Nat),(j≤m.length∧(m.take j).all (jE d)=true)→((decide ((j:Int)<((m.length:Nat):Int)))=true→0≤(j:Int)∧Em aM m j fun e26=>aDB d e26∧(((!(jE d e26))=true→(false)=(fB d l m)∧True)∧((!(jE d e26))=false→cC ((j:Int)+(1:Int))∧ ∃(j' :Nat),((j:Int)+(1:Int))=(j' :Int)∧(j' ≤m.length∧(m.take j').all (jE d)=true)∧m.length - j' <m.length - j)))∧((decide ((j:Int)<((m.length:Nat):Int)))=false→Lm aJ l∧(((decide (((l.length:Nat):Int)≤(8:Int)))=true→Lm aM m∧(decide (((m.length:Nat):Int)≤(8:Int)))=(fB d l m)∧True)∧((decide (((l.length:Nat):Int)≤(8:Int)))=false→(false)=(fB d l m)∧True))))))) (by kernel_rfl) ?_
 intro n0 n1 n2
 simp only [List.length_map] at n0 n1 n2
 refine ⟨List.length_map _,⟨0,rfl,Nat.zero_le _,rfl⟩,fun k ⟨hk,ha⟩=>?_⟩
 refine ⟨fun c0=>?_,fun c0=>?_⟩
 ·replace c0:=yq c0
  refine ⟨by omega,rfl,by omega,fun e15 h15=>?_⟩
  refine ⟨aNO _ _ (by omega),fun c1=>?_,fun c1=>?_⟩
  ·replace c1:=nt c1
   have hL:l.all (jD d)=false:=bU h15 (by simpa using c1)
   refine ⟨?_,trivial⟩
   ·first | (simp [fB,hL];done) | (simp [fB,hL,hM];done) | (simp [fB,hL,hM, *];done)
  ·replace c1:=nf c1
   refine ⟨⟨by omega,by omega⟩,?_⟩
   exact ⟨k+1,rfl,⟨by omega,cS h15 ha (by simpa using c1)⟩,by omega⟩
 ·replace c0:=nq c0
  have hL:=bE (by omega) ha
  refine ⟨List.length_map _,⟨0,rfl,Nat.zero_le _,rfl⟩,fun j ⟨hj,hb⟩=>?_⟩
  refine ⟨fun c2=>?_,fun c2=>?_⟩
  ·replace c2:=yq c2
   refine ⟨by omega,rfl,by omega,fun e26 h26=>?_⟩
   refine ⟨aNQ _ _ (by omega),fun c3=>?_,fun c3=>?_⟩
   ·replace c3:=nt c3
    have hM:m.all (jE d)=false:=bU h26 (by simpa using c3)
    refine ⟨?_,trivial⟩
    ·first | (simp [fB,hL];done) | (simp [fB,hL,hM];done) | (simp [fB,hL,hM, *];done)
   ·replace c3:=nf c3
    refine ⟨⟨by omega,by omega⟩,?_⟩
    exact ⟨j+1,rfl,⟨by omega,cS h26 hb (by simpa using c3)⟩,by omega⟩
  ·replace c2:=nq c2
   have hM:=bE (by omega) hb
   refine ⟨List.length_map _,fun g36=>?_,fun g36=>?_⟩
   ·replace g36:=yq g36
    refine ⟨List.length_map _,?_,trivial⟩
    ·first | (simp [fB,hL];done) | (simp [fB,hL,hM];done) | (simp [fB,hL,hM, *];done)
   ·replace g36:=nq g36
    refine ⟨?_,trivial⟩
    ·first | (simp [fB,hL];done) | (simp [fB,hL,hM];done) | (simp [fB,hL,hM, *];done)
abbrev aEe (d:aV) (l:List aN) (m:List aL):Prop:=cX Tryz.prog 167 [.agg [.sl 167 3 (d.tables.map aP)],.one (.sl 131 3 (l.map aJ)),.one (.sl 133 4 (m.map aM))] (vB (fB d l m)) []
theorem aPb (d:aV) (l:List aN) (m:List aL) (hc:bH d≤1048576):aEe d l m:=by
 refine aX bG aR Tryz.func167 (by kernel_rfl) (.len l.length<| .br (.fin []) (.len m.length<| .lit<| .lit<| .br (.fin []) (.loop Nat (Q1 Nat) [7,17,18,19,20,21,22,23,24,25,26,27,28,29] [] (fun k=>[(7,vI (k:Int))]) (fun k=>[]) (fun k=>k≤l.length∧(l.take k).all (jD d)=true) (fun k=>l.length - k) (fun k=> .len l.length<| .br (.elem _ aJ l (fun e26=> .call (vB (jD d e26)) []<| .br (.fin []) (.back []))) (.loop Nat (Q1 Nat) [8,30,31,32,33,34,35,36,37,38,39,40,41,42] [] (fun j=>[(8,vI (j:Int))]) (fun j=>[]) (fun j=>j≤m.length∧(m.take j).all (jE d)=true) (fun j=>m.length - j) (fun j=> .len m.length<| .br (.elem _ aM m (fun e39=> .call (vB (jE d e39)) []<| .br (.fin []) (.back []))) (.fin []))))))) (p:=(d.tables.map aP).length≤9223372036854775807→(l.map aJ).length≤9223372036854775807→(m.map aM).length≤9223372036854775807→Lm aJ l∧(((decide ((8:Int)<((l.length:Nat):Int)))=true→(false)=(fB d l m)∧True)∧((decide ((8:Int)<((l.length:Nat):Int)))=false→Lm aM m∧(((decide ((8:Int)<((m.length:Nat):Int)))=true→(false)=(fB d l m)∧True)∧((decide ((8:Int)<((m.length:Nat):Int)))=false→(∃(k:Nat),(0:Int)=(k:Int)∧k≤l.length∧(l.take k).all (jD d)=true)∧ ∀(k:Nat),(k≤l.length∧(l.take k).all (jD d)=true)→Lm aJ l∧(((decide ((k:Int)<((l.length:Nat):Int)))=true→0≤(k:Int)∧Em aJ l k fun e26=>aDA d e26∧(((!(jD d e26))=true→(false)=(fB d l m)∧True)∧((!(jD d e26))=false→cC ((k:Int)+(1:Int))∧ ∃(k' :Nat),((k:Int)+(1:Int))=(k' :Int)∧(k' ≤l.length∧(l.take k').all (jD d)=true)∧l.length - k' <l.length - k)))∧((decide ((k:Int)<((l.length:Nat):Int)))=false→(∃(j:Nat),(0:Int)=(j:Int)∧j≤m.length∧(m.take j).all (jE d)=true)∧ ∀(j:Nat),(j≤m.length∧(m.take j).all (jE d)=true)→Lm aM m∧(((decide ((j:Int)<((m.length:Nat):Int)))=true→0≤(j:Int)∧Em aM m j fun e39=>aDC d e39∧(((!(jE d e39))=true→(false)=(fB d l m)∧True)∧((!(jE d e39))=false→cC ((j:Int)+(1:Int))∧ ∃(j' :Nat),((j:Int)+(1:Int))=(j' :Int)∧(j' ≤m.length∧(m.take j').all (jE d)=true)∧m.length - j' <m.length - j)))∧((decide ((j:Int)<((m.length:Nat):Int)))=false→(true)=(fB d l m)∧True))))))))) (by kernel_rfl) ?_
 intro n0 n1 n2
 simp only [List.length_map] at n0 n1 n2
 refine ⟨List.length_map _,fun g12=>?_,fun g12=>?_⟩
 ·replace g12:=yq g12
  have hbad:(decide ((l.length:Int)≤8)&&decide ((m.length:Int)≤8))=false:=by first | (simp;omega) | (simp [*];omega)
  refine ⟨?_,trivial⟩
  ·first | (rw [fB,hbad];simp;done) | (rw [fB,hL,hM,hz];rfl) | (rw [fB,hL];rfl) | (rw [fB,hL,hM];rfl)
 ·replace g12:=nq g12
  refine ⟨List.length_map _,fun c0=>?_,fun c0=>?_⟩
  ·replace c0:=yq c0
   have hbad:(decide ((l.length:Int)≤8)&&decide ((m.length:Int)≤8))=false:=by first | (simp;omega) | (simp [*];omega)
   refine ⟨?_,trivial⟩
   ·first | (rw [fB,hbad];simp;done) | (rw [fB,hL,hM,hz];rfl) | (rw [fB,hL];rfl) | (rw [fB,hL,hM];rfl)
  ·replace c0:=nq c0
   have hz:(decide ((l.length:Int)≤8)&&decide ((m.length:Int)≤8))=true:=by simp;omega
   refine ⟨⟨0,rfl,Nat.zero_le _,rfl⟩,fun k ⟨hk,ha⟩=>?_⟩
   refine ⟨List.length_map _,fun c1=>?_,fun c1=>?_⟩
   ·replace c1:=yq c1
    refine ⟨by omega,rfl,by omega,fun e26 h26=>?_⟩
    refine ⟨aNP _ _ (by omega),fun c2=>?_,fun c2=>?_⟩
    ·replace c2:=nt c2
     have hL:l.all (jD d)=false:=bU h26 (by simpa using c2)
     refine ⟨?_,trivial⟩
     ·first | (rw [fB,hbad];simp;done) | (rw [fB,hL,hM,hz];rfl) | (rw [fB,hL];rfl) | (rw [fB,hL,hM];rfl)
    ·replace c2:=nf c2
     refine ⟨⟨by omega,by omega⟩,?_⟩
     exact ⟨k+1,rfl,⟨by omega,cS h26 ha (by simpa using c2)⟩,by omega⟩
   ·replace c1:=nq c1
    have hL:=bE (by omega) ha
    refine ⟨⟨0,rfl,Nat.zero_le _,rfl⟩,fun j ⟨hj,hb⟩=>?_⟩
    refine ⟨List.length_map _,fun c3=>?_,fun c3=>?_⟩
    ·replace c3:=yq c3
     refine ⟨by omega,rfl,by omega,fun e39 h39=>?_⟩
     refine ⟨aNR _ _ (by omega),fun c4=>?_,fun c4=>?_⟩
     ·replace c4:=nt c4
      have hM:m.all (jE d)=false:=bU h39 (by simpa using c4)
      refine ⟨?_,trivial⟩
      ·first | (rw [fB,hbad];simp;done) | (rw [fB,hL,hM,hz];rfl) | (rw [fB,hL];rfl) | (rw [fB,hL,hM];rfl)
     ·replace c4:=nf c4
      refine ⟨⟨by omega,by omega⟩,?_⟩
      exact ⟨j+1,rfl,⟨by omega,cS h39 hb (by simpa using c4)⟩,by omega⟩
    ·replace c3:=nq c3
     have hM:=bE (by omega) hb
     refine ⟨?_,trivial⟩
     ·first | (rw [fB,hbad];simp;done) | (rw [fB,hL,hM,hz];rfl) | (rw [fB,hL];rfl) | (rw [fB,hL,hM];rfl)
def fC (s:StoreD):Bool:=(fW s.database s.catalogue.version).2&&(decide ((fW s.database s.catalogue.version).1=s.catalogue)&&fB s.database s.dependencies s.inclusions)
abbrev aEf (s:StoreD):Prop:=cX Tryz.prog 112 [.agg [.sl 167 3 (s.database.tables.map aP),.int .i64 s.catalogue.version,.sl 161 4 (s.catalogue.tables.map aD),.sl 131 3 (s.dependencies.map aJ),.sl 133 4 (s.inclusions.map aM)]] (vB (fC s)) []
theorem aPc (s:StoreD) (hc:dU s≤1048576):aEf s:=by
 refine aX bG aR Tryz.func112 (by kernel_rfl) (cB (aBl s.database s.catalogue.version)<| .br (.call (vB (decide (((fW s.database s.catalogue.version).1)=s.catalogue))) []<| .lit<| .br (.call (vB (fB s.database s.dependencies s.inclusions)) []<| .fin []) (.fin [])) (.fin [])) (p:=(s.database.tables.map aP).length≤9223372036854775807→(s.catalogue.tables.map aD).length≤9223372036854775807→(s.dependencies.map aJ).length≤9223372036854775807→(s.inclusions.map aM).length≤9223372036854775807→aGi s.database s.catalogue.version∧((((fW s.database s.catalogue.version).2)=true→aCe ((fW s.database s.catalogue.version).1) s.catalogue∧(((decide (((fW s.database s.catalogue.version).1)=s.catalogue))=true→aEd s.database s.dependencies s.inclusions∧(fB s.database s.dependencies s.inclusions)=(fC s)∧True)∧((decide (((fW s.database s.catalogue.version).1)=s.catalogue))=false→(false)=(fC s)∧True)))∧(((fW s.database s.catalogue.version).2)=false→(false)=(fC s)∧True))) (by kernel_rfl) ?_
 intro n0 n1 n2 n3
 simp only [List.length_map] at n0 n1 n2 n3
 have hS:dU s=bH s.database+bO s.catalogue+bY s.dependencies+cR s.inclusions:=rfl
 have hsm:=aJ3 s.database s.catalogue.version
 refine ⟨aR7 s.database s.catalogue.version,fun g15=>?_,fun g15=>?_⟩
 ·refine ⟨aNA _ _,fun g21=>?_,fun g21=>?_⟩
  ·replace g21:=yq g21
   refine ⟨aPa s.database _ _ (by omega),?_,trivial⟩
   ·first | (simp [fC, *];done) | (simp_all [fC];done)
  ·replace g21:=nq g21
   refine ⟨?_,trivial⟩
   ·first | (simp [fC, *];done) | (simp_all [fC];done)
 ·refine ⟨?_,trivial⟩
  ·first | (simp [fC, *];done) | (simp_all [fC];done)
abbrev aEg (s:StoreD):Prop:=cX Tryz.prog 132 [.agg [.sl 167 3 (s.database.tables.map aP),.int .i64 s.catalogue.version,.sl 161 4 (s.catalogue.tables.map aD),.sl 131 3 (s.dependencies.map aJ),.sl 133 4 (s.inclusions.map aM)]] (vB (fC s)) []
theorem aPd (s:StoreD) (hc:dU s≤1048576):aEg s:=by
 refine aX bG aR Tryz.func132 (by kernel_rfl) (cB (aBm s.database s.catalogue.version)<| .br (.call (vB (decide (((fW s.database s.catalogue.version).1)=s.catalogue))) []<| .lit<| .br (.call (vB (fB s.database s.dependencies s.inclusions)) []<| .fin []) (.fin [])) (.fin [])) (p:=(s.database.tables.map aP).length≤9223372036854775807→(s.catalogue.tables.map aD).length≤9223372036854775807→(s.dependencies.map aJ).length≤9223372036854775807→(s.inclusions.map aM).length≤9223372036854775807→aGj s.database s.catalogue.version∧((((fW s.database s.catalogue.version).2)=true→aCg ((fW s.database s.catalogue.version).1) s.catalogue∧(((decide (((fW s.database s.catalogue.version).1)=s.catalogue))=true→aEe s.database s.dependencies s.inclusions∧(fB s.database s.dependencies s.inclusions)=(fC s)∧True)∧((decide (((fW s.database s.catalogue.version).1)=s.catalogue))=false→(false)=(fC s)∧True)))∧(((fW s.database s.catalogue.version).2)=false→(false)=(fC s)∧True))) (by kernel_rfl) ?_
 intro n0 n1 n2 n3
 simp only [List.length_map] at n0 n1 n2 n3
 have hS:dU s=bH s.database+bO s.catalogue+bY s.dependencies+cR s.inclusions:=rfl
 have hsm:=aJ3 s.database s.catalogue.version
 refine ⟨aR8 s.database s.catalogue.version,fun g15=>?_,fun g15=>?_⟩
 ·refine ⟨aNB _ _ (by omega),fun g21=>?_,fun g21=>?_⟩
  ·replace g21:=yq g21
   refine ⟨aPb s.database _ _ (by omega),?_,trivial⟩
   ·first | (simp [fC, *];done) | (simp_all [fC];done)
  ·replace g21:=nq g21
   refine ⟨?_,trivial⟩
   ·first | (simp [fC, *];done) | (simp_all [fC];done)
 ·refine ⟨?_,trivial⟩
  ·first | (simp [fC, *];done) | (simp_all [fC];done)
abbrev aBv (x:aB):AV × List (Nat × Rs):=(.agg [.p none (.str x.name),vI x.arity,vI x.rowCount,.own 0],[(0,.arr 203 3 true (x.groups.map aA))])
abbrev aHQ (x:aB):Prop:=cX Tryz.prog 173 [.agg [.str x.name,.int .i64 x.arity,.int .i64 x.rowCount,.sl 203 3 (x.groups.map aA)]] (aBv x).1 (aBv x).2
theorem aRv (x:aB) (hc:bA x≤1048576):aHQ x:=by
 refine aX bG aR Tryz.func173 (by kernel_rfl) (.loop (Nat × (List aG)) (Q2 Nat (List aG)) [4,5,6,14,15,16,17,18,19,20,21,22,23,24,25,26,27,28,29,30,31,32,33,34,35,36,37,38,39,40,41,42,43,44,45,46,47,48,49,50,51,52,53,54,55,56,57,58,59,60,61,62,63,64,65,66,67,68,69,70] [300,500,2100,2800,2900,3600,5100,6100,6200,6300,6800,6900,9000,9001] (fun yy0=>[(4,vI (yy0.1:Int))]) (fun yy0=>[(300,some (.box 161 [.p none (.str x.name),vI x.arity,vI x.rowCount,.own 9000])),(9000,some (.arr 203 3 true (yy0.2.map aA)))]) (fun yy0=>yy0.1≤x.groups.length∧yy0.2=x.groups.take yy0.1) (fun yy0=>x.groups.length - yy0.1) (fun yy0=> .len x.groups.length<| .br (.elem _ aA x.groups (fun e25=> .app Int intD ([]:List Int) e25.columns<| .elem _ aA x.groups (fun e33=> .app Int intD ([]:List Int) e33.counts<| .loop (Nat × (List (List Int))) (Q2 Nat (List (List Int))) [6,38,39,40,41,42,43,44,45,46,47,48,49,50,51,52,53,54,55,56,57,58,59,60,61,62,63,64] [500,5100,6100,6200,6300,9001] (fun yy1=>[(6,vI (yy1.1:Int))]) (fun yy1=>[(500,some (.box 203 [.own 2800,.own 9001,.own 3600])),(9001,some (.arr 39 1 true (yy1.2.map aC)))]) (fun yy1=>yy1.1≤e25.values.length∧yy1.2=e25.values.take yy1.1) (fun yy1=>e25.values.length - yy1.1) (fun yy1=> .elem _ aA x.groups (fun e42=> .len e42.values.length<| .br (.elem _ aA x.groups (fun e55=> .elem _ aC e55.values (fun e59=> .app Int intD ([]:List Int) e59<| .appx (List Int) aC yy1.2 (([]:List Int)++e59)<| .back [(500,500),(9001,6300)]))) (.appx aG aA yy0.2 (⟨([]:List Int)++e25.columns,yy1.2,([]:List Int)++e33.counts⟩:aG)<| .back [(300,300),(9000,6900)])))))) (.fin [(0,9000)]))) (p:=(x.groups.map aA).length≤9223372036854775807→(∃(k:Nat) (out:List aG),(0:Int)=(k:Int)∧x.name=x.name∧x.arity=x.arity∧x.rowCount=x.rowCount∧[]=out.map aA∧k≤x.groups.length∧out=x.groups.take k)∧ ∀(k:Nat) (out:List aG),(k≤x.groups.length∧out=x.groups.take k)→Lm aA x.groups∧(((decide ((k:Int)<((x.groups.length:Nat):Int)))=true→0≤(k:Int)∧Em aA x.groups k fun e25=>[]=([]:List Int).map intD∧e25.columns.map intD=e25.columns.map intD∧(∀x,dT (intD x)=true)∧(([]:List Int).length+e25.columns.length)*8≤140737488355328∧(0≤(k:Int)∧Em aA x.groups k fun e33=>[]=([]:List Int).map intD∧e33.counts.map intD=e33.counts.map intD∧(∀x,dT (intD x)=true)∧(([]:List Int).length+e33.counts.length)*8≤140737488355328∧((∃(i:Nat) (v:List (List Int)),(0:Int)=(i:Int)∧[]=v.map aC∧i≤e25.values.length∧v=e25.values.take i)∧ ∀(i:Nat) (v:List (List Int)),(i≤e25.values.length∧v=e25.values.take i)→0≤(k:Int)∧Em aA x.groups k fun e42=>Lm aC e42.values∧(((decide ((i:Int)<((e42.values.length:Nat):Int)))=true→0≤(k:Int)∧Em aA x.groups k fun e55=>0≤(i:Int)∧Em aC e55.values i fun e59=>[]=([]:List Int).map intD∧e59.map intD=e59.map intD∧(∀x,dT (intD x)=true)∧(([]:List Int).length+e59.length)*8≤140737488355328∧v.map aC=v.map aC∧(([]:List Int)++e59).map intD=(([]:List Int)++e59).map intD∧(v.length+1)*24≤140737488355328∧cC ((i:Int)+(1:Int))∧ ∃(i' :Nat) (v' :List (List Int)),((i:Int)+(1:Int))=(i' :Int)∧(v++[([]:List Int)++e59]).map aC=v'.map aC∧(i' ≤e25.values.length∧v' =e25.values.take i')∧e25.values.length - i' <e25.values.length - i)∧((decide ((i:Int)<((e42.values.length:Nat):Int)))=false→out.map aA=out.map aA∧(([]:List Int)++e25.columns).map intD=((⟨([]:List Int)++e25.columns,v,([]:List Int)++e33.counts⟩:aG).columns).map intD∧v.map aC=((⟨([]:List Int)++e25.columns,v,([]:List Int)++e33.counts⟩:aG).values).map aC∧(([]:List Int)++e33.counts).map intD=((⟨([]:List Int)++e25.columns,v,([]:List Int)++e33.counts⟩:aG).counts).map intD∧(out.length+1)*72≤140737488355328∧cC ((k:Int)+(1:Int))∧ ∃(k' :Nat) (out' :List aG),((k:Int)+(1:Int))=(k' :Int)∧x.name=x.name∧x.arity=x.arity∧x.rowCount=x.rowCount∧(out++[(⟨([]:List Int)++e25.columns,v,([]:List Int)++e33.counts⟩:aG)]).map aA=out'.map aA∧(k' ≤x.groups.length∧out' =x.groups.take k')∧x.groups.length - k' <x.groups.length - k)))))∧((decide ((k:Int)<((x.groups.length:Nat):Int)))=false→x.name=x.name∧x.arity=x.arity∧x.rowCount=x.rowCount∧out.map aA=x.groups.map aA∧True))) (by kernel_rfl) ?_
 intro n0
 simp only [List.length_map] at n0
 have q2:bA x=x.name.size+dD x.groups:=rfl
 have q5:=gW x.groups
 refine ⟨⟨0,([]:List aG),rfl,rfl,rfl,rfl,rfl,Nat.zero_le _,rfl⟩,fun k out ⟨hk,ho⟩=>?_⟩
 refine ⟨List.length_map _,fun c0=>?_,fun c0=>?_⟩
 ·replace c0:=yq c0
  refine ⟨by omega,rfl,by omega,fun e25 h25=>?_⟩
  try (obtain rfl:=(aY h25 h25).symm)
  have q1:=iG h25
  have q3:bN e25=bS e25.columns+cM e25.values+bS e25.counts:=rfl
  have q6:bS e25.columns=e25.columns.length:=rfl
  have q7:bS e25.counts=e25.counts.length:=rfl
  have q8:=fD e25.values
  refine ⟨rfl,rfl,fun _=>rfl,by first | omega | (simp;omega) | (simp [ho];omega) | (simp [hv];omega),?_⟩
  refine ⟨by omega,rfl,by omega,fun e33 h33=>?_⟩
  try (obtain rfl:=(aY h25 h33).symm)
  refine ⟨rfl,rfl,fun _=>rfl,by first | omega | (simp;omega) | (simp [ho];omega) | (simp [hv];omega),?_⟩
  refine ⟨⟨0,([]:List (List Int)),rfl,rfl,Nat.zero_le _,rfl⟩,fun i v ⟨hi,hv⟩=>?_⟩
  refine ⟨by omega,rfl,by omega,fun e42 h42=>?_⟩
  try (obtain rfl:=(aY h25 h42).symm)
  refine ⟨List.length_map _,fun c1=>?_,fun c1=>?_⟩
  ·replace c1:=yq c1
   refine ⟨by omega,rfl,by omega,fun e55 h55=>?_⟩
   try (obtain rfl:=(aY h25 h55).symm)
   refine ⟨by omega,rfl,by omega,fun e59 h59=>?_⟩
   have hp3:=aAl h59
   refine ⟨rfl,rfl,fun _=>rfl,by first | omega | (simp;omega) | (simp [ho];omega) | (simp [hv];omega),?_⟩
   refine ⟨rfl,rfl,by first | omega | (simp;omega) | (simp [ho];omega) | (simp [hv];omega),⟨by omega,by omega⟩,?_⟩
   exact ⟨i+1,_,rfl,rfl,⟨by omega,by rw [hv,bP h59];rfl⟩,by omega⟩
  ·replace c1:=nq c1
   have hvv:v=e25.values:=by rw [hv,List.take_of_length_le (by omega)]
   refine ⟨rfl,rfl,rfl,rfl,by first | omega | (simp;omega) | (simp [ho];omega) | (simp [hv];omega),⟨by omega,by omega⟩,?_⟩
   exact ⟨k+1,_,rfl,rfl,rfl,rfl,rfl,⟨by omega,by rw [ho,bP h25,hvv];rfl⟩,by omega⟩
 ·replace c0:=nq c0
  refine ⟨rfl,rfl,rfl,?_,trivial⟩
  ·first | rfl | (rw [ho,List.take_of_length_le (by omega)])
def qP (n:ByteArray) (x:aB):Bool:=(x.name.toList==n.toList)&&bW x
def dH (c:cD) (n:ByteArray):aB × Bool:=match c.tables.find? (qP n) with | some x=>(x,true) | none=>(eB,false)
theorem eU {c:cD} {n:ByteArray} {x:aB} (h:c.tables.find? (qP n)=some x):dH c n=(x,true):=by rw [dH,h]
theorem fY {c:cD} {n:ByteArray} (h:c.tables.find? (qP n)=none):dH c n=(eB,false):=by rw [dH,h]
theorem aMH (c:cD) (n:ByteArray):bA (dH c n).1≤bO c:=by
 have hS:bO c=dK c.tables:=rfl
 cases h:c.tables.find? (qP n) with
 | none=>rw [fY h];exact Nat.zero_le _
 | some x=>
   rw [eU h,hS]
   obtain ⟨i,hi⟩:=List.getElem?_of_mem (List.mem_of_find?_eq_some h)
   exact lE hi
abbrev aEh (c:cD) (n:ByteArray):AV × List (Nat × Rs):=(.tup [.agg [.p none (.str (((dH c n).1).name)),vI (((dH c n).1).arity),vI (((dH c n).1).rowCount),.own 0],vB ((dH c n).2)],[(0,.arr 203 3 true ((((dH c n).1).groups).map aA))])
abbrev aMI (c:cD) (n:ByteArray):Prop:=cX Tryz.prog 116 [.agg [.int .i64 c.version,.sl 161 4 (c.tables.map aD)],.one (.str n)] (aEh c n).1 (aEh c n).2
theorem aPe (c:cD) (n:ByteArray) (hc:bO c≤1048576):aMI c n:=by
 refine aX bG aR Tryz.func116 (by kernel_rfl) (.len c.tables.length<| .loop Nat (Q1 Nat) [7,11,12,13,14,15,16,17,18,19,20,21,22,25] [700] (fun k=>[(11,vI (k:Int))]) (fun k=>[]) (fun k=>k≤c.tables.length∧(c.tables.take k).all (fun y=> !qP n y)=true) (fun k=>c.tables.length - k) (fun k=> .br (.elem _ aD c.tables (fun e13=> .br (.call (vB (bW e13)) []<| .lit<| .br (cB (aBj e13)<| .fin [(0,2400)]) (.back [])) (.back []))) (.fin []))) (p:=(c.tables.map aD).length≤9223372036854775807→Lm aD c.tables∧((∃(k:Nat),(0:Int)=(k:Int)∧k≤c.tables.length∧(c.tables.take k).all (fun y=> !qP n y)=true)∧ ∀(k:Nat),(k≤c.tables.length∧(c.tables.take k).all (fun y=> !qP n y)=true)→((decide ((k:Int)<((c.tables.length:Nat):Int)))=true→0≤(k:Int)∧Em aD c.tables k fun e13=>((e13.name.toList==n.toList)=true→aBk e13∧(((bW e13)=true→aGe e13∧e13.name=(((dH c n).1).name)∧e13.arity=(((dH c n).1).arity)∧e13.rowCount=(((dH c n).1).rowCount)∧(true)=((dH c n).2)∧e13.groups.map aA=(((dH c n).1).groups).map aA∧True)∧((bW e13)=false→cC ((k:Int)+(1:Int))∧ ∃(k' :Nat),((k:Int)+(1:Int))=(k' :Int)∧(k' ≤c.tables.length∧(c.tables.take k').all (fun y=> !qP n y)=true)∧c.tables.length - k' <c.tables.length - k)))∧((e13.name.toList==n.toList)=false→cC ((k:Int)+(1:Int))∧ ∃(k' :Nat),((k:Int)+(1:Int))=(k' :Int)∧(k' ≤c.tables.length∧(c.tables.take k').all (fun y=> !qP n y)=true)∧c.tables.length - k' <c.tables.length - k))∧((decide ((k:Int)<((c.tables.length:Nat):Int)))=false→ByteArray.empty=(((dH c n).1).name)∧(0:Int)=(((dH c n).1).arity)∧(0:Int)=(((dH c n).1).rowCount)∧(false)=((dH c n).2)∧[]=(((dH c n).1).groups).map aA∧True))) (by kernel_rfl) ?_
 intro n0
 simp only [List.length_map] at n0
 have hS:bO c=dK c.tables:=rfl
 refine ⟨List.length_map _,⟨0,rfl,Nat.zero_le _,rfl⟩,fun k ⟨hk,ha⟩=>?_⟩
 refine ⟨fun c0=>?_,fun c0=>?_⟩
 ·replace c0:=yq c0
  refine ⟨by omega,rfl,by omega,fun e13 h13=>?_⟩
  try (obtain rfl:=(aY h13 h13).symm)
  have q1:=lE h13
  refine ⟨fun g19=>?_,fun g19=>?_⟩
  ·refine ⟨aLo _ (by omega),fun c1=>?_,fun c1=>?_⟩
   ·have hf:=aK1 (p:=qP n) h13 ha (by simp [qP,g19,c1])
    refine ⟨aR3 _ (by omega),?_,?_,?_,?_,?_,trivial⟩
    ·first | (rw [eU hf]<;>rfl) | (rw [fY hall]<;>rfl)
    ·first | (rw [eU hf]<;>rfl) | (rw [fY hall]<;>rfl)
    ·first | (rw [eU hf]<;>rfl) | (rw [fY hall]<;>rfl)
    ·first | (rw [eU hf]<;>rfl) | (rw [fY hall]<;>rfl)
    ·first | (rw [eU hf]<;>rfl) | (rw [fY hall]<;>rfl)
   ·refine ⟨⟨by omega,by omega⟩,?_⟩
    exact ⟨k+1,rfl,⟨by omega,cS h13 ha (by first | (simp [qP,g19,c1];done) | (simp [qP,g19];done))⟩,by omega⟩
  ·refine ⟨⟨by omega,by omega⟩,?_⟩
   exact ⟨k+1,rfl,⟨by omega,cS h13 ha (by first | (simp [qP,g19,c1];done) | (simp [qP,g19];done))⟩,by omega⟩
 ·replace c0:=nq c0
  have hall:=aF8 (bE (by omega) ha)
  refine ⟨?_,?_,?_,?_,?_,trivial⟩
  ·first | (rw [eU hf]<;>rfl) | (rw [fY hall]<;>rfl)
  ·first | (rw [eU hf]<;>rfl) | (rw [fY hall]<;>rfl)
  ·first | (rw [eU hf]<;>rfl) | (rw [fY hall]<;>rfl)
  ·first | (rw [eU hf]<;>rfl) | (rw [fY hall]<;>rfl)
  ·first | (rw [eU hf]<;>rfl) | (rw [fY hall]<;>rfl)
abbrev aEi (c:cD) (n:ByteArray):AV × List (Nat × Rs):=(.tup [.agg [.p none (.str (((dH c n).1).name)),vI (((dH c n).1).arity),vI (((dH c n).1).rowCount),.own 0],vB ((dH c n).2)],[(0,.arr 203 3 true ((((dH c n).1).groups).map aA))])
abbrev aMJ (c:cD) (n:ByteArray):Prop:=cX Tryz.prog 141 [.agg [.int .i64 c.version,.sl 161 4 (c.tables.map aD)],.one (.str n)] (aEi c n).1 (aEi c n).2
theorem aPf (c:cD) (n:ByteArray) (hc:bO c≤1048576):aMJ c n:=by
 refine aX bG aR Tryz.func141 (by kernel_rfl) (.loop Nat (Q1 Nat) [6,7,8,9,10,11,12,13,14,15,16,17,18,19,20,21,22,23,24,25,26,27,28,29] [] (fun k=>[(6,vI (k:Int))]) (fun k=>[]) (fun k=>k≤c.tables.length∧(c.tables.take k).all (fun y=> !qP n y)=true) (fun k=>c.tables.length - k) (fun k=> .len c.tables.length<| .br (.elem _ aD c.tables (fun e17=> .br (.elem _ aD c.tables (fun e26=> .call (vB (bW e26)) []<| .lit<| .br (.elem _ aD c.tables (fun e33=>cB (aBv e33)<| .fin [(0,3500)])) (.back []))) (.back []))) (.fin []))) (p:=(c.tables.map aD).length≤9223372036854775807→(∃(k:Nat),(0:Int)=(k:Int)∧k≤c.tables.length∧(c.tables.take k).all (fun y=> !qP n y)=true)∧ ∀(k:Nat),(k≤c.tables.length∧(c.tables.take k).all (fun y=> !qP n y)=true)→Lm aD c.tables∧(((decide ((k:Int)<((c.tables.length:Nat):Int)))=true→0≤(k:Int)∧Em aD c.tables k fun e17=>((e17.name.toList==n.toList)=true→0≤(k:Int)∧Em aD c.tables k fun e26=>wR e26∧(((bW e26)=true→0≤(k:Int)∧Em aD c.tables k fun e33=>aHQ e33∧e33.name=(((dH c n).1).name)∧e33.arity=(((dH c n).1).arity)∧e33.rowCount=(((dH c n).1).rowCount)∧(true)=((dH c n).2)∧e33.groups.map aA=(((dH c n).1).groups).map aA∧True)∧((bW e26)=false→cC ((k:Int)+(1:Int))∧ ∃(k' :Nat),((k:Int)+(1:Int))=(k' :Int)∧(k' ≤c.tables.length∧(c.tables.take k').all (fun y=> !qP n y)=true)∧c.tables.length - k' <c.tables.length - k)))∧((e17.name.toList==n.toList)=false→cC ((k:Int)+(1:Int))∧ ∃(k' :Nat),((k:Int)+(1:Int))=(k' :Int)∧(k' ≤c.tables.length∧(c.tables.take k').all (fun y=> !qP n y)=true)∧c.tables.length - k' <c.tables.length - k))∧((decide ((k:Int)<((c.tables.length:Nat):Int)))=false→ByteArray.empty=(((dH c n).1).name)∧(0:Int)=(((dH c n).1).arity)∧(0:Int)=(((dH c n).1).rowCount)∧(false)=((dH c n).2)∧[]=(((dH c n).1).groups).map aA∧True))) (by kernel_rfl) ?_
 intro n0
 simp only [List.length_map] at n0
 have hS:bO c=dK c.tables:=rfl
 refine ⟨⟨0,rfl,Nat.zero_le _,rfl⟩,fun k ⟨hk,ha⟩=>?_⟩
 refine ⟨List.length_map _,fun c0=>?_,fun c0=>?_⟩
 ·replace c0:=yq c0
  refine ⟨by omega,rfl,by omega,fun e17 h17=>?_⟩
  try (obtain rfl:=(aY h17 h17).symm)
  have q1:=lE h17
  refine ⟨fun g22=>?_,fun g22=>?_⟩
  ·refine ⟨by omega,rfl,by omega,fun e26 h26=>?_⟩
   try (obtain rfl:=(aY h17 h26).symm)
   refine ⟨aHG _ (by omega),fun c1=>?_,fun c1=>?_⟩
   ·have hf:=aK1 (p:=qP n) h17 ha (by simp [qP,g22,c1])
    refine ⟨by omega,rfl,by omega,fun e33 h33=>?_⟩
    try (obtain rfl:=(aY h17 h33).symm)
    refine ⟨aRv _ (by omega),?_,?_,?_,?_,?_,trivial⟩
    ·first | (rw [eU hf]<;>rfl) | (rw [fY hall]<;>rfl)
    ·first | (rw [eU hf]<;>rfl) | (rw [fY hall]<;>rfl)
    ·first | (rw [eU hf]<;>rfl) | (rw [fY hall]<;>rfl)
    ·first | (rw [eU hf]<;>rfl) | (rw [fY hall]<;>rfl)
    ·first | (rw [eU hf]<;>rfl) | (rw [fY hall]<;>rfl)
   ·refine ⟨⟨by omega,by omega⟩,?_⟩
    exact ⟨k+1,rfl,⟨by omega,cS h17 ha (by first | (simp [qP,g22,c1];done) | (simp [qP,g22];done))⟩,by omega⟩
  ·refine ⟨⟨by omega,by omega⟩,?_⟩
   exact ⟨k+1,rfl,⟨by omega,cS h17 ha (by first | (simp [qP,g22,c1];done) | (simp [qP,g22];done))⟩,by omega⟩
 ·replace c0:=nq c0
  have hall:=aF8 (bE (by omega) ha)
  refine ⟨?_,?_,?_,?_,?_,trivial⟩
  ·first | (rw [eU hf]<;>rfl) | (rw [fY hall]<;>rfl)
  ·first | (rw [eU hf]<;>rfl) | (rw [fY hall]<;>rfl)
  ·first | (rw [eU hf]<;>rfl) | (rw [fY hall]<;>rfl)
  ·first | (rw [eU hf]<;>rfl) | (rw [fY hall]<;>rfl)
  ·first | (rw [eU hf]<;>rfl) | (rw [fY hall]<;>rfl)
def eE (d:aV) (q:QueryD):Bool:=cL q&&q.atoms.all fun a=>(aI d a.name).2&&decide ((aI d a.name).1.arity=(a.vars.length:Nat))
def yD (s:StoreD) (q:QueryD) (m:Int):Bool:=fC s&&(eE s.database q&&dW m 1 (nK q))
def fZ (s:StoreD) (q:QueryD) (i:Nat):aB:=(dH s.catalogue (q.atoms.getD i iZ).name).1
theorem aPg {d:aV} {q:QueryD} (h:eE d q=true):cL q=true∧ ∀a∈q.atoms,(aI d a.name).2=true∧(aI d a.name).1.arity=(a.vars.length:Nat):=by
 simp only [eE,Bool.and_eq_true] at h
 exact ⟨h.1,fun a ha=>by simpa using List.all_eq_true.1 h.2 a ha⟩
theorem aDx {s:StoreD} {q:QueryD} {m:Int} (h:yD s q m=true):fC s=true∧eE s.database q=true∧cL q=true∧1≤m∧m≤(1:Int)*2^q.atoms.length - 1∧m≤15∧jF q m=true∧(1≤q.atoms.length∧q.atoms.length≤4):=by
 simp only [yD,Bool.and_eq_true] at h
 have h1:=eY h.2.2
 have h2:=(aPg h.2.1).1
 have h3:=gR h2
 have h4:=nD h3.2.1
 rw [vJ h2] at h1
 exact ⟨h.1,h.2.1,h2,h1.1,h1.2,by omega,by rw [jF,h2,aBX (by omega) h1.2];rfl,h3.2.1⟩
end Go.Proofs.YtdfebigfnjfgpaaGreat
