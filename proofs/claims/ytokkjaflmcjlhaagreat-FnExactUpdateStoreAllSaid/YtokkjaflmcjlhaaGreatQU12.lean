/-
  Contracts and plain laws, joined: part 13.
-/
import Derived.Test.YtokkjaflmcjlhaaGreatQU5
import Derived.Test.YtokkjaflmcjlhaaGreatQU11
import Derived.Test.YtokkjaflmcjlhaaGreatQU9
import Derived.Test.YtokkjaflmcjlhaaGreatQU6
import Derived.Shelf.SlicesE.Delete
import Derived.Ground.SlgnProg
import Derived.Test.YtokkjaflmcjlhaaGreatQU8
namespace Go.Proofs.YtokkjaflmcjlhaaGreat
open Go.ChangeShapes Go.WideShapes Go.ChangeAt Go.RowKit
set_option linter.unusedVariables false
set_option linter.unusedSimpArgs false
set_option maxRecDepth 100000
set_option maxHeartbeats 4000000
abbrev rI (d:aP) (t:aN):AV × List (Nat × Rs):=(.tup [.agg [.own 0],vB ((eY d t).2)],[(0,.arr 162 3 true ((((eY d t).1).tables).map aD))])
abbrev wS (d:aP) (t:aN):Prop:=dJ Tryz.prog 151 [.agg [.sl 162 3 (d.tables.map aD)],.agg [.str t.name,.int .i64 t.arity,.sl 32 1 (t.rows.map aF)]] (rI d t).1 (rI d t).2
theorem aGC (d:aP) (t:aN) (hc:aW d≤1048576):wS d t:=by
 refine aZ bR aT Tryz.func151 (by kernel_rfl) (.call (vB (eB d)) []<| .br (bG (iR d)<| .fin [(0,1900)]) (.call (vB (aS t)) []<| .lit<| .lit<| .br (bG (iR d)<| .fin [(0,1900)]) (.len d.tables.length<| .loop (Nat × (List aN) × Bool) (Q3 Nat (List aN) Bool) [7,9,24,25,26,27,28,29,30,31,32,33,34,35,36,37,38,39,40,41,42,43,44,45,46,47,48,49,50,51,52,53,54,55,56] [600,900,4000,4100,4200,5200,5300,5400,9000] (fun yy0=>[(24,vI (yy0.1:Int)),(7,vB yy0.2.2)]) (fun yy0=>[(600,some (.box 39 [.own 9000])),(9000,some (.arr 162 3 true (yy0.2.1.map aD)))]) (fun yy0=>yy0.1≤d.tables.length∧yy0.2.1.length≤2*yy0.1∧yy0.2.1++rT t yy0.2.2 (d.tables.drop yy0.1)=fZ t d.tables) (fun yy0=>d.tables.length - yy0.1) (fun yy0=> .br (.elem _ aD d.tables (fun e26=> .br (.lit<| .lit<| .lit<| .lit<| .lit<| .br (bG (gX t)<| .appx aN aD yy0.2.1 t<| .br (bG (gX e26)<| .appx aN aD (yy0.2.1++[t]) e26<| .back [(600,600),(9000,5400)]) (.back [(600,600),(9000,4200)])) (.br (bG (gX e26)<| .appx aN aD yy0.2.1 e26<| .back [(600,600),(9000,5400)]) (.back [(600,600),(9000,9000)]))) (.lit<| .lit<| .lit<| .lit<| .lit<| .lit<| .br (bG (gX e26)<| .appx aN aD yy0.2.1 e26<| .back [(600,600),(9000,5400)]) (.back [(600,600),(9000,9000)])))) (.br (bG (gX t)<| .appx aN aD yy0.2.1 t<| .len ((yy0.2.1++[t]).length)<| .br (bG (iR d)<| .fin [(0,7100)]) (.fin [(0,6400)])) (.len yy0.2.1.length<| .br (bG (iR d)<| .fin [(0,7100)]) (.fin [(0,9000)]))))))) (p:=(d.tables.map aD).length≤9223372036854775807→(t.rows.map aF).length≤9223372036854775807→xZ d∧(((!(eB d))=true→jI d∧(false)=((eY d t).2)∧d.tables.map aD=(((eY d t).1).tables).map aD∧True)∧((!(eB d))=false→lN t∧(((!(aS t))=true→jI d∧(false)=((eY d t).2)∧d.tables.map aD=(((eY d t).1).tables).map aD∧True)∧((!(aS t))=false→Lm aD d.tables∧((∃(k:Nat) (out:List aN) (p:Bool),(0:Int)=(k:Int)∧(false)=p∧[]=out.map aD∧k≤d.tables.length∧out.length≤2*k∧out++rT t p (d.tables.drop k)=fZ t d.tables)∧ ∀(k:Nat) (out:List aN) (p:Bool),(k≤d.tables.length∧out.length≤2*k∧out++rT t p (d.tables.drop k)=fZ t d.tables)→((decide ((k:Int)<((d.tables.length:Nat):Int)))=true→0≤(k:Int)∧Em aD d.tables k fun e26=>((!p)=true→((!(Op.bytesLess e26.name.toList t.name.toList))=true→iP t∧(out.map aD=out.map aD∧t.name=t.name∧t.arity=t.arity∧t.rows.map aF=t.rows.map aF∧(out.length+1)*48≤140737488355328∧(((!(e26.name.toList==t.name.toList))=true→iP e26∧(out++[t]).map aD=(out++[t]).map aD∧e26.name=e26.name∧e26.arity=e26.arity∧e26.rows.map aF=e26.rows.map aF∧((out++[t]).length+1)*48≤140737488355328∧dO ((k:Int)+(1:Int))∧ ∃(k' :Nat) (out' :List aN) (p' :Bool),((k:Int)+(1:Int))=(k' :Int)∧(true)=p' ∧((out++[t])++[e26]).map aD=out'.map aD∧(k' ≤d.tables.length∧out'.length≤2*k' ∧out' ++rT t p' (d.tables.drop k')=fZ t d.tables)∧d.tables.length - k' <d.tables.length - k)∧((!(e26.name.toList==t.name.toList))=false→dO ((k:Int)+(1:Int))∧ ∃(k' :Nat) (out' :List aN) (p' :Bool),((k:Int)+(1:Int))=(k' :Int)∧(true)=p' ∧(out++[t]).map aD=out'.map aD∧(k' ≤d.tables.length∧out'.length≤2*k' ∧out' ++rT t p' (d.tables.drop k')=fZ t d.tables)∧d.tables.length - k' <d.tables.length - k))))∧((!(Op.bytesLess e26.name.toList t.name.toList))=false→((!(e26.name.toList==t.name.toList))=true→iP e26∧out.map aD=out.map aD∧e26.name=e26.name∧e26.arity=e26.arity∧e26.rows.map aF=e26.rows.map aF∧(out.length+1)*48≤140737488355328∧dO ((k:Int)+(1:Int))∧ ∃(k' :Nat) (out' :List aN) (p' :Bool),((k:Int)+(1:Int))=(k' :Int)∧(p)=p' ∧(out++[e26]).map aD=out'.map aD∧(k' ≤d.tables.length∧out'.length≤2*k' ∧out' ++rT t p' (d.tables.drop k')=fZ t d.tables)∧d.tables.length - k' <d.tables.length - k)∧((!(e26.name.toList==t.name.toList))=false→dO ((k:Int)+(1:Int))∧ ∃(k' :Nat) (out' :List aN) (p' :Bool),((k:Int)+(1:Int))=(k' :Int)∧(p)=p' ∧out.map aD=out'.map aD∧(k' ≤d.tables.length∧out'.length≤2*k' ∧out' ++rT t p' (d.tables.drop k')=fZ t d.tables)∧d.tables.length - k' <d.tables.length - k)))∧((!p)=false→((!(e26.name.toList==t.name.toList))=true→iP e26∧out.map aD=out.map aD∧e26.name=e26.name∧e26.arity=e26.arity∧e26.rows.map aF=e26.rows.map aF∧(out.length+1)*48≤140737488355328∧dO ((k:Int)+(1:Int))∧ ∃(k' :Nat) (out' :List aN) (p' :Bool),((k:Int)+(1:Int))=(k' :Int)∧(p)=p' ∧(out++[e26]).map aD=out'.map aD∧(k' ≤d.tables.length∧out'.length≤2*k' ∧out' ++rT t p' (d.tables.drop k')=fZ t d.tables)∧d.tables.length - k' <d.tables.length - k)∧((!(e26.name.toList==t.name.toList))=false→dO ((k:Int)+(1:Int))∧ ∃(k' :Nat) (out' :List aN) (p' :Bool),((k:Int)+(1:Int))=(k' :Int)∧(p)=p' ∧out.map aD=out'.map aD∧(k' ≤d.tables.length∧out'.length≤2*k' ∧out' ++rT t p' (d.tables.drop k')=fZ t d.tables)∧d.tables.length - k' <d.tables.length - k)))∧((decide ((k:Int)<((d.tables.length:Nat):Int)))=false→((!p)=true→iP t∧(out.map aD=out.map aD∧t.name=t.name∧t.arity=t.arity∧t.rows.map aF=t.rows.map aF∧(out.length+1)*48≤140737488355328∧(Lm aD (out++[t])∧(((decide ((6:Int)<(((out++[t]).length:Nat):Int)))=true→jI d∧(false)=((eY d t).2)∧d.tables.map aD=(((eY d t).1).tables).map aD∧True)∧((decide ((6:Int)<(((out++[t]).length:Nat):Int)))=false→(true)=((eY d t).2)∧(out++[t]).map aD=(((eY d t).1).tables).map aD∧True)))))∧((!p)=false→Lm aD out∧(((decide ((6:Int)<((out.length:Nat):Int)))=true→jI d∧(false)=((eY d t).2)∧d.tables.map aD=(((eY d t).1).tables).map aD∧True)∧((decide ((6:Int)<((out.length:Nat):Int)))=false→(true)=((eY d t).2)∧out.map aD=(((eY d t).1).tables).map aD∧True)))))))))) (by kernel_rfl) ?_
 intro n0 n1
 simp only [List.length_map] at n0 n1
 have q1:aW d=eW d.tables:=rfl
 refine ⟨aGe d,fun g13=>?_,fun g13=>?_⟩
 ·replace g13:=nt g13
  have hbad:eY d t=(d,false):=by rw [eY,if_neg (by first | (rw [c0];simp;done) | (simp [*];done))]
  refine ⟨oJ _ (by omega),?_,?_,trivial⟩
  ·first | (rw [hbad]<;>rfl) | (rw [hok,hL]<;>rfl)
  ·first | (rw [hbad]<;>rfl) | (rw [hok,hL]<;>rfl)
 ·replace g13:=nf g13
  refine ⟨sH t,fun c0=>?_,fun c0=>?_⟩
  ·replace c0:=nt c0
   have hbad:eY d t=(d,false):=by rw [eY,if_neg (by first | (rw [c0];simp;done) | (simp [*];done))]
   refine ⟨oJ _ (by omega),?_,?_,trivial⟩
   ·first | (rw [hbad]<;>rfl) | (rw [hok,hL]<;>rfl)
   ·first | (rw [hbad]<;>rfl) | (rw [hok,hL]<;>rfl)
  ·replace c0:=nf c0
   have hd0:eB d=true:=by simpa using g13
   have ht0:aS t=true:=by simpa using c0
   have hts:=lC ht0
   have h6:=wJ hd0
   refine ⟨List.length_map _,⟨0,([]:List aN),false,rfl,rfl,rfl,Nat.zero_le _,by simp,rfl⟩,fun k out p ⟨hk,hol,hv⟩=>?_⟩
   refine ⟨fun c1=>?_,fun c1=>?_⟩
   ·replace c1:=yq c1
    refine ⟨by omega,rfl,by omega,fun e26 h26=>?_⟩
    have q3:=jG h26
    refine ⟨fun g30=>?_,fun g30=>?_⟩
    ·replace g30:=nt g30
     refine ⟨fun c2=>?_,fun c2=>?_⟩
     ·replace c2:=nt c2
      refine ⟨mJ _ (by omega),rfl,rfl,rfl,rfl,by first | omega | (simp;omega),fun c3=>?_,fun c3=>?_⟩
      ·replace c3:=nt c3
       refine ⟨mJ _ (by omega),rfl,rfl,rfl,rfl,by first | omega | (simp;omega),⟨by omega,by omega⟩,?_⟩
       exact ⟨k+1,_,_,rfl,rfl,rfl,⟨by omega,by first | omega | (simp;omega),by rw [←hv,fC h26,rT];(try simp at c3);(try rw [c3] at c2);first | (simp [g30,c2,c3];done) | (simp [g30,c3];done)⟩,by omega⟩
      ·replace c3:=nf c3
       refine ⟨⟨by omega,by omega⟩,?_⟩
       exact ⟨k+1,_,_,rfl,rfl,rfl,⟨by omega,by first | omega | (simp;omega),by rw [←hv,fC h26,rT];(try simp at c3);(try rw [c3] at c2);first | (simp [g30,c2,c3];done) | (simp [g30,c3];done)⟩,by omega⟩
     ·replace c2:=nf c2
      refine ⟨fun c3=>?_,fun c3=>?_⟩
      ·replace c3:=nt c3
       refine ⟨mJ _ (by omega),rfl,rfl,rfl,rfl,by first | omega | (simp;omega),⟨by omega,by omega⟩,?_⟩
       exact ⟨k+1,_,_,rfl,rfl,rfl,⟨by omega,by first | omega | (simp;omega),by rw [←hv,fC h26,rT];(try simp at c3);(try rw [c3] at c2);first | (simp [g30,c2,c3];done) | (simp [g30,c3];done)⟩,by omega⟩
      ·replace c3:=nf c3
       refine ⟨⟨by omega,by omega⟩,?_⟩
       exact ⟨k+1,_,_,rfl,rfl,rfl,⟨by omega,by first | omega | (simp;omega),by rw [←hv,fC h26,rT];(try simp at c3);(try rw [c3] at c2);first | (simp [g30,c2,c3];done) | (simp [g30,c3];done)⟩,by omega⟩
    ·replace g30:=nf g30
     refine ⟨fun c3=>?_,fun c3=>?_⟩
     ·replace c3:=nt c3
      refine ⟨mJ _ (by omega),rfl,rfl,rfl,rfl,by first | omega | (simp;omega),⟨by omega,by omega⟩,?_⟩
      exact ⟨k+1,_,_,rfl,rfl,rfl,⟨by omega,by first | omega | (simp;omega),by rw [←hv,fC h26,rT];(try simp at c3);(try rw [c3] at c2);first | (simp [g30,c2,c3];done) | (simp [g30,c3];done)⟩,by omega⟩
     ·replace c3:=nf c3
      refine ⟨⟨by omega,by omega⟩,?_⟩
      exact ⟨k+1,_,_,rfl,rfl,rfl,⟨by omega,by first | omega | (simp;omega),by rw [←hv,fC h26,rT];(try simp at c3);(try rw [c3] at c2);first | (simp [g30,c2,c3];done) | (simp [g30,c3];done)⟩,by omega⟩
   ·replace c1:=nq c1
    have hdn:out++(if p=true then [] else [t])=fZ t d.tables:=by rw [←hv,qE (by omega),rT]
    refine ⟨fun c4=>?_,fun c4=>?_⟩
    ·replace c4:=nt c4
     have hL:fZ t d.tables=out++[t]:=by rw [←hdn,c4];rfl
     refine ⟨mJ _ (by omega),rfl,rfl,rfl,rfl,by first | omega | (simp;omega),List.length_map _,fun c5=>?_,fun c5=>?_⟩
     ·replace c5:=yq c5
      have hbad:eY d t=(d,false):=by rw [eY,if_neg (by rw [hd0,ht0,hL];first | (simp;omega) | (simp at c5 ⊢;omega))]
      refine ⟨oJ _ (by omega),?_,?_,trivial⟩
      ·first | (rw [hbad]<;>rfl) | (rw [hok,hL]<;>rfl)
      ·first | (rw [hbad]<;>rfl) | (rw [hok,hL]<;>rfl)
     ·replace c5:=nq c5
      have hok:eY d t=(⟨fZ t d.tables⟩,true):=by rw [eY,if_pos (by rw [hd0,ht0,hL];first | (simp;omega) | (simp at c5 ⊢;omega))]
      refine ⟨?_,?_,trivial⟩
      ·first | (rw [hbad]<;>rfl) | (rw [hok,hL]<;>rfl)
      ·first | (rw [hbad]<;>rfl) | (rw [hok,hL]<;>rfl)
    ·replace c4:=nf c4
     have hL:fZ t d.tables=out:=by rw [←hdn,c4];simp
     refine ⟨List.length_map _,fun c5=>?_,fun c5=>?_⟩
     ·replace c5:=yq c5
      have hbad:eY d t=(d,false):=by rw [eY,if_neg (by rw [hd0,ht0,hL];first | (simp;omega) | (simp at c5 ⊢;omega))]
      refine ⟨oJ _ (by omega),?_,?_,trivial⟩
      ·first | (rw [hbad]<;>rfl) | (rw [hok,hL]<;>rfl)
      ·first | (rw [hbad]<;>rfl) | (rw [hok,hL]<;>rfl)
     ·replace c5:=nq c5
      have hok:eY d t=(⟨fZ t d.tables⟩,true):=by rw [eY,if_pos (by rw [hd0,ht0,hL];first | (simp;omega) | (simp at c5 ⊢;omega))]
      refine ⟨?_,?_,trivial⟩
      ·first | (rw [hbad]<;>rfl) | (rw [hok,hL]<;>rfl)
      ·first | (rw [hbad]<;>rfl) | (rw [hok,hL]<;>rfl)
abbrev rJ (d:aP) (t:aN):AV × List (Nat × Rs):=(.tup [.agg [.own 0],vB ((eY d t).2)],[(0,.arr 162 3 true ((((eY d t).1).tables).map aD))])
abbrev wT (d:aP) (t:aN):Prop:=dJ Tryz.prog 135 [.agg [.sl 162 3 (d.tables.map aD)],.agg [.str t.name,.int .i64 t.arity,.sl 32 1 (t.rows.map aF)]] (rJ d t).1 (rJ d t).2
theorem aGD (d:aP) (t:aN) (hc:aW d≤1048576):wT d t:=by
 refine aZ bR aT Tryz.func135 (by kernel_rfl) (.call (vB (eB d)) []<| .br (bG (iS d)<| .fin [(0,2100)]) (.call (vB (aS t)) []<| .lit<| .lit<| .br (bG (iS d)<| .fin [(0,2100)]) (.loop (Nat × (List aN) × Bool) (Q3 Nat (List aN) Bool) [7,8,9,10,23,24,25,26,27,28,29,30,31,32,33,34,35,36,37,38,39,40,41,42,43,44,45,46,47,48,49,50,51,52,53,54,55,56,57,58,59,60,61,62,63,64,65,66,67,68,69,70,71] [600,900,1000,4400,4800,4900,6500,6900,7000,9000] (fun yy0=>[(8,vI (yy0.1:Int)),(7,vB yy0.2.2)]) (fun yy0=>[(600,some (.box 39 [.own 9000])),(9000,some (.arr 162 3 true (yy0.2.1.map aD)))]) (fun yy0=>yy0.1≤d.tables.length∧yy0.2.1.length≤2*yy0.1∧yy0.2.1++rT t yy0.2.2 (d.tables.drop yy0.1)=fZ t d.tables) (fun yy0=>d.tables.length - yy0.1) (fun yy0=> .len d.tables.length<| .br (.br (.elem _ aD d.tables (fun e36=> .lit<| .lit<| .lit<| .lit<| .lit<| .lit<| .br (bG (gY t)<| .appx aN aD yy0.2.1 t<| .elem _ aD d.tables (fun e54=> .br (.elem _ aD d.tables (fun e63=>bG (gY e63)<| .appx aN aD (yy0.2.1++[t]) e63<| .back [(600,600),(9000,7000)])) (.back [(600,600),(9000,4900)]))) (.elem _ aD d.tables (fun e54=> .br (.elem _ aD d.tables (fun e63=>bG (gY e63)<| .appx aN aD yy0.2.1 e63<| .back [(600,600),(9000,7000)])) (.back [(600,600),(9000,9000)]))))) (.elem _ aD d.tables (fun e54=> .br (.elem _ aD d.tables (fun e63=>bG (gY e63)<| .appx aN aD yy0.2.1 e63<| .back [(600,600),(9000,7000)])) (.back [(600,600),(9000,9000)])))) (.br (bG (gY t)<| .appx aN aD yy0.2.1 t<| .call (vB (eB (⟨yy0.2.1++[t]⟩:aP))) []<| .br (bG (iS d)<| .fin [(0,8600)]) (.fin [(0,8000)])) (.call (vB (eB (⟨yy0.2.1⟩:aP))) []<| .br (bG (iS d)<| .fin [(0,8600)]) (.fin [(0,9000)]))))))) (p:=(d.tables.map aD).length≤9223372036854775807→(t.rows.map aF).length≤9223372036854775807→pK d∧(((!(eB d))=true→jJ d∧(false)=((eY d t).2)∧d.tables.map aD=(((eY d t).1).tables).map aD∧True)∧((!(eB d))=false→lO t∧(((!(aS t))=true→jJ d∧(false)=((eY d t).2)∧d.tables.map aD=(((eY d t).1).tables).map aD∧True)∧((!(aS t))=false→(∃(k:Nat) (out:List aN) (p:Bool),(0:Int)=(k:Int)∧(false)=p∧[]=out.map aD∧k≤d.tables.length∧out.length≤2*k∧out++rT t p (d.tables.drop k)=fZ t d.tables)∧ ∀(k:Nat) (out:List aN) (p:Bool),(k≤d.tables.length∧out.length≤2*k∧out++rT t p (d.tables.drop k)=fZ t d.tables)→Lm aD d.tables∧(((decide ((k:Int)<((d.tables.length:Nat):Int)))=true→((!p)=true→0≤(k:Int)∧Em aD d.tables k fun e36=>((!(Op.bytesLess e36.name.toList t.name.toList))=true→iQ t∧(out.map aD=out.map aD∧t.name=t.name∧t.arity=t.arity∧t.rows.map aF=t.rows.map aF∧(out.length+1)*48≤140737488355328∧(0≤(k:Int)∧Em aD d.tables k fun e54=>((!(e54.name.toList==t.name.toList))=true→0≤(k:Int)∧Em aD d.tables k fun e63=>iQ e63∧(out++[t]).map aD=(out++[t]).map aD∧e63.name=e63.name∧e63.arity=e63.arity∧e63.rows.map aF=e63.rows.map aF∧((out++[t]).length+1)*48≤140737488355328∧dO ((k:Int)+(1:Int))∧ ∃(k' :Nat) (out' :List aN) (p' :Bool),((k:Int)+(1:Int))=(k' :Int)∧(true)=p' ∧((out++[t])++[e63]).map aD=out'.map aD∧(k' ≤d.tables.length∧out'.length≤2*k' ∧out' ++rT t p' (d.tables.drop k')=fZ t d.tables)∧d.tables.length - k' <d.tables.length - k)∧((!(e54.name.toList==t.name.toList))=false→dO ((k:Int)+(1:Int))∧ ∃(k' :Nat) (out' :List aN) (p' :Bool),((k:Int)+(1:Int))=(k' :Int)∧(true)=p' ∧(out++[t]).map aD=out'.map aD∧(k' ≤d.tables.length∧out'.length≤2*k' ∧out' ++rT t p' (d.tables.drop k')=fZ t d.tables)∧d.tables.length - k' <d.tables.length - k))))∧((!(Op.bytesLess e36.name.toList t.name.toList))=false→0≤(k:Int)∧Em aD d.tables k fun e54=>((!(e54.name.toList==t.name.toList))=true→0≤(k:Int)∧Em aD d.tables k fun e63=>iQ e63∧out.map aD=out.map aD∧e63.name=e63.name∧e63.arity=e63.arity∧e63.rows.map aF=e63.rows.map aF∧(out.length+1)*48≤140737488355328∧dO ((k:Int)+(1:Int))∧ ∃(k' :Nat) (out' :List aN) (p' :Bool),((k:Int)+(1:Int))=(k' :Int)∧(p)=p' ∧(out++[e63]).map aD=out'.map aD∧(k' ≤d.tables.length∧out'.length≤2*k' ∧out' ++rT t p' (d.tables.drop k')=fZ t d.tables)∧d.tables.length - k' <d.tables.length - k)∧((!(e54.name.toList==t.name.toList))=false→dO ((k:Int)+(1:Int))∧ ∃(k' :Nat) (out' :List aN) (p' :Bool),((k:Int)+(1:Int))=(k' :Int)∧(p)=p' ∧out.map aD=out'.map aD∧(k' ≤d.tables.length∧out'.length≤2*k' ∧out' ++rT t p' (d.tables.drop k')=fZ t d.tables)∧d.tables.length - k' <d.tables.length - k)))∧((!p)=false→0≤(k:Int)∧Em aD d.tables k fun e54=>((!(e54.name.toList==t.name.toList))=true→0≤(k:Int)∧Em aD d.tables k fun e63=>iQ e63∧out.map aD=out.map aD∧e63.name=e63.name∧e63.arity=e63.arity∧e63.rows.map aF=e63.rows.map aF∧(out.length+1)*48≤140737488355328∧dO ((k:Int)+(1:Int))∧ ∃(k' :Nat) (out' :List aN) (p' :Bool),((k:Int)+(1:Int))=(k' :Int)∧(p)=p' ∧(out++[e63]).map aD=out'.map aD∧(k' ≤d.tables.length∧out'.length≤2*k' ∧out' ++rT t p' (d.tables.drop k')=fZ t d.tables)∧d.tables.length - k' <d.tables.length - k)∧((!(e54.name.toList==t.name.toList))=false→dO ((k:Int)+(1:Int))∧ ∃(k' :Nat) (out' :List aN) (p' :Bool),((k:Int)+(1:Int))=(k' :Int)∧(p)=p' ∧out.map aD=out'.map aD∧(k' ≤d.tables.length∧out'.length≤2*k' ∧out' ++rT t p' (d.tables.drop k')=fZ t d.tables)∧d.tables.length - k' <d.tables.length - k)))∧((decide ((k:Int)<((d.tables.length:Nat):Int)))=false→((!p)=true→iQ t∧(out.map aD=out.map aD∧t.name=t.name∧t.arity=t.arity∧t.rows.map aF=t.rows.map aF∧(out.length+1)*48≤140737488355328∧(pK (⟨out++[t]⟩:aP)∧(((!(eB (⟨out++[t]⟩:aP)))=true→jJ d∧(false)=((eY d t).2)∧d.tables.map aD=(((eY d t).1).tables).map aD∧True)∧((!(eB (⟨out++[t]⟩:aP)))=false→(true)=((eY d t).2)∧(out++[t]).map aD=(((eY d t).1).tables).map aD∧True)))))∧((!p)=false→pK (⟨out⟩:aP)∧(((!(eB (⟨out⟩:aP)))=true→jJ d∧(false)=((eY d t).2)∧d.tables.map aD=(((eY d t).1).tables).map aD∧True)∧((!(eB (⟨out⟩:aP)))=false→(true)=((eY d t).2)∧out.map aD=(((eY d t).1).tables).map aD∧True)))))))))) (by kernel_rfl) ?_
 intro n0 n1
 simp only [List.length_map] at n0 n1
 have q1:aW d=eW d.tables:=rfl
 refine ⟨aAm d,fun g15=>?_,fun g15=>?_⟩
 ·replace g15:=nt g15
  have hbad:eY d t=(d,false):=by rw [eY,if_neg (by first | (rw [c0];simp;done) | (simp [*];done))]
  refine ⟨oK _ (by omega),?_,?_,trivial⟩
  ·first | (rw [hbad]<;>rfl) | (rw [hok,hL]<;>rfl)
  ·first | (rw [hbad]<;>rfl) | (rw [hok,hL]<;>rfl)
 ·replace g15:=nf g15
  refine ⟨sI t,fun c0=>?_,fun c0=>?_⟩
  ·replace c0:=nt c0
   have hbad:eY d t=(d,false):=by rw [eY,if_neg (by first | (rw [c0];simp;done) | (simp [*];done))]
   refine ⟨oK _ (by omega),?_,?_,trivial⟩
   ·first | (rw [hbad]<;>rfl) | (rw [hok,hL]<;>rfl)
   ·first | (rw [hbad]<;>rfl) | (rw [hok,hL]<;>rfl)
  ·replace c0:=nf c0
   have hd0:eB d=true:=by simpa using g15
   have ht0:aS t=true:=by simpa using c0
   have hts:=lC ht0
   have h6:=wJ hd0
   refine ⟨⟨0,([]:List aN),false,rfl,rfl,rfl,Nat.zero_le _,by simp,rfl⟩,fun k out p ⟨hk,hol,hv⟩=>?_⟩
   refine ⟨List.length_map _,fun c1=>?_,fun c1=>?_⟩
   ·replace c1:=yq c1
    refine ⟨fun g32=>?_,fun g32=>?_⟩
    ·replace g32:=nt g32
     refine ⟨by omega,rfl,by omega,fun e36 h36=>?_⟩
     refine ⟨fun c2=>?_,fun c2=>?_⟩
     ·replace c2:=nt c2
      refine ⟨mK _ (by omega),rfl,rfl,rfl,rfl,by first | omega | (simp;omega),by omega,rfl,by omega,fun e54 h54=>?_⟩
      try (obtain rfl:=(aV h36 h54).symm)
      have q3:=jG h54
      refine ⟨fun c3=>?_,fun c3=>?_⟩
      ·replace c3:=nt c3
       refine ⟨by omega,rfl,by omega,fun e63 h63=>?_⟩
       obtain rfl:=(aV h54 h63).symm
       refine ⟨mK _ (by omega),rfl,rfl,rfl,rfl,by first | omega | (simp;omega),⟨by omega,by omega⟩,?_⟩
       exact ⟨k+1,_,_,rfl,rfl,rfl,⟨by omega,by first | omega | (simp;omega),by rw [←hv,fC h54,rT];(try simp at c3);(try rw [c3] at c2);first | (simp [g32,c2,c3];done) | (simp [g32,c3];done)⟩,by omega⟩
      ·replace c3:=nf c3
       refine ⟨⟨by omega,by omega⟩,?_⟩
       exact ⟨k+1,_,_,rfl,rfl,rfl,⟨by omega,by first | omega | (simp;omega),by rw [←hv,fC h54,rT];(try simp at c3);(try rw [c3] at c2);first | (simp [g32,c2,c3];done) | (simp [g32,c3];done)⟩,by omega⟩
     ·replace c2:=nf c2
      refine ⟨by omega,rfl,by omega,fun e54 h54=>?_⟩
      try (obtain rfl:=(aV h36 h54).symm)
      have q3:=jG h54
      refine ⟨fun c3=>?_,fun c3=>?_⟩
      ·replace c3:=nt c3
       refine ⟨by omega,rfl,by omega,fun e63 h63=>?_⟩
       obtain rfl:=(aV h54 h63).symm
       refine ⟨mK _ (by omega),rfl,rfl,rfl,rfl,by first | omega | (simp;omega),⟨by omega,by omega⟩,?_⟩
       exact ⟨k+1,_,_,rfl,rfl,rfl,⟨by omega,by first | omega | (simp;omega),by rw [←hv,fC h54,rT];(try simp at c3);(try rw [c3] at c2);first | (simp [g32,c2,c3];done) | (simp [g32,c3];done)⟩,by omega⟩
      ·replace c3:=nf c3
       refine ⟨⟨by omega,by omega⟩,?_⟩
       exact ⟨k+1,_,_,rfl,rfl,rfl,⟨by omega,by first | omega | (simp;omega),by rw [←hv,fC h54,rT];(try simp at c3);(try rw [c3] at c2);first | (simp [g32,c2,c3];done) | (simp [g32,c3];done)⟩,by omega⟩
    ·replace g32:=nf g32
     refine ⟨by omega,rfl,by omega,fun e54 h54=>?_⟩
     try (obtain rfl:=(aV h36 h54).symm)
     have q3:=jG h54
     refine ⟨fun c3=>?_,fun c3=>?_⟩
     ·replace c3:=nt c3
      refine ⟨by omega,rfl,by omega,fun e63 h63=>?_⟩
      obtain rfl:=(aV h54 h63).symm
      refine ⟨mK _ (by omega),rfl,rfl,rfl,rfl,by first | omega | (simp;omega),⟨by omega,by omega⟩,?_⟩
      exact ⟨k+1,_,_,rfl,rfl,rfl,⟨by omega,by first | omega | (simp;omega),by rw [←hv,fC h54,rT];(try simp at c3);(try rw [c3] at c2);first | (simp [g32,c2,c3];done) | (simp [g32,c3];done)⟩,by omega⟩
     ·replace c3:=nf c3
      refine ⟨⟨by omega,by omega⟩,?_⟩
      exact ⟨k+1,_,_,rfl,rfl,rfl,⟨by omega,by first | omega | (simp;omega),by rw [←hv,fC h54,rT];(try simp at c3);(try rw [c3] at c2);first | (simp [g32,c2,c3];done) | (simp [g32,c3];done)⟩,by omega⟩
   ·replace c1:=nq c1
    have hdn:out++(if p=true then [] else [t])=fZ t d.tables:=by rw [←hv,qE (by omega),rT]
    refine ⟨fun c4=>?_,fun c4=>?_⟩
    ·replace c4:=nt c4
     have hL:fZ t d.tables=out++[t]:=by rw [←hdn,c4];rfl
     refine ⟨mK _ (by omega),rfl,rfl,rfl,rfl,by first | omega | (simp;omega),aAm (⟨out++[t]⟩:aP),fun c5=>?_,fun c5=>?_⟩
     ·replace c5:=nt c5
      have hbad:eY d t=(d,false):=by rw [eY,if_neg (by rw [hd0,ht0,←vW hd0 ht0,hL,c5];decide)]
      refine ⟨oK _ (by omega),?_,?_,trivial⟩
      ·first | (rw [hbad]<;>rfl) | (rw [hok,hL]<;>rfl)
      ·first | (rw [hbad]<;>rfl) | (rw [hok,hL]<;>rfl)
     ·replace c5:=nf c5
      have hok:eY d t=(⟨fZ t d.tables⟩,true):=by rw [eY,if_pos (by rw [hd0,ht0,←vW hd0 ht0,hL,c5];rfl)]
      refine ⟨?_,?_,trivial⟩
      ·first | (rw [hbad]<;>rfl) | (rw [hok,hL]<;>rfl)
      ·first | (rw [hbad]<;>rfl) | (rw [hok,hL]<;>rfl)
    ·replace c4:=nf c4
     have hL:fZ t d.tables=out:=by rw [←hdn,c4];simp
     refine ⟨aAm (⟨out⟩:aP),fun c5=>?_,fun c5=>?_⟩
     ·replace c5:=nt c5
      have hbad:eY d t=(d,false):=by rw [eY,if_neg (by rw [hd0,ht0,←vW hd0 ht0,hL,c5];decide)]
      refine ⟨oK _ (by omega),?_,?_,trivial⟩
      ·first | (rw [hbad]<;>rfl) | (rw [hok,hL]<;>rfl)
      ·first | (rw [hbad]<;>rfl) | (rw [hok,hL]<;>rfl)
     ·replace c5:=nf c5
      have hok:eY d t=(⟨fZ t d.tables⟩,true):=by rw [eY,if_pos (by rw [hd0,ht0,←vW hd0 ht0,hL,c5];rfl)]
      refine ⟨?_,?_,trivial⟩
      ·first | (rw [hbad]<;>rfl) | (rw [hok,hL]<;>rfl)
      ·first | (rw [hbad]<;>rfl) | (rw [hok,hL]<;>rfl)
end Go.Proofs.YtokkjaflmcjlhaaGreat
namespace Go.Proofs
open Go.Shelf
namespace YtokkjaflmcjlhaaGreat
def Tryz.dlRows_ren : Go.Shelf.Ren := ⟨fun | 45 => 230 | n => n, fun | 22 => 160 | 23 => 32 | 3 => 3 | 4 => 4 | 0 => 0 | n => n, fun | n => n⟩
theorem Tryz.dlRows : Go.Proofs.SlLaysE.n45 Tryz.prog Tryz.dlRows_ren := {
  mixed := by kernel_rfl
  f45 := ⟨Tryz.f230.name, by decide, Tryz.func230.trans (congrArg some (by kernel_rfl))⟩
  t0 := Tryz.underlying0
  a0 := Tryz.isAgg0
  z0 := Tryz.sizeOf0
  v0 := Tryz.zeroValue0
  t3 := Tryz.underlying3
  a3 := Tryz.isAgg3
  z3 := Tryz.sizeOf3
  v3 := Tryz.zeroValue3
  t4 := Tryz.underlying4
  a4 := Tryz.isAgg4
  z4 := Tryz.sizeOf4
  v4 := Tryz.zeroValue4
  t22 := Tryz.underlying160
  a22 := Tryz.isAgg160
  z22 := Tryz.sizeOf160
  v22 := Tryz.zeroValue160
  a23 := Tryz.isAgg32
  z23 := Tryz.sizeOf32 }
end YtokkjaflmcjlhaaGreat
end Go.Proofs
namespace Go.Proofs.YtokkjaflmcjlhaaGreat
open Go.ChangeShapes Go.WideShapes Go.ChangeAt Go.RowKit Go.Shelf Go.Lib
set_option linter.unusedVariables false
set_option linter.unusedSimpArgs false
noncomputable def elI:TypeInfo:=(Tryz.prog.info? 32).get (by kernel_rfl)
theorem aPl:fT Tryz.prog 32=some (false,1,24,.slice none 0 0):=by kernel_rfl
theorem aOQ (w:World):(zeroValue 32).run Tryz.prog w= .ok (.slice none 0 0) w:=(fV aPl w).2.2.1
def nF (l:List (List Int)) (k:Nat):List Nat:=(List.range l.length).eraseIdx k
theorem aOR {l:List (List Int)} {k i:Nat} (h:i∈nF l k):i<l.length:=List.mem_range.1 ((List.eraseIdx_sublist _ _).mem h)
theorem aIP (l:List (List Int)) (k:Nat):l.eraseIdx k=(nF l k).map fun i=>l.getD i []:=by
 have e:l=(List.range l.length).map fun i=>l.getD i []:=by
  apply List.ext_getElem?
  intro i
  by_cases hi:i<l.length
  ·simp [hi]
  ·simp [hi,List.getElem?_eq_none (show l.length≤i by omega)]
 conv=>lhs;rw [e]
 rw [nF,List.eraseIdx_eq_take_drop_succ,List.eraseIdx_eq_take_drop_succ,List.map_append,List.map_take,List.map_drop]
set_option maxHeartbeats 2000000 in
theorem aJO (l:List (List Int)) (i j:Int) (k:Nat) (hi:i=(k:Int)) (hj:j=(k:Int)+1) (hk:k<l.length) (hl:l.length<4611686018427387904):mW Tryz.prog 230 [.own 0,vI i,vI j] [(0,.arr 32 1 true (l.map aF))] (.own 1) [(1,.arr 32 1 true ((l.eraseIdx k).map aF))]:=by
 refine ⟨by kernel_rfl,by simp,fun A φ w vs hI hm=>?_⟩
 obtain ⟨pl,hp,css,Fs,q1,q2,q3,q4⟩:=hI.dom 0 _ rfl
 unfold aR at hm
 obtain ⟨v,us,e1,m1,hm⟩:=hm
 unfold aR at hm
 obtain ⟨v2,us2,e2,m2,hm⟩:=hm
 unfold aR at hm
 obtain ⟨v3,us3,e3,m3,hm⟩:=hm
 unfold aR at hm
 unfold aI at m1 m2 m3
 unfold gC at m2 m3
 have hv:=m1 pl hp
 subst hi hj
 have ev:vs= #[pl.val,.int .i64 (k:Int),.int .i64 ((k:Int)+1)]:=by apply Array.ext';rw [e1,e2,e3,hm,hv,m2,m3]
 rw [ev]
 have hnd:=hI.nodup 0 pl hp
 have hge:=hI.ge 0 pl hp
 have hFe:pl.F=pl.val.ownBlock.toList++Fs.flatten:=by unfold Pl.F;rw [q2,q3]
 have hfoot: ∀b∈pl.F,aEv φ b:=fun b hb=>⟨0,pl,trivial,hp,hb⟩
 have h0: ∀h pl',φ h=some pl' →h=0:=fun h pl' e' =>by
  cases hr:aY [(0,Rs.arr 32 1 true (l.map aF))] h with
  | none=>rw [hI.non h hr] at e';cases e'
  | some r=>
    simp only [aY] at hr
    split at hr
    ·assumption
    ·cases hr
 obtain ⟨lc,lF⟩:=sJ q4
 rw [List.length_map] at lc lF
 have hrow: ∀i,i<l.length→ ∃a cap F,css[i]? =some [.slice a (l.getD i []).length cap]∧Fs[i]? =some F∧wA w a (l.getD i [])∧(∀x∈a,x.block∈F)∧(l.getD i []).length≤9223372036854775807∧dG w (aF (l.getD i [])) [.slice a (l.getD i []).length cap] F:=fun i hi=>by
  obtain ⟨r,hr⟩:=cE hi
  have hg:l.getD i []=r:=by simp [List.getD_eq_getElem?_getD,hr]
  obtain ⟨c,F,g1,g2,_,g4⟩:=sK q4 (show (l.map aF)[i]? =some (aF r) by rw [List.getElem?_map,hr];rfl)
  obtain ⟨a,cap,rfl,k1,k2,k3⟩:=aMg g4
  rw [hg]
  exact ⟨a,cap,F,g1,g2,k1,k2,k3,g4⟩
 have hone: ∀d∈css,d.length=1:=fun d hd=>by
  obtain ⟨i,hi⟩:=List.getElem?_of_mem hd
  obtain ⟨a,cap,F,g1,_⟩:=hrow i (by have:=(List.getElem?_eq_some_iff.1 hi).1;omega)
  rw [hi] at g1
  injection g1 with g1
  rw [g1];rfl
 let enc:Nat→Value:=fun i=>css.flatten.getD i (.slice none 0 0)
 have henc: ∀i,∃a cap,enc i= .slice a (l.getD i []).length cap∧wA w a (l.getD i [])∧(∀x∈a,x.block∈Fs.flatten)∧(l.getD i []).length≤9223372036854775807:=fun i=>by
  by_cases hi:i<l.length
  ·obtain ⟨a,cap,F,g1,g2,g3,g4,g5,_⟩:=hrow i hi
   refine ⟨a,cap,?_,g3,fun x hx=>List.mem_flatten.2 ⟨F,List.mem_of_getElem? g2,g4 x hx⟩,g5⟩
   show css.flatten.getD i _=_
   rw [List.getD_eq_getElem?_getD,kF css i _ hone g1];rfl
  ·have hg:l.getD i []= []:=by rw [List.getD_eq_getElem?_getD,List.getElem?_eq_none (by omega)];rfl
   rw [hg]
   refine ⟨none,0,?_,fun j x hx=>by simp at hx,by simp,by simp⟩
   show css.flatten.getD i _=_
   rw [List.getD_eq_getElem?_getD,List.getElem?_eq_none (by rw [sL css hone];omega)];rfl
 have h1:φ 1=none:=hI.non 1 rfl
 have hend: ∀(v' :Value) (w' :World),kJ pl.F w w' →(∀F∈Fs,gT F w w')→(∀b∈v'.ownBlock,b∈pl.val.ownBlock)→w'.ownsRow 0 32 1 v' (nF l k).length ((nF l k).map enc)→
  ∃v K φ',Ending.returned v' = .returned v∧aIr A φ w [(1,.arr 32 1 true ((l.eraseIdx k).map aF))] K φ' w' ∧aI K φ' w' (.own 1) v:=by
  intro v' w' hon hkeep hvb howns
  have hFr:(List.range l.length).map (fun i=>Fs.getD i [])=Fs:=by
   apply List.ext_getElem?
   intro i
   by_cases hi:i<l.length
   ·simp [hi,show i<Fs.length by omega]
   ·simp [hi,show ¬i<Fs.length by omega]
  have hsub:List.Sublist ((nF l k).map fun i=>Fs.getD i []).flatten Fs.flatten:=by
   have:List.Sublist ((nF l k).map fun i=>Fs.getD i []) ((List.range l.length).map fun i=>Fs.getD i []):=(List.eraseIdx_sublist _ _).map _
   rw [hFr] at this
   exact aHv this
  let pl' :Pl:=⟨v',v'.ownBlock.toList,((nF l k).map fun i=>Fs.getD i []).flatten⟩
  have hmem: ∀g,g∈pl'.F→g∈pl.F:=fun g hg=>by
   rw [hFe]
   simp only [pl',Pl.F,List.mem_append,Option.mem_toList] at hg ⊢
   rcases hg with h | h
   ·exact .inl (hvb g h)
   ·exact .inr (List.Sublist.mem h hsub)
  have hnd' :pl'.F.Nodup:=by
   rw [hFe] at hnd
   have hn:=List.nodup_append.1 hnd
   simp only [pl',Pl.F]
   refine List.nodup_append.2 ⟨by cases v'.ownBlock<;>simp,hsub.nodup hn.2.1,fun x hx y hy=>?_⟩
   exact hn.2.2 x (by rw [Option.mem_toList] at hx ⊢;exact hvb x hx) y (List.Sublist.mem hy hsub)
  refine ⟨_,A,fun h=>if h=1 then some pl' else none,rfl,⟨⟨hon.os,hon.tape,hon.output,hon.size,fun b hb hn=>hon.block b hb (fun hm=>hn (hfoot b hm))⟩,fun _ h=>h,fun b hb=>⟨Nat.lt_of_lt_of_le (hI.lt b hb) hon.size,.inl hb⟩,fun b hb h pl1 e' hm' =>?_,fun h r hr=>?_,fun h hr=>?_,fun h h' pl1 pl2 hne ea eb=>?_,fun h pl1 e' =>?_,fun h pl1 e' g hg=>?_,fun h pl1 pl0 e' e0=>?_⟩,?_⟩
  ·split at e'
   ·injection e' with e';subst e'
    exact hI.out b hb 0 pl hp (hmem b hm')
   ·cases e'
  ·simp only [aY] at hr
   split at hr
   ·rename_i eh
    subst eh
    injection hr with hr
    subst hr
    refine ⟨pl',by simp,(nF l k).map (fun i=>[enc i]),(nF l k).map (fun i=>Fs.getD i []),?_,rfl,rfl,?_⟩
    ·rw [aAq enc (nF l k),List.length_map,aIP,List.length_map];exact howns
    ·rw [aIP,List.map_map]
     refine aAp (fun i=>aF (l.getD i [])) (fun i=>[enc i]) (fun i=>Fs.getD i []) fun i hi=>⟨rfl,?_⟩
     obtain ⟨a,cap,F,g1,g2,g3,g4,g5,g6⟩:=hrow i (aOR hi)
     have ee:enc i= .slice a (l.getD i []).length cap:=by
      show css.flatten.getD i _=_
      rw [List.getD_eq_getElem?_getD,kF css i _ hone g1];rfl
     have eF:Fs.getD i []=F:=by simp [List.getD_eq_getElem?_getD,g2]
     rw [ee,eF]
     exact dG.kept _ _ _ (hkeep F (List.mem_of_getElem? g2)) g6
   ·cases hr
  ·simp only [aY] at hr
   split at hr
   ·cases hr
   ·rename_i eh;exact if_neg eh
  ·split at ea
   ·split at eb
    ·rename_i x y;exact absurd (x.trans y.symm) hne
    ·cases eb
   ·cases ea
  ·split at e'
   ·injection e' with e';subst e';exact hnd'
   ·cases e'
  ·split at e'
   ·injection e' with e';subst e'
    have:=hmem g hg
    exact ⟨.inr (hfoot g this),Nat.lt_of_lt_of_le (hge g this) hon.size⟩
   ·cases e'
  ·split at e'
   ·rename_i eh
    subst eh
    rw [h1] at e0;cases e0
   ·cases e'
  ·unfold aI
   intro pl1 e'
   simp at e'
   subst e'
   rfl
 rw [List.length_map] at q1
 rcases q1.2 with ⟨hvn,hz⟩ | ⟨g,cap,cur,hvv,hg0,hb,hn,hcap,hsz,htk⟩
 ·omega
 ·have hgF:g ∉ Fs.flatten:=fun hm=>by
   rw [hFe,hvv] at hnd
   simp only [Value.ownBlock,Option.toList_some,List.cons_append,List.nil_append,List.nodup_cons] at hnd
   exact hnd.1 hm
  have hgs:g<w.heap.size:=(Array.getElem?_eq_some_iff.1 hb).1
  have hin: ∀b∈Fs.flatten,b<w.heap.size∧b≠g:=fun b hb' =>⟨hge b (by rw [hFe];exact List.mem_append_right _ hb'),fun e=>hgF (e▸hb')⟩
  have hw0: ∀(dk:Array Nat) (q:Nat),Go.Sort.putRow enc (Go.Sort.ahead w q) g 0 dk=sortWorld enc w g 0 q dk #[]:=fun dk q=>by unfold sortWorld;rw [Go.Sort.grow_empty]
  have htk' :cur.toList.take l.length=css.flatten:=by rw [Nat.mul_one] at htk;exact htk
  have hH:Go.Sort.Holds enc w g 0 (List.range l.length).toArray:=fun j hj=>by
   have hj' :j<l.length:=by simpa using hj
   refine ⟨?_,by simp [World.frozen?,hb]⟩
   have h1:(cur.toList.take l.length)[j]? =css.flatten[j]? :=by rw [htk']
   rw [List.getElem?_take_of_lt hj'] at h1
   simp only [World.cell?,hb,Nat.zero_add,Option.isSome_none,Bool.false_eq_true,if_false]
   rw [←Array.getElem?_toList,h1]
   obtain ⟨a,cap',F,g1,_⟩:=hrow j hj'
   have h2:=kF css j _ hone g1
   have ee:enc j= .slice a (l.getD j []).length cap' :=by
    show css.flatten.getD j _=_
    rw [List.getD_eq_getElem?_getD,h2];rfl
   have ej:(List.range l.length).toArray[j]! =j:=by simp [hj']
   rw [h2,ej,ee]
  have hone1:OneCell enc:=fun x=>by
   obtain ⟨a,c,ex,_⟩:=henc x
   rw [ex];rfl
  have hzr:enc l.length= .slice none 0 0:=by
   show css.flatten.getD l.length _=_
   rw [List.getD_eq_getElem?_getD,List.getElem?_eq_none (by rw [sL css hone];omega)];rfl
  have hszd:(List.range l.length).toArray.size=l.length:=by simp
  have hcon:=AnyE.slices_Delete Tryz.dlRows enc hone1 l.length (fun w=>by rw [hzr];exact aOQ w) elI (by kernel_rfl) (by kernel_rfl) g 0 cap k (k+1) (List.range l.length).toArray w hH (by rw [hszd];exact hn) hcap (by omega) (by rw [hszd];omega)
  rw [hszd,show (k:Int)+1=((k+1:Nat):Int) by omega] at*
  rw [hvv]
  refine hcon.mono ?_
  rintro en w' ⟨rfl,q,rfl⟩
  have hdl:(nF l k).length=l.length - 1:=by simp [nF,List.length_eraseIdx,hk]
  have hls:(List.range l.length).toArray.toList.take k++(List.range l.length).toArray.toList.drop (k+1)++List.replicate (k+1 - k) l.length=nF l k++List.replicate (l.length - (nF l k).length) l.length:=by
   rw [hdl,show k+1 - k=l.length - (l.length - 1) by omega,nF,List.eraseIdx_eq_take_drop_succ]
  rw [hls]
  have hle:(nF l k).length≤l.length:=by omega
  have hkb: ∀b,b<w.heap.size→b≠g→(Go.Sort.putRow enc (Go.Sort.ahead w q) g 0 (nF l k++List.replicate (l.length - (nF l k).length) l.length).toArray).heap[b]? =w.heap[b]? :=fun b hk hne=>by rw [hw0];exact nD _ hk hne
  rw [show l.length - (k+1 - k)=(nF l k).length by omega]
  refine hend _ _ ⟨rfl,rfl,rfl,by simp,fun b hk hne=>hkb b hk (fun e=>hne (by rw [hFe,hvv,e];simp [Value.ownBlock]))⟩
   (fun F hF b hb' =>hkb b (hin b (List.mem_flatten.2 ⟨F,hF,hb'⟩)).1 (hin b (List.mem_flatten.2 ⟨F,hF,hb'⟩)).2)
   (fun b hb' =>by rw [hvv];exact hb') ?_
  rw [hw0]
  refine ⟨by simp,.inr ⟨g,cap,_,rfl,hg0,aBd _ hb,by omega,hcap,by simp [Go.Sort.putCells,hsz],?_⟩⟩
  rw [Nat.mul_one]
  have:=aDm enc cur (nF l k++List.replicate (l.length - (nF l k).length) l.length) (by simp;omega)
  have h3:=congrArg (List.take (nF l k).length) this
  rw [List.take_take,List.map_append,List.take_append_of_le_length (by simp)] at h3
  rw [show min (nF l k).length (nF l k++List.replicate (l.length - (nF l k).length) l.length).length=(nF l k).length by simp] at h3
  rw [h3,List.take_of_length_le (by simp)]
end Go.Proofs.YtokkjaflmcjlhaaGreat
namespace Go.Proofs.YtokkjaflmcjlhaaGreat
open Go.ChangeShapes Go.WideShapes Go.ChangeAt Go.RowKit
set_option linter.unusedVariables false
set_option linter.unusedSimpArgs false
set_option maxRecDepth 100000
set_option maxHeartbeats 4000000
end Go.Proofs.YtokkjaflmcjlhaaGreat
