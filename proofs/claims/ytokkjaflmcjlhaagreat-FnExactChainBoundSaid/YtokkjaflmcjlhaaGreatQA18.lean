/-
  Contracts and plain laws, joined: part 19.
-/
import Derived.Test.YtokkjaflmcjlhaaGreatQA11
import Derived.Test.YtokkjaflmcjlhaaGreatQA14
import Derived.Test.YtokkjaflmcjlhaaGreatQA15
import Derived.Test.YtokkjaflmcjlhaaGreatQA16
import Derived.Test.YtokkjaflmcjlhaaGreatQA17
namespace Go.Proofs.YtokkjaflmcjlhaaGreat
open Go.ChangeShapes Go.WideShapes Go.ChangeAt Go.RowKit
set_option linter.unusedVariables false
set_option linter.unusedSimpArgs false
set_option maxRecDepth 100000
set_option maxHeartbeats 4000000
abbrev tQ (l:List Int):AV × List (Nat × Rs):=(.own 0,[(0,.arr 3 1 true ((gZ l).map intD))])
abbrev aBI (l:List Int):Prop:=cO Tryz.prog 244 [.one (.sl 3 1 (l.map intD))] (tQ l).1 (tQ l).2
theorem aJw (l:List Int) (hc:l.length≤1048576):aBI l:=by
 refine aT bF aQ Tryz.func244 (by kernel_rfl) (.loop (Nat × (List Int)) (Q2 Nat (List Int)) [3,4,5,6,7,8,9,10,11,12,13,14,15,16,17,18,19,20,21,22,23,24,25,26,27,28,29,30,31,32,33,34,35,36,37,38,39,40,41,42,43,44,45] [600,3100,3500,4000,4100,4500] (fun yy0=>[(4,vI (yy0.1:Int)),(3,.own 600)]) (fun yy0=>[(600,some (.arr 3 1 true (yy0.2.map intD)))]) (fun yy0=>yy0.1≤l.length∧yy0.2.Perm (l.take yy0.1)∧yJ yy0.2) (fun yy0=>l.length - yy0.1) (fun yy0=> .len l.length<| .br (.len yy0.2.length<| .loop Nat (Q1 Nat) [5,15,16,17,18,19,20,21,22,23,24,25,26,27,28,29,30] [] (fun j=>[(5,vI (j:Int))]) (fun j=>[]) (fun j=>j≤yy0.2.length∧(∀i,j≤i→i<yy0.2.length→yy0.2.getD i 0<l.getD yy0.1 0)) (fun j=>j) (fun j=> .br (.len yy0.2.length<| .elem _ intD yy0.2 (fun e22=> .elem _ intD l (fun e25=> .lit<| .lit<| .lit<| .br (.back []) (.stls 8 3<| .sub Int intD yy0.2<| .app Int intD ([]:List Int) (yy0.2.take j)<| .elem _ intD l (fun e38=> .app Int intD (([]:List Int)++(yy0.2.take j)) ([e38]:List Int)<| .sub Int intD yy0.2<| .app Int intD ((([]:List Int)++(yy0.2.take j))++[e38]) (yy0.2.drop j)<| .back [(600,4500)]))))) (.stls 8 3<| .sub Int intD yy0.2<| .app Int intD ([]:List Int) (yy0.2.take j)<| .elem _ intD l (fun e38=> .app Int intD (([]:List Int)++(yy0.2.take j)) ([e38]:List Int)<| .sub Int intD yy0.2<| .app Int intD ((([]:List Int)++(yy0.2.take j))++[e38]) (yy0.2.drop j)<| .back [(600,4500)])))) (.fin [(0,600)]))) (p:=(l.map intD).length≤9223372036854775807→(∃(k:Nat) (out:List Int),(0:Int)=(k:Int)∧[]=out.map intD∧k≤l.length∧out.Perm (l.take k)∧yJ out)∧ ∀(k:Nat) (out:List Int),(k≤l.length∧out.Perm (l.take k)∧yJ out)→Lm intD l∧(((decide ((k:Int)<((l.length:Nat):Int)))=true→Lm intD out∧((∃(j:Nat),((out.length:Nat):Int)=(j:Int)∧j≤out.length∧(∀i,j≤i→i<out.length→out.getD i 0<l.getD k 0))∧ ∀(j:Nat),(j≤out.length∧(∀i,j≤i→i<out.length→out.getD i 0<l.getD k 0))→((decide ((0:Int)<(j:Int)))=true→cL ((j:Int) - (1:Int))∧(0≤((j:Int) - (1:Int))∧Lm intD out∧((j:Int) - (1:Int))<((out.length:Nat):Int)∧Em intD out (((j:Int) - (1:Int)).toNat) fun e22=>0≤(k:Int)∧Em intD l k fun e25=>((decide (e22<e25))=true→cL ((j:Int) - (1:Int))∧ ∃(j' :Nat),((j:Int) - (1:Int))=(j' :Int)∧(j' ≤out.length∧(∀i,j' ≤i→i<out.length→out.getD i 0<l.getD k 0))∧j' <j)∧((decide (e22<e25))=false→out.map intD=out.map intD∧0≤(j:Int)∧(j:Int)≤((out.length:Nat):Int)∧[]=([]:List Int).map intD∧(out.take j).map intD=(out.take j).map intD∧(∀x,eI (intD x)=true)∧(([]:List Int).length+(out.take j).length)*8≤140737488355328∧0≤(k:Int)∧Em intD l k fun e38=>(([]:List Int)++(out.take j)).map intD=(([]:List Int)++(out.take j)).map intD∧[[.int .i64 e38]]=([e38]:List Int).map intD∧(∀x,eI (intD x)=true)∧((([]:List Int)++(out.take j)).length+([e38]:List Int).length)*8≤140737488355328∧out.map intD=out.map intD∧0≤(j:Int)∧(j:Int)≤((out.length:Nat):Int)∧((([]:List Int)++(out.take j))++[e38]).map intD=((([]:List Int)++(out.take j))++[e38]).map intD∧(out.drop j).map intD=(out.drop j).map intD∧(∀x,eI (intD x)=true)∧(((([]:List Int)++(out.take j))++[e38]).length+(out.drop j).length)*8≤140737488355328∧cL ((k:Int)+(1:Int))∧ ∃(k' :Nat) (out' :List Int),((k:Int)+(1:Int))=(k' :Int)∧(((([]:List Int)++(out.take j))++[e38])++(out.drop j)).map intD=out'.map intD∧(k' ≤l.length∧out'.Perm (l.take k')∧yJ out')∧l.length - k' <l.length - k)))∧((decide ((0:Int)<(j:Int)))=false→out.map intD=out.map intD∧0≤(j:Int)∧(j:Int)≤((out.length:Nat):Int)∧[]=([]:List Int).map intD∧(out.take j).map intD=(out.take j).map intD∧(∀x,eI (intD x)=true)∧(([]:List Int).length+(out.take j).length)*8≤140737488355328∧0≤(k:Int)∧Em intD l k fun e38=>(([]:List Int)++(out.take j)).map intD=(([]:List Int)++(out.take j)).map intD∧[[.int .i64 e38]]=([e38]:List Int).map intD∧(∀x,eI (intD x)=true)∧((([]:List Int)++(out.take j)).length+([e38]:List Int).length)*8≤140737488355328∧out.map intD=out.map intD∧0≤(j:Int)∧(j:Int)≤((out.length:Nat):Int)∧((([]:List Int)++(out.take j))++[e38]).map intD=((([]:List Int)++(out.take j))++[e38]).map intD∧(out.drop j).map intD=(out.drop j).map intD∧(∀x,eI (intD x)=true)∧(((([]:List Int)++(out.take j))++[e38]).length+(out.drop j).length)*8≤140737488355328∧cL ((k:Int)+(1:Int))∧ ∃(k' :Nat) (out' :List Int),((k:Int)+(1:Int))=(k' :Int)∧(((([]:List Int)++(out.take j))++[e38])++(out.drop j)).map intD=out'.map intD∧(k' ≤l.length∧out'.Perm (l.take k')∧yJ out')∧l.length - k' <l.length - k)))∧((decide ((k:Int)<((l.length:Nat):Int)))=false→out.map intD=(gZ l).map intD∧True))) (by kernel_rfl) ?_
 intro n0
 simp only [List.length_map] at n0
 refine ⟨⟨0,([]:List Int),rfl,rfl,Nat.zero_le _,List.Perm.refl _,List.Pairwise.nil⟩,fun k out ⟨hk,hp,hd⟩=>?_⟩
 have hpl:=hp.length_eq
 rw [List.length_take] at hpl
 refine ⟨List.length_map _,fun c0=>?_,fun c0=>?_⟩
 ·replace c0:=yq c0
  refine ⟨List.length_map _,⟨out.length,(by first | rfl | omega),Nat.le_refl _,fun i h1 h2=>by omega⟩,fun j ⟨hj,hs⟩=>?_⟩
  refine ⟨fun g17=>?_,fun g17=>?_⟩
  ·replace g17:=yq g17
   refine ⟨⟨by omega,by omega⟩,by omega,List.length_map _,by omega,rfl,by omega,fun e22 h22=>?_⟩
   have i22:out[j - 1]? =some e22:=by rw [←h22];congr 1;omega
   refine ⟨by omega,rfl,by omega,fun e25 h25=>?_⟩
   refine ⟨fun c1=>?_,fun c1=>?_⟩
   ·replace c1:=yq c1
    have hlt:=aLo i22 (by rw [aP h25];exact c1:e22<l.getD k 0) hs
    refine ⟨⟨by omega,by omega⟩,?_⟩
    exact ⟨j - 1,(by first | rfl | omega),⟨by omega,hlt⟩,by omega⟩
   ·replace c1:=nq c1
    have hx:j=0∨ ¬out.getD (j - 1) 0<l.getD k 0:=by first | (left;omega) | (right;rw [aP i22,aP h25];exact c1)
    refine ⟨rfl,by omega,by omega,rfl,rfl,fun _=>rfl,by first | omega | (simp;omega),?_⟩
    refine ⟨by omega,rfl,by omega,fun e38 h38=>?_⟩
    rw [aP h38] at hx hs
    refine ⟨rfl,rfl,fun _=>rfl,by first | omega | (simp;omega),?_⟩
    refine ⟨rfl,by omega,by omega,rfl,rfl,fun _=>rfl,by first | omega | (simp;omega),?_⟩
    refine ⟨⟨by omega,by omega⟩,?_⟩
    exact ⟨k+1,((([]:List Int)++(out.take j))++[e38])++(out.drop j),rfl,rfl,⟨by omega,aIi hp h38,aIj hd hj hs hx⟩,by omega⟩
  ·replace g17:=nq g17
   have hx:j=0∨ ¬out.getD (j - 1) 0<l.getD k 0:=by first | (left;omega) | (right;rw [aP i22,aP h25];exact c1)
   refine ⟨rfl,by omega,by omega,rfl,rfl,fun _=>rfl,by first | omega | (simp;omega),?_⟩
   refine ⟨by omega,rfl,by omega,fun e38 h38=>?_⟩
   rw [aP h38] at hx hs
   refine ⟨rfl,rfl,fun _=>rfl,by first | omega | (simp;omega),?_⟩
   refine ⟨rfl,by omega,by omega,rfl,rfl,fun _=>rfl,by first | omega | (simp;omega),?_⟩
   refine ⟨⟨by omega,by omega⟩,?_⟩
   exact ⟨k+1,((([]:List Int)++(out.take j))++[e38])++(out.drop j),rfl,rfl,⟨by omega,aIi hp h38,aIj hd hj hs hx⟩,by omega⟩
 ·replace c0:=nq c0
  have hE:out=gZ l:=aIh ((by rw [List.take_of_length_le (by omega)] at hp;exact hp:out.Perm l).trans (sY l).symm) hd (aJm l)
  refine ⟨?_,trivial⟩
  ·rw [hE]
abbrev lQ (x:aF) (cols:List Int):AV × List (Nat × Rs):=(.own 0,[(0,.arr 3 1 true ((gZ (dG (bU x) cols).2).map intD))])
abbrev pQ (x:aF) (cols:List Int):Prop:=cO Tryz.prog 172 [.agg [.str x.name,.int .i64 x.arity,.int .i64 x.rowCount,.sl 218 3 (x.groups.map aA)],.one (.sl 3 1 (cols.map intD))] (lQ x cols).1 (lQ x cols).2
theorem aBJ (x:aF) (cols:List Int) (hc:aZ x≤1048576) (hok:bM x=true):pQ x cols:=by
 refine aT bF aQ Tryz.func172 (by kernel_rfl) (.len cols.length<| .br (.br (.fin [(0,1200)]) (.fin [(0,1500)])) (.loop Nat (Q1 Nat) [5,16,17,18,19,20,21,22,23,24,25,26,27,28,29,30,31] [] (fun k=>[(5,vI (k:Int))]) (fun k=>[]) (fun k=>k≤x.groups.length∧(x.groups.take k).all (fun g=> !decide (g.columns=cols))=true) (fun k=>x.groups.length - k) (fun k=> .len x.groups.length<| .br (.elem _ aA x.groups (fun e26=> .call (vI (bS e26.columns cols)) []<| .br (.elem _ aA x.groups (fun e35=>bH (tQ e35.counts)<| .fin [(0,3800)])) (.back []))) (.fin [(0,3900)])))) (p:=(x.groups.map aA).length≤9223372036854775807→(cols.map intD).length≤9223372036854775807→Lm intD cols∧(((decide (((cols.length:Nat):Int)=(0:Int)))=true→((decide (x.rowCount=(0:Int)))=true→[]=(gZ (dG (bU x) cols).2).map intD∧True)∧((decide (x.rowCount=(0:Int)))=false→[[.int .i64 x.rowCount]]=(gZ (dG (bU x) cols).2).map intD∧True))∧((decide (((cols.length:Nat):Int)=(0:Int)))=false→(∃(k:Nat),(0:Int)=(k:Int)∧k≤x.groups.length∧(x.groups.take k).all (fun g=> !decide (g.columns=cols))=true)∧ ∀(k:Nat),(k≤x.groups.length∧(x.groups.take k).all (fun g=> !decide (g.columns=cols))=true)→Lm aA x.groups∧(((decide ((k:Int)<((x.groups.length:Nat):Int)))=true→0≤(k:Int)∧Em aA x.groups k fun e26=>fB e26.columns cols∧(((decide ((bS e26.columns cols)=(0:Int)))=true→0≤(k:Int)∧Em aA x.groups k fun e35=>aBI e35.counts∧(gZ e35.counts).map intD=(gZ (dG (bU x) cols).2).map intD∧True)∧((decide ((bS e26.columns cols)=(0:Int)))=false→cL ((k:Int)+(1:Int))∧ ∃(k' :Nat),((k:Int)+(1:Int))=(k' :Int)∧(k' ≤x.groups.length∧(x.groups.take k').all (fun g=> !decide (g.columns=cols))=true)∧x.groups.length - k' <x.groups.length - k)))∧((decide ((k:Int)<((x.groups.length:Nat):Int)))=false→[]=(gZ (dG (bU x) cols).2).map intD∧True))))) (by kernel_rfl) ?_
 intro n0 n1
 simp only [List.length_map] at n0 n1
 have q2:aZ x=x.name.size+dB x.groups:=rfl
 have q5:=fJ x.groups
 refine ⟨List.length_map _,fun c0=>?_,fun c0=>?_⟩
 ·replace c0:=yq c0
  have hcz:cols= []:=List.eq_nil_of_length_eq_zero (by omega)
  refine ⟨fun c1=>?_,fun c1=>?_⟩
  ·replace c1:=yq c1
   have hE:(dG (bU x) cols).2= []:=by rw [hcz];exact (aKi hok).1 c1
   refine ⟨?_,trivial⟩
   ·first | (rw [hE];done) | (rw [hE,yA]<;>rfl) | (rw [hE,yB]<;>rfl)
  ·replace c1:=nq c1
   have hE:(dG (bU x) cols).2= [x.rowCount]:=by rw [hcz];exact (aKi hok).2 c1
   refine ⟨?_,trivial⟩
   ·first | (rw [hE];done) | (rw [hE,yA]<;>rfl) | (rw [hE,yB]<;>rfl)
 ·replace c0:=nq c0
  refine ⟨⟨0,rfl,Nat.zero_le _,rfl⟩,fun k ⟨hk,ha⟩=>?_⟩
  refine ⟨List.length_map _,fun c2=>?_,fun c2=>?_⟩
  ·replace c2:=yq c2
   refine ⟨by omega,rfl,by omega,fun e26 h26=>?_⟩
   try (obtain rfl:=(bA h26 h26).symm)
   have q1:=fT h26
   have q3:bN e26=cG e26.columns+cK e26.values+cG e26.counts:=rfl
   have q6:cG e26.columns=e26.columns.length:=rfl
   have q7:cG e26.counts=e26.counts.length:=rfl
   have q8:=fA e26.values
   refine ⟨gW _ _,fun c3=>?_,fun c3=>?_⟩
   ·replace c3:=yq c3
    have hE:=aLr hok h26 (eC.1 c3)
    refine ⟨by omega,rfl,by omega,fun e35 h35=>?_⟩
    try (obtain rfl:=(bA h26 h35).symm)
    refine ⟨aJw _ (by omega),?_,trivial⟩
    ·first | (rw [hE];done) | (rw [hE,yA]<;>rfl) | (rw [hE,yB]<;>rfl)
   ·replace c3:=nq c3
    refine ⟨⟨by omega,by omega⟩,?_⟩
    exact ⟨k+1,rfl,⟨by omega,dO h26 ha (by simpa using fun q=>c3 (eC.2 q))⟩,by omega⟩
  ·replace c2:=nq c2
   have hE:=aOG hok (bR (by omega) ha) c0
   refine ⟨?_,trivial⟩
   ·first | (rw [hE];done) | (rw [hE,yA]<;>rfl) | (rw [hE,yB]<;>rfl)
abbrev qP (x:aF) (cols:List Int):AV × List (Nat × Rs):=(.own 0,[(0,.arr 3 1 true ((gR x cols).map intD))])
abbrev wZ (x:aF) (cols:List Int):Prop:=cO Tryz.prog 108 [.agg [.str x.name,.int .i64 x.arity,.int .i64 x.rowCount,.sl 218 3 (x.groups.map aA)],.one (.sl 3 1 (cols.map intD))] (qP x cols).1 (qP x cols).2
theorem aGc (x:aF) (cols:List Int) (hc:aZ x≤1048576) (hl:cols.length≤1048576):wZ x cols:=by
 refine aT bF aQ Tryz.func108 (by kernel_rfl) (.call (vB (bM x)) []<| .br (.fin [(0,800)]) (bH (lQ x cols)<| .fin [(0,1100)])) (p:=(x.groups.map aA).length≤9223372036854775807→(cols.map intD).length≤9223372036854775807→zV x∧(((!(bM x))=true→[]=(gR x cols).map intD∧True)∧((!(bM x))=false→pQ x cols∧(gZ (dG (bU x) cols).2).map intD=(gR x cols).map intD∧True))) (by kernel_rfl) ?_
 intro n0 n1
 simp only [List.length_map] at n0 n1
 refine ⟨aIk _ (by omega),fun c0=>?_,fun c0=>?_⟩
 ·replace c0:=nt c0
  have hE:gR x cols= []:=aDC (by simpa using c0)
  refine ⟨?_,trivial⟩
  ·(rw [hE]<;>rfl)
 ·replace c0:=nf c0
  have hE:=wG (cols:=cols) (by simpa using c0:bM x=true)
  refine ⟨aBJ _ _ (by omega) (by first | assumption | simpa using c0),?_,trivial⟩
  ·(rw [hE]<;>rfl)
abbrev aAG (l:List Int):Prop:=cO Tryz.prog 183 [.one (.sl 3 1 (l.map intD))] (vB (cZ l)) []
theorem aJA (l:List Int):aAG l:=by
 refine aT bF aQ Tryz.func183 (by kernel_rfl) (.len l.length<| .loop (Nat × Int) (Q2 Nat Int) [3,4,5,8,9,10,11,12,13,14,15,16,17,18,19,20,21,22,23,24,25,26,27,28,29,30,31,32,33] [] (fun yy0=>[(8,vI (yy0.1:Int)),(3,vI yy0.2)]) (fun yy0=>[]) (fun yy0=>yy0.1≤l.length∧yy0.2=8 - pT (l.take yy0.1)∧(List.range yy0.1).all (iV l)=true) (fun yy0=>l.length - yy0.1) (fun yy0=> .br (.elem _ intD l (fun e11=> .call (vB (dM e11 (1:Int) yy0.2)) []<| .br (.fin []) (.lit<| .lit<| .br (.elem _ intD l (fun e25=> .lit<| .lit<| .lit<| .lit<| .lit<| .br (.fin []) (.back []))) (.back [])))) (.fin []))) (p:=(l.map intD).length≤9223372036854775807→Lm intD l∧((∃(k:Nat) (o:Int),(0:Int)=(k:Int)∧(8:Int)=o∧k≤l.length∧o=8 - pT (l.take k)∧(List.range k).all (iV l)=true)∧ ∀(k:Nat) (o:Int),(k≤l.length∧o=8 - pT (l.take k)∧(List.range k).all (iV l)=true)→((decide ((k:Int)<((l.length:Nat):Int)))=true→0≤(k:Int)∧Em intD l k fun e11=>eD e11 (1:Int) o∧(((!(dM e11 (1:Int) o))=true→(false)=(cZ l)∧True)∧((!(dM e11 (1:Int) o))=false→((decide ((0:Int)<(k:Int)))=true→cL ((k:Int) - (1:Int))∧(0≤((k:Int) - (1:Int))∧Em intD l (((k:Int) - (1:Int)).toNat) fun e25=>((decide (e25<e11))=true→(false)=(cZ l)∧True)∧((decide (e25<e11))=false→cL (o - e11)∧cL ((k:Int)+(1:Int))∧ ∃(k' :Nat) (o' :Int),((k:Int)+(1:Int))=(k' :Int)∧(o - e11)=o' ∧(k' ≤l.length∧o' =8 - pT (l.take k')∧(List.range k').all (iV l)=true)∧l.length - k' <l.length - k)))∧((decide ((0:Int)<(k:Int)))=false→cL (o - e11)∧cL ((k:Int)+(1:Int))∧ ∃(k' :Nat) (o' :Int),((k:Int)+(1:Int))=(k' :Int)∧(o - e11)=o' ∧(k' ≤l.length∧o' =8 - pT (l.take k')∧(List.range k').all (iV l)=true)∧l.length - k' <l.length - k))))∧((decide ((k:Int)<((l.length:Nat):Int)))=false→(true)=(cZ l)∧True))) (by kernel_rfl) ?_
 intro n0
 simp only [List.length_map] at n0
 refine ⟨List.length_map _,⟨0,(8:Int),rfl,rfl,Nat.zero_le _,rfl,rfl⟩,fun k o ⟨hk,ho,hd⟩=>?_⟩
 have hdg:=aDD hk hd
 refine ⟨fun c0=>?_,fun c0=>?_⟩
 ·replace c0:=yq c0
  refine ⟨by omega,rfl,by omega,fun e11 h11=>?_⟩
  try (obtain rfl:=(bA h11 h11).symm)
  refine ⟨gB _ _ _,fun g17=>?_,fun g17=>?_⟩
  ·replace g17:=nt g17
   have hbad:iV l k=false:=by first | (rw [iV,aP h11,←ho,g17];rfl) | (rw [iV,aP h11,←ho,g17,decide_eq_true (show 0<k by omega),aP i25,decide_eq_true c1];rfl)
   refine ⟨?_,trivial⟩
   ·first | (rw [cZ,dS (by omega) hbad];done) | (rw [cZ,show l.length=k by omega,hd])
  ·replace g17:=nf g17
   refine ⟨fun g20=>?_,fun g20=>?_⟩
   ·replace g20:=yq g20
    refine ⟨⟨by omega,by omega⟩,by omega,rfl,by omega,fun e25 h25=>?_⟩
    try (obtain rfl:=(bA h11 h25).symm)
    have i25:l[k - 1]? =some e25:=by rw [←h25];congr 1;omega
    refine ⟨fun c1=>?_,fun c1=>?_⟩
    ·replace c1:=yq c1
     have hbad:iV l k=false:=by first | (rw [iV,aP h11,←ho,g17];rfl) | (rw [iV,aP h11,←ho,g17,decide_eq_true (show 0<k by omega),aP i25,decide_eq_true c1];rfl)
     refine ⟨?_,trivial⟩
     ·first | (rw [cZ,dS (by omega) hbad];done) | (rw [cZ,show l.length=k by omega,hd])
    ·replace c1:=nq c1
     have hgood:iV l k=true:=by first | (rw [iV,aP h11,←ho,g17,decide_eq_false (show ¬0<k by omega)];rfl) | (rw [iV,aP h11,←ho,g17,decide_eq_true (show 0<k by omega),aP i25,decide_eq_false c1];rfl)
     have hin:=dP g17
     refine ⟨⟨by omega,by omega⟩,⟨by omega,by omega⟩,?_⟩
     exact ⟨k+1,_,rfl,rfl,⟨by omega,by rw [ho,rP h11];omega,fC hd hgood⟩,by omega⟩
   ·replace g20:=nq g20
    have hgood:iV l k=true:=by first | (rw [iV,aP h11,←ho,g17,decide_eq_false (show ¬0<k by omega)];rfl) | (rw [iV,aP h11,←ho,g17,decide_eq_true (show 0<k by omega),aP i25,decide_eq_false c1];rfl)
    have hin:=dP g17
    refine ⟨⟨by omega,by omega⟩,⟨by omega,by omega⟩,?_⟩
    exact ⟨k+1,_,rfl,rfl,⟨by omega,by rw [ho,rP h11];omega,fC hd hgood⟩,by omega⟩
 ·replace c0:=nq c0
  refine ⟨?_,trivial⟩
  ·first | (rw [cZ,dS (by omega) hbad];done) | (rw [cZ,show l.length=k by omega,hd])
abbrev aAH (l:List Int):Prop:=cO Tryz.prog 177 [.one (.sl 3 1 (l.map intD))] (vB (cZ l)) []
theorem aJB (l:List Int):aAH l:=by
 refine aT bF aQ Tryz.func177 (by kernel_rfl) (.loop (Nat × Int) (Q2 Nat Int) [3,4,5,6,7,8,9,10,11,12,13,14,15,16,17,18,19,20,21,22,23,24,25,26,27,28,29,30,31,32,33,34,35,36,37,38,39,40] [] (fun yy0=>[(4,vI (yy0.1:Int)),(3,vI yy0.2)]) (fun yy0=>[]) (fun yy0=>yy0.1≤l.length∧yy0.2=pT (l.take yy0.1)∧(List.range yy0.1).all (iV l)=true) (fun yy0=>l.length - yy0.1) (fun yy0=> .len l.length<| .br (.elem _ intD l (fun e13=> .call (vB (dM e13 (1:Int) ((8:Int) - yy0.2))) []<| .br (.fin []) (.lit<| .lit<| .br (.elem _ intD l (fun e25=> .elem _ intD l (fun e30=> .lit<| .lit<| .lit<| .lit<| .lit<| .br (.fin []) (.elem _ intD l (fun e38=> .back []))))) (.elem _ intD l (fun e38=> .back []))))) (.fin []))) (p:=(l.map intD).length≤9223372036854775807→(∃(k:Nat) (o:Int),(0:Int)=(k:Int)∧(0:Int)=o∧k≤l.length∧o=pT (l.take k)∧(List.range k).all (iV l)=true)∧ ∀(k:Nat) (o:Int),(k≤l.length∧o=pT (l.take k)∧(List.range k).all (iV l)=true)→Lm intD l∧(((decide ((k:Int)<((l.length:Nat):Int)))=true→0≤(k:Int)∧Em intD l k fun e13=>cL ((8:Int) - o)∧(eL e13 (1:Int) ((8:Int) - o)∧(((!(dM e13 (1:Int) ((8:Int) - o)))=true→(false)=(cZ l)∧True)∧((!(dM e13 (1:Int) ((8:Int) - o)))=false→((decide ((0:Int)<(k:Int)))=true→0≤(k:Int)∧Em intD l k fun e25=>cL ((k:Int) - (1:Int))∧(0≤((k:Int) - (1:Int))∧Em intD l (((k:Int) - (1:Int)).toNat) fun e30=>((decide (e30<e25))=true→(false)=(cZ l)∧True)∧((decide (e30<e25))=false→0≤(k:Int)∧Em intD l k fun e38=>cL (o+e38)∧cL ((k:Int)+(1:Int))∧ ∃(k' :Nat) (o' :Int),((k:Int)+(1:Int))=(k' :Int)∧(o+e38)=o' ∧(k' ≤l.length∧o' =pT (l.take k')∧(List.range k').all (iV l)=true)∧l.length - k' <l.length - k)))∧((decide ((0:Int)<(k:Int)))=false→0≤(k:Int)∧Em intD l k fun e38=>cL (o+e38)∧cL ((k:Int)+(1:Int))∧ ∃(k' :Nat) (o' :Int),((k:Int)+(1:Int))=(k' :Int)∧(o+e38)=o' ∧(k' ≤l.length∧o' =pT (l.take k')∧(List.range k').all (iV l)=true)∧l.length - k' <l.length - k)))))∧((decide ((k:Int)<((l.length:Nat):Int)))=false→(true)=(cZ l)∧True))) (by kernel_rfl) ?_
 intro n0
 simp only [List.length_map] at n0
 refine ⟨⟨0,(0:Int),rfl,rfl,Nat.zero_le _,rfl,rfl⟩,fun k o ⟨hk,ho,hd⟩=>?_⟩
 have hdg:=aDD hk hd
 refine ⟨List.length_map _,fun c0=>?_,fun c0=>?_⟩
 ·replace c0:=yq c0
  refine ⟨by omega,rfl,by omega,fun e13 h13=>?_⟩
  try (obtain rfl:=(bA h13 h13).symm)
  refine ⟨⟨by omega,by omega⟩,gP _ _ _,fun g19=>?_,fun g19=>?_⟩
  ·replace g19:=nt g19
   have hbad:iV l k=false:=by first | (rw [iV,aP h13,←ho,g19];rfl) | (rw [iV,aP h13,←ho,g19,decide_eq_true (show 0<k by omega),aP i30,decide_eq_true c1];rfl)
   refine ⟨?_,trivial⟩
   ·first | (rw [cZ,dS (by omega) hbad];done) | (rw [cZ,show l.length=k by omega,hd])
  ·replace g19:=nf g19
   refine ⟨fun g22=>?_,fun g22=>?_⟩
   ·replace g22:=yq g22
    refine ⟨by omega,rfl,by omega,fun e25 h25=>?_⟩
    try (obtain rfl:=(bA h13 h25).symm)
    refine ⟨⟨by omega,by omega⟩,by omega,rfl,by omega,fun e30 h30=>?_⟩
    try (obtain rfl:=(bA h13 h30).symm)
    have i30:l[k - 1]? =some e30:=by rw [←h30];congr 1;omega
    refine ⟨fun c1=>?_,fun c1=>?_⟩
    ·replace c1:=yq c1
     have hbad:iV l k=false:=by first | (rw [iV,aP h13,←ho,g19];rfl) | (rw [iV,aP h13,←ho,g19,decide_eq_true (show 0<k by omega),aP i30,decide_eq_true c1];rfl)
     refine ⟨?_,trivial⟩
     ·first | (rw [cZ,dS (by omega) hbad];done) | (rw [cZ,show l.length=k by omega,hd])
    ·replace c1:=nq c1
     have hgood:iV l k=true:=by first | (rw [iV,aP h13,←ho,g19,decide_eq_false (show ¬0<k by omega)];rfl) | (rw [iV,aP h13,←ho,g19,decide_eq_true (show 0<k by omega),aP i30,decide_eq_false c1];rfl)
     have hin:=dP g19
     refine ⟨by omega,rfl,by omega,fun e38 h38=>?_⟩
     try (obtain rfl:=(bA h13 h38).symm)
     refine ⟨⟨by omega,by omega⟩,⟨by omega,by omega⟩,?_⟩
     exact ⟨k+1,_,rfl,rfl,⟨by omega,by rw [ho,rP h13],fC hd hgood⟩,by omega⟩
   ·replace g22:=nq g22
    have hgood:iV l k=true:=by first | (rw [iV,aP h13,←ho,g19,decide_eq_false (show ¬0<k by omega)];rfl) | (rw [iV,aP h13,←ho,g19,decide_eq_true (show 0<k by omega),aP i30,decide_eq_false c1];rfl)
    have hin:=dP g19
    refine ⟨by omega,rfl,by omega,fun e38 h38=>?_⟩
    try (obtain rfl:=(bA h13 h38).symm)
    refine ⟨⟨by omega,by omega⟩,⟨by omega,by omega⟩,?_⟩
    exact ⟨k+1,_,rfl,rfl,⟨by omega,by rw [ho,rP h13],fC hd hgood⟩,by omega⟩
 ·replace c0:=nq c0
  refine ⟨?_,trivial⟩
  ·first | (rw [cZ,dS (by omega) hbad];done) | (rw [cZ,show l.length=k by omega,hd])
abbrev aFE (a:List Int) (b:List Int):Prop:=cO Tryz.prog 112 [.one (.sl 3 1 (a.map intD)),.one (.sl 3 1 (b.map intD))] (vI (fU a b)) []
theorem aOY (a b:List Int) (hl:a.length≤1048576):aFE a b:=by
 refine aT bF aQ Tryz.func112 (by kernel_rfl) (.call (vB (cZ a)) []<| .br (.fin []) (.call (vB (cZ b)) []<| .lit<| .lit<| .br (.fin []) (.loop (Nat × Int) (Q2 Nat Int) [5,6,15,16,17,18,19,20,21,22,23,24,25,26,27,28,29,30,31,32,33,34,35,36,37] [] (fun yy0=>[(6,vI (yy0.1:Int)),(5,vI yy0.2)]) (fun yy0=>[]) (fun yy0=>yy0.1≤a.length∧yy0.1≤b.length∧yy0.2=uI a b yy0.1) (fun yy0=>a.length - yy0.1) (fun yy0=> .len a.length<| .br (.len b.length<| .lit<| .lit<| .br (.elem _ intD a (fun e30=> .elem _ intD b (fun e34=> .back []))) (.fin [])) (.fin []))))) (p:=(a.map intD).length≤9223372036854775807→(b.map intD).length≤9223372036854775807→aAG a∧(((!(cZ a))=true→(0:Int)=(fU a b)∧True)∧((!(cZ a))=false→aAG b∧(((!(cZ b))=true→(0:Int)=(fU a b)∧True)∧((!(cZ b))=false→(∃(k:Nat) (n:Int),(0:Int)=(k:Int)∧(0:Int)=n∧k≤a.length∧k≤b.length∧n=uI a b k)∧ ∀(k:Nat) (n:Int),(k≤a.length∧k≤b.length∧n=uI a b k)→Lm intD a∧(((decide ((k:Int)<((a.length:Nat):Int)))=true→Lm intD b∧(((decide ((k:Int)<((b.length:Nat):Int)))=true→0≤(k:Int)∧Em intD a k fun e30=>0≤(k:Int)∧Em intD b k fun e34=>cL (e30*e34)∧cL (n+(e30*e34))∧cL ((k:Int)+(1:Int))∧ ∃(k' :Nat) (n' :Int),((k:Int)+(1:Int))=(k' :Int)∧(n+(e30*e34))=n' ∧(k' ≤a.length∧k' ≤b.length∧n' =uI a b k')∧a.length - k' <a.length - k)∧((decide ((k:Int)<((b.length:Nat):Int)))=false→n=(fU a b)∧True)))∧((decide ((k:Int)<((a.length:Nat):Int)))=false→n=(fU a b)∧True))))))) (by kernel_rfl) ?_
 intro n0 n1
 simp only [List.length_map] at n0 n1
 refine ⟨aJA _,fun g10=>?_,fun g10=>?_⟩
 ·replace g10:=nt g10
  have hbad:(cZ a&&cZ b)=false:=by first | (rw [g10];rfl) | (rw [g10,c0];rfl)
  refine ⟨?_,trivial⟩
  ·first | (rw [rQ hbad];done) | (rw [pM hok,hn,show min a.length b.length=k by omega])
 ·replace g10:=nf g10
  refine ⟨aJA _,fun c0=>?_,fun c0=>?_⟩
  ·replace c0:=nt c0
   have hbad:(cZ a&&cZ b)=false:=by first | (rw [g10];rfl) | (rw [g10,c0];rfl)
   refine ⟨?_,trivial⟩
   ·first | (rw [rQ hbad];done) | (rw [pM hok,hn,show min a.length b.length=k by omega])
  ·replace c0:=nf c0
   have ha:cZ a=true:=g10
   have hb:cZ b=true:=by simpa using c0
   have hok:(cZ a&&cZ b)=true:=by rw [ha,hb];rfl
   refine ⟨⟨0,(0:Int),rfl,rfl,Nat.zero_le _,Nat.zero_le _,rfl⟩,fun k n ⟨hk,hk2,hn⟩=>?_⟩
   refine ⟨List.length_map _,fun g19=>?_,fun g19=>?_⟩
   ·replace g19:=yq g19
    refine ⟨List.length_map _,fun c1=>?_,fun c1=>?_⟩
    ·replace c1:=yq c1
     refine ⟨by omega,rfl,by omega,fun e30 h30=>?_⟩
     refine ⟨by omega,rfl,by omega,fun e34 h34=>?_⟩
     have hd:=aIt ha hb h30 h34
     have hD:=aHQ ha hb hk hk2
     refine ⟨⟨by omega,by omega⟩,⟨by omega,by omega⟩,⟨by omega,by omega⟩,?_⟩
     exact ⟨k+1,_,rfl,rfl,⟨by omega,by omega,by rw [hn,aBr h30 h34]⟩,by omega⟩
    ·replace c1:=nq c1
     refine ⟨?_,trivial⟩
     ·first | (rw [rQ hbad];done) | (rw [pM hok,hn,show min a.length b.length=k by omega])
   ·replace g19:=nq g19
    refine ⟨?_,trivial⟩
    ·first | (rw [rQ hbad];done) | (rw [pM hok,hn,show min a.length b.length=k by omega])
theorem aBK {a b:List Int} {k:Nat} {n:Int} (hn:n=uI a b k) (hgo:k=0∨(cZ a&&cZ b)=true) (h:k=min a.length b.length∨(cZ a&&cZ b)=false):fU a b=n:=by
 cases hz:(cZ a&&cZ b) with
 | false=>
   rcases hgo with rfl | q
   ·rw [rQ hz,hn];rfl
   ·rw [hz] at q;cases q
 | true=>
   rcases h with q | q
   ·rw [pM hz,hn,←q]
   ·rw [hz] at q;cases q
abbrev aFF (a:List Int) (b:List Int):Prop:=cO Tryz.prog 107 [.one (.sl 3 1 (a.map intD)),.one (.sl 3 1 (b.map intD))] (vI (fU a b)) []
theorem aOZ (a b:List Int) (hl:a.length≤1048576):aFF a b:=by
 refine aT bF aQ Tryz.func107 (by kernel_rfl) (.loop (Nat × Int) (Q2 Nat Int) [5,6,7,8,9,10,11,12,13,14,15,16,17,18,19,20,21,22,23,24,25,26,27,28,29,30,31,32,33,34,35,36,37] [] (fun yy0=>[(6,vI (yy0.1:Int)),(5,vI yy0.2)]) (fun yy0=>[]) (fun yy0=>yy0.1≤a.length∧yy0.1≤b.length∧yy0.2=uI a b yy0.1∧(yy0.1=0∨(cZ a&&cZ b)=true)) (fun yy0=>a.length - yy0.1) (fun yy0=> .len a.length<| .br (.len b.length<| .lit<| .lit<| .br (.call (vB (cZ a)) []<| .lit<| .br (.call (vB (cZ b)) []<| .lit<| .br (.elem _ intD a (fun e30=> .elem _ intD b (fun e34=> .back []))) (.fin [])) (.fin [])) (.fin [])) (.fin []))) (p:=(a.map intD).length≤9223372036854775807→(b.map intD).length≤9223372036854775807→(∃(k:Nat) (n:Int),(0:Int)=(k:Int)∧(0:Int)=n∧k≤a.length∧k≤b.length∧n=uI a b k∧(k=0∨(cZ a&&cZ b)=true))∧ ∀(k:Nat) (n:Int),(k≤a.length∧k≤b.length∧n=uI a b k∧(k=0∨(cZ a&&cZ b)=true))→Lm intD a∧(((decide ((k:Int)<((a.length:Nat):Int)))=true→Lm intD b∧(((decide ((k:Int)<((b.length:Nat):Int)))=true→aAH a∧(((cZ a)=true→aAH b∧(((cZ b)=true→0≤(k:Int)∧Em intD a k fun e30=>0≤(k:Int)∧Em intD b k fun e34=>cL (e30*e34)∧cL (n+(e30*e34))∧cL ((k:Int)+(1:Int))∧ ∃(k' :Nat) (n' :Int),((k:Int)+(1:Int))=(k' :Int)∧(n+(e30*e34))=n' ∧(k' ≤a.length∧k' ≤b.length∧n' =uI a b k' ∧(k' =0∨(cZ a&&cZ b)=true))∧a.length - k' <a.length - k)∧((cZ b)=false→n=(fU a b)∧True)))∧((cZ a)=false→n=(fU a b)∧True)))∧((decide ((k:Int)<((b.length:Nat):Int)))=false→n=(fU a b)∧True)))∧((decide ((k:Int)<((a.length:Nat):Int)))=false→n=(fU a b)∧True))) (by kernel_rfl) ?_
 intro n0 n1
 simp only [List.length_map] at n0 n1
 refine ⟨⟨0,(0:Int),rfl,rfl,Nat.zero_le _,Nat.zero_le _,rfl,.inl rfl⟩,fun k n ⟨hk,hk2,hn,hgo⟩=>?_⟩
 refine ⟨List.length_map _,fun g11=>?_,fun g11=>?_⟩
 ·replace g11:=yq g11
  refine ⟨List.length_map _,fun g17=>?_,fun g17=>?_⟩
  ·replace g17:=yq g17
   refine ⟨aJB _,fun g21=>?_,fun g21=>?_⟩
   ·refine ⟨aJB _,fun c0=>?_,fun c0=>?_⟩
    ·have ha:cZ a=true:=by simpa using g21
     have hb:cZ b=true:=by simpa using c0
     refine ⟨by omega,rfl,by omega,fun e30 h30=>?_⟩
     refine ⟨by omega,rfl,by omega,fun e34 h34=>?_⟩
     have hd:=aIt ha hb h30 h34
     have hD:=aHQ ha hb hk hk2
     refine ⟨⟨by omega,by omega⟩,⟨by omega,by omega⟩,⟨by omega,by omega⟩,?_⟩
     exact ⟨k+1,_,rfl,rfl,⟨by omega,by omega,by rw [hn,aBr h30 h34],.inr (by rw [ha,hb];rfl)⟩,by omega⟩
    ·have hE:fU a b=n:=aBK hn hgo (by first | (left;omega) | (right;rw [g21];rfl) | (right;rw [c0,Bool.and_false]))
     refine ⟨?_,trivial⟩
     ·rw [hE]
   ·have hE:fU a b=n:=aBK hn hgo (by first | (left;omega) | (right;rw [g21];rfl) | (right;rw [c0,Bool.and_false]))
    refine ⟨?_,trivial⟩
    ·rw [hE]
  ·replace g17:=nq g17
   have hE:fU a b=n:=aBK hn hgo (by first | (left;omega) | (right;rw [g21];rfl) | (right;rw [c0,Bool.and_false]))
   refine ⟨?_,trivial⟩
   ·rw [hE]
 ·replace g11:=nq g11
  have hE:fU a b=n:=aBK hn hgo (by first | (left;omega) | (right;rw [g21];rfl) | (right;rw [c0,Bool.and_false]))
  refine ⟨?_,trivial⟩
  ·rw [hE]
abbrev aCa (s:StoreD) (q:QueryD) (a:Int) (b:Int):Prop:=cO Tryz.prog 42 [.agg [.sl 162 3 (s.database.tables.map aO),.int .i64 s.catalogue.version,.sl 121 4 (s.catalogue.tables.map aB),.sl 168 3 (s.dependencies.map aH),.sl 170 4 (s.inclusions.map aJ)],.agg [.int .i64 q.variableCount,.sl 131 2 (q.atoms.map aV)],.one (.int .i64 a),.one (.int .i64 b)] (vI (rR s q a b)) []
theorem aMM (s:StoreD) (q:QueryD) (a b:Int) (hc:cC s≤1048576):aCa s q a b:=by
 refine aT bF aQ Tryz.func42 (by kernel_rfl) (.call (vB (kH s q (1:Int))) []<| .br (.fin []) (.len q.atoms.length<| .call (vB (dM a (0:Int) (((q.atoms.length:Nat):Int) - (1:Int)))) []<| .lit<| .lit<| .br (.fin []) (.len q.atoms.length<| .call (vB (dM b (0:Int) (((q.atoms.length:Nat):Int) - (1:Int)))) []<| .lit<| .lit<| .br (.fin []) (.lit<| .lit<| .lit<| .br (.fin []) (bH (zY q ((1:Int)*2^(Int.toNat a)) ((1:Int)*2^(Int.toNat b)))<| bH (jQ s q a)<| .elem _ aV q.atoms (fun e52=>bH (nM e52 (cD q ((1:Int)*2^(Int.toNat a)) ((1:Int)*2^(Int.toNat b))))<| bH (pL (bG s q a.toNat) (bO e52 (cD q ((1:Int)*2^(Int.toNat a)) ((1:Int)*2^(Int.toNat b)))))<| bH (jQ s q b)<| .elem _ aV q.atoms (fun e64=>bH (nM e64 (cD q ((1:Int)*2^(Int.toNat a)) ((1:Int)*2^(Int.toNat b))))<| bH (pL (bG s q b.toNat) (bO e64 (cD q ((1:Int)*2^(Int.toNat a)) ((1:Int)*2^(Int.toNat b)))))<| .call (vI (fU (gR (bG s q a.toNat) (bO e52 (cD q ((1:Int)*2^(Int.toNat a)) ((1:Int)*2^(Int.toNat b))))) (gR (bG s q b.toNat) (bO e64 (cD q ((1:Int)*2^(Int.toNat a)) ((1:Int)*2^(Int.toNat b))))))) []<| .fin []))))))) (p:=(s.database.tables.map aO).length≤9223372036854775807→(s.catalogue.tables.map aB).length≤9223372036854775807→(s.dependencies.map aH).length≤9223372036854775807→(s.inclusions.map aJ).length≤9223372036854775807→(q.atoms.map aV).length≤9223372036854775807→tH s q (1:Int)∧(((!(kH s q (1:Int)))=true→(-1:Int)=(rR s q a b)∧True)∧((!(kH s q (1:Int)))=false→Lm aV q.atoms∧(cL (((q.atoms.length:Nat):Int) - (1:Int))∧(eD a (0:Int) (((q.atoms.length:Nat):Int) - (1:Int))∧(((!(dM a (0:Int) (((q.atoms.length:Nat):Int) - (1:Int))))=true→(-1:Int)=(rR s q a b)∧True)∧((!(dM a (0:Int) (((q.atoms.length:Nat):Int) - (1:Int))))=false→Lm aV q.atoms∧(cL (((q.atoms.length:Nat):Int) - (1:Int))∧(eD b (0:Int) (((q.atoms.length:Nat):Int) - (1:Int))∧(((!(dM b (0:Int) (((q.atoms.length:Nat):Int) - (1:Int))))=true→(-1:Int)=(rR s q a b)∧True)∧((!(dM b (0:Int) (((q.atoms.length:Nat):Int) - (1:Int))))=false→((decide (a=b))=true→(-1:Int)=(rR s q a b)∧True)∧((decide (a=b))=false→(0≤a∧a≤64)∧cL ((1:Int)*2^(Int.toNat a))∧(0≤b∧b≤64)∧cL ((1:Int)*2^(Int.toNat b))∧aEk q ((1:Int)*2^(Int.toNat a)) ((1:Int)*2^(Int.toNat b))∧lM s q a∧0≤a∧Em aV q.atoms ((a).toNat) fun e52=>qM e52 (cD q ((1:Int)*2^(Int.toNat a)) ((1:Int)*2^(Int.toNat b)))∧sZ (bG s q a.toNat) (bO e52 (cD q ((1:Int)*2^(Int.toNat a)) ((1:Int)*2^(Int.toNat b))))∧lM s q b∧0≤b∧Em aV q.atoms ((b).toNat) fun e64=>qM e64 (cD q ((1:Int)*2^(Int.toNat a)) ((1:Int)*2^(Int.toNat b)))∧sZ (bG s q b.toNat) (bO e64 (cD q ((1:Int)*2^(Int.toNat a)) ((1:Int)*2^(Int.toNat b))))∧aFE (gR (bG s q a.toNat) (bO e52 (cD q ((1:Int)*2^(Int.toNat a)) ((1:Int)*2^(Int.toNat b))))) (gR (bG s q b.toNat) (bO e64 (cD q ((1:Int)*2^(Int.toNat a)) ((1:Int)*2^(Int.toNat b)))))∧(fU (gR (bG s q a.toNat) (bO e52 (cD q ((1:Int)*2^(Int.toNat a)) ((1:Int)*2^(Int.toNat b))))) (gR (bG s q b.toNat) (bO e64 (cD q ((1:Int)*2^(Int.toNat a)) ((1:Int)*2^(Int.toNat b))))))=(rR s q a b)∧True)))))))))))) (by kernel_rfl) ?_
 intro n0 n1 n2 n3 n4
 simp only [List.length_map] at n0 n1 n2 n3 n4
 have hS:cC s=bD s.database+bL s.catalogue+bV s.dependencies+cR s.inclusions:=rfl
 have hI:=eQ s.inclusions
 refine ⟨aEo s q (1:Int) (by omega),fun g16=>?_,fun g16=>?_⟩
 ·replace g16:=nt g16
  try (rw [mQ] at g16)
  have hbad:pN s q a b=false:=by first | (simp [pN,iK,g16];done) | (simp [pN,iK,g25];done) | (simp [pN,iK,g34];done) | (simp [pN,c0];done)
  refine ⟨?_,trivial⟩
  ·first | (rw [mR hbad];done) | (rw [kI hok,oB,oB,aP h52,aP h64])
 ·replace g16:=nf g16
  refine ⟨List.length_map _,by first | exact wa1 | exact wb1 | exact ⟨by omega,by omega⟩,gB _ _ _,fun g25=>?_,fun g25=>?_⟩
  ·replace g25:=nt g25
   try (rw [mQ] at g16)
   have hbad:pN s q a b=false:=by first | (simp [pN,iK,g16];done) | (simp [pN,iK,g25];done) | (simp [pN,iK,g34];done) | (simp [pN,c0];done)
   refine ⟨?_,trivial⟩
   ·first | (rw [mR hbad];done) | (rw [kI hok,oB,oB,aP h52,aP h64])
  ·replace g25:=nf g25
   refine ⟨List.length_map _,by first | exact wa1 | exact wb1 | exact ⟨by omega,by omega⟩,gB _ _ _,fun g34=>?_,fun g34=>?_⟩
   ·replace g34:=nt g34
    try (rw [mQ] at g16)
    have hbad:pN s q a b=false:=by first | (simp [pN,iK,g16];done) | (simp [pN,iK,g25];done) | (simp [pN,iK,g34];done) | (simp [pN,c0];done)
    refine ⟨?_,trivial⟩
    ·first | (rw [mR hbad];done) | (rw [kI hok,oB,oB,aP h52,aP h64])
   ·replace g34:=nf g34
    refine ⟨fun c0=>?_,fun c0=>?_⟩
    ·replace c0:=yq c0
     try (rw [mQ] at g16)
     have hbad:pN s q a b=false:=by first | (simp [pN,iK,g16];done) | (simp [pN,iK,g25];done) | (simp [pN,iK,g34];done) | (simp [pN,c0];done)
     refine ⟨?_,trivial⟩
     ·first | (rw [mR hbad];done) | (rw [kI hok,oB,oB,aP h52,aP h64])
    ·replace c0:=nq c0
     try (rw [mQ] at g16)
     have hok:pN s q a b=true:=by rw [pN,iK,iK,g16,g25,g34,decide_eq_false c0];rfl
     have hqa:iK s q a=true:=by rw [iK,g16,g25];rfl
     have hqb:iK s q b=true:=by rw [iK,g16,g34];rfl
     obtain ⟨hq0,hia⟩:=tG hqa
     obtain ⟨_,hib⟩:=tG hqb
     obtain ⟨hq1,hq2,hq3,_,_,_,_,hm5⟩:=jP hq0
     have hsa:=jS q a.toNat hc
     have hsb:=jS q b.toNat hc
     obtain ⟨wa1,wa2,wa3⟩:=tA (x:=a) (jV (by omega) (by omega))
     obtain ⟨wb1,wb2,wb3⟩:=tA (x:=b) (jV (by omega) (by omega))
     refine ⟨⟨by omega,by omega⟩,by first | exact wa1 | exact wb1 | exact ⟨by omega,by omega⟩,⟨by omega,by omega⟩,by first | exact wa1 | exact wb1 | exact ⟨by omega,by omega⟩,aOQ _ ((1:Int)*2^(Int.toNat a)) ((1:Int)*2^(Int.toNat b)),tJ s q a (by omega) (by first | assumption | exact ⟨by omega,by omega⟩),by omega,rfl,by omega,fun e52 h52=>?_⟩
     have wv52:=oJ hq2 h52
     have wl52:=jO e52 (cD q ((1:Int)*2^a.toNat) ((1:Int)*2^b.toNat))
     refine ⟨aBn _ (cD q ((1:Int)*2^(Int.toNat a)) ((1:Int)*2^(Int.toNat b))) (by omega),aE9 (bG s q a.toNat) (bO e52 (cD q ((1:Int)*2^(Int.toNat a)) ((1:Int)*2^(Int.toNat b)))) (by omega) (by omega),tJ s q b (by omega) (by first | assumption | exact ⟨by omega,by omega⟩),by omega,rfl,by omega,fun e64 h64=>?_⟩
     have wv64:=oJ hq2 h64
     have wl64:=jO e64 (cD q ((1:Int)*2^a.toNat) ((1:Int)*2^b.toNat))
     refine ⟨aBn _ (cD q ((1:Int)*2^(Int.toNat a)) ((1:Int)*2^(Int.toNat b))) (by omega),aE9 (bG s q b.toNat) (bO e64 (cD q ((1:Int)*2^(Int.toNat a)) ((1:Int)*2^(Int.toNat b)))) (by omega) (by omega),aOY _ _ (by first | omega | exact Nat.le_trans (aIl _ _) (by decide)),?_,trivial⟩
     ·first | (rw [mR hbad];done) | (rw [kI hok,oB,oB,aP h52,aP h64])
abbrev aCb (s:StoreD) (q:QueryD) (a:Int) (b:Int):Prop:=cO Tryz.prog 41 [.agg [.sl 162 3 (s.database.tables.map aO),.int .i64 s.catalogue.version,.sl 121 4 (s.catalogue.tables.map aB),.sl 168 3 (s.dependencies.map aH),.sl 170 4 (s.inclusions.map aJ)],.agg [.int .i64 q.variableCount,.sl 131 2 (q.atoms.map aV)],.one (.int .i64 a),.one (.int .i64 b)] (vI (rR s q a b)) []
theorem aMN (s:StoreD) (q:QueryD) (a b:Int) (hc:cC s≤1048576):aCb s q a b:=by
 refine aT bF aQ Tryz.func41 (by kernel_rfl) (.call (vI (iM q)) []<| .call (vB (kH s q (iM q))) []<| .br (.fin []) (.len q.atoms.length<| .call (vB (dM a (0:Int) (((q.atoms.length:Nat):Int) - (1:Int)))) []<| .lit<| .lit<| .br (.fin []) (.len q.atoms.length<| .call (vB (dM b (0:Int) (((q.atoms.length:Nat):Int) - (1:Int)))) []<| .lit<| .lit<| .br (.fin []) (.lit<| .lit<| .lit<| .br (.fin []) (bH (zZ q ((1:Int)*2^(Int.toNat a)) ((1:Int)*2^(Int.toNat b)))<| bH (jR s q a)<| .elem _ aV q.atoms (fun e52=>bH (nN e52 (cD q ((1:Int)*2^(Int.toNat a)) ((1:Int)*2^(Int.toNat b))))<| bH (qP (bG s q a.toNat) (bO e52 (cD q ((1:Int)*2^(Int.toNat a)) ((1:Int)*2^(Int.toNat b)))))<| bH (jR s q b)<| .elem _ aV q.atoms (fun e64=>bH (nN e64 (cD q ((1:Int)*2^(Int.toNat a)) ((1:Int)*2^(Int.toNat b))))<| bH (qP (bG s q b.toNat) (bO e64 (cD q ((1:Int)*2^(Int.toNat a)) ((1:Int)*2^(Int.toNat b)))))<| .call (vI (fU (gR (bG s q a.toNat) (bO e52 (cD q ((1:Int)*2^(Int.toNat a)) ((1:Int)*2^(Int.toNat b))))) (gR (bG s q b.toNat) (bO e64 (cD q ((1:Int)*2^(Int.toNat a)) ((1:Int)*2^(Int.toNat b))))))) []<| .fin []))))))) (p:=(s.database.tables.map aO).length≤9223372036854775807→(s.catalogue.tables.map aB).length≤9223372036854775807→(s.dependencies.map aH).length≤9223372036854775807→(s.inclusions.map aJ).length≤9223372036854775807→(q.atoms.map aV).length≤9223372036854775807→wL q∧(tI s q (iM q)∧(((!(kH s q (iM q)))=true→(-1:Int)=(rR s q a b)∧True)∧((!(kH s q (iM q)))=false→Lm aV q.atoms∧(cL (((q.atoms.length:Nat):Int) - (1:Int))∧(eL a (0:Int) (((q.atoms.length:Nat):Int) - (1:Int))∧(((!(dM a (0:Int) (((q.atoms.length:Nat):Int) - (1:Int))))=true→(-1:Int)=(rR s q a b)∧True)∧((!(dM a (0:Int) (((q.atoms.length:Nat):Int) - (1:Int))))=false→Lm aV q.atoms∧(cL (((q.atoms.length:Nat):Int) - (1:Int))∧(eL b (0:Int) (((q.atoms.length:Nat):Int) - (1:Int))∧(((!(dM b (0:Int) (((q.atoms.length:Nat):Int) - (1:Int))))=true→(-1:Int)=(rR s q a b)∧True)∧((!(dM b (0:Int) (((q.atoms.length:Nat):Int) - (1:Int))))=false→((decide (a=b))=true→(-1:Int)=(rR s q a b)∧True)∧((decide (a=b))=false→(0≤a∧a≤64)∧cL ((1:Int)*2^(Int.toNat a))∧(0≤b∧b≤64)∧cL ((1:Int)*2^(Int.toNat b))∧aEl q ((1:Int)*2^(Int.toNat a)) ((1:Int)*2^(Int.toNat b))∧lN s q a∧0≤a∧Em aV q.atoms ((a).toNat) fun e52=>qN e52 (cD q ((1:Int)*2^(Int.toNat a)) ((1:Int)*2^(Int.toNat b)))∧wZ (bG s q a.toNat) (bO e52 (cD q ((1:Int)*2^(Int.toNat a)) ((1:Int)*2^(Int.toNat b))))∧lN s q b∧0≤b∧Em aV q.atoms ((b).toNat) fun e64=>qN e64 (cD q ((1:Int)*2^(Int.toNat a)) ((1:Int)*2^(Int.toNat b)))∧wZ (bG s q b.toNat) (bO e64 (cD q ((1:Int)*2^(Int.toNat a)) ((1:Int)*2^(Int.toNat b))))∧aFF (gR (bG s q a.toNat) (bO e52 (cD q ((1:Int)*2^(Int.toNat a)) ((1:Int)*2^(Int.toNat b))))) (gR (bG s q b.toNat) (bO e64 (cD q ((1:Int)*2^(Int.toNat a)) ((1:Int)*2^(Int.toNat b)))))∧(fU (gR (bG s q a.toNat) (bO e52 (cD q ((1:Int)*2^(Int.toNat a)) ((1:Int)*2^(Int.toNat b))))) (gR (bG s q b.toNat) (bO e64 (cD q ((1:Int)*2^(Int.toNat a)) ((1:Int)*2^(Int.toNat b))))))=(rR s q a b)∧True))))))))))))) (by kernel_rfl) ?_
 intro n0 n1 n2 n3 n4
 simp only [List.length_map] at n0 n1 n2 n3 n4
 have hS:cC s=bD s.database+bL s.catalogue+bV s.dependencies+cR s.inclusions:=rfl
 have hI:=eQ s.inclusions
 refine ⟨aG4 _,aEp s q (iM q) (by omega),fun g16=>?_,fun g16=>?_⟩
 ·replace g16:=nt g16
  try (rw [mQ] at g16)
  have hbad:pN s q a b=false:=by first | (simp [pN,iK,g16];done) | (simp [pN,iK,g25];done) | (simp [pN,iK,g34];done) | (simp [pN,c0];done)
  refine ⟨?_,trivial⟩
  ·first | (rw [mR hbad];done) | (rw [kI hok,oB,oB,aP h52,aP h64])
 ·replace g16:=nf g16
  refine ⟨List.length_map _,by first | exact wa1 | exact wb1 | exact ⟨by omega,by omega⟩,gP _ _ _,fun g25=>?_,fun g25=>?_⟩
  ·replace g25:=nt g25
   try (rw [mQ] at g16)
   have hbad:pN s q a b=false:=by first | (simp [pN,iK,g16];done) | (simp [pN,iK,g25];done) | (simp [pN,iK,g34];done) | (simp [pN,c0];done)
   refine ⟨?_,trivial⟩
   ·first | (rw [mR hbad];done) | (rw [kI hok,oB,oB,aP h52,aP h64])
  ·replace g25:=nf g25
   refine ⟨List.length_map _,by first | exact wa1 | exact wb1 | exact ⟨by omega,by omega⟩,gP _ _ _,fun g34=>?_,fun g34=>?_⟩
   ·replace g34:=nt g34
    try (rw [mQ] at g16)
    have hbad:pN s q a b=false:=by first | (simp [pN,iK,g16];done) | (simp [pN,iK,g25];done) | (simp [pN,iK,g34];done) | (simp [pN,c0];done)
    refine ⟨?_,trivial⟩
    ·first | (rw [mR hbad];done) | (rw [kI hok,oB,oB,aP h52,aP h64])
   ·replace g34:=nf g34
    refine ⟨fun c0=>?_,fun c0=>?_⟩
    ·replace c0:=yq c0
     try (rw [mQ] at g16)
     have hbad:pN s q a b=false:=by first | (simp [pN,iK,g16];done) | (simp [pN,iK,g25];done) | (simp [pN,iK,g34];done) | (simp [pN,c0];done)
     refine ⟨?_,trivial⟩
     ·first | (rw [mR hbad];done) | (rw [kI hok,oB,oB,aP h52,aP h64])
    ·replace c0:=nq c0
     try (rw [mQ] at g16)
     have hok:pN s q a b=true:=by rw [pN,iK,iK,g16,g25,g34,decide_eq_false c0];rfl
     have hqa:iK s q a=true:=by rw [iK,g16,g25];rfl
     have hqb:iK s q b=true:=by rw [iK,g16,g34];rfl
     obtain ⟨hq0,hia⟩:=tG hqa
     obtain ⟨_,hib⟩:=tG hqb
     obtain ⟨hq1,hq2,hq3,_,_,_,_,hm5⟩:=jP hq0
     have hsa:=jS q a.toNat hc
     have hsb:=jS q b.toNat hc
     obtain ⟨wa1,wa2,wa3⟩:=tA (x:=a) (jV (by omega) (by omega))
     obtain ⟨wb1,wb2,wb3⟩:=tA (x:=b) (jV (by omega) (by omega))
     refine ⟨⟨by omega,by omega⟩,by first | exact wa1 | exact wb1 | exact ⟨by omega,by omega⟩,⟨by omega,by omega⟩,by first | exact wa1 | exact wb1 | exact ⟨by omega,by omega⟩,aOR _ ((1:Int)*2^(Int.toNat a)) ((1:Int)*2^(Int.toNat b)),tK s q a (by omega) (by first | assumption | exact ⟨by omega,by omega⟩),by omega,rfl,by omega,fun e52 h52=>?_⟩
     have wv52:=oJ hq2 h52
     have wl52:=jO e52 (cD q ((1:Int)*2^a.toNat) ((1:Int)*2^b.toNat))
     refine ⟨aBo _ (cD q ((1:Int)*2^(Int.toNat a)) ((1:Int)*2^(Int.toNat b))) (by omega),aGc (bG s q a.toNat) (bO e52 (cD q ((1:Int)*2^(Int.toNat a)) ((1:Int)*2^(Int.toNat b)))) (by omega) (by omega),tK s q b (by omega) (by first | assumption | exact ⟨by omega,by omega⟩),by omega,rfl,by omega,fun e64 h64=>?_⟩
     have wv64:=oJ hq2 h64
     have wl64:=jO e64 (cD q ((1:Int)*2^a.toNat) ((1:Int)*2^b.toNat))
     refine ⟨aBo _ (cD q ((1:Int)*2^(Int.toNat a)) ((1:Int)*2^(Int.toNat b))) (by omega),aGc (bG s q b.toNat) (bO e64 (cD q ((1:Int)*2^(Int.toNat a)) ((1:Int)*2^(Int.toNat b)))) (by omega) (by omega),aOZ _ _ (by first | omega | exact Nat.le_trans (aIl _ _) (by decide)),?_,trivial⟩
     ·first | (rw [mR hbad];done) | (rw [kI hok,oB,oB,aP h52,aP h64])
theorem lawPairBound (a0:StoreD) (a1:QueryD) (a2:Int) (a3:Int) (h0:aDo a0) (h1:aDl a1) (h2:Fits a2) (h3:Fits a3):cO Tryz.prog 8 [.agg [.sl 162 3 (a0.database.tables.map aO),.int .i64 a0.catalogue.version,.sl 121 4 (a0.catalogue.tables.map aB),.sl 168 3 (a0.dependencies.map aH),.sl 170 4 (a0.inclusions.map aJ)],.agg [.int .i64 a1.variableCount,.sl 131 2 (a1.atoms.map aV)],.one (.int .i64 a2),.one (.int .i64 a3)] (vB true) []:=by
 refine aT bF aQ Tryz.func8 (by kernel_rfl) (.call (vI (aI (cC a0) (1048576:Int))) []<| .br (.fin []) (.call (vI (aI (jY a1) (aI (cC a0) (1048576:Int)))) []<| .br (.fin []) (bH (gN a0)<| bH (gO a1)<| .call (vI (rR a0 a1 a2 a3)) []<| bH (gN a0)<| bH (gO a1)<| .call (vI (rR a0 a1 a2 a3)) []<| .no<| bH (gN a0)<| .call (vB true) []<| bH (gO a1)<| .call (vB true) []<| .fin []))) (p:=(a0.database.tables.map aO).length≤9223372036854775807→(a0.catalogue.tables.map aB).length≤9223372036854775807→(a0.dependencies.map aH).length≤9223372036854775807→(a0.inclusions.map aJ).length≤9223372036854775807→(a1.atoms.map aV).length≤9223372036854775807→tO a0 (1048576:Int)∧(((decide ((aI (cC a0) (1048576:Int))<(0:Int)))=true→(true)=true∧True)∧((decide ((aI (cC a0) (1048576:Int))<(0:Int)))=false→tP a1 (aI (cC a0) (1048576:Int))∧(((decide ((aI (jY a1) (aI (cC a0) (1048576:Int)))<(0:Int)))=true→(true)=true∧True)∧((decide ((aI (jY a1) (aI (cC a0) (1048576:Int)))<(0:Int)))=false→iA a0∧iB a1∧aCb a0 a1 a2 a3∧iA a0∧iB a1∧aCa a0 a1 a2 a3∧(!(decide ((rR a0 a1 a2 a3)=(rR a0 a1 a2 a3))))=false∧iA a0∧tM a0∧iB a1∧tN a1∧(true)=true∧True))))) (by kernel_rfl) ?_
 intro n0 n1 n2 n3 n4
 simp only [List.length_map] at n0 n1 n2 n3 n4
 refine ⟨aFB a0 _ (by first | assumption | exact hf) (by omega) (by omega),fun c0=>?_,fun c0=>?_⟩
 ·replace c0:=yq c0
  refine ⟨?_,trivial⟩
  ·rfl
 ·replace c0:=nq c0
  try (have y0:=fQ c0;try rw [aG y0] at*)
  refine ⟨aFD a1 _ (by first | assumption | exact hf) (by omega) (by omega),fun c1=>?_,fun c1=>?_⟩
  ·replace c1:=yq c1
   refine ⟨?_,trivial⟩
   ·rfl
  ·replace c1:=nq c1
   try (have y1:=fQ c1;try rw [aG y1] at*)
   refine ⟨lO a0 (by first | omega | (have:=cStoreS_el ‹x[k]? =some _›;omega)),lP a1 (by first | omega | (have:=cQueryS_el ‹x[k]? =some _›;omega)),aMN a0 a1 a2 a3 (by omega),lO a0 (by first | omega | (have:=cStoreS_el ‹x[k]? =some _›;omega)),lP a1 (by first | omega | (have:=cQueryS_el ‹x[k]? =some _›;omega)),aMM a0 a1 a2 a3 (by omega),by first | (simp;done) | (simp;omega) | (simp [*];done),lO a0 (by first | omega | (have:=cStoreS_el ‹x[k]? =some _›;omega)),by first | exact rZ a0 | exact rZ _,lP a1 (by first | omega | (have:=cQueryS_el ‹x[k]? =some _›;omega)),by first | exact sA a1 | exact sA _,?_,trivial⟩
   ·rfl
end Go.Proofs.YtokkjaflmcjlhaaGreat
