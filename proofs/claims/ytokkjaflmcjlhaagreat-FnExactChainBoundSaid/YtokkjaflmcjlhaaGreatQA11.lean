/-
  Contracts and plain laws, joined: part 12.
-/
import Derived.Test.YtokkjaflmcjlhaaGreatQA10
import Derived.Test.YtokkjaflmcjlhaaGreatQA7
import Derived.IntWalk
import Derived.Test.YtokkjaflmcjlhaaGreatQA9
namespace Go.Proofs.YtokkjaflmcjlhaaGreat
open Go.ChangeShapes Go.WideShapes Go.ChangeAt Go.RowKit
set_option linter.unusedVariables false
set_option linter.unusedSimpArgs false
set_option maxRecDepth 100000
set_option maxHeartbeats 4000000
theorem yA:gZ []= []:=List.eq_nil_of_length_eq_zero (aBl [])
theorem yB (a:Int):gZ [a]= [a]:=List.perm_singleton.1 (sY [a])
def gR (x:aF) (cols:List Int):List Int:=if bM x=true then gZ (dG (bU x) cols).2 else []
theorem wG {x:aF} {cols:List Int} (h:bM x=true):gR x cols=gZ (dG (bU x) cols).2:=by rw [gR,if_pos h]
theorem aDC {x:aF} {cols:List Int} (h:bM x=false):gR x cols= []:=by rw [gR,if_neg (by rw [h];decide)]
theorem aIl (x:aF) (cols:List Int):(gR x cols).length≤8:=by
 cases h:bM x with
 | false=>rw [aDC h];exact Nat.zero_le _
 | true=>rw [wG h,aBl];exact (xW _ _).2
theorem aLr {x:aF} {cols:List Int} {k:Nat} {g:aN} (h:bM x=true) (hg:x.groups[k]? =some g) (hc:g.columns=cols):g.counts=(dG (bU x) cols).2:=by
 rw [aEI h,List.getElem?_map] at hg
 cases e:(bK x.arity)[k]? with
 | none=>rw [e] at hg;simp at hg
 | some c=>
   rw [e] at hg
   simp only [Option.map_some,Option.some.injEq] at hg
   subst hg
   rw [show c=cols from hc];rfl
theorem aOF {n:Int} (hn:1≤n∧n≤3) {cols:List Int} (h:cQ (n - 1) cols=true) (hne:cols≠[]):cols∈bK n:=by
 have hl:=aAh h (by omega)
 have hlow:=aDz h
 have hn3:n=1∨n=2∨n=3:=by omega
 match cols,hl with
 | [],_=>exact absurd rfl hne
 | [a],_=>
   have h0:=hlow 0 (by simp)
   simp at h0
   have ha:a=0∨a=1∨a=2:=by omega
   rcases hn3 with rfl | rfl | rfl<;>rcases ha with rfl | rfl | rfl<;>first | decide | (exfalso;omega)
 | [a,b],_=>
   have h0:=hlow 0 (by simp)
   have h1:=hlow 1 (by simp)
   have h2:=List.all_eq_true.1 h 1 (by simp)
   simp [gK] at h0 h1 h2
   have ha:(a=0∧b=1)∨(a=0∧b=2)∨(a=1∧b=2):=by omega
   rcases hn3 with rfl | rfl | rfl<;>rcases ha with ⟨rfl,rfl⟩ | ⟨rfl,rfl⟩ | ⟨rfl,rfl⟩<;>first | decide | (exfalso;omega)
 | [a,b,c],_=>
   have h0:=hlow 0 (by simp)
   have h1:=hlow 1 (by simp)
   have h2:=hlow 2 (by simp)
   have h3:=List.all_eq_true.1 h 1 (by simp)
   have h4:=List.all_eq_true.1 h 2 (by simp)
   simp [gK] at h0 h1 h2 h3 h4
   obtain ⟨rfl,rfl,rfl⟩:a=0∧b=1∧c=2:=by omega
   rcases hn3 with rfl | rfl | rfl<;>first | decide | (exfalso;omega)
 | _::_::_::_::_,hl=>simp at hl
theorem aOG {x:aF} {cols:List Int} (h:bM x=true) (hall:x.groups.all (fun g=> !decide (g.columns=cols))=true) (hne: ¬(cols.length:Int)=0):(dG (bU x) cols).2= []:=by
 obtain ⟨h1,h2⟩:=rK h
 cases hc:cQ ((bU x).arity - 1) cols with
 | false=>rw [jN (by simp [hc])]
 | true=>
   exfalso
   have hm:=aOF (n:=x.arity) (aLf h) hc (fun e=>hne (by rw [e];rfl))
   rw [aEI h] at hall
   have:=List.all_eq_true.1 hall _ (List.mem_map_of_mem hm)
   simp [rJ] at this
theorem aKi {x:aF} (h:bM x=true):(x.rowCount=0→(dG (bU x) []).2= [])∧(¬x.rowCount=0→(dG (bU x) []).2= [x.rowCount]):=by
 obtain ⟨h1,h2⟩:=rK h
 have hc:=aLe h
 have hrows:(bU x).rows=jD x:=rfl
 rw [eB (t:=bU x) (cols:=[]) (by rw [h1];rfl)]
 have e:iO (bU x) []=List.replicate (jD x).length []:=by simp [iO,eT,aK6,hrows,List.map_const']
 have ev:aJe (bU x) []=cB (List.replicate (jD x).length []):=by rw [aJe,e,qG]
 show (x.rowCount=0→aHF (bU x) []= [])∧(¬x.rowCount=0→aHF (bU x) []= [x.rowCount])
 rw [aHF,ev,e]
 constructor
 ·intro h0
  rw [show (jD x).length=0 by omega];rfl
 ·intro h0
  have hpos:(jD x).length≠0:=by omega
  have hf:cB (List.replicate (jD x).length ([]:List Int))= [[]]:=by
   obtain ⟨p1,p2,_⟩:=qF (List.replicate (jD x).length ([]:List Int)) [] List.Pairwise.nil
   refine aCz p1 (List.pairwise_singleton _ _) fun y=>?_
   have:=p2 y
   rw [cB,this]
   simp [List.mem_replicate,hpos]
  rw [hf,hc]
  simp [gE]
abbrev pL (x:aF) (cols:List Int):AV × List (Nat × Rs):=(.own 0,[(0,.arr 3 1 true ((gR x cols).map intD))])
abbrev sZ (x:aF) (cols:List Int):Prop:=cO Tryz.prog 110 [.agg [.str x.name,.int .i64 x.arity,.int .i64 x.rowCount,.sl 218 3 (x.groups.map aA)],.one (.sl 3 1 (cols.map intD))] (pL x cols).1 (pL x cols).2
theorem aE9 (x:aF) (cols:List Int) (hc:aZ x≤1048576) (hl:cols.length≤1048576):sZ x cols:=by
 refine aT bF aQ Tryz.func110 (by kernel_rfl) (bH (nZ x)<| .br (.fin []) (bH (zU (bU x) cols)<| .fin [(0,1600)])) (p:=(x.groups.map aA).length≤9223372036854775807→(cols.map intD).length≤9223372036854775807→sP x∧(((!(bM x))=true→[]=(gR x cols).map intD∧True)∧((!(bM x))=false→aE8 (bU x) cols∧(gZ (dG (bU x) cols).2).map intD=(gR x cols).map intD∧True))) (by kernel_rfl) ?_
 intro n0 n1
 simp only [List.length_map] at n0 n1
 refine ⟨aEG x (by omega),fun c0=>?_,fun c0=>?_⟩
 ·replace c0:=nt c0
  have hE:gR x cols= []:=aDC (by simpa using c0)
  refine ⟨?_,trivial⟩
  ·(rw [hE]<;>rfl)
 ·replace c0:=nf c0
  have hE:=wG (cols:=cols) (by simpa using c0:bM x=true)
  refine ⟨aOE (bU x) _ (by omega),?_,trivial⟩
  ·(rw [hE]<;>rfl)
abbrev aCS (x:aF) (cols:List Int):Prop:=cO Tryz.prog 171 [.agg [.str x.name,.int .i64 x.arity,.int .i64 x.rowCount,.sl 218 3 (x.groups.map aA)],.one (.sl 3 1 (cols.map intD))] (vI ((gR x cols).getD 0 0)) []
theorem aLs (x:aF) (cols:List Int) (hc:aZ x≤1048576) (hl:cols.length≤1048576):aCS x cols:=by
 refine aT bF aQ Tryz.func171 (by kernel_rfl) (bH (pL x cols)<| .len ((gR x cols).length)<| .br (.fin []) (.len ((gR x cols).length)<| .elem _ intD (gR x cols) (fun e14=> .fin []))) (p:=(x.groups.map aA).length≤9223372036854775807→(cols.map intD).length≤9223372036854775807→sZ x cols∧(Lm intD (gR x cols)∧(((decide ((((gR x cols).length:Nat):Int)=(0:Int)))=true→(0:Int)=((gR x cols).getD 0 0)∧True)∧((decide ((((gR x cols).length:Nat):Int)=(0:Int)))=false→0≤(0:Int)∧Lm intD (gR x cols)∧(0:Int)<(((gR x cols).length:Nat):Int)∧Em intD (gR x cols) 0 fun e14=>e14=((gR x cols).getD 0 0)∧True)))) (by kernel_rfl) ?_
 intro n0 n1
 simp only [List.length_map] at n0 n1
 refine ⟨aE9 _ _ (by omega) (by omega),List.length_map _,fun c0=>?_,fun c0=>?_⟩
 ·replace c0:=yq c0
  have hz:gR x cols= []:=List.eq_nil_of_length_eq_zero (by omega)
  refine ⟨?_,trivial⟩
  ·first | (rw [hz]<;>rfl) | (rw [aP h14])
 ·replace c0:=nq c0
  refine ⟨by omega,List.length_map _,by omega,rfl,by omega,fun e14 h14=>?_⟩
  refine ⟨?_,trivial⟩
  ·first | (rw [hz]<;>rfl) | (rw [aP h14])
theorem tA {x:Int} (h:dM x 0 3=true):cL ((1:Int)*2^x.toNat)∧0≤x∧x≤64:=by
 have h2:=dP h
 have h1:x=0∨x=1∨x=2∨x=3:=by omega
 refine ⟨?_,by omega,by omega⟩
 unfold cL
 rcases h1 with rfl | rfl | rfl | rfl<;>exact ⟨by decide,by decide⟩
theorem aQy (l:List dF) (a:List Int):(0:Int)=m4 (fY l 0 a 0):=by simp [m4,b4,fY,aCk]
theorem aOH (n:Nat) (l:List dF) (a:List Int):List.replicate n false=(List.range n).map (fY l 0 a 0):=by
 apply List.ext_getElem?
 intro i
 rw [List.getElem?_map,List.getElem?_replicate]
 by_cases hi:i<n
 ·rw [if_pos hi,List.getElem?_range hi];simp [fY,aCk]
 ·rw [if_neg hi,show (List.range n)[i]? =none from List.getElem?_eq_none (by simp;omega)];rfl
theorem aOI {l:List Bool} {v:Bool}:decide (0≤iT (fun y=>v==y) l)=decide (v∈l):=by
 apply Bool.eq_iff_iff.2
 rw [decide_eq_true_eq,decide_eq_true_eq]
 constructor
 ·intro h
  obtain ⟨k,x,_,hx,hf⟩:=mH.2 h
  have h1:=List.find?_some hf
  have:v=x:=by simpa using h1
  rw [this];exact List.mem_of_getElem? hx
 ·intro h
  rcases Int.lt_or_le (iT (fun y=>v==y) l) 0 with q | q
  ·have:=mH.1 q
   rw [List.find?_eq_none] at this
   exact absurd (this v h) (by simp)
  ·exact q
abbrev aPq (l:List Bool) (v:Bool):Prop:=cO Tryz.prog 280 [.one (.sl 4 1 (l.map iC)),.one (.bool v)] (vI (iT (fun y=>v==y) l)) []
theorem ixB (l:List Bool) (v:Bool):aPq l v:=by
 refine aT bF aQ Tryz.func280 (by kernel_rfl) (.len l.length<| .loop Nat (Q1 Nat) [5,8,9,10,11,12,13,14,15,16,18] [] (fun k=>[(8,vI (k:Int))]) (fun k=>[]) (fun k=>k≤l.length∧(l.take k).all (fun y=> !(v==y))=true) (fun k=>l.length - k) (fun k=> .br (.elem _ iC l (fun e14=> .br (.fin []) (.back []))) (.fin []))) (p:=(l.map iC).length≤9223372036854775807→Lm iC l∧((∃(k:Nat),(0:Int)=(k:Int)∧k≤l.length∧(l.take k).all (fun y=> !(v==y))=true)∧ ∀(k:Nat),(k≤l.length∧(l.take k).all (fun y=> !(v==y))=true)→((decide ((k:Int)<((l.length:Nat):Int)))=true→0≤(k:Int)∧Em iC l k fun e14=>((v==e14)=true→(k:Int)=(iT (fun y=>v==y) l)∧True)∧((v==e14)=false→cL ((k:Int)+(1:Int))∧ ∃(k' :Nat),((k:Int)+(1:Int))=(k' :Int)∧(k' ≤l.length∧(l.take k').all (fun y=> !(v==y))=true)∧l.length - k' <l.length - k))∧((decide ((k:Int)<((l.length:Nat):Int)))=false→(-1:Int)=(iT (fun y=>v==y) l)∧True))) (by kernel_rfl) ?_
 intro n0
 simp only [List.length_map] at n0
 refine ⟨List.length_map _,⟨0,rfl,Nat.zero_le _,rfl⟩,fun k ⟨hk,ha⟩=>?_⟩
 refine ⟨fun c0=>?_,fun c0=>?_⟩
 ·replace c0:=yq c0
  refine ⟨by omega,rfl,by omega,fun e14 h14=>?_⟩
  refine ⟨fun c1=>?_,fun c1=>?_⟩
  ·refine ⟨?_,trivial⟩
   ·first | (rw [aDB h14 ha c1];done) | (rw [aAp (bR (by omega) ha)];done)
  ·refine ⟨⟨by omega,by omega⟩,?_⟩
   exact ⟨k+1,rfl,⟨by omega,dO h14 ha (by rw [c1];rfl)⟩,by omega⟩
 ·replace c0:=nq c0
  refine ⟨?_,trivial⟩
  ·first | (rw [aDB h14 ha c1];done) | (rw [aAp (bR (by omega) ha)];done)
abbrev aPr (l:List Bool) (v:Bool):Prop:=cO Tryz.prog 254 [.one (.sl 4 1 (l.map iC)),.one (.bool v)] (vB (decide (v∈l))) []
theorem ctB (l:List Bool) (v:Bool):aPr l v:=by
 refine aT bF aQ Tryz.func254 (by kernel_rfl) (.call (vI (iT (fun y=>v==y) l)) []<| .fin []) (p:=(l.map iC).length≤9223372036854775807→aPq l v∧(decide ((0:Int)≤(iT (fun y=>v==y) l)))=(decide (v∈l))∧True) (by kernel_rfl) ?_
 intro n0
 simp only [List.length_map] at n0
 refine ⟨ixB _ _,?_,trivial⟩
 ·exact aOI
abbrev tB (q:QueryD):Prop:=cO Tryz.prog 190 [.agg [.int .i64 q.variableCount,.sl 131 2 (q.atoms.map aV)]] (vB (bP q)) []
theorem aEa (q:QueryD):tB q:=by
 refine aT bF aQ Tryz.func190 (by kernel_rfl) (.call (vB (dM q.variableCount (1:Int) (4:Int))) []<| .br (.fin []) (.len q.atoms.length<| .call (vB (dM ((q.atoms.length:Nat):Int) (1:Int) (4:Int))) []<| .lit<| .lit<| .br (.fin []) (.mk ((q.variableCount).toNat) [.bool false] ((List.replicate ((q.variableCount).toNat) false).map iC)<| .len q.atoms.length<| .loop (Nat × (List Bool)) (Q2 Nat (List Bool)) [5,6,7,25,26,27,28,29,30,31,32,33,34,35,36,37,38,39,40,41,42,43,44,45,46,47,48,49,50,51,52,53,54,55,56,57,58,59,60,61,62,63,64,65,66] [500,2100] (fun yy0=>[(25,vI (yy0.1:Int))]) (fun yy0=>[(2100,some (.arr 4 1 true (yy0.2.map iC)))]) (fun yy0=>yy0.1≤q.atoms.length∧yy0.2=(List.range q.variableCount.toNat).map (fY q.atoms yy0.1 [] 0)∧(q.atoms.take yy0.1).all (dW q.variableCount)=true) (fun yy0=>q.atoms.length - yy0.1) (fun yy0=> .br (.elem _ aV q.atoms (fun e27=> .call (vB (dR e27.name)) []<| .br (.fin []) (.len e27.vars.length<| .call (vB (dM ((e27.vars.length:Nat):Int) (1:Int) (3:Int))) []<| .lit<| .lit<| .br (.fin []) (.len e27.vars.length<| .loop (Nat × (List Bool)) (Q2 Nat (List Bool)) [6,7,43,44,45,46,47,48,49,50,51,52,53,54,55,56,57,58,59,60,61,62,63,64,65] [2100] (fun yy1=>[(43,vI (yy1.1:Int))]) (fun yy1=>[(2100,some (.arr 4 1 true (yy1.2.map iC)))]) (fun yy1=>yy1.1≤e27.vars.length∧yy1.2=(List.range q.variableCount.toNat).map (fY q.atoms yy0.1 e27.vars yy1.1)∧(List.range yy1.1).all (iL q.variableCount e27.vars)=true) (fun yy1=>e27.vars.length - yy1.1) (fun yy1=> .br (.elem _ intD e27.vars (fun e46=> .call (vB (dM e46 (0:Int) (q.variableCount - (1:Int)))) []<| .br (.fin []) (.sub Int intD e27.vars<| .call (vB (decide (e46∈(e27.vars.take yy1.1)))) []<| .lit<| .br (.fin []) (.len yy1.2.length<| .set Bool iC yy1.2 (fun s14_3=>true) (fun s14_3=> .back [(2100,2100)]))))) (.back [(2100,2100)])))))) (.call (vB (decide (false∈yy0.2))) []<| .fin []))))) (p:=(q.atoms.map aV).length≤9223372036854775807→eD q.variableCount (1:Int) (4:Int)∧(((!(dM q.variableCount (1:Int) (4:Int)))=true→(false)=(bP q)∧True)∧((!(dM q.variableCount (1:Int) (4:Int)))=false→Lm aV q.atoms∧(eD ((q.atoms.length:Nat):Int) (1:Int) (4:Int)∧(((!(dM ((q.atoms.length:Nat):Int) (1:Int) (4:Int)))=true→(false)=(bP q)∧True)∧((!(dM ((q.atoms.length:Nat):Int) (1:Int) (4:Int)))=false→q.variableCount=(((q.variableCount).toNat:Nat):Int)∧q.variableCount=(((q.variableCount).toNat:Nat):Int)∧1*((q.variableCount).toNat)≤281474976710656∧((q.variableCount).toNat)≤9223372036854775807∧List.replicate ((q.variableCount).toNat) [.bool false]=(List.replicate ((q.variableCount).toNat) false).map iC∧(Lm aV q.atoms∧((∃(k:Nat) (sn:List Bool),(0:Int)=(k:Int)∧(List.replicate ((q.variableCount).toNat) false).map iC=sn.map iC∧k≤q.atoms.length∧sn=(List.range q.variableCount.toNat).map (fY q.atoms k [] 0)∧(q.atoms.take k).all (dW q.variableCount)=true)∧ ∀(k:Nat) (sn:List Bool),(k≤q.atoms.length∧sn=(List.range q.variableCount.toNat).map (fY q.atoms k [] 0)∧(q.atoms.take k).all (dW q.variableCount)=true)→((decide ((k:Int)<((q.atoms.length:Nat):Int)))=true→0≤(k:Int)∧Em aV q.atoms k fun e27=>vL e27.name∧(((!(dR e27.name))=true→(false)=(bP q)∧True)∧((!(dR e27.name))=false→Lm intD e27.vars∧(eD ((e27.vars.length:Nat):Int) (1:Int) (3:Int)∧(((!(dM ((e27.vars.length:Nat):Int) (1:Int) (3:Int)))=true→(false)=(bP q)∧True)∧((!(dM ((e27.vars.length:Nat):Int) (1:Int) (3:Int)))=false→Lm intD e27.vars∧((∃(i:Nat) (sm:List Bool),(0:Int)=(i:Int)∧sn.map iC=sm.map iC∧i≤e27.vars.length∧sm=(List.range q.variableCount.toNat).map (fY q.atoms k e27.vars i)∧(List.range i).all (iL q.variableCount e27.vars)=true)∧ ∀(i:Nat) (sm:List Bool),(i≤e27.vars.length∧sm=(List.range q.variableCount.toNat).map (fY q.atoms k e27.vars i)∧(List.range i).all (iL q.variableCount e27.vars)=true)→((decide ((i:Int)<((e27.vars.length:Nat):Int)))=true→0≤(i:Int)∧Em intD e27.vars i fun e46=>cL (q.variableCount - (1:Int))∧(eD e46 (0:Int) (q.variableCount - (1:Int))∧(((!(dM e46 (0:Int) (q.variableCount - (1:Int))))=true→(false)=(bP q)∧True)∧((!(dM e46 (0:Int) (q.variableCount - (1:Int))))=false→e27.vars.map intD=e27.vars.map intD∧0≤(i:Int)∧(i:Int)≤((e27.vars.length:Nat):Int)∧(aES (e27.vars.take i) e46∧(((decide (e46∈(e27.vars.take i)))=true→(false)=(bP q)∧True)∧((decide (e46∈(e27.vars.take i)))=false→0≤e46∧Lm iC sm∧e46<((sm.length:Nat):Int)∧(sm.map iC=sm.map iC∧(e46).toNat<sm.length∧ ∀s14_3,sm[(e46).toNat]? =some s14_3→eI (iC s14_3)=true∧0+1≤(iC s14_3).length∧(iC s14_3).take 0++[.bool true]++(iC s14_3).drop (0+1)=iC true∧cL ((i:Int)+(1:Int))∧ ∃(i' :Nat) (sm' :List Bool),((i:Int)+(1:Int))=(i' :Int)∧(sm.set ((e46).toNat) true).map iC=sm'.map iC∧(i' ≤e27.vars.length∧sm' =(List.range q.variableCount.toNat).map (fY q.atoms k e27.vars i')∧(List.range i').all (iL q.variableCount e27.vars)=true)∧e27.vars.length - i' <e27.vars.length - i))))))))∧((decide ((i:Int)<((e27.vars.length:Nat):Int)))=false→cL ((k:Int)+(1:Int))∧ ∃(k' :Nat) (sn' :List Bool),((k:Int)+(1:Int))=(k' :Int)∧sm.map iC=sn'.map iC∧(k' ≤q.atoms.length∧sn' =(List.range q.variableCount.toNat).map (fY q.atoms k' [] 0)∧(q.atoms.take k').all (dW q.variableCount)=true)∧q.atoms.length - k' <q.atoms.length - k))))))))∧((decide ((k:Int)<((q.atoms.length:Nat):Int)))=false→aPr sn false∧(!(decide (false∈sn)))=(bP q)∧True))))))))) (by kernel_rfl) ?_
 intro n0
 simp only [List.length_map] at n0
 refine ⟨gB _ _ _,fun g12=>?_,fun g12=>?_⟩
 ·replace g12:=nt g12
  have hbad:(dM q.variableCount 1 4&&dM (q.atoms.length:Nat) 1 4)=false:=by first | (rw [g12];rfl) | (rw [g12,c0];rfl)
  refine ⟨?_,trivial⟩
  ·first | (exact (lK hbad).symm) | (exact (gY h27 hA).symm) | (rw [jF hpar hall,hs,fR (by omega),pJ])
 ·replace g12:=nf g12
  refine ⟨List.length_map _,gB _ _ _,fun c0=>?_,fun c0=>?_⟩
  ·replace c0:=nt c0
   have hbad:(dM q.variableCount 1 4&&dM (q.atoms.length:Nat) 1 4)=false:=by first | (rw [g12];rfl) | (rw [g12,c0];rfl)
   refine ⟨?_,trivial⟩
   ·first | (exact (lK hbad).symm) | (exact (gY h27 hA).symm) | (rw [jF hpar hall,hs,fR (by omega),pJ])
  ·replace c0:=nf c0
   have hpar:(dM q.variableCount 1 4&&dM (q.atoms.length:Nat) 1 4)=true:=by rw [g12,c0];rfl
   have hn:=dP g12
   refine ⟨by omega,by omega,by omega,by omega,by first | (rw [List.map_replicate];done) | (rw [List.map_replicate];rfl),List.length_map _,⟨0,List.replicate ((q.variableCount).toNat) false,rfl,rfl,Nat.zero_le _,aOH _ _ _,rfl⟩,fun k sn ⟨hk,hs,ha⟩=>?_⟩
   refine ⟨fun c1=>?_,fun c1=>?_⟩
   ·replace c1:=yq c1
    refine ⟨by omega,rfl,by omega,fun e27 h27=>?_⟩
    refine ⟨aGJ _,fun g33=>?_,fun g33=>?_⟩
    ·replace g33:=nt g33
     have hA:dW q.variableCount e27=false:=by first | (rw [dW,g33];rfl) | (rw [dW,g33,c2];rfl)
     refine ⟨?_,trivial⟩
     ·first | (exact (lK hbad).symm) | (exact (gY h27 hA).symm) | (rw [jF hpar hall,hs,fR (by omega),pJ])
    ·replace g33:=nf g33
     refine ⟨List.length_map _,gB _ _ _,fun c2=>?_,fun c2=>?_⟩
     ·replace c2:=nt c2
      have hA:dW q.variableCount e27=false:=by first | (rw [dW,g33];rfl) | (rw [dW,g33,c2];rfl)
      refine ⟨?_,trivial⟩
      ·first | (exact (lK hbad).symm) | (exact (gY h27 hA).symm) | (rw [jF hpar hall,hs,fR (by omega),pJ])
     ·replace c2:=nf c2
      have w9:=dP c2
      refine ⟨List.length_map _,⟨0,sn,rfl,rfl,Nat.zero_le _,by rw [hs,aE3],rfl⟩,fun i sm ⟨hi,hm,hv⟩=>?_⟩
      have hml:sm.length=q.variableCount.toNat:=by rw [hm];simp
      refine ⟨fun c3=>?_,fun c3=>?_⟩
      ·replace c3:=yq c3
       refine ⟨by omega,rfl,by omega,fun e46 h46=>?_⟩
       have hx:=List.mem_of_getElem? h46
       refine ⟨by first | exact w1 | exact ⟨by omega,by omega⟩,gB _ _ _,fun g54=>?_,fun g54=>?_⟩
       ·replace g54:=nt g54
        have hp:iL q.variableCount e27.vars i=false:=by first | (rw [iL,aP h46,g54];rfl) | (rw [iL,aP h46,g54,c4];rfl)
        have hA:dW q.variableCount e27=false:=by rw [dW,wC,dS (by omega) hp];simp
        refine ⟨?_,trivial⟩
        ·first | (exact (lK hbad).symm) | (exact (gY h27 hA).symm) | (rw [jF hpar hall,hs,fR (by omega),pJ])
       ·replace g54:=nf g54
        refine ⟨rfl,by omega,by omega,ctI _ _,fun c4=>?_,fun c4=>?_⟩
        ·have hp:iL q.variableCount e27.vars i=false:=by first | (rw [iL,aP h46,g54];rfl) | (rw [iL,aP h46,g54,c4];rfl)
         have hA:dW q.variableCount e27=false:=by rw [dW,wC,dS (by omega) hp];simp
         refine ⟨?_,trivial⟩
         ·first | (exact (lK hbad).symm) | (exact (gY h27 hA).symm) | (rw [jF hpar hall,hs,fR (by omega),pJ])
        ·have hp:iL q.variableCount e27.vars i=true:=by rw [iL,aP h46,g54,c4];rfl
         have hb:=dP g54
         refine ⟨by omega,List.length_map _,by omega,rfl,by omega,fun s14_3 hs14_3=>⟨rfl,Nat.le_of_ble_eq_true rfl,rfl,?_⟩⟩
         refine ⟨by first | exact w1 | exact ⟨by omega,by omega⟩,?_⟩
         exact ⟨i+1,_,rfl,rfl,⟨by omega,by rw [hm,aOB,aE4 h46 (by omega)],fC hv hp⟩,by omega⟩
      ·replace c3:=nq c3
       have hA:dW q.variableCount e27=true:=by rw [dW,g33,c2,wC,show e27.vars.length=i by omega,hv];rfl
       refine ⟨by first | exact w1 | exact ⟨by omega,by omega⟩,?_⟩
       exact ⟨k+1,_,rfl,rfl,⟨by omega,by rw [hm,aE5 h27 (by omega) []],dO h27 ha hA⟩,by omega⟩
   ·replace c1:=nq c1
    have hall:=bR (by omega) ha
    refine ⟨ctB _ _,?_,trivial⟩
    ·first | (exact (lK hbad).symm) | (exact (gY h27 hA).symm) | (rw [jF hpar hall,hs,fR (by omega),pJ])
abbrev tC (q:QueryD):Prop:=cO Tryz.prog 169 [.agg [.int .i64 q.variableCount,.sl 131 2 (q.atoms.map aV)]] (vB (bP q)) []
theorem aEb (q:QueryD):tC q:=by
 refine aT bF aQ Tryz.func169 (by kernel_rfl) (.call (vB (dM q.variableCount (1:Int) (4:Int))) []<| .br (.fin []) (.len q.atoms.length<| .call (vB (dM ((q.atoms.length:Nat):Int) (1:Int) (4:Int))) []<| .lit<| .lit<| .br (.fin []) (.loop (Nat × Int) (Q2 Nat Int) [3,4,5,6,18,19,20,21,22,23,24,25,26,27,28,29,30,31,32,33,34,35,36,37,38,39,40,41,42,43,44,45,46,47,48,49,50,51,52,53,54,55,56,57,58,59,60,61,62,63,64,65,66,67,68,69,70,71,72,73,74,75,76,77] [500] (fun yy0=>[(4,vI (yy0.1:Int)),(3,vI yy0.2)]) (fun yy0=>[]) (fun yy0=>yy0.1≤q.atoms.length∧yy0.2=m4 (fY q.atoms yy0.1 [] 0)∧(q.atoms.take yy0.1).all (dW q.variableCount)=true) (fun yy0=>q.atoms.length - yy0.1) (fun yy0=> .len q.atoms.length<| .br (.elem _ aV q.atoms (fun e28=> .call (vB (dR e28.name)) []<| .br (.fin []) (.len e28.vars.length<| .call (vB (dM ((e28.vars.length:Nat):Int) (1:Int) (3:Int))) []<| .lit<| .lit<| .br (.fin []) (.loop (Nat × Int) (Q2 Nat Int) [3,6,41,42,43,44,45,46,47,48,49,50,51,52,53,54,55,56,57,58,59,60,61,62,63,64,65,66,67,68,69,70,71,72,73,74,75,76,77] [] (fun yy1=>[(6,vI (yy1.1:Int)),(3,vI yy1.2)]) (fun yy1=>[]) (fun yy1=>yy1.1≤e28.vars.length∧yy1.2=m4 (fY q.atoms yy0.1 e28.vars yy1.1)∧(List.range yy1.1).all (iL q.variableCount e28.vars)=true) (fun yy1=>e28.vars.length - yy1.1) (fun yy1=> .len e28.vars.length<| .br (.elem _ intD e28.vars (fun e51=> .call (vB (dM e51 (0:Int) (q.variableCount - (1:Int)))) []<| .br (.fin []) (.sub Int intD e28.vars<| .elem _ intD e28.vars (fun e66=> .call (vB (decide (e66∈(e28.vars.take yy1.1)))) []<| .lit<| .br (.fin []) (.elem _ intD e28.vars (fun e74=> .back [])))))) (.back [])))))) (.fin []))))) (p:=(q.atoms.map aV).length≤9223372036854775807→eL q.variableCount (1:Int) (4:Int)∧(((!(dM q.variableCount (1:Int) (4:Int)))=true→(false)=(bP q)∧True)∧((!(dM q.variableCount (1:Int) (4:Int)))=false→Lm aV q.atoms∧(eL ((q.atoms.length:Nat):Int) (1:Int) (4:Int)∧(((!(dM ((q.atoms.length:Nat):Int) (1:Int) (4:Int)))=true→(false)=(bP q)∧True)∧((!(dM ((q.atoms.length:Nat):Int) (1:Int) (4:Int)))=false→(∃(k:Nat) (o:Int),(0:Int)=(k:Int)∧(0:Int)=o∧k≤q.atoms.length∧o=m4 (fY q.atoms k [] 0)∧(q.atoms.take k).all (dW q.variableCount)=true)∧ ∀(k:Nat) (o:Int),(k≤q.atoms.length∧o=m4 (fY q.atoms k [] 0)∧(q.atoms.take k).all (dW q.variableCount)=true)→Lm aV q.atoms∧(((decide ((k:Int)<((q.atoms.length:Nat):Int)))=true→0≤(k:Int)∧Em aV q.atoms k fun e28=>vM e28.name∧(((!(dR e28.name))=true→(false)=(bP q)∧True)∧((!(dR e28.name))=false→Lm intD e28.vars∧(eL ((e28.vars.length:Nat):Int) (1:Int) (3:Int)∧(((!(dM ((e28.vars.length:Nat):Int) (1:Int) (3:Int)))=true→(false)=(bP q)∧True)∧((!(dM ((e28.vars.length:Nat):Int) (1:Int) (3:Int)))=false→(∃(i:Nat) (p:Int),(0:Int)=(i:Int)∧o=p∧i≤e28.vars.length∧p=m4 (fY q.atoms k e28.vars i)∧(List.range i).all (iL q.variableCount e28.vars)=true)∧ ∀(i:Nat) (p:Int),(i≤e28.vars.length∧p=m4 (fY q.atoms k e28.vars i)∧(List.range i).all (iL q.variableCount e28.vars)=true)→Lm intD e28.vars∧(((decide ((i:Int)<((e28.vars.length:Nat):Int)))=true→0≤(i:Int)∧Em intD e28.vars i fun e51=>cL (q.variableCount - (1:Int))∧(eL e51 (0:Int) (q.variableCount - (1:Int))∧(((!(dM e51 (0:Int) (q.variableCount - (1:Int))))=true→(false)=(bP q)∧True)∧((!(dM e51 (0:Int) (q.variableCount - (1:Int))))=false→e28.vars.map intD=e28.vars.map intD∧0≤(i:Int)∧(i:Int)≤((e28.vars.length:Nat):Int)∧(0≤(i:Int)∧Em intD e28.vars i fun e66=>aIb (e28.vars.take i) e66∧(((decide (e66∈(e28.vars.take i)))=true→(false)=(bP q)∧True)∧((decide (e66∈(e28.vars.take i)))=false→0≤(i:Int)∧Em intD e28.vars i fun e74=>(0≤e74∧e74≤64)∧cL ((1:Int)*2^(Int.toNat e74))∧cL ((i:Int)+(1:Int))∧ ∃(i' :Nat) (p' :Int),((i:Int)+(1:Int))=(i' :Int)∧(fL .or .i64 p ((1:Int)*2^(Int.toNat e74)))=p' ∧(i' ≤e28.vars.length∧p' =m4 (fY q.atoms k e28.vars i')∧(List.range i').all (iL q.variableCount e28.vars)=true)∧e28.vars.length - i' <e28.vars.length - i)))))))∧((decide ((i:Int)<((e28.vars.length:Nat):Int)))=false→cL ((k:Int)+(1:Int))∧ ∃(k' :Nat) (o' :Int),((k:Int)+(1:Int))=(k' :Int)∧p=o' ∧(k' ≤q.atoms.length∧o' =m4 (fY q.atoms k' [] 0)∧(q.atoms.take k').all (dW q.variableCount)=true)∧q.atoms.length - k' <q.atoms.length - k))))))))∧((decide ((k:Int)<((q.atoms.length:Nat):Int)))=false→(0≤q.variableCount∧q.variableCount≤64)∧cL ((1:Int)*2^(Int.toNat q.variableCount))∧cL (((1:Int)*2^(Int.toNat q.variableCount)) - (1:Int))∧(decide (o=(((1:Int)*2^(Int.toNat q.variableCount)) - (1:Int))))=(bP q)∧True)))))))) (by kernel_rfl) ?_
 intro n0
 simp only [List.length_map] at n0
 refine ⟨gP _ _ _,fun g11=>?_,fun g11=>?_⟩
 ·replace g11:=nt g11
  have hbad:(dM q.variableCount 1 4&&dM (q.atoms.length:Nat) 1 4)=false:=by first | (rw [g11];rfl) | (rw [g11,c0];rfl)
  refine ⟨?_,trivial⟩
  ·first | (exact (lK hbad).symm) | (exact (gY h28 hA).symm) | (rw [jF hpar hall,hs,fR (by omega)];exact sV hn fun v hv=>pK hall hn.1 hv)
 ·replace g11:=nf g11
  refine ⟨List.length_map _,gP _ _ _,fun c0=>?_,fun c0=>?_⟩
  ·replace c0:=nt c0
   have hbad:(dM q.variableCount 1 4&&dM (q.atoms.length:Nat) 1 4)=false:=by first | (rw [g11];rfl) | (rw [g11,c0];rfl)
   refine ⟨?_,trivial⟩
   ·first | (exact (lK hbad).symm) | (exact (gY h28 hA).symm) | (rw [jF hpar hall,hs,fR (by omega)];exact sV hn fun v hv=>pK hall hn.1 hv)
  ·replace c0:=nf c0
   have hpar:(dM q.variableCount 1 4&&dM (q.atoms.length:Nat) 1 4)=true:=by rw [g11,c0];rfl
   have hn:=dP g11
   refine ⟨⟨0,(0:Int),rfl,rfl,Nat.zero_le _,aQy _ _,rfl⟩,fun k o ⟨hk,hs,ha⟩=>?_⟩
   refine ⟨List.length_map _,fun c1=>?_,fun c1=>?_⟩
   ·replace c1:=yq c1
    refine ⟨by omega,rfl,by omega,fun e28 h28=>?_⟩
    refine ⟨aGK _,fun g34=>?_,fun g34=>?_⟩
    ·replace g34:=nt g34
     have hA:dW q.variableCount e28=false:=by first | (rw [dW,g34];rfl) | (rw [dW,g34,c2];rfl)
     refine ⟨?_,trivial⟩
     ·first | (exact (lK hbad).symm) | (exact (gY h28 hA).symm) | (rw [jF hpar hall,hs,fR (by omega)];exact sV hn fun v hv=>pK hall hn.1 hv)
    ·replace g34:=nf g34
     refine ⟨List.length_map _,gP _ _ _,fun c2=>?_,fun c2=>?_⟩
     ·replace c2:=nt c2
      have hA:dW q.variableCount e28=false:=by first | (rw [dW,g34];rfl) | (rw [dW,g34,c2];rfl)
      refine ⟨?_,trivial⟩
      ·first | (exact (lK hbad).symm) | (exact (gY h28 hA).symm) | (rw [jF hpar hall,hs,fR (by omega)];exact sV hn fun v hv=>pK hall hn.1 hv)
     ·replace c2:=nf c2
      have w9:=dP c2
      refine ⟨⟨0,o,rfl,rfl,Nat.zero_le _,by rw [hs,aE3],rfl⟩,fun i p ⟨hi,hm,hv⟩=>?_⟩
      refine ⟨List.length_map _,fun c3=>?_,fun c3=>?_⟩
      ·replace c3:=yq c3
       refine ⟨by omega,rfl,by omega,fun e51 h51=>?_⟩
       have hx:=List.mem_of_getElem? h51
       refine ⟨by first | exact w1 | exact ⟨by omega,by omega⟩,gP _ _ _,fun g58=>?_,fun g58=>?_⟩
       ·replace g58:=nt g58
        have hp:iL q.variableCount e28.vars i=false:=by first | (rw [iL,aP h51,g58];rfl) | (rw [iL,aP h51,g58,c4];rfl)
        have hA:dW q.variableCount e28=false:=by rw [dW,wC,dS (by omega) hp];simp
        refine ⟨?_,trivial⟩
        ·first | (exact (lK hbad).symm) | (exact (gY h28 hA).symm) | (rw [jF hpar hall,hs,fR (by omega)];exact sV hn fun v hv=>pK hall hn.1 hv)
       ·replace g58:=nf g58
        refine ⟨rfl,by omega,by omega,by omega,rfl,by omega,fun e66 h66=>?_⟩
        obtain rfl:=(bA h51 h66).symm
        refine ⟨hsI _ _,fun c4=>?_,fun c4=>?_⟩
        ·have hp:iL q.variableCount e28.vars i=false:=by first | (rw [iL,aP h51,g58];rfl) | (rw [iL,aP h51,g58,c4];rfl)
         have hA:dW q.variableCount e28=false:=by rw [dW,wC,dS (by omega) hp];simp
         refine ⟨?_,trivial⟩
         ·first | (exact (lK hbad).symm) | (exact (gY h28 hA).symm) | (rw [jF hpar hall,hs,fR (by omega)];exact sV hn fun v hv=>pK hall hn.1 hv)
        ·have hp:iL q.variableCount e28.vars i=true:=by rw [iL,aP h51,g58,c4];rfl
         have hb:=dP g58
         obtain ⟨w1,w2,w3⟩:=tA (x:=e51) (jV (by omega) (by omega))
         refine ⟨by omega,rfl,by omega,fun e74 h74=>?_⟩
         obtain rfl:=(bA h51 h74).symm
         refine ⟨⟨by omega,by omega⟩,by first | exact w1 | exact ⟨by omega,by omega⟩,by first | exact w1 | exact ⟨by omega,by omega⟩,?_⟩
         exact ⟨i+1,_,rfl,rfl,⟨by omega,by rw [hm,aKh (by omega),aE4 h51 (by omega)],fC hv hp⟩,by omega⟩
      ·replace c3:=nq c3
       have hA:dW q.variableCount e28=true:=by rw [dW,g34,c2,wC,show e28.vars.length=i by omega,hv];rfl
       refine ⟨by first | exact w1 | exact ⟨by omega,by omega⟩,?_⟩
       exact ⟨k+1,_,rfl,rfl,⟨by omega,by rw [hm,aE5 h28 (by omega) []],dO h28 ha hA⟩,by omega⟩
   ·replace c1:=nq c1
    have hall:=bR (by omega) ha
    obtain ⟨w1,w2,w3⟩:=tA (x:=q.variableCount - 1) (jV (by omega) (by omega))
    have w4:=iP (n:=q.variableCount.toNat) ⟨by omega,by omega⟩
    refine ⟨⟨by omega,by omega⟩,by first | exact w1 | exact ⟨by omega,by omega⟩,by first | exact w1 | exact ⟨by omega,by omega⟩,?_,trivial⟩
    ·first | (exact (lK hbad).symm) | (exact (gY h28 hA).symm) | (rw [jF hpar hall,hs,fR (by omega)];exact sV hn fun v hv=>pK hall hn.1 hv)
abbrev wH (d:aR) (f:aW):AV × List (Nat × Rs):=(.own 0,[(0,.arr 3 1 true ((iD d f).map intD))])
abbrev aCT (d:aR) (f:aW):Prop:=cO Tryz.prog 232 [.agg [.sl 162 3 (d.tables.map aO)],.agg [.str f.name,.sl 3 1 (f.src.map intD),.int .i64 f.dst]] (wH d f).1 (wH d f).2
theorem aLt (d:aR) (f:aW) (hc:bD d≤1048576):aCT d f:=by
 refine aT bF aQ Tryz.func232 (by kernel_rfl) (.call (vB (dX d f)) []<| .br (.fin []) (.call (.tup [.agg [.p none (.str (((aE d f.name).1).name)),vI (((aE d f.name).1).arity),.p none (.sl 32 1 ((((aE d f.name).1).rows).map aC))],vB ((aE d f.name).2)]) []<| .len ((((aE d f.name).1).rows).length)<| .loop Nat (Q1 Nat) [7,8,9,10,11,12,13,14,29,30,31,32,33,34,35,36,37,38,39,40,41,42,43,44,45,46,47,48,49,50,51,52,53,54,55,56,57,58,59,60,61,62,63,64,65,66,67,68,69,70,71,72,73,77,78] [4800,5500] (fun k=>[(29,vI (k:Int))]) (fun k=>[]) (fun k=>k≤(aE d f.name).1.rows.length∧jE (aE d f.name).1.rows f.src f.dst k= []) (fun k=>(aE d f.name).1.rows.length - k) (fun k=> .br (.elem _ aC (((aE d f.name).1).rows) (fun e32=> .sub (List Int) aC (((aE d f.name).1).rows)<| .len (((((aE d f.name).1).rows).take k).length)<| .loop Nat (Q1 Nat) [9,10,11,12,13,14,39,40,41,42,43,44,45,46,47,48,49,50,51,52,53,54,55,56,57,58,59,60,61,62,63,64,65,66,67,68,69,70,71,72,73,77] [4800,5500] (fun i=>[(39,vI (i:Int))]) (fun i=>[]) (fun i=>i≤k∧iU (aE d f.name).1.rows f.src f.dst k i= []) (fun i=>k - i) (fun i=> .br (.elem _ aC ((((aE d f.name).1).rows).take k) (fun e42=>bH (pC e42 f.src)<| bH (pC e32 f.src)<| .call (vB (decide (((eT e42 f.src).1)=((eT e32 f.src).1)))) []<| .br (.elem _ intD e42 (fun e65=> .elem _ intD e32 (fun e70=> .lit<| .lit<| .lit<| .br (.fin [(0,7600)]) (.back [])))) (.back []))) (.back [])))) (.fin [])))) (p:=(d.tables.map aO).length≤9223372036854775807→(f.src.map intD).length≤9223372036854775807→sQ d f∧(((!(dX d f))=true→[]=(iD d f).map intD∧True)∧((!(dX d f))=false→cO Tryz.prog 148 [.agg [.sl 162 3 (d.tables.map aO)],.one (.str f.name)] (.tup [.agg [.p none (.str (((aE d f.name).1).name)),vI (((aE d f.name).1).arity),.p none (.sl 32 1 ((((aE d f.name).1).rows).map aC))],vB ((aE d f.name).2)]) []∧(Lm aC (((aE d f.name).1).rows)∧((∃(k:Nat),(0:Int)=(k:Int)∧k≤(aE d f.name).1.rows.length∧jE (aE d f.name).1.rows f.src f.dst k= [])∧ ∀(k:Nat),(k≤(aE d f.name).1.rows.length∧jE (aE d f.name).1.rows f.src f.dst k= [])→((decide ((k:Int)<(((((aE d f.name).1).rows).length:Nat):Int)))=true→0≤(k:Int)∧Em aC (((aE d f.name).1).rows) k fun e32=>(((aE d f.name).1).rows).map aC=(((aE d f.name).1).rows).map aC∧0≤(k:Int)∧(k:Int)≤(((((aE d f.name).1).rows).length:Nat):Int)∧(Lm aC ((((aE d f.name).1).rows).take k)∧((∃(i:Nat),(0:Int)=(i:Int)∧i≤k∧iU (aE d f.name).1.rows f.src f.dst k i= [])∧ ∀(i:Nat),(i≤k∧iU (aE d f.name).1.rows f.src f.dst k i= [])→((decide ((i:Int)<((((((aE d f.name).1).rows).take k).length:Nat):Int)))=true→0≤(i:Int)∧Em aC ((((aE d f.name).1).rows).take k) i fun e42=>sM e42 f.src∧(sM e32 f.src∧(oG ((eT e42 f.src).1) ((eT e32 f.src).1)∧(((decide (((eT e42 f.src).1)=((eT e32 f.src).1)))=true→0≤f.dst∧Em intD e42 ((f.dst).toNat) fun e65=>0≤f.dst∧Em intD e32 ((f.dst).toNat) fun e70=>((!(decide (e65=e70)))=true→[[.int .i64 (i:Int)],[.int .i64 (k:Int)]]=(iD d f).map intD∧True)∧((!(decide (e65=e70)))=false→cL ((i:Int)+(1:Int))∧ ∃(i' :Nat),((i:Int)+(1:Int))=(i' :Int)∧(i' ≤k∧iU (aE d f.name).1.rows f.src f.dst k i' = [])∧k - i' <k - i))∧((decide (((eT e42 f.src).1)=((eT e32 f.src).1)))=false→cL ((i:Int)+(1:Int))∧ ∃(i' :Nat),((i:Int)+(1:Int))=(i' :Int)∧(i' ≤k∧iU (aE d f.name).1.rows f.src f.dst k i' = [])∧k - i' <k - i)))))∧((decide ((i:Int)<((((((aE d f.name).1).rows).take k).length:Nat):Int)))=false→cL ((k:Int)+(1:Int))∧ ∃(k' :Nat),((k:Int)+(1:Int))=(k' :Int)∧(k' ≤(aE d f.name).1.rows.length∧jE (aE d f.name).1.rows f.src f.dst k' = [])∧(aE d f.name).1.rows.length - k' <(aE d f.name).1.rows.length - k))))∧((decide ((k:Int)<(((((aE d f.name).1).rows).length:Nat):Int)))=false→[]=(iD d f).map intD∧True)))))) (by kernel_rfl) ?_
 intro n0 n1
 simp only [List.length_map] at n0 n1
 refine ⟨aEX _ _ (by omega),fun c0=>?_,fun c0=>?_⟩
 ·replace c0:=nt c0
  have hbad:iD d f= []:=by rw [iD,if_neg (by simpa using c0)]
  refine ⟨?_,trivial⟩
  ·first | (rw [hbad]<;>rfl) | (rw [hE]<;>rfl) | (rw [hV,hE]<;>rfl)
 ·replace c0:=nf c0
  have hok:dX d f=true:=by simpa using c0
  obtain ⟨hT,hd0,hd1,hsl⟩:=aCO hok
  have hT8:=bT hT
  have hV:iD d f=jE (aE d f.name).1.rows f.src f.dst (aE d f.name).1.rows.length:=by rw [iD,if_pos hok]
  refine ⟨iF (pG _ f.name (by omega)) rfl,List.length_map _,⟨0,rfl,Nat.zero_le _,rfl⟩,fun k ⟨hk,hv⟩=>?_⟩
  refine ⟨fun c1=>?_,fun c1=>?_⟩
  ·replace c1:=yq c1
   refine ⟨by omega,rfl,by first | omega | (simp only [List.length_take];omega),fun e32 h32=>?_⟩
   have hl32:=mO hT (List.mem_of_getElem? h32)
   refine ⟨rfl,by omega,by first | omega | (simp only [List.length_take];omega),List.length_map _,⟨0,rfl,Nat.zero_le _,rfl⟩,fun i ⟨hi,hw⟩=>?_⟩
   have htl:((aE d f.name).1.rows.take k).length=k:=by rw [List.length_take];omega
   refine ⟨fun c2=>?_,fun c2=>?_⟩
   ·replace c2:=yq c2
    refine ⟨by omega,rfl,by first | omega | (simp only [List.length_take];omega),fun e42 h42=>?_⟩
    have hx:(aE d f.name).1.rows[i]? =some e42:=by rw [List.getElem?_take_of_lt (by omega)] at h42;exact h42
    have hl42:=mO hT (List.mem_of_getElem? hx)
    have hb:=aKg (cols:=f.src) (c:=f.dst) hx h32
    refine ⟨aDu _ _ (by omega),aDu _ _ (by omega),aAa _ _,fun g61=>?_,fun g61=>?_⟩
    ·replace g61:=yq g61
     refine ⟨by omega,rfl,by first | omega | (simp only [List.length_take];omega),fun e65 h65=>?_⟩
     refine ⟨by omega,rfl,by first | omega | (simp only [List.length_take];omega),fun e70 h70=>?_⟩
     refine ⟨fun c3=>?_,fun c3=>?_⟩
     ·replace c3:=nq (nt c3)
      have hB:aJj (aE d f.name).1.rows f.src f.dst i k=true:=by rw [hb,aP h65,aP h70];simp [*]
      have hE:=aEV hv hw hB (by omega) (by omega:k<(aE d f.name).1.rows.length)
      refine ⟨?_,trivial⟩
      ·first | (rw [hbad]<;>rfl) | (rw [hE]<;>rfl) | (rw [hV,hE]<;>rfl)
     ·replace c3:=yq (nf c3)
      refine ⟨⟨by omega,by omega⟩,?_⟩
      exact ⟨i+1,rfl,⟨by omega,aAq hw (by rw [hb];first | (simp [g61];done) | (rw [aP h65,aP h70];simp [*];done))⟩,by omega⟩
    ·replace g61:=nq g61
     refine ⟨⟨by omega,by omega⟩,?_⟩
     exact ⟨i+1,rfl,⟨by omega,aAq hw (by rw [hb];first | (simp [g61];done) | (rw [aP h65,aP h70];simp [*];done))⟩,by omega⟩
   ·replace c2:=nq c2
    refine ⟨⟨by omega,by omega⟩,?_⟩
    exact ⟨k+1,rfl,⟨by omega,aEW hv (by obtain rfl:i=k:=(by omega);exact hw)⟩,by omega⟩
  ·replace c1:=nq c1
   have hE:iD d f= []:=by rw [hV,show (aE d f.name).1.rows.length=k by omega,hv]
   refine ⟨?_,trivial⟩
   ·first | (rw [hbad]<;>rfl) | (rw [hE]<;>rfl) | (rw [hV,hE]<;>rfl)
abbrev wI (d:aR) (f:aW):AV × List (Nat × Rs):=(.own 0,[(0,.arr 3 1 true ((iD d f).map intD))])
abbrev aCU (d:aR) (f:aW):Prop:=cO Tryz.prog 213 [.agg [.sl 162 3 (d.tables.map aO)],.agg [.str f.name,.sl 3 1 (f.src.map intD),.int .i64 f.dst]] (wI d f).1 (wI d f).2
theorem aLu (d:aR) (f:aW) (hc:bD d≤1048576):aCU d f:=by
 refine aT bF aQ Tryz.func213 (by kernel_rfl) (.call (.tup [.agg [.p none (.str (((aE d f.name).1).name)),vI (((aE d f.name).1).arity),.p none (.sl 32 1 ((((aE d f.name).1).rows).map aC))],vB ((aE d f.name).2)]) []<| .loop Nat (Q1 Nat) [7,8,9,10,11,12,20,21,22,23,24,25,26,27,28,29,30,31,32,33,34,35,36,37,38,39,40,41,42,43,44,45,46,47,48,49,50,51,52,53,54,55,56,57,58,59,60,61,62,63,64,65,66,67,68,69,70,71,72,73,74,75,76,77,78,79,80,81,82,83] [4000,5600] (fun k=>[(7,vI (k:Int))]) (fun k=>[]) (fun k=>k≤(aE d f.name).1.rows.length∧jE (aE d f.name).1.rows f.src f.dst k= []) (fun k=>(aE d f.name).1.rows.length - k) (fun k=> .len ((((aE d f.name).1).rows).length)<| .br (.call (vB (dX d f)) []<| .lit<| .br (.elem _ aC (((aE d f.name).1).rows) (fun e36=>bH (mF e36 f.src)<| .loop Nat (Q1 Nat) [10,11,12,43,44,45,46,47,48,49,50,51,52,53,54,55,56,57,58,59,60,61,62,63,64,65,66,67,68,69,70,71,72,73,74,75,76,77,78,79,80,81,82,83] [5600] (fun i=>[(10,vI (i:Int))]) (fun i=>[]) (fun i=>i≤k∧iU (aE d f.name).1.rows f.src f.dst k i= []) (fun i=>k - i) (fun i=> .br (.elem _ aC (((aE d f.name).1).rows) (fun e52=>bH (mF e52 f.src)<| .call (vI (bS ((eT e52 f.src).1) ((eT e36 f.src).1))) []<| .br (.elem _ aC (((aE d f.name).1).rows) (fun e67=> .elem _ intD e67 (fun e71=> .elem _ aC (((aE d f.name).1).rows) (fun e76=> .elem _ intD e76 (fun e80=> .lit<| .lit<| .lit<| .br (.fin [(0,8600)]) (.back [])))))) (.back []))) (.back [])))) (.fin [(0,8700)])) (.fin [(0,8700)]))) (p:=(d.tables.map aO).length≤9223372036854775807→(f.src.map intD).length≤9223372036854775807→cO Tryz.prog 132 [.agg [.sl 162 3 (d.tables.map aO)],.one (.str f.name)] (.tup [.agg [.p none (.str (((aE d f.name).1).name)),vI (((aE d f.name).1).arity),.p none (.sl 32 1 ((((aE d f.name).1).rows).map aC))],vB ((aE d f.name).2)]) []∧((∃(k:Nat),(0:Int)=(k:Int)∧k≤(aE d f.name).1.rows.length∧jE (aE d f.name).1.rows f.src f.dst k= [])∧ ∀(k:Nat),(k≤(aE d f.name).1.rows.length∧jE (aE d f.name).1.rows f.src f.dst k= [])→Lm aC (((aE d f.name).1).rows)∧(((decide ((k:Int)<(((((aE d f.name).1).rows).length:Nat):Int)))=true→sR d f∧(((dX d f)=true→0≤(k:Int)∧Em aC (((aE d f.name).1).rows) k fun e36=>pD e36 f.src∧((∃(i:Nat),(0:Int)=(i:Int)∧i≤k∧iU (aE d f.name).1.rows f.src f.dst k i= [])∧ ∀(i:Nat),(i≤k∧iU (aE d f.name).1.rows f.src f.dst k i= [])→((decide ((i:Int)<(k:Int)))=true→0≤(i:Int)∧Em aC (((aE d f.name).1).rows) i fun e52=>pD e52 f.src∧(fB ((eT e52 f.src).1) ((eT e36 f.src).1)∧(((decide ((bS ((eT e52 f.src).1) ((eT e36 f.src).1))=(0:Int)))=true→0≤(i:Int)∧Em aC (((aE d f.name).1).rows) i fun e67=>0≤f.dst∧Em intD e67 ((f.dst).toNat) fun e71=>0≤(k:Int)∧Em aC (((aE d f.name).1).rows) k fun e76=>0≤f.dst∧Em intD e76 ((f.dst).toNat) fun e80=>((!(decide (e71=e80)))=true→[[.int .i64 (i:Int)],[.int .i64 (k:Int)]]=(iD d f).map intD∧True)∧((!(decide (e71=e80)))=false→cL ((i:Int)+(1:Int))∧ ∃(i' :Nat),((i:Int)+(1:Int))=(i' :Int)∧(i' ≤k∧iU (aE d f.name).1.rows f.src f.dst k i' = [])∧k - i' <k - i))∧((decide ((bS ((eT e52 f.src).1) ((eT e36 f.src).1))=(0:Int)))=false→cL ((i:Int)+(1:Int))∧ ∃(i' :Nat),((i:Int)+(1:Int))=(i' :Int)∧(i' ≤k∧iU (aE d f.name).1.rows f.src f.dst k i' = [])∧k - i' <k - i))))∧((decide ((i:Int)<(k:Int)))=false→cL ((k:Int)+(1:Int))∧ ∃(k' :Nat),((k:Int)+(1:Int))=(k' :Int)∧(k' ≤(aE d f.name).1.rows.length∧jE (aE d f.name).1.rows f.src f.dst k' = [])∧(aE d f.name).1.rows.length - k' <(aE d f.name).1.rows.length - k)))∧((dX d f)=false→[]=(iD d f).map intD∧True)))∧((decide ((k:Int)<(((((aE d f.name).1).rows).length:Nat):Int)))=false→[]=(iD d f).map intD∧True)))) (by kernel_rfl) ?_
 intro n0 n1
 simp only [List.length_map] at n0 n1
 refine ⟨iF (pH _ f.name (by omega)) rfl,⟨0,rfl,Nat.zero_le _,rfl⟩,fun k ⟨hk,hv⟩=>?_⟩
 refine ⟨List.length_map _,fun g25=>?_,fun g25=>?_⟩
 ·replace g25:=yq g25
  refine ⟨aEY _ _ (by omega),fun c0=>?_,fun c0=>?_⟩
  ·have hok:dX d f=true:=c0
   obtain ⟨hT,hd0,hd1,hsl⟩:=aCO hok
   have hT8:=bT hT
   have hV:iD d f=jE (aE d f.name).1.rows f.src f.dst (aE d f.name).1.rows.length:=by rw [iD,if_pos hok]
   refine ⟨by omega,rfl,by omega,fun e36 h36=>?_⟩
   have hl36:=mO hT (List.mem_of_getElem? h36)
   refine ⟨aAf _ _ (by omega),⟨0,rfl,Nat.zero_le _,rfl⟩,fun i ⟨hi,hw⟩=>?_⟩
   refine ⟨fun c1=>?_,fun c1=>?_⟩
   ·replace c1:=yq c1
    refine ⟨by omega,rfl,by omega,fun e52 h52=>?_⟩
    have hl52:=mO hT (List.mem_of_getElem? h52)
    have hb:=aKg (cols:=f.src) (c:=f.dst) h52 h36
    refine ⟨aAf _ _ (by omega),gW _ _,fun g63=>?_,fun g63=>?_⟩
    ·replace g63:=yq g63
     refine ⟨by omega,rfl,by omega,fun e67 h67=>?_⟩
     obtain rfl:=(bA h52 h67).symm
     refine ⟨by omega,rfl,by omega,fun e71 h71=>?_⟩
     refine ⟨by omega,rfl,by omega,fun e76 h76=>?_⟩
     obtain rfl:=(bA h36 h76).symm
     refine ⟨by omega,rfl,by omega,fun e80 h80=>?_⟩
     refine ⟨fun c2=>?_,fun c2=>?_⟩
     ·replace c2:=nq (nt c2)
      have hB:aJj (aE d f.name).1.rows f.src f.dst i k=true:=by rw [hb,aP h71,aP h80,eC.1 g63];simp [c2]
      have hE:=aEV hv hw hB (by omega) (by omega:k<(aE d f.name).1.rows.length)
      refine ⟨?_,trivial⟩
      ·first | (rw [hE]<;>rfl) | (rw [hV,hE]<;>rfl)
     ·replace c2:=yq (nf c2)
      refine ⟨⟨by omega,by omega⟩,?_⟩
      exact ⟨i+1,rfl,⟨by omega,aAq hw (by rw [hb];first | (simp [show ¬(eT e52 f.src).1=(eT e36 f.src).1 from fun q=>g63 (eC.2 q)];done) | (rw [aP h71,aP h80];simp [c2];done))⟩,by omega⟩
    ·replace g63:=nq g63
     refine ⟨⟨by omega,by omega⟩,?_⟩
     exact ⟨i+1,rfl,⟨by omega,aAq hw (by rw [hb];first | (simp [show ¬(eT e52 f.src).1=(eT e36 f.src).1 from fun q=>g63 (eC.2 q)];done) | (rw [aP h71,aP h80];simp [c2];done))⟩,by omega⟩
   ·replace c1:=nq c1
    refine ⟨⟨by omega,by omega⟩,?_⟩
    exact ⟨k+1,rfl,⟨by omega,aEW hv (by obtain rfl:i=k:=(by omega);exact hw)⟩,by omega⟩
  ·have hE:iD d f= []:=by first | (rw [iD,if_neg (by rw [c0];decide)];done) | (rw [iD];split<;>first | (rw [show (aE d f.name).1.rows.length=k by omega,hv];done) | rfl)
   refine ⟨?_,trivial⟩
   ·first | (rw [hE]<;>rfl) | (rw [hV,hE]<;>rfl)
 ·replace g25:=nq g25
  have hE:iD d f= []:=by first | (rw [iD,if_neg (by rw [c0];decide)];done) | (rw [iD];split<;>first | (rw [show (aE d f.name).1.rows.length=k by omega,hv];done) | rfl)
  refine ⟨?_,trivial⟩
  ·first | (rw [hE]<;>rfl) | (rw [hV,hE]<;>rfl)
abbrev aAv (d:aR) (f:aW):Prop:=cO Tryz.prog 152 [.agg [.sl 162 3 (d.tables.map aO)],.agg [.str f.name,.sl 3 1 (f.src.map intD),.int .i64 f.dst]] (vB (gL d f)) []
theorem aJn (d:aR) (f:aW) (hc:bD d≤1048576):aAv d f:=by
 refine aT bF aQ Tryz.func152 (by kernel_rfl) (.call (vB (dX d f)) []<| .br (bH (wH d f)<| .len ((iD d f).length)<| .fin []) (.fin [])) (p:=(d.tables.map aO).length≤9223372036854775807→(f.src.map intD).length≤9223372036854775807→sQ d f∧(((dX d f)=true→aCT d f∧Lm intD (iD d f)∧(decide ((((iD d f).length:Nat):Int)=(0:Int)))=(gL d f)∧True)∧((dX d f)=false→(false)=(gL d f)∧True))) (by kernel_rfl) ?_
 intro n0 n1
 simp only [List.length_map] at n0 n1
 refine ⟨aEX _ _ (by omega),fun g8=>?_,fun g8=>?_⟩
 ·refine ⟨aLt _ _ (by omega),List.length_map _,?_,trivial⟩
  ·first | (simp [gL, *];done) | (rw [gL,g8,nL];rfl)
 ·refine ⟨?_,trivial⟩
  ·first | (simp [gL, *];done) | (rw [gL,g8,nL];rfl)
abbrev aAw (d:aR) (f:aW):Prop:=cO Tryz.prog 136 [.agg [.sl 162 3 (d.tables.map aO)],.agg [.str f.name,.sl 3 1 (f.src.map intD),.int .i64 f.dst]] (vB (gL d f)) []
theorem aJo (d:aR) (f:aW) (hc:bD d≤1048576):aAw d f:=by
 refine aT bF aQ Tryz.func136 (by kernel_rfl) (.call (vB (dX d f)) []<| .br (bH (wI d f)<| .len ((iD d f).length)<| .fin []) (.fin [])) (p:=(d.tables.map aO).length≤9223372036854775807→(f.src.map intD).length≤9223372036854775807→sR d f∧(((dX d f)=true→aCU d f∧Lm intD (iD d f)∧(decide ((((iD d f).length:Nat):Int)=(0:Int)))=(gL d f)∧True)∧((dX d f)=false→(false)=(gL d f)∧True))) (by kernel_rfl) ?_
 intro n0 n1
 simp only [List.length_map] at n0 n1
 refine ⟨aEY _ _ (by omega),fun g8=>?_,fun g8=>?_⟩
 ·refine ⟨aLu _ _ (by omega),List.length_map _,?_,trivial⟩
  ·first | (simp [gL, *];done) | (rw [gL,g8,nL];rfl)
 ·refine ⟨?_,trivial⟩
  ·first | (simp [gL, *];done) | (rw [gL,g8,nL];rfl)
end Go.Proofs.YtokkjaflmcjlhaaGreat
