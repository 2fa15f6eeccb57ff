/-
  Contracts and plain laws, joined: part 12.
-/
import Derived.Test.YtdfebigfnjfgpaaGreatQP8
import Derived.Test.YtdfebigfnjfgpaaGreatQP9
import Derived.Test.YtdfebigfnjfgpaaGreatQP10
import Derived.Test.YtdfebigfnjfgpaaGreatQP7
import Derived.IntWalk
namespace Go.Proofs.YtdfebigfnjfgpaaGreat
open Go.ChangeShapes Go.WideShapes Go.ChangeAt Go.RowKit
set_option linter.unusedVariables false
set_option linter.unusedSimpArgs false
set_option maxRecDepth 100000
set_option maxHeartbeats 4000000
abbrev zW (name:ByteArray) (arity:Int) (rows:List (List Int)):AV × List (Nat × Rs):=(.tup [.agg [.p none (.str (((nQ name arity rows).1).name)),vI (((nQ name arity rows).1).arity),.own 0],vB ((nQ name arity rows).2)],[(0,.arr 39 1 true ((((nQ name arity rows).1).rows).map aC))])
abbrev aE2 (name:ByteArray) (arity:Int) (rows:List (List Int)):Prop:=cX Tryz.prog 196 [.one (.str name),.one (.int .i64 arity),.one (.sl 39 1 (rows.map aC))] (zW name arity rows).1 (zW name arity rows).2
theorem aPY (name:ByteArray) (arity:Int) (rows:List (List Int)) (hc:cM rows≤1048576):aE2 name arity rows:=by
 refine aX bG aR Tryz.func196 (by kernel_rfl) (.loop (Nat × (List (List Int))) (Q2 Nat (List (List Int))) [9,13,14,15,16,17,18,19,20,21,22,23,24,25,26,27,28,29,30,31,32] [800,3100,9000] (fun yy0=>[(9,vI (yy0.1:Int))]) (fun yy0=>[(800,some (.box 167 [.p none (.str name),vI arity,.own 9000])),(9000,some (.arr 39 1 true (yy0.2.map aC)))]) (fun yy0=>yy0.1≤rows.length∧yy0.2=cV (rows.take yy0.1)) (fun yy0=>rows.length - yy0.1) (fun yy0=> .len rows.length<| .br (.len yy0.2.length<| .lit<| .lit<| .br (.elem _ aC rows (fun e29=>cB (wI yy0.2 e29)<| .back [(800,800),(9000,3100)])) (.call (vB (aU (⟨name,arity,yy0.2⟩:aS))) []<| .br (.fin []) (.fin [(0,9000)]))) (.call (vB (aU (⟨name,arity,yy0.2⟩:aS))) []<| .br (.fin []) (.fin [(0,9000)])))) (p:=(rows.map aC).length≤9223372036854775807→(∃(k:Nat) (acc:List (List Int)),(0:Int)=(k:Int)∧name=name∧arity=arity∧[]=acc.map aC∧k≤rows.length∧acc=cV (rows.take k))∧ ∀(k:Nat) (acc:List (List Int)),(k≤rows.length∧acc=cV (rows.take k))→Lm aC rows∧(((decide ((k:Int)<((rows.length:Nat):Int)))=true→Lm aC acc∧(((decide (((acc.length:Nat):Int)≤(8:Int)))=true→0≤(k:Int)∧Em aC rows k fun e29=>aBg acc e29∧cC ((k:Int)+(1:Int))∧ ∃(k' :Nat) (acc' :List (List Int)),((k:Int)+(1:Int))=(k' :Int)∧name=name∧arity=arity∧(lO e29 acc).map aC=acc'.map aC∧(k' ≤rows.length∧acc' =cV (rows.take k'))∧rows.length - k' <rows.length - k)∧((decide (((acc.length:Nat):Int)≤(8:Int)))=false→pC (⟨name,arity,acc⟩:aS)∧(((!(aU (⟨name,arity,acc⟩:aS)))=true→ByteArray.empty=(((nQ name arity rows).1).name)∧(0:Int)=(((nQ name arity rows).1).arity)∧(false)=((nQ name arity rows).2)∧[]=(((nQ name arity rows).1).rows).map aC∧True)∧((!(aU (⟨name,arity,acc⟩:aS)))=false→name=(((nQ name arity rows).1).name)∧arity=(((nQ name arity rows).1).arity)∧(true)=((nQ name arity rows).2)∧acc.map aC=(((nQ name arity rows).1).rows).map aC∧True)))))∧((decide ((k:Int)<((rows.length:Nat):Int)))=false→pC (⟨name,arity,acc⟩:aS)∧(((!(aU (⟨name,arity,acc⟩:aS)))=true→ByteArray.empty=(((nQ name arity rows).1).name)∧(0:Int)=(((nQ name arity rows).1).arity)∧(false)=((nQ name arity rows).2)∧[]=(((nQ name arity rows).1).rows).map aC∧True)∧((!(aU (⟨name,arity,acc⟩:aS)))=false→name=(((nQ name arity rows).1).name)∧arity=(((nQ name arity rows).1).arity)∧(true)=((nQ name arity rows).2)∧acc.map aC=(((nQ name arity rows).1).rows).map aC∧True))))) (by kernel_rfl) ?_
 intro n0
 simp only [List.length_map] at n0
 have hlen:=fD rows
 refine ⟨⟨0,([]:List (List Int)),rfl,rfl,rfl,rfl,Nat.zero_le _,rfl⟩,fun k acc ⟨hk,ha⟩=>?_⟩
 refine ⟨List.length_map _,fun g17=>?_,fun g17=>?_⟩
 ·replace g17:=yq g17
  refine ⟨List.length_map _,fun c0=>?_,fun c0=>?_⟩
  ·replace c0:=yq c0
   have hp:=aLs rows k
   rw [←ha] at hp
   refine ⟨by omega,rfl,by omega,fun e29 h29=>?_⟩
   have hp3:=aAl h29
   refine ⟨aLk acc e29 (by omega) (by omega) (by omega),⟨by omega,by omega⟩,?_⟩
   exact ⟨k+1,_,rfl,rfl,rfl,rfl,⟨by omega,by rw [ha,bP h29,aCr]⟩,by omega⟩
  ·replace c0:=nq c0
   have hend:=aLt (name:=name) (arity:=arity) ha (by omega)
   refine ⟨zK (⟨name,arity,acc⟩:aS),fun c1=>?_,fun c1=>?_⟩
   ·replace c1:=nt c1
    have hbad:aU ⟨name,arity,cV rows⟩=false:=by rw [←hend.1];simpa using c1
    refine ⟨?_,?_,?_,?_,trivial⟩
    ·first | (rw [jR hbad]<;>rfl) | (rw [dP hok]<;>rfl) | (rw [dP hok];exact congrArg (List.map aC) hacc)
    ·first | (rw [jR hbad]<;>rfl) | (rw [dP hok]<;>rfl) | (rw [dP hok];exact congrArg (List.map aC) hacc)
    ·first | (rw [jR hbad]<;>rfl) | (rw [dP hok]<;>rfl) | (rw [dP hok];exact congrArg (List.map aC) hacc)
    ·first | (rw [jR hbad]<;>rfl) | (rw [dP hok]<;>rfl) | (rw [dP hok];exact congrArg (List.map aC) hacc)
   ·replace c1:=nf c1
    have hok0:aU ⟨name,arity,acc⟩=true:=by simpa using c1
    have hok:aU ⟨name,arity,cV rows⟩=true:=by rw [←hend.1];exact hok0
    have hacc:=hend.2 hok0
    refine ⟨?_,?_,?_,?_,trivial⟩
    ·first | (rw [jR hbad]<;>rfl) | (rw [dP hok]<;>rfl) | (rw [dP hok];exact congrArg (List.map aC) hacc)
    ·first | (rw [jR hbad]<;>rfl) | (rw [dP hok]<;>rfl) | (rw [dP hok];exact congrArg (List.map aC) hacc)
    ·first | (rw [jR hbad]<;>rfl) | (rw [dP hok]<;>rfl) | (rw [dP hok];exact congrArg (List.map aC) hacc)
    ·first | (rw [jR hbad]<;>rfl) | (rw [dP hok]<;>rfl) | (rw [dP hok];exact congrArg (List.map aC) hacc)
 ·replace g17:=nq g17
  have hend:=aLt (name:=name) (arity:=arity) ha (by omega)
  refine ⟨zK (⟨name,arity,acc⟩:aS),fun c1=>?_,fun c1=>?_⟩
  ·replace c1:=nt c1
   have hbad:aU ⟨name,arity,cV rows⟩=false:=by rw [←hend.1];simpa using c1
   refine ⟨?_,?_,?_,?_,trivial⟩
   ·first | (rw [jR hbad]<;>rfl) | (rw [dP hok]<;>rfl) | (rw [dP hok];exact congrArg (List.map aC) hacc)
   ·first | (rw [jR hbad]<;>rfl) | (rw [dP hok]<;>rfl) | (rw [dP hok];exact congrArg (List.map aC) hacc)
   ·first | (rw [jR hbad]<;>rfl) | (rw [dP hok]<;>rfl) | (rw [dP hok];exact congrArg (List.map aC) hacc)
   ·first | (rw [jR hbad]<;>rfl) | (rw [dP hok]<;>rfl) | (rw [dP hok];exact congrArg (List.map aC) hacc)
  ·replace c1:=nf c1
   have hok0:aU ⟨name,arity,acc⟩=true:=by simpa using c1
   have hok:aU ⟨name,arity,cV rows⟩=true:=by rw [←hend.1];exact hok0
   have hacc:=hend.2 hok0
   refine ⟨?_,?_,?_,?_,trivial⟩
   ·first | (rw [jR hbad]<;>rfl) | (rw [dP hok]<;>rfl) | (rw [dP hok];exact congrArg (List.map aC) hacc)
   ·first | (rw [jR hbad]<;>rfl) | (rw [dP hok]<;>rfl) | (rw [dP hok];exact congrArg (List.map aC) hacc)
   ·first | (rw [jR hbad]<;>rfl) | (rw [dP hok]<;>rfl) | (rw [dP hok];exact congrArg (List.map aC) hacc)
   ·first | (rw [jR hbad]<;>rfl) | (rw [dP hok]<;>rfl) | (rw [dP hok];exact congrArg (List.map aC) hacc)
abbrev zX (x:aB):AV × List (Nat × Rs):=(.tup [.agg [.p none (.str (((nR x).1).name)),vI (((nR x).1).arity),.own 0],vB ((nR x).2)],[(0,.arr 39 1 true ((((nR x).1).rows).map aC))])
abbrev aE3 (x:aB):Prop:=cX Tryz.prog 169 [.agg [.str x.name,.int .i64 x.arity,.int .i64 x.rowCount,.sl 203 3 (x.groups.map aA)]] (zX x).1 (zX x).2
theorem aPZ (x:aB) (hc:bA x≤1048576):aE3 x:=by
 refine aX bG aR Tryz.func169 (by kernel_rfl) (.len x.groups.length<| .br (.fin []) (.len x.groups.length<| .elem _ aA x.groups (fun e22=>cB (zW x.name x.arity e22.values)<| .fin [(0,2500)]))) (p:=(x.groups.map aA).length≤9223372036854775807→Lm aA x.groups∧(((decide (((x.groups.length:Nat):Int)=(0:Int)))=true→ByteArray.empty=(((nR x).1).name)∧(0:Int)=(((nR x).1).arity)∧(false)=((nR x).2)∧[]=(((nR x).1).rows).map aC∧True)∧((decide (((x.groups.length:Nat):Int)=(0:Int)))=false→Lm aA x.groups∧cC (((x.groups.length:Nat):Int) - (1:Int))∧0≤(((x.groups.length:Nat):Int) - (1:Int))∧Em aA x.groups ((((x.groups.length:Nat):Int) - (1:Int)).toNat) fun e22=>aE2 x.name x.arity e22.values∧(((nQ x.name x.arity e22.values).1).name)=(((nR x).1).name)∧(((nQ x.name x.arity e22.values).1).arity)=(((nR x).1).arity)∧((nQ x.name x.arity e22.values).2)=((nR x).2)∧(((nQ x.name x.arity e22.values).1).rows).map aC=(((nR x).1).rows).map aC∧True))) (by kernel_rfl) ?_
 intro n0
 simp only [List.length_map] at n0
 have q2:bA x=x.name.size+dD x.groups:=rfl
 have q5:=gW x.groups
 refine ⟨List.length_map _,fun c0=>?_,fun c0=>?_⟩
 ·replace c0:=yq c0
  have hT:nR x=(gV,false):=by rw [nR,if_pos (by omega)]
  refine ⟨?_,?_,?_,?_,trivial⟩
  ·(rw [hT]<;>rfl)
  ·(rw [hT]<;>rfl)
  ·(rw [hT]<;>rfl)
  ·(rw [hT]<;>rfl)
 ·replace c0:=nq c0
  have hT:nR x=nQ x.name x.arity (lS x):=by rw [nR,if_neg (by omega)]
  refine ⟨List.length_map _,⟨by omega,by omega⟩,by omega,rfl,by omega,fun e22 h22=>?_⟩
  have i22:x.groups[x.groups.length - 1]? =some e22:=by rw [←h22];congr 1;omega
  have hL:lS x=e22.values:=aLn i22
  rw [hL] at hT
  have q1:=iG i22
  have q3:bN e22=bS e22.columns+cM e22.values+bS e22.counts:=rfl
  have q6:bS e22.columns=e22.columns.length:=rfl
  have q7:bS e22.counts=e22.counts.length:=rfl
  have q8:=fD e22.values
  refine ⟨aPY _ _ _ (by omega),?_,?_,?_,?_,trivial⟩
  ·(rw [hT]<;>rfl)
  ·(rw [hT]<;>rfl)
  ·(rw [hT]<;>rfl)
  ·(rw [hT]<;>rfl)
abbrev wR (x:aB):Prop:=cX Tryz.prog 135 [.agg [.str x.name,.int .i64 x.arity,.int .i64 x.rowCount,.sl 203 3 (x.groups.map aA)]] (vB (bW x)) []
theorem aHG (x:aB) (hc:bA x≤1048576):wR x:=by
 refine aX bG aR Tryz.func135 (by kernel_rfl) (cB (zX x)<| .br (cB (aAn ((nR x).1))<| .call (vB (decide ((bF ((nR x).1))=x))) []<| .fin []) (.fin [])) (p:=(x.groups.map aA).length≤9223372036854775807→aE3 x∧((((nR x).2)=true→aDq ((nR x).1)∧sL (bF ((nR x).1)) x∧(decide ((bF ((nR x).1))=x))=(bW x)∧True)∧(((nR x).2)=false→(false)=(bW x)∧True))) (by kernel_rfl) ?_
 intro n0
 simp only [List.length_map] at n0
 have hst:=aEX (nR x).1
 have hsame:=aPL x
 refine ⟨aPZ x (by omega),fun g11=>?_,fun g11=>?_⟩
 ·refine ⟨aOK ((nR x).1),aCf _ _ (by omega),?_,trivial⟩
  ·first | (rw [←hsame,g11];simp;done) | (rw [←hsame];simp [*];done)
 ·refine ⟨?_,trivial⟩
  ·first | (rw [←hsame,g11];simp;done) | (rw [←hsame];simp [*];done)
theorem aAu:mM []= []:=List.eq_nil_of_length_eq_zero (aPV [])
theorem aAv (a:Int):mM [a]= [a]:=List.perm_singleton.1 (aBr [a])
def iA (x:aB) (cols:List Int):List Int:=if bW x=true then mM (eK (cW x) cols).2 else []
theorem aME {x:aB} {cols:List Int} (h:bW x=true):iA x cols=mM (eK (cW x) cols).2:=by rw [iA,if_pos h]
theorem aOP {x:aB} {cols:List Int} (h:bW x=false):iA x cols= []:=by rw [iA,if_neg (by rw [h];decide)]
theorem aP0 {x:aB} {cols:List Int} {k:Nat} {g:aG} (h:bW x=true) (hg:x.groups[k]? =some g) (hc:g.columns=cols):g.counts=(eK (cW x) cols).2:=by
 rw [aGg h,List.getElem?_map] at hg
 cases e:(bV x.arity)[k]? with
 | none=>rw [e] at hg;simp at hg
 | some c=>
   rw [e] at hg
   simp only [Option.map_some,Option.some.injEq] at hg
   subst hg
   rw [show c=cols from hc];rfl
theorem aRp {n:Int} (hn:1≤n∧n≤3) {cols:List Int} (h:dN (n - 1) cols=true) (hne:cols≠[]):cols∈bV n:=by
 have hl:=aCl h (by omega)
 have hlow:=aG7 h
 have hn3:n=1∨n=2∨n=3:=by omega
 match cols,hl with
 | [],_=>exact absurd rfl hne
 | [a],_=>
   have h0:=hlow 0 (by simp)
   simp at h0
   have ha:a=0∨a=1∨a=2:=by omega
   rcases hn3 with rfl | rfl | rfl<;>rcases ha with rfl | rfl | rfl<;>first | decide | (exfalso;omega)
 | [a,b],_=>
   have h0:=hlow 0 (by simp)
   have h1:=hlow 1 (by simp)
   have h2:=List.all_eq_true.1 h 1 (by simp)
   simp [jB] at h0 h1 h2
   have ha:(a=0∧b=1)∨(a=0∧b=2)∨(a=1∧b=2):=by omega
   rcases hn3 with rfl | rfl | rfl<;>rcases ha with ⟨rfl,rfl⟩ | ⟨rfl,rfl⟩ | ⟨rfl,rfl⟩<;>first | decide | (exfalso;omega)
 | [a,b,c],_=>
   have h0:=hlow 0 (by simp)
   have h1:=hlow 1 (by simp)
   have h2:=hlow 2 (by simp)
   have h3:=List.all_eq_true.1 h 1 (by simp)
   have h4:=List.all_eq_true.1 h 2 (by simp)
   simp [jB] at h0 h1 h2 h3 h4
   obtain ⟨rfl,rfl,rfl⟩:a=0∧b=1∧c=2:=by omega
   rcases hn3 with rfl | rfl | rfl<;>first | decide | (exfalso;omega)
 | _::_::_::_::_,hl=>simp at hl
theorem aRq {x:aB} {cols:List Int} (h:bW x=true) (hall:x.groups.all (fun g=> !decide (g.columns=cols))=true) (hne: ¬(cols.length:Int)=0):(eK (cW x) cols).2= []:=by
 obtain ⟨h1,h2⟩:=vF h
 cases hc:dN ((cW x).arity - 1) cols with
 | false=>rw [mW (by simp [hc])]
 | true=>
   exfalso
   have hm:=aRp (n:=x.arity) (aAo h) hc (fun e=>hne (by rw [e];rfl))
   rw [aGg h] at hall
   have:=List.all_eq_true.1 hall _ (List.mem_map_of_mem hm)
   simp [vE] at this
theorem aOQ {x:aB} (h:bW x=true):(x.rowCount=0→(eK (cW x) []).2= [])∧(¬x.rowCount=0→(eK (cW x) []).2= [x.rowCount]):=by
 obtain ⟨h1,h2⟩:=vF h
 have hc:=aPM h
 have hrows:(cW x).rows=lS x:=rfl
 rw [fG (t:=cW x) (cols:=[]) (by rw [h1];rfl)]
 have e:lG (cW x) []=List.replicate (lS x).length []:=by simp [lG,fF,aL5,hrows,List.map_const']
 have ev:aND (cW x) []=cV (List.replicate (lS x).length []):=by rw [aND,e,tW]
 show (x.rowCount=0→aLh (cW x) []= [])∧(¬x.rowCount=0→aLh (cW x) []= [x.rowCount])
 rw [aLh,ev,e]
 constructor
 ·intro h0
  rw [show (lS x).length=0 by omega];rfl
 ·intro h0
  have hpos:(lS x).length≠0:=by omega
  have hf:cV (List.replicate (lS x).length ([]:List Int))= [[]]:=by
   obtain ⟨p1,p2,_⟩:=tV (List.replicate (lS x).length ([]:List Int)) [] List.Pairwise.nil
   refine aF7 p1 (List.pairwise_singleton _ _) fun y=>?_
   have:=p2 y
   rw [cV,this]
   simp [List.mem_replicate,hpos]
  rw [hf,hc]
  simp [jC]
abbrev aBK (x:aB) (cols:List Int):Prop:=cX Tryz.prog 201 [.agg [.str x.name,.int .i64 x.arity,.int .i64 x.rowCount,.sl 203 3 (x.groups.map aA)],.one (.sl 3 1 (cols.map intD))] (.p none (.sl 3 1 ((mM (eK (cW x) cols).2).map intD))) []
theorem aMF (x:aB) (cols:List Int) (hc:bA x≤1048576) (hok:bW x=true):aBK x cols:=by
 refine aX bG aR Tryz.func201 (by kernel_rfl) (.stl 4<| .len cols.length<| .br (.br (.stl 4<| .fin []) (.stl 4<| .fin [])) (.loop Nat (Q1 Nat) [5,16,17,18,19,20,21,22,23,24,25,26,27,28,29,30,31] [] (fun k=>[(5,vI (k:Int))]) (fun k=>[]) (fun k=>k≤x.groups.length∧(x.groups.take k).all (fun g=> !decide (g.columns=cols))=true) (fun k=>x.groups.length - k) (fun k=> .len x.groups.length<| .br (.elem _ aA x.groups (fun e26=> .call (vI (cG e26.columns cols)) []<| .br (.elem _ aA x.groups (fun e35=> .call (.p none (.sl 3 1 ((mM e35.counts).map intD))) []<| .stl 4<| .fin [])) (.back []))) (.stl 4<| .fin [])))) (p:=(x.groups.map aA).length≤9223372036854775807→(cols.map intD).length≤9223372036854775807→Lm intD cols∧(((decide (((cols.length:Nat):Int)=(0:Int)))=true→((decide (x.rowCount=(0:Int)))=true→[]=(mM (eK (cW x) cols).2).map intD∧True)∧((decide (x.rowCount=(0:Int)))=false→[[.int .i64 x.rowCount]]=(mM (eK (cW x) cols).2).map intD∧True))∧((decide (((cols.length:Nat):Int)=(0:Int)))=false→(∃(k:Nat),(0:Int)=(k:Int)∧k≤x.groups.length∧(x.groups.take k).all (fun g=> !decide (g.columns=cols))=true)∧ ∀(k:Nat),(k≤x.groups.length∧(x.groups.take k).all (fun g=> !decide (g.columns=cols))=true)→Lm aA x.groups∧(((decide ((k:Int)<((x.groups.length:Nat):Int)))=true→0≤(k:Int)∧Em aA x.groups k fun e26=>gL e26.columns cols∧(((decide ((cG e26.columns cols)=(0:Int)))=true→0≤(k:Int)∧Em aA x.groups k fun e35=>aE1 e35.counts∧(mM e35.counts).map intD=(mM (eK (cW x) cols).2).map intD∧True)∧((decide ((cG e26.columns cols)=(0:Int)))=false→cC ((k:Int)+(1:Int))∧ ∃(k' :Nat),((k:Int)+(1:Int))=(k' :Int)∧(k' ≤x.groups.length∧(x.groups.take k').all (fun g=> !decide (g.columns=cols))=true)∧x.groups.length - k' <x.groups.length - k)))∧((decide ((k:Int)<((x.groups.length:Nat):Int)))=false→[]=(mM (eK (cW x) cols).2).map intD∧True))))) (by kernel_rfl) ?_
 intro n0 n1
 simp only [List.length_map] at n0 n1
 have q2:bA x=x.name.size+dD x.groups:=rfl
 have q5:=gW x.groups
 refine ⟨List.length_map _,fun c0=>?_,fun c0=>?_⟩
 ·replace c0:=yq c0
  have hcz:cols= []:=List.eq_nil_of_length_eq_zero (by omega)
  refine ⟨fun c1=>?_,fun c1=>?_⟩
  ·replace c1:=yq c1
   have hE:(eK (cW x) cols).2= []:=by rw [hcz];exact (aOQ hok).1 c1
   refine ⟨?_,trivial⟩
   ·first | (rw [hE];done) | (rw [hE,aAu]<;>rfl) | (rw [hE,aAv]<;>rfl)
  ·replace c1:=nq c1
   have hE:(eK (cW x) cols).2= [x.rowCount]:=by rw [hcz];exact (aOQ hok).2 c1
   refine ⟨?_,trivial⟩
   ·first | (rw [hE];done) | (rw [hE,aAu]<;>rfl) | (rw [hE,aAv]<;>rfl)
 ·replace c0:=nq c0
  refine ⟨⟨0,rfl,Nat.zero_le _,rfl⟩,fun k ⟨hk,ha⟩=>?_⟩
  refine ⟨List.length_map _,fun c2=>?_,fun c2=>?_⟩
  ·replace c2:=yq c2
   refine ⟨by omega,rfl,by omega,fun e26 h26=>?_⟩
   try (obtain rfl:=(aY h26 h26).symm)
   have q1:=iG h26
   have q3:bN e26=bS e26.columns+cM e26.values+bS e26.counts:=rfl
   have q6:bS e26.columns=e26.columns.length:=rfl
   have q7:bS e26.counts=e26.counts.length:=rfl
   have q8:=fD e26.values
   refine ⟨jQ _ _,fun c3=>?_,fun c3=>?_⟩
   ·replace c3:=yq c3
    have hE:=aP0 hok h26 (fA.1 c3)
    refine ⟨by omega,rfl,by omega,fun e35 h35=>?_⟩
    try (obtain rfl:=(aY h26 h35).symm)
    refine ⟨aPX _ (by omega),?_,trivial⟩
    ·first | (rw [hE];done) | (rw [hE,aAu]<;>rfl) | (rw [hE,aAv]<;>rfl)
   ·replace c3:=nq c3
    refine ⟨⟨by omega,by omega⟩,?_⟩
    exact ⟨k+1,rfl,⟨by omega,cS h26 ha (by simpa using fun q=>c3 (fA.2 q))⟩,by omega⟩
  ·replace c2:=nq c2
   have hE:=aRq hok (bE (by omega) ha) c0
   refine ⟨?_,trivial⟩
   ·first | (rw [hE];done) | (rw [hE,aAu]<;>rfl) | (rw [hE,aAv]<;>rfl)
abbrev aHH (x:aB) (cols:List Int):Prop:=cX Tryz.prog 172 [.agg [.str x.name,.int .i64 x.arity,.int .i64 x.rowCount,.sl 203 3 (x.groups.map aA)],.one (.sl 3 1 (cols.map intD))] (.p none (.sl 3 1 ((iA x cols).map intD))) []
theorem aRr (x:aB) (cols:List Int) (hc:bA x≤1048576) (hl:cols.length≤1048576):aHH x cols:=by
 refine aX bG aR Tryz.func172 (by kernel_rfl) (.stl 4<| .call (vB (bW x)) []<| .br (.stl 4<| .fin []) (.call (.p none (.sl 3 1 ((mM (eK (cW x) cols).2).map intD))) []<| .stl 4<| .fin [])) (p:=(x.groups.map aA).length≤9223372036854775807→(cols.map intD).length≤9223372036854775807→wR x∧(((!(bW x))=true→[]=(iA x cols).map intD∧True)∧((!(bW x))=false→aBK x cols∧(mM (eK (cW x) cols).2).map intD=(iA x cols).map intD∧True))) (by kernel_rfl) ?_
 intro n0 n1
 simp only [List.length_map] at n0 n1
 refine ⟨aHG _ (by omega),fun c0=>?_,fun c0=>?_⟩
 ·replace c0:=nt c0
  have hE:iA x cols= []:=aOP (by simpa using c0)
  refine ⟨?_,trivial⟩
  ·(rw [hE]<;>rfl)
 ·replace c0:=nf c0
  have hE:=aME (cols:=cols) (by simpa using c0:bW x=true)
  refine ⟨aMF _ _ (by omega) (by first | assumption | simpa using c0),?_,trivial⟩
  ·(rw [hE]<;>rfl)
abbrev aBt (x:aB) (cols:List Int):AV × List (Nat × Rs):=(.own 0,[(0,.arr 3 1 true ((iA x cols).map intD))])
abbrev aHI (x:aB) (cols:List Int):Prop:=cX Tryz.prog 189 [.agg [.str x.name,.int .i64 x.arity,.int .i64 x.rowCount,.sl 203 3 (x.groups.map aA)],.one (.sl 3 1 (cols.map intD))] (aBt x cols).1 (aBt x cols).2
theorem aRs (x:aB) (cols:List Int) (hc:bA x≤1048576) (hl:cols.length≤1048576):aHI x cols:=by
 refine aX bG aR Tryz.func189 (by kernel_rfl) (cB (rJ x)<| .br (.fin []) (cB (aBs (cW x) cols)<| .fin [(0,1600)])) (p:=(x.groups.map aA).length≤9223372036854775807→(cols.map intD).length≤9223372036854775807→wJ x∧(((!(bW x))=true→[]=(iA x cols).map intD∧True)∧((!(bW x))=false→aHF (cW x) cols∧(mM (eK (cW x) cols).2).map intD=(iA x cols).map intD∧True))) (by kernel_rfl) ?_
 intro n0 n1
 simp only [List.length_map] at n0 n1
 refine ⟨aGf x (by omega),fun c0=>?_,fun c0=>?_⟩
 ·replace c0:=nt c0
  have hE:iA x cols= []:=aOP (by simpa using c0)
  refine ⟨?_,trivial⟩
  ·(rw [hE]<;>rfl)
 ·replace c0:=nf c0
  have hE:=aME (cols:=cols) (by simpa using c0:bW x=true)
  refine ⟨aRo (cW x) _ (by omega),?_,trivial⟩
  ·(rw [hE]<;>rfl)
abbrev aE4 (x:aB) (cols:List Int):Prop:=cX Tryz.prog 139 [.agg [.str x.name,.int .i64 x.arity,.int .i64 x.rowCount,.sl 203 3 (x.groups.map aA)],.one (.sl 3 1 (cols.map intD))] (vI ((iA x cols).getD 0 0)) []
theorem aP1 (x:aB) (cols:List Int) (hc:bA x≤1048576) (hl:cols.length≤1048576):aE4 x cols:=by
 refine aX bG aR Tryz.func139 (by kernel_rfl) (.call (.p none (.sl 3 1 ((iA x cols).map intD))) []<| .len ((iA x cols).length)<| .br (.fin []) (.elem _ intD (iA x cols) (fun e13=> .fin []))) (p:=(x.groups.map aA).length≤9223372036854775807→(cols.map intD).length≤9223372036854775807→aHH x cols∧(Lm intD (iA x cols)∧(((decide ((((iA x cols).length:Nat):Int)=(0:Int)))=true→(0:Int)=((iA x cols).getD 0 0)∧True)∧((decide ((((iA x cols).length:Nat):Int)=(0:Int)))=false→0≤(0:Int)∧Em intD (iA x cols) 0 fun e13=>e13=((iA x cols).getD 0 0)∧True)))) (by kernel_rfl) ?_
 intro n0 n1
 simp only [List.length_map] at n0 n1
 refine ⟨aRr _ _ (by omega) (by omega),List.length_map _,fun c0=>?_,fun c0=>?_⟩
 ·replace c0:=yq c0
  have hz:iA x cols= []:=List.eq_nil_of_length_eq_zero (by omega)
  refine ⟨?_,trivial⟩
  ·first | (rw [hz]<;>rfl) | (rw [bD h13])
 ·replace c0:=nq c0
  refine ⟨by omega,rfl,by omega,fun e13 h13=>?_⟩
  refine ⟨?_,trivial⟩
  ·first | (rw [hz]<;>rfl) | (rw [bD h13])
abbrev aE5 (x:aB) (cols:List Int):Prop:=cX Tryz.prog 157 [.agg [.str x.name,.int .i64 x.arity,.int .i64 x.rowCount,.sl 203 3 (x.groups.map aA)],.one (.sl 3 1 (cols.map intD))] (vI ((iA x cols).getD 0 0)) []
theorem aP2 (x:aB) (cols:List Int) (hc:bA x≤1048576) (hl:cols.length≤1048576):aE5 x cols:=by
 refine aX bG aR Tryz.func157 (by kernel_rfl) (cB (aBt x cols)<| .len ((iA x cols).length)<| .br (.fin []) (.len ((iA x cols).length)<| .elem _ intD (iA x cols) (fun e14=> .fin []))) (p:=(x.groups.map aA).length≤9223372036854775807→(cols.map intD).length≤9223372036854775807→aHI x cols∧(Lm intD (iA x cols)∧(((decide ((((iA x cols).length:Nat):Int)=(0:Int)))=true→(0:Int)=((iA x cols).getD 0 0)∧True)∧((decide ((((iA x cols).length:Nat):Int)=(0:Int)))=false→0≤(0:Int)∧Lm intD (iA x cols)∧(0:Int)<(((iA x cols).length:Nat):Int)∧Em intD (iA x cols) 0 fun e14=>e14=((iA x cols).getD 0 0)∧True)))) (by kernel_rfl) ?_
 intro n0 n1
 simp only [List.length_map] at n0 n1
 refine ⟨aRs _ _ (by omega) (by omega),List.length_map _,fun c0=>?_,fun c0=>?_⟩
 ·replace c0:=yq c0
  have hz:iA x cols= []:=List.eq_nil_of_length_eq_zero (by omega)
  refine ⟨?_,trivial⟩
  ·first | (rw [hz]<;>rfl) | (rw [bD h14])
 ·replace c0:=nq c0
  refine ⟨by omega,List.length_map _,by omega,rfl,by omega,fun e14 h14=>?_⟩
  refine ⟨?_,trivial⟩
  ·first | (rw [hz]<;>rfl) | (rw [bD h14])
def aNN (m x:Int):Int:=if dW x 0 3=true then cH .or .i64 m ((1:Int)*2^x.toNat) else m
def gS (l:List Int):Int:=l.foldl aNN 0
theorem kX (l:List Int) (x:Int):gS (l++[x])=aNN (gS l) x:=by simp [gS]
theorem aCy {m x:Int} (h:dW x 0 3=true):aNN m x=cH .or .i64 m ((1:Int)*2^x.toNat):=by rw [aNN,if_pos h]
theorem aFa {m x:Int} (h:dW x 0 3=false):aNN m x=m:=by rw [aNN,if_neg (by rw [h];decide)]
theorem aDv {x:Int} (h:dW x 0 3=true):cC ((1:Int)*2^x.toNat)∧0≤x∧x≤64:=by
 have h2:=eY h
 have h1:x=0∨x=1∨x=2∨x=3:=by omega
 refine ⟨?_,by omega,by omega⟩
 unfold cC
 rcases h1 with rfl | rfl | rfl | rfl<;>exact ⟨by decide,by decide⟩
def vsS (m:Int) (l:List Int):Nat→Int
 | 0=>0
 | k+1=>if (decide (cH .and .i64 (m/2^k) 1=1)&&dW (l.getD k 0) 0 3)=true then cH .or .i64 (vsS m l k) ((1:Int)*2^(l.getD k 0).toNat) else vsS m l k
theorem aK3 {m:Int} {l:List Int} {k:Nat} {x:Int} (hx:l[k]? =some x) (h1:cH .and .i64 (m/2^k) 1=1) (h2:dW x 0 3=true):vsS m l (k+1)=cH .or .i64 (vsS m l k) ((1:Int)*2^x.toNat):=by
 rw [vsS,bD hx,if_pos (by simp [h1,h2])]
theorem aDw {m:Int} {l:List Int} {k:Nat} {x:Int} (hx:l[k]? =some x) (h:(decide (cH .and .i64 (m/2^k) 1=1)&&dW x 0 3)=false):vsS m l (k+1)=vsS m l k:=by
 rw [vsS,bD hx,if_neg (by rw [h];decide)]
theorem aHJ (m:Int) (l:List Int): ∀k,gS ((lX m k).map (tT l))=vsS m l k
 | 0=>rfl
 | k+1=>by
   by_cases h:cH .and .i64 (m/2^k) 1=1
   ·rw [vC h,List.map_append,List.map_cons,List.map_nil,kX,aHJ m l k]
    have e:tT l (k:Int)=l.getD k 0:=by simp [tT]
    rw [e,vsS,aNN]
    simp [h]
   ·rw [zO h,aHJ m l k,vsS,if_neg (by simp [h])]
theorem aHK {m:Int} {l:List Int} {k:Nat} (h:m/2^k=0):vsS m l (k+1)=vsS m l k:=by
 rw [vsS,if_neg (by rw [h];simp [show ¬cH .and .i64 0 1=1 by decide])]
theorem aJa {m:Int} {l:List Int} {n:Int} (hn:1≤n∧n≤3) (hl:(l.length:Int)=n) (h0:0≤m) (h1:m<2^n.toNat - 1):vsS m l (min l.length 3)=vsS m l 3:=by
 have h:n=1∨n=2∨n=3:=by omega
 rcases h with rfl | rfl | rfl
 ·have hm:m=0:=by simp at h1;omega
  subst hm
  rw [show min l.length 3=1 by omega,aHK (k:=2) (by decide),aHK (k:=1) (by decide)]
 ·have hm:m<4:=by simp at h1;omega
  rw [show min l.length 3=2 by omega,aHK (k:=2) (by omega)]
 ·rw [show min l.length 3=3 by omega]
theorem aMG {m:Int} {l:List Int} {n:Int} (hn:1≤n∧n≤3) (hl:(l.length:Int)=n) (h0:0≤m) (h1:m<2^n.toNat - 1):gS (fF l (eS m)).1=vsS m l 3:=by
 have hs:aL5 l.length (eS m)=true:=by
  rw [hl]
  have h:n=1∨n=2∨n=3:=by omega
  rcases h with rfl | rfl | rfl
  ·have hm:m=0:=by simp at h1;omega
   subst hm;decide
  ·have hm:m=0∨m=1∨m=2:=by simp at h1;omega
   rcases hm with rfl | rfl | rfl<;>decide
  ·have hm:m=0∨m=1∨m=2∨m=3∨m=4∨m=5∨m=6:=by simp at h1;omega
   rcases hm with rfl | rfl | rfl | rfl | rfl | rfl | rfl<;>decide
 rw [fF,if_pos hs]
 exact aHJ m l 3
def kM:Nat→Nat→Int→Int
 | 0,b,_=>b
 | f+1,b,n=>if (2:Int)^b<n then kM f (b+1) n else b
def nS (n:Int):Int:=if dW n 1 4096=true then kM 12 0 n else -1
theorem aHL {b:Nat} {n:Int} (h2:n≤4096) (hb:b≤12) (h:(2:Int)^b<n):b<12∧kM (12 - (b+1)) (b+1) n=kM (12 - b) b n:=by
 have hlt:b<12:=by
  rcases Nat.lt_or_ge b 12 with h' | h'
  ·exact h'
  ·obtain rfl:b=12:=by omega
   exact absurd h (by have:(2:Int)^12=4096:=by decide
                      omega)
 refine ⟨hlt,?_⟩
 obtain ⟨f,hf⟩: ∃f,12 - b=f+1:=⟨11 - b,by omega⟩
 rw [hf,show 12 - (b+1)=f by omega,kM,if_pos h]
theorem aHM {b:Nat} {n:Int} (h:n≤(2:Int)^b): ∀f,kM f b n=b
 | 0=>rfl
 | f+1=>by rw [kM,if_neg (by omega)]
def tcC (x:aB) (a:bZ) (m:Nat):aF:=⟨vsS (m:Int) a.vars 3,gS a.vars,nS ((iA x (eS (m:Int))).getD 0 0)⟩
def nT (x:aB) (a:bZ):Bool:=bW x&&(!decide (x.rowCount=0)&&decide ((a.vars.length:Int)=x.arity))
def lP (x:aB) (a:bZ):List aF:=if nT x a=true then (List.range ((2:Int)^x.arity.toNat - 1).toNat).map (tcC x a) else []
theorem oH {x:aB} {a:bZ} (h:nT x a=true):lP x a=(List.range ((2:Int)^x.arity.toNat - 1).toNat).map (tcC x a):=by rw [lP,if_pos h]
theorem rL {x:aB} {a:bZ} (h:nT x a=false):lP x a= []:=by rw [lP,if_neg (by rw [h];decide)]
theorem aBu {x:aB} {a:bZ} (h:nT x a=true):bW x=true∧(a.vars.length:Int)=x.arity:=by
 simp only [nT,Bool.and_eq_true,decide_eq_true_eq] at h
 exact ⟨h.1,h.2.2⟩
theorem aHN (x:aB) (a:bZ):(lP x a).length≤7:=by
 cases h:nT x a with
 | false=>rw [rL h];exact Nat.zero_le _
 | true=>
   have:=rV (aAo (aBu h).1)
   rw [oH h,List.length_map,List.length_range]
   omega
abbrev zY (l:List Int):Prop:=cX Tryz.prog 155 [.one (.sl 3 1 (l.map intD))] (vI (gS l)) []
theorem aJb (l:List Int):zY l:=by
 refine aX bG aR Tryz.func155 (by kernel_rfl) (.len l.length<| .loop (Nat × Int) (Q2 Nat Int) [3,5,8,9,10,11,12,13,14,15,16,17,18] [] (fun yy0=>[(8,vI (yy0.1:Int)),(3,vI yy0.2)]) (fun yy0=>[]) (fun yy0=>yy0.1≤l.length∧yy0.2=gS (l.take yy0.1)) (fun yy0=>l.length - yy0.1) (fun yy0=> .br (.elem _ intD l (fun e10=> .call (vB (dW e10 (0:Int) (3:Int))) []<| .br (.back []) (.back []))) (.fin []))) (p:=(l.map intD).length≤9223372036854775807→Lm intD l∧((∃(k:Nat) (o:Int),(0:Int)=(k:Int)∧(0:Int)=o∧k≤l.length∧o=gS (l.take k))∧ ∀(k:Nat) (o:Int),(k≤l.length∧o=gS (l.take k))→((decide ((k:Int)<((l.length:Nat):Int)))=true→0≤(k:Int)∧Em intD l k fun e10=>fN e10 (0:Int) (3:Int)∧(((dW e10 (0:Int) (3:Int))=true→(0≤e10∧e10≤64)∧cC ((1:Int)*2^(Int.toNat e10))∧cC ((k:Int)+(1:Int))∧ ∃(k' :Nat) (o' :Int),((k:Int)+(1:Int))=(k' :Int)∧(cH .or .i64 o ((1:Int)*2^(Int.toNat e10)))=o' ∧(k' ≤l.length∧o' =gS (l.take k'))∧l.length - k' <l.length - k)∧((dW e10 (0:Int) (3:Int))=false→cC ((k:Int)+(1:Int))∧ ∃(k' :Nat) (o' :Int),((k:Int)+(1:Int))=(k' :Int)∧o=o' ∧(k' ≤l.length∧o' =gS (l.take k'))∧l.length - k' <l.length - k)))∧((decide ((k:Int)<((l.length:Nat):Int)))=false→o=(gS l)∧True))) (by kernel_rfl) ?_
 intro n0
 simp only [List.length_map] at n0
 refine ⟨List.length_map _,⟨0,0,rfl,rfl,Nat.zero_le _,rfl⟩,fun k o ⟨hk,hv⟩=>?_⟩
 refine ⟨fun c0=>?_,fun c0=>?_⟩
 ·replace c0:=yq c0
  refine ⟨by omega,rfl,by omega,fun e10 h10=>?_⟩
  try (obtain rfl:=(aY h10 h10).symm)
  refine ⟨jG _ _ _,fun c1=>?_,fun c1=>?_⟩
  ·obtain ⟨w1,w2,w3⟩:=aDv c1
   refine ⟨⟨by omega,by omega⟩,by first | exact w1 | exact ⟨by omega,by omega⟩,by first | exact w1 | exact ⟨by omega,by omega⟩,?_⟩
   exact ⟨k+1,_,rfl,rfl,⟨by omega,by first | (rw [bP h10,kX,aCy c1,hv];done) | (rw [bP h10,kX,aFa c1,hv];done)⟩,by omega⟩
  ·refine ⟨by first | exact w1 | exact ⟨by omega,by omega⟩,?_⟩
   exact ⟨k+1,_,rfl,rfl,⟨by omega,by first | (rw [bP h10,kX,aCy c1,hv];done) | (rw [bP h10,kX,aFa c1,hv];done)⟩,by omega⟩
 ·replace c0:=nq c0
  refine ⟨?_,trivial⟩
  ·rw [hv,List.take_of_length_le (by omega)]
abbrev aE6 (l:List Int):Prop:=cX Tryz.prog 137 [.one (.sl 3 1 (l.map intD))] (vI (gS l)) []
theorem aP3 (l:List Int):aE6 l:=by
 refine aX bG aR Tryz.func137 (by kernel_rfl) (.loop (Nat × Int) (Q2 Nat Int) [3,4,5,6,7,8,9,10,11,12,13,14,15,16,17,18,19,20,21,22] [] (fun yy0=>[(4,vI (yy0.1:Int)),(3,vI yy0.2)]) (fun yy0=>[]) (fun yy0=>yy0.1≤l.length∧yy0.2=gS (l.take yy0.1)) (fun yy0=>l.length - yy0.1) (fun yy0=> .len l.length<| .br (.elem _ intD l (fun e13=> .call (vB (dW e13 (0:Int) (3:Int))) []<| .br (.elem _ intD l (fun e19=> .back [])) (.back []))) (.fin []))) (p:=(l.map intD).length≤9223372036854775807→(∃(k:Nat) (o:Int),(0:Int)=(k:Int)∧(0:Int)=o∧k≤l.length∧o=gS (l.take k))∧ ∀(k:Nat) (o:Int),(k≤l.length∧o=gS (l.take k))→Lm intD l∧(((decide ((k:Int)<((l.length:Nat):Int)))=true→0≤(k:Int)∧Em intD l k fun e13=>fO e13 (0:Int) (3:Int)∧(((dW e13 (0:Int) (3:Int))=true→0≤(k:Int)∧Em intD l k fun e19=>(0≤e19∧e19≤64)∧cC ((1:Int)*2^(Int.toNat e19))∧cC ((k:Int)+(1:Int))∧ ∃(k' :Nat) (o' :Int),((k:Int)+(1:Int))=(k' :Int)∧(cH .or .i64 o ((1:Int)*2^(Int.toNat e19)))=o' ∧(k' ≤l.length∧o' =gS (l.take k'))∧l.length - k' <l.length - k)∧((dW e13 (0:Int) (3:Int))=false→cC ((k:Int)+(1:Int))∧ ∃(k' :Nat) (o' :Int),((k:Int)+(1:Int))=(k' :Int)∧o=o' ∧(k' ≤l.length∧o' =gS (l.take k'))∧l.length - k' <l.length - k)))∧((decide ((k:Int)<((l.length:Nat):Int)))=false→o=(gS l)∧True))) (by kernel_rfl) ?_
 intro n0
 simp only [List.length_map] at n0
 refine ⟨⟨0,0,rfl,rfl,Nat.zero_le _,rfl⟩,fun k o ⟨hk,hv⟩=>?_⟩
 refine ⟨List.length_map _,fun c0=>?_,fun c0=>?_⟩
 ·replace c0:=yq c0
  refine ⟨by omega,rfl,by omega,fun e13 h13=>?_⟩
  try (obtain rfl:=(aY h13 h13).symm)
  refine ⟨jH _ _ _,fun c1=>?_,fun c1=>?_⟩
  ·obtain ⟨w1,w2,w3⟩:=aDv c1
   refine ⟨by omega,rfl,by omega,fun e19 h19=>?_⟩
   try (obtain rfl:=(aY h13 h19).symm)
   refine ⟨⟨by omega,by omega⟩,by first | exact w1 | exact ⟨by omega,by omega⟩,by first | exact w1 | exact ⟨by omega,by omega⟩,?_⟩
   exact ⟨k+1,_,rfl,rfl,⟨by omega,by first | (rw [bP h13,kX,aCy c1,hv];done) | (rw [bP h13,kX,aFa c1,hv];done)⟩,by omega⟩
  ·refine ⟨by first | exact w1 | exact ⟨by omega,by omega⟩,?_⟩
   exact ⟨k+1,_,rfl,rfl,⟨by omega,by first | (rw [bP h13,kX,aCy c1,hv];done) | (rw [bP h13,kX,aFa c1,hv];done)⟩,by omega⟩
 ·replace c0:=nq c0
  refine ⟨?_,trivial⟩
  ·rw [hv,List.take_of_length_le (by omega)]
abbrev aE7 (n:Int):Prop:=cX Tryz.prog 156 [.one (.int .i64 n)] (vI (nS n)) []
theorem aP4 (n:Int):aE7 n:=by
 refine aX bG aR Tryz.func156 (by kernel_rfl) (.call (vB (dW n (1:Int) (4096:Int))) []<| .br (.fin []) (.loop Nat (Q1 Nat) [3,7,8,9,10,11,12] [] (fun b=>[(3,vI (b:Int))]) (fun b=>[]) (fun b=>b≤12∧kM (12 - b) b n=kM 12 0 n) (fun b=>12 - b) (fun b=> .br (.back []) (.fin [])))) (p:=fN n (1:Int) (4096:Int)∧(((!(dW n (1:Int) (4096:Int)))=true→(-1:Int)=(nS n)∧True)∧((!(dW n (1:Int) (4096:Int)))=false→(∃(b:Nat),(0:Int)=(b:Int)∧b≤12∧kM (12 - b) b n=kM 12 0 n)∧ ∀(b:Nat),(b≤12∧kM (12 - b) b n=kM 12 0 n)→(0≤(b:Int)∧(b:Int)≤64)∧(cC ((1:Int)*2^b)∧(((decide (((1:Int)*2^b)<n))=true→cC ((b:Int)+(1:Int))∧ ∃(b' :Nat),((b:Int)+(1:Int))=(b' :Int)∧(b' ≤12∧kM (12 - b') b' n=kM 12 0 n)∧12 - b' <12 - b)∧((decide (((1:Int)*2^b)<n))=false→(b:Int)=(nS n)∧True)))))) (by kernel_rfl) ?_
 refine ⟨jG _ _ _,fun c0=>?_,fun c0=>?_⟩
 ·replace c0:=nt c0
  have hn:dW n 1 4096=false:=by simpa using c0
  refine ⟨?_,trivial⟩
  ·first | (rw [nS,if_neg (by rw [hn];decide)];done) | (rw [nS,if_pos hn,←hr,w5])
 ·replace c0:=nf c0
  have hn:dW n 1 4096=true:=by simpa using c0
  obtain ⟨w1,w2⟩:=eY hn
  refine ⟨⟨0,rfl,by omega,rfl⟩,fun b ⟨hb,hr⟩=>?_⟩
  refine ⟨⟨by omega,by omega⟩,by first | exact ⟨by omega,by omega⟩ | (have hp:=aFZ b hb;exact ⟨by omega,by omega⟩),fun c1=>?_,fun c1=>?_⟩
  ·replace c1:=yq c1
   obtain ⟨w3,w4⟩:=aHL w2 hb (by omega)
   refine ⟨by first | exact ⟨by omega,by omega⟩ | (have hp:=aFZ b hb;exact ⟨by omega,by omega⟩),?_⟩
   exact ⟨b+1,rfl,⟨by omega,by rw [w4];exact hr⟩,by omega⟩
  ·replace c1:=nq c1
   have w5:=aHM (b:=b) (n:=n) (by omega) (12 - b)
   refine ⟨?_,trivial⟩
   ·first | (rw [nS,if_neg (by rw [hn];decide)];done) | (rw [nS,if_pos hn,←hr,w5])
abbrev aE8 (n:Int):Prop:=cX Tryz.prog 138 [.one (.int .i64 n)] (vI (nS n)) []
theorem aP5 (n:Int):aE8 n:=by
 refine aX bG aR Tryz.func138 (by kernel_rfl) (.call (vB (dW n (1:Int) (4096:Int))) []<| .br (.fin []) (.loop Nat (Q1 Nat) [3,7,8,9,10,11,12] [] (fun b=>[(3,vI (b:Int))]) (fun b=>[]) (fun b=>b≤12∧kM (12 - b) b n=kM 12 0 n) (fun b=>12 - b) (fun b=> .br (.back []) (.fin [])))) (p:=fO n (1:Int) (4096:Int)∧(((!(dW n (1:Int) (4096:Int)))=true→(-1:Int)=(nS n)∧True)∧((!(dW n (1:Int) (4096:Int)))=false→(∃(b:Nat),(0:Int)=(b:Int)∧b≤12∧kM (12 - b) b n=kM 12 0 n)∧ ∀(b:Nat),(b≤12∧kM (12 - b) b n=kM 12 0 n)→(0≤(b:Int)∧(b:Int)≤64)∧(cC ((1:Int)*2^b)∧(((decide (((1:Int)*2^b)<n))=true→cC ((b:Int)+(1:Int))∧ ∃(b' :Nat),((b:Int)+(1:Int))=(b' :Int)∧(b' ≤12∧kM (12 - b') b' n=kM 12 0 n)∧12 - b' <12 - b)∧((decide (((1:Int)*2^b)<n))=false→(b:Int)=(nS n)∧True)))))) (by kernel_rfl) ?_
 refine ⟨jH _ _ _,fun c0=>?_,fun c0=>?_⟩
 ·replace c0:=nt c0
  have hn:dW n 1 4096=false:=by simpa using c0
  refine ⟨?_,trivial⟩
  ·first | (rw [nS,if_neg (by rw [hn];decide)];done) | (rw [nS,if_pos hn,←hr,w5])
 ·replace c0:=nf c0
  have hn:dW n 1 4096=true:=by simpa using c0
  obtain ⟨w1,w2⟩:=eY hn
  refine ⟨⟨0,rfl,by omega,rfl⟩,fun b ⟨hb,hr⟩=>?_⟩
  refine ⟨⟨by omega,by omega⟩,by first | exact ⟨by omega,by omega⟩ | (have hp:=aFZ b hb;exact ⟨by omega,by omega⟩),fun c1=>?_,fun c1=>?_⟩
  ·replace c1:=yq c1
   obtain ⟨w3,w4⟩:=aHL w2 hb (by omega)
   refine ⟨by first | exact ⟨by omega,by omega⟩ | (have hp:=aFZ b hb;exact ⟨by omega,by omega⟩),?_⟩
   exact ⟨b+1,rfl,⟨by omega,by rw [w4];exact hr⟩,by omega⟩
  ·replace c1:=nq c1
   have w5:=aHM (b:=b) (n:=n) (by omega) (12 - b)
   refine ⟨?_,trivial⟩
   ·first | (rw [nS,if_neg (by rw [hn];decide)];done) | (rw [nS,if_pos hn,←hr,w5])
end Go.Proofs.YtdfebigfnjfgpaaGreat
