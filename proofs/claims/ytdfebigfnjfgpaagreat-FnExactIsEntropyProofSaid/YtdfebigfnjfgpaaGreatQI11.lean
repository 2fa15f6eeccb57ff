/-
  Contracts and plain laws, joined: part 12.
-/
import Derived.Test.YtdfebigfnjfgpaaGreatQI8
import Derived.Test.YtdfebigfnjfgpaaGreatQI9
import Derived.Test.YtdfebigfnjfgpaaGreatQI10
import Derived.Test.YtdfebigfnjfgpaaGreatQI7
import Derived.IntWalk
namespace Go.Proofs.YtdfebigfnjfgpaaGreat
open Go.ChangeShapes Go.WideShapes Go.ChangeAt Go.RowKit
set_option linter.unusedVariables false
set_option linter.unusedSimpArgs false
set_option maxRecDepth 100000
set_option maxHeartbeats 4000000
abbrev yM (name:ByteArray) (arity:Int) (rows:List (List Int)):AV × List (Nat × Rs):=(.tup [.agg [.p none (.str (((nL name arity rows).1).name)),vI (((nL name arity rows).1).arity),.own 0],vB ((nL name arity rows).2)],[(0,.arr 39 1 true ((((nL name arity rows).1).rows).map aA))])
abbrev aDq (name:ByteArray) (arity:Int) (rows:List (List Int)):Prop:=cT Tryz.prog 196 [.one (.str name),.one (.int .i64 arity),.one (.sl 39 1 (rows.map aA))] (yM name arity rows).1 (yM name arity rows).2
theorem aOb (name:ByteArray) (arity:Int) (rows:List (List Int)) (hc:cX rows≤1048576):aDq name arity rows:=by
 refine aT bE aL Tryz.func196 (by kernel_rfl) (.loop (Nat × (List (List Int))) (Q2 Nat (List (List Int))) [9,13,14,15,16,17,18,19,20,21,22,23,24,25,26,27,28,29,30,31,32] [800,3100,9000] (fun yy0=>[(9,vI (yy0.1:Int))]) (fun yy0=>[(800,some (.box 167 [.p none (.str name),vI arity,.own 9000])),(9000,some (.arr 39 1 true (yy0.2.map aA)))]) (fun yy0=>yy0.1≤rows.length∧yy0.2=cV (rows.take yy0.1)) (fun yy0=>rows.length - yy0.1) (fun yy0=> .len rows.length<| .br (.len yy0.2.length<| .lit<| .lit<| .br (.elem _ aA rows (fun e29=>bV (uX yy0.2 e29)<| .back [(800,800),(9000,3100)])) (.call (vB (aO (⟨name,arity,yy0.2⟩:aV))) []<| .br (.fin []) (.fin [(0,9000)]))) (.call (vB (aO (⟨name,arity,yy0.2⟩:aV))) []<| .br (.fin []) (.fin [(0,9000)])))) (p:=(rows.map aA).length≤9223372036854775807→(∃(k:Nat) (acc:List (List Int)),(0:Int)=(k:Int)∧name=name∧arity=arity∧[]=acc.map aA∧k≤rows.length∧acc=cV (rows.take k))∧ ∀(k:Nat) (acc:List (List Int)),(k≤rows.length∧acc=cV (rows.take k))→Lm aA rows∧(((decide ((k:Int)<((rows.length:Nat):Int)))=true→Lm aA acc∧(((decide (((acc.length:Nat):Int)≤(8:Int)))=true→0≤(k:Int)∧Em aA rows k fun e29=>aBA acc e29∧cC ((k:Int)+(1:Int))∧ ∃(k' :Nat) (acc' :List (List Int)),((k:Int)+(1:Int))=(k' :Int)∧name=name∧arity=arity∧(lN e29 acc).map aA=acc'.map aA∧(k' ≤rows.length∧acc' =cV (rows.take k'))∧rows.length - k' <rows.length - k)∧((decide (((acc.length:Nat):Int)≤(8:Int)))=false→oT (⟨name,arity,acc⟩:aV)∧(((!(aO (⟨name,arity,acc⟩:aV)))=true→ByteArray.empty=(((nL name arity rows).1).name)∧(0:Int)=(((nL name arity rows).1).arity)∧(false)=((nL name arity rows).2)∧[]=(((nL name arity rows).1).rows).map aA∧True)∧((!(aO (⟨name,arity,acc⟩:aV)))=false→name=(((nL name arity rows).1).name)∧arity=(((nL name arity rows).1).arity)∧(true)=((nL name arity rows).2)∧acc.map aA=(((nL name arity rows).1).rows).map aA∧True)))))∧((decide ((k:Int)<((rows.length:Nat):Int)))=false→oT (⟨name,arity,acc⟩:aV)∧(((!(aO (⟨name,arity,acc⟩:aV)))=true→ByteArray.empty=(((nL name arity rows).1).name)∧(0:Int)=(((nL name arity rows).1).arity)∧(false)=((nL name arity rows).2)∧[]=(((nL name arity rows).1).rows).map aA∧True)∧((!(aO (⟨name,arity,acc⟩:aV)))=false→name=(((nL name arity rows).1).name)∧arity=(((nL name arity rows).1).arity)∧(true)=((nL name arity rows).2)∧acc.map aA=(((nL name arity rows).1).rows).map aA∧True))))) (by kernel_rfl) ?_
 intro n0
 simp only [List.length_map] at n0
 have hlen:=gG rows
 refine ⟨⟨0,([]:List (List Int)),rfl,rfl,rfl,rfl,Nat.zero_le _,rfl⟩,fun k acc ⟨hk,ha⟩=>?_⟩
 refine ⟨List.length_map _,fun g17=>?_,fun g17=>?_⟩
 ·replace g17:=yq g17
  refine ⟨List.length_map _,fun c0=>?_,fun c0=>?_⟩
  ·replace c0:=yq c0
   have hp:=aLF rows k
   rw [←ha] at hp
   refine ⟨by omega,rfl,by omega,fun e29 h29=>?_⟩
   have hp3:=aAI h29
   refine ⟨aKx acc e29 (by omega) (by omega) (by omega),⟨by omega,by omega⟩,?_⟩
   exact ⟨k+1,_,rfl,rfl,rfl,rfl,⟨by omega,by rw [ha,bO h29,aCQ]⟩,by omega⟩
  ·replace c0:=nq c0
   have hend:=aLG (name:=name) (arity:=arity) ha (by omega)
   refine ⟨xZ (⟨name,arity,acc⟩:aV),fun c1=>?_,fun c1=>?_⟩
   ·replace c1:=nt c1
    have hbad:aO ⟨name,arity,cV rows⟩=false:=by rw [←hend.1];simpa using c1
    refine ⟨?_,?_,?_,?_,trivial⟩
    ·first | (rw [kA hbad]<;>rfl) | (rw [dR hok]<;>rfl) | (rw [dR hok];exact congrArg (List.map aA) hacc)
    ·first | (rw [kA hbad]<;>rfl) | (rw [dR hok]<;>rfl) | (rw [dR hok];exact congrArg (List.map aA) hacc)
    ·first | (rw [kA hbad]<;>rfl) | (rw [dR hok]<;>rfl) | (rw [dR hok];exact congrArg (List.map aA) hacc)
    ·first | (rw [kA hbad]<;>rfl) | (rw [dR hok]<;>rfl) | (rw [dR hok];exact congrArg (List.map aA) hacc)
   ·replace c1:=nf c1
    have hok0:aO ⟨name,arity,acc⟩=true:=by simpa using c1
    have hok:aO ⟨name,arity,cV rows⟩=true:=by rw [←hend.1];exact hok0
    have hacc:=hend.2 hok0
    refine ⟨?_,?_,?_,?_,trivial⟩
    ·first | (rw [kA hbad]<;>rfl) | (rw [dR hok]<;>rfl) | (rw [dR hok];exact congrArg (List.map aA) hacc)
    ·first | (rw [kA hbad]<;>rfl) | (rw [dR hok]<;>rfl) | (rw [dR hok];exact congrArg (List.map aA) hacc)
    ·first | (rw [kA hbad]<;>rfl) | (rw [dR hok]<;>rfl) | (rw [dR hok];exact congrArg (List.map aA) hacc)
    ·first | (rw [kA hbad]<;>rfl) | (rw [dR hok]<;>rfl) | (rw [dR hok];exact congrArg (List.map aA) hacc)
 ·replace g17:=nq g17
  have hend:=aLG (name:=name) (arity:=arity) ha (by omega)
  refine ⟨xZ (⟨name,arity,acc⟩:aV),fun c1=>?_,fun c1=>?_⟩
  ·replace c1:=nt c1
   have hbad:aO ⟨name,arity,cV rows⟩=false:=by rw [←hend.1];simpa using c1
   refine ⟨?_,?_,?_,?_,trivial⟩
   ·first | (rw [kA hbad]<;>rfl) | (rw [dR hok]<;>rfl) | (rw [dR hok];exact congrArg (List.map aA) hacc)
   ·first | (rw [kA hbad]<;>rfl) | (rw [dR hok]<;>rfl) | (rw [dR hok];exact congrArg (List.map aA) hacc)
   ·first | (rw [kA hbad]<;>rfl) | (rw [dR hok]<;>rfl) | (rw [dR hok];exact congrArg (List.map aA) hacc)
   ·first | (rw [kA hbad]<;>rfl) | (rw [dR hok]<;>rfl) | (rw [dR hok];exact congrArg (List.map aA) hacc)
  ·replace c1:=nf c1
   have hok0:aO ⟨name,arity,acc⟩=true:=by simpa using c1
   have hok:aO ⟨name,arity,cV rows⟩=true:=by rw [←hend.1];exact hok0
   have hacc:=hend.2 hok0
   refine ⟨?_,?_,?_,?_,trivial⟩
   ·first | (rw [kA hbad]<;>rfl) | (rw [dR hok]<;>rfl) | (rw [dR hok];exact congrArg (List.map aA) hacc)
   ·first | (rw [kA hbad]<;>rfl) | (rw [dR hok]<;>rfl) | (rw [dR hok];exact congrArg (List.map aA) hacc)
   ·first | (rw [kA hbad]<;>rfl) | (rw [dR hok]<;>rfl) | (rw [dR hok];exact congrArg (List.map aA) hacc)
   ·first | (rw [kA hbad]<;>rfl) | (rw [dR hok]<;>rfl) | (rw [dR hok];exact congrArg (List.map aA) hacc)
abbrev yN (x:aH):AV × List (Nat × Rs):=(.tup [.agg [.p none (.str (((nM x).1).name)),vI (((nM x).1).arity),.own 0],vB ((nM x).2)],[(0,.arr 39 1 true ((((nM x).1).rows).map aA))])
abbrev aDr (x:aH):Prop:=cT Tryz.prog 169 [.agg [.str x.name,.int .i64 x.arity,.int .i64 x.rowCount,.sl 203 3 (x.groups.map aB)]] (yN x).1 (yN x).2
theorem aOc (x:aH) (hc:bA x≤1048576):aDr x:=by
 refine aT bE aL Tryz.func169 (by kernel_rfl) (.len x.groups.length<| .br (.fin []) (.len x.groups.length<| .elem _ aB x.groups (fun e22=>bV (yM x.name x.arity e22.values)<| .fin [(0,2500)]))) (p:=(x.groups.map aB).length≤9223372036854775807→Lm aB x.groups∧(((decide (((x.groups.length:Nat):Int)=(0:Int)))=true→ByteArray.empty=(((nM x).1).name)∧(0:Int)=(((nM x).1).arity)∧(false)=((nM x).2)∧[]=(((nM x).1).rows).map aA∧True)∧((decide (((x.groups.length:Nat):Int)=(0:Int)))=false→Lm aB x.groups∧cC (((x.groups.length:Nat):Int) - (1:Int))∧0≤(((x.groups.length:Nat):Int) - (1:Int))∧Em aB x.groups ((((x.groups.length:Nat):Int) - (1:Int)).toNat) fun e22=>aDq x.name x.arity e22.values∧(((nL x.name x.arity e22.values).1).name)=(((nM x).1).name)∧(((nL x.name x.arity e22.values).1).arity)=(((nM x).1).arity)∧((nL x.name x.arity e22.values).2)=((nM x).2)∧(((nL x.name x.arity e22.values).1).rows).map aA=(((nM x).1).rows).map aA∧True))) (by kernel_rfl) ?_
 intro n0
 simp only [List.length_map] at n0
 have q2:bA x=x.name.size+dY x.groups:=rfl
 have q5:=iA x.groups
 refine ⟨List.length_map _,fun c0=>?_,fun c0=>?_⟩
 ·replace c0:=yq c0
  have hT:nM x=(hZ,false):=by rw [nM,if_pos (by omega)]
  refine ⟨?_,?_,?_,?_,trivial⟩
  ·(rw [hT]<;>rfl)
  ·(rw [hT]<;>rfl)
  ·(rw [hT]<;>rfl)
  ·(rw [hT]<;>rfl)
 ·replace c0:=nq c0
  have hT:nM x=nL x.name x.arity (lR x):=by rw [nM,if_neg (by omega)]
  refine ⟨List.length_map _,⟨by omega,by omega⟩,by omega,rfl,by omega,fun e22 h22=>?_⟩
  have i22:x.groups[x.groups.length - 1]? =some e22:=by rw [←h22];congr 1;omega
  have hL:lR x=e22.values:=aLA i22
  rw [hL] at hT
  have q1:=iT i22
  have q3:cA e22=cG e22.columns+cX e22.values+cG e22.counts:=rfl
  have q6:cG e22.columns=e22.columns.length:=rfl
  have q7:cG e22.counts=e22.counts.length:=rfl
  have q8:=gG e22.values
  refine ⟨aOb _ _ _ (by omega),?_,?_,?_,?_,trivial⟩
  ·(rw [hT]<;>rfl)
  ·(rw [hT]<;>rfl)
  ·(rw [hT]<;>rfl)
  ·(rw [hT]<;>rfl)
abbrev vH (x:aH):Prop:=cT Tryz.prog 135 [.agg [.str x.name,.int .i64 x.arity,.int .i64 x.rowCount,.sl 203 3 (x.groups.map aB)]] (vB (bX x)) []
theorem aG5 (x:aH) (hc:bA x≤1048576):vH x:=by
 refine aT bE aL Tryz.func135 (by kernel_rfl) (bV (yN x)<| .br (bV (aAK ((nM x).1))<| .call (vB (decide ((bD ((nM x).1))=x))) []<| .fin []) (.fin [])) (p:=(x.groups.map aB).length≤9223372036854775807→aDr x∧((((nM x).2)=true→aDM ((nM x).1)∧rO (bD ((nM x).1)) x∧(decide ((bD ((nM x).1))=x))=(bX x)∧True)∧(((nM x).2)=false→(false)=(bX x)∧True))) (by kernel_rfl) ?_
 intro n0
 simp only [List.length_map] at n0
 have hst:=aDl (nM x).1
 have hsame:=aOY x
 refine ⟨aOc x (by omega),fun g11=>?_,fun g11=>?_⟩
 ·refine ⟨aNW ((nM x).1),aCE _ _ (by omega),?_,trivial⟩
  ·first | (rw [←hsame,g11];simp;done) | (rw [←hsame];simp [*];done)
 ·refine ⟨?_,trivial⟩
  ·first | (rw [←hsame,g11];simp;done) | (rw [←hsame];simp [*];done)
theorem aAR:mG []= []:=List.eq_nil_of_length_eq_zero (aO8 [])
theorem aAS (a:Int):mG [a]= [a]:=List.perm_singleton.1 (aBL [a])
def iL (x:aH) (cols:List Int):List Int:=if bX x=true then mG (eR (cW x) cols).2 else []
theorem aLR {x:aH} {cols:List Int} (h:bX x=true):iL x cols=mG (eR (cW x) cols).2:=by rw [iL,if_pos h]
theorem aN1 {x:aH} {cols:List Int} (h:bX x=false):iL x cols= []:=by rw [iL,if_neg (by rw [h];decide)]
theorem aOd {x:aH} {cols:List Int} {k:Nat} {g:aP} (h:bX x=true) (hg:x.groups[k]? =some g) (hc:g.columns=cols):g.counts=(eR (cW x) cols).2:=by
 rw [aGF h,List.getElem?_map] at hg
 cases e:(bW x.arity)[k]? with
 | none=>rw [e] at hg;simp at hg
 | some c=>
   rw [e] at hg
   simp only [Option.map_some,Option.some.injEq] at hg
   subst hg
   rw [show c=cols from hc];rfl
theorem aRG {n:Int} (hn:1≤n∧n≤3) {cols:List Int} (h:dP (n - 1) cols=true) (hne:cols≠[]):cols∈bW n:=by
 have hl:=aCK h (by omega)
 have hlow:=aFw h
 have hn3:n=1∨n=2∨n=3:=by omega
 match cols,hl with
 | [],_=>exact absurd rfl hne
 | [a],_=>
   have h0:=hlow 0 (by simp)
   simp at h0
   have ha:a=0∨a=1∨a=2:=by omega
   rcases hn3 with rfl | rfl | rfl<;>rcases ha with rfl | rfl | rfl<;>first | decide | (exfalso;omega)
 | [a,b],_=>
   have h0:=hlow 0 (by simp)
   have h1:=hlow 1 (by simp)
   have h2:=List.all_eq_true.1 h 1 (by simp)
   simp [jK] at h0 h1 h2
   have ha:(a=0∧b=1)∨(a=0∧b=2)∨(a=1∧b=2):=by omega
   rcases hn3 with rfl | rfl | rfl<;>rcases ha with ⟨rfl,rfl⟩ | ⟨rfl,rfl⟩ | ⟨rfl,rfl⟩<;>first | decide | (exfalso;omega)
 | [a,b,c],_=>
   have h0:=hlow 0 (by simp)
   have h1:=hlow 1 (by simp)
   have h2:=hlow 2 (by simp)
   have h3:=List.all_eq_true.1 h 1 (by simp)
   have h4:=List.all_eq_true.1 h 2 (by simp)
   simp [jK] at h0 h1 h2 h3 h4
   obtain ⟨rfl,rfl,rfl⟩:a=0∧b=1∧c=2:=by omega
   rcases hn3 with rfl | rfl | rfl<;>first | decide | (exfalso;omega)
 | _::_::_::_::_,hl=>simp at hl
theorem aRH {x:aH} {cols:List Int} (h:bX x=true) (hall:x.groups.all (fun g=> !decide (g.columns=cols))=true) (hne: ¬(cols.length:Int)=0):(eR (cW x) cols).2= []:=by
 obtain ⟨h1,h2⟩:=tY h
 cases hc:dP ((cW x).arity - 1) cols with
 | false=>rw [mS (by simp [hc])]
 | true=>
   exfalso
   have hm:=aRG (n:=x.arity) (aAL h) hc (fun e=>hne (by rw [e];rfl))
   rw [aGF h] at hall
   have:=List.all_eq_true.1 hall _ (List.mem_map_of_mem hm)
   simp [tX] at this
theorem aN2 {x:aH} (h:bX x=true):(x.rowCount=0→(eR (cW x) []).2= [])∧(¬x.rowCount=0→(eR (cW x) []).2= [x.rowCount]):=by
 obtain ⟨h1,h2⟩:=tY h
 have hc:=aOZ h
 have hrows:(cW x).rows=lR x:=rfl
 rw [fL (t:=cW x) (cols:=[]) (by rw [h1];rfl)]
 have e:lG (cW x) []=List.replicate (lR x).length []:=by simp [lG,fK,aKi,hrows,List.map_const']
 have ev:aMR (cW x) []=cV (List.replicate (lR x).length []):=by rw [aMR,e,sS]
 show (x.rowCount=0→aKu (cW x) []= [])∧(¬x.rowCount=0→aKu (cW x) []= [x.rowCount])
 rw [aKu,ev,e]
 constructor
 ·intro h0
  rw [show (lR x).length=0 by omega];rfl
 ·intro h0
  have hpos:(lR x).length≠0:=by omega
  have hf:cV (List.replicate (lR x).length ([]:List Int))= [[]]:=by
   obtain ⟨p1,p2,_⟩:=sR (List.replicate (lR x).length ([]:List Int)) [] List.Pairwise.nil
   refine aEy p1 (List.pairwise_singleton _ _) fun y=>?_
   have:=p2 y
   rw [cV,this]
   simp [List.mem_replicate,hpos]
  rw [hf,hc]
  simp [jL]
abbrev aA9 (x:aH) (cols:List Int):Prop:=cT Tryz.prog 201 [.agg [.str x.name,.int .i64 x.arity,.int .i64 x.rowCount,.sl 203 3 (x.groups.map aB)],.one (.sl 3 1 (cols.map intD))] (.p none (.sl 3 1 ((mG (eR (cW x) cols).2).map intD))) []
theorem aLS (x:aH) (cols:List Int) (hc:bA x≤1048576) (hok:bX x=true):aA9 x cols:=by
 refine aT bE aL Tryz.func201 (by kernel_rfl) (.stl 4<| .len cols.length<| .br (.br (.stl 4<| .fin []) (.stl 4<| .fin [])) (.loop Nat (Q1 Nat) [5,16,17,18,19,20,21,22,23,24,25,26,27,28,29,30,31] [] (fun k=>[(5,vI (k:Int))]) (fun k=>[]) (fun k=>k≤x.groups.length∧(x.groups.take k).all (fun g=> !decide (g.columns=cols))=true) (fun k=>x.groups.length - k) (fun k=> .len x.groups.length<| .br (.elem _ aB x.groups (fun e26=> .call (vI (cE e26.columns cols)) []<| .br (.elem _ aB x.groups (fun e35=> .call (.p none (.sl 3 1 ((mG e35.counts).map intD))) []<| .stl 4<| .fin [])) (.back []))) (.stl 4<| .fin [])))) (p:=(x.groups.map aB).length≤9223372036854775807→(cols.map intD).length≤9223372036854775807→Lm intD cols∧(((decide (((cols.length:Nat):Int)=(0:Int)))=true→((decide (x.rowCount=(0:Int)))=true→[]=(mG (eR (cW x) cols).2).map intD∧True)∧((decide (x.rowCount=(0:Int)))=false→[[.int .i64 x.rowCount]]=(mG (eR (cW x) cols).2).map intD∧True))∧((decide (((cols.length:Nat):Int)=(0:Int)))=false→(∃(k:Nat),(0:Int)=(k:Int)∧k≤x.groups.length∧(x.groups.take k).all (fun g=> !decide (g.columns=cols))=true)∧ ∀(k:Nat),(k≤x.groups.length∧(x.groups.take k).all (fun g=> !decide (g.columns=cols))=true)→Lm aB x.groups∧(((decide ((k:Int)<((x.groups.length:Nat):Int)))=true→0≤(k:Int)∧Em aB x.groups k fun e26=>gO e26.columns cols∧(((decide ((cE e26.columns cols)=(0:Int)))=true→0≤(k:Int)∧Em aB x.groups k fun e35=>aDp e35.counts∧(mG e35.counts).map intD=(mG (eR (cW x) cols).2).map intD∧True)∧((decide ((cE e26.columns cols)=(0:Int)))=false→cC ((k:Int)+(1:Int))∧ ∃(k' :Nat),((k:Int)+(1:Int))=(k' :Int)∧(k' ≤x.groups.length∧(x.groups.take k').all (fun g=> !decide (g.columns=cols))=true)∧x.groups.length - k' <x.groups.length - k)))∧((decide ((k:Int)<((x.groups.length:Nat):Int)))=false→[]=(mG (eR (cW x) cols).2).map intD∧True))))) (by kernel_rfl) ?_
 intro n0 n1
 simp only [List.length_map] at n0 n1
 have q2:bA x=x.name.size+dY x.groups:=rfl
 have q5:=iA x.groups
 refine ⟨List.length_map _,fun c0=>?_,fun c0=>?_⟩
 ·replace c0:=yq c0
  have hcz:cols= []:=List.eq_nil_of_length_eq_zero (by omega)
  refine ⟨fun c1=>?_,fun c1=>?_⟩
  ·replace c1:=yq c1
   have hE:(eR (cW x) cols).2= []:=by rw [hcz];exact (aN2 hok).1 c1
   refine ⟨?_,trivial⟩
   ·first | (rw [hE];done) | (rw [hE,aAR]<;>rfl) | (rw [hE,aAS]<;>rfl)
  ·replace c1:=nq c1
   have hE:(eR (cW x) cols).2= [x.rowCount]:=by rw [hcz];exact (aN2 hok).2 c1
   refine ⟨?_,trivial⟩
   ·first | (rw [hE];done) | (rw [hE,aAR]<;>rfl) | (rw [hE,aAS]<;>rfl)
 ·replace c0:=nq c0
  refine ⟨⟨0,rfl,Nat.zero_le _,rfl⟩,fun k ⟨hk,ha⟩=>?_⟩
  refine ⟨List.length_map _,fun c2=>?_,fun c2=>?_⟩
  ·replace c2:=yq c2
   refine ⟨by omega,rfl,by omega,fun e26 h26=>?_⟩
   try (obtain rfl:=(aY h26 h26).symm)
   have q1:=iT h26
   have q3:cA e26=cG e26.columns+cX e26.values+cG e26.counts:=rfl
   have q6:cG e26.columns=e26.columns.length:=rfl
   have q7:cG e26.counts=e26.counts.length:=rfl
   have q8:=gG e26.values
   refine ⟨jZ _ _,fun c3=>?_,fun c3=>?_⟩
   ·replace c3:=yq c3
    have hE:=aOd hok h26 (fH.1 c3)
    refine ⟨by omega,rfl,by omega,fun e35 h35=>?_⟩
    try (obtain rfl:=(aY h26 h35).symm)
    refine ⟨aOa _ (by omega),?_,trivial⟩
    ·first | (rw [hE];done) | (rw [hE,aAR]<;>rfl) | (rw [hE,aAS]<;>rfl)
   ·replace c3:=nq c3
    refine ⟨⟨by omega,by omega⟩,?_⟩
    exact ⟨k+1,rfl,⟨by omega,cR h26 ha (by simpa using fun q=>c3 (fH.2 q))⟩,by omega⟩
  ·replace c2:=nq c2
   have hE:=aRH hok (bB (by omega) ha) c0
   refine ⟨?_,trivial⟩
   ·first | (rw [hE];done) | (rw [hE,aAR]<;>rfl) | (rw [hE,aAS]<;>rfl)
abbrev aG6 (x:aH) (cols:List Int):Prop:=cT Tryz.prog 172 [.agg [.str x.name,.int .i64 x.arity,.int .i64 x.rowCount,.sl 203 3 (x.groups.map aB)],.one (.sl 3 1 (cols.map intD))] (.p none (.sl 3 1 ((iL x cols).map intD))) []
theorem aRI (x:aH) (cols:List Int) (hc:bA x≤1048576) (hl:cols.length≤1048576):aG6 x cols:=by
 refine aT bE aL Tryz.func172 (by kernel_rfl) (.stl 4<| .call (vB (bX x)) []<| .br (.stl 4<| .fin []) (.call (.p none (.sl 3 1 ((mG (eR (cW x) cols).2).map intD))) []<| .stl 4<| .fin [])) (p:=(x.groups.map aB).length≤9223372036854775807→(cols.map intD).length≤9223372036854775807→vH x∧(((!(bX x))=true→[]=(iL x cols).map intD∧True)∧((!(bX x))=false→aA9 x cols∧(mG (eR (cW x) cols).2).map intD=(iL x cols).map intD∧True))) (by kernel_rfl) ?_
 intro n0 n1
 simp only [List.length_map] at n0 n1
 refine ⟨aG5 _ (by omega),fun c0=>?_,fun c0=>?_⟩
 ·replace c0:=nt c0
  have hE:iL x cols= []:=aN1 (by simpa using c0)
  refine ⟨?_,trivial⟩
  ·(rw [hE]<;>rfl)
 ·replace c0:=nf c0
  have hE:=aLR (cols:=cols) (by simpa using c0:bX x=true)
  refine ⟨aLS _ _ (by omega) (by first | assumption | simpa using c0),?_,trivial⟩
  ·(rw [hE]<;>rfl)
abbrev aBN (x:aH) (cols:List Int):AV × List (Nat × Rs):=(.own 0,[(0,.arr 3 1 true ((iL x cols).map intD))])
abbrev aG7 (x:aH) (cols:List Int):Prop:=cT Tryz.prog 189 [.agg [.str x.name,.int .i64 x.arity,.int .i64 x.rowCount,.sl 203 3 (x.groups.map aB)],.one (.sl 3 1 (cols.map intD))] (aBN x cols).1 (aBN x cols).2
theorem aRJ (x:aH) (cols:List Int) (hc:bA x≤1048576) (hl:cols.length≤1048576):aG7 x cols:=by
 refine aT bE aL Tryz.func189 (by kernel_rfl) (bV (qP x)<| .br (.fin []) (bV (aBM (cW x) cols)<| .fin [(0,1600)])) (p:=(x.groups.map aB).length≤9223372036854775807→(cols.map intD).length≤9223372036854775807→uY x∧(((!(bX x))=true→[]=(iL x cols).map intD∧True)∧((!(bX x))=false→aG4 (cW x) cols∧(mG (eR (cW x) cols).2).map intD=(iL x cols).map intD∧True))) (by kernel_rfl) ?_
 intro n0 n1
 simp only [List.length_map] at n0 n1
 refine ⟨aGE x (by omega),fun c0=>?_,fun c0=>?_⟩
 ·replace c0:=nt c0
  have hE:iL x cols= []:=aN1 (by simpa using c0)
  refine ⟨?_,trivial⟩
  ·(rw [hE]<;>rfl)
 ·replace c0:=nf c0
  have hE:=aLR (cols:=cols) (by simpa using c0:bX x=true)
  refine ⟨aRF (cW x) _ (by omega),?_,trivial⟩
  ·(rw [hE]<;>rfl)
abbrev aDs (x:aH) (cols:List Int):Prop:=cT Tryz.prog 139 [.agg [.str x.name,.int .i64 x.arity,.int .i64 x.rowCount,.sl 203 3 (x.groups.map aB)],.one (.sl 3 1 (cols.map intD))] (vI ((iL x cols).getD 0 0)) []
theorem aOe (x:aH) (cols:List Int) (hc:bA x≤1048576) (hl:cols.length≤1048576):aDs x cols:=by
 refine aT bE aL Tryz.func139 (by kernel_rfl) (.call (.p none (.sl 3 1 ((iL x cols).map intD))) []<| .len ((iL x cols).length)<| .br (.fin []) (.elem _ intD (iL x cols) (fun e13=> .fin []))) (p:=(x.groups.map aB).length≤9223372036854775807→(cols.map intD).length≤9223372036854775807→aG6 x cols∧(Lm intD (iL x cols)∧(((decide ((((iL x cols).length:Nat):Int)=(0:Int)))=true→(0:Int)=((iL x cols).getD 0 0)∧True)∧((decide ((((iL x cols).length:Nat):Int)=(0:Int)))=false→0≤(0:Int)∧Em intD (iL x cols) 0 fun e13=>e13=((iL x cols).getD 0 0)∧True)))) (by kernel_rfl) ?_
 intro n0 n1
 simp only [List.length_map] at n0 n1
 refine ⟨aRI _ _ (by omega) (by omega),List.length_map _,fun c0=>?_,fun c0=>?_⟩
 ·replace c0:=yq c0
  have hz:iL x cols= []:=List.eq_nil_of_length_eq_zero (by omega)
  refine ⟨?_,trivial⟩
  ·first | (rw [hz]<;>rfl) | (rw [bC h13])
 ·replace c0:=nq c0
  refine ⟨by omega,rfl,by omega,fun e13 h13=>?_⟩
  refine ⟨?_,trivial⟩
  ·first | (rw [hz]<;>rfl) | (rw [bC h13])
abbrev aDt (x:aH) (cols:List Int):Prop:=cT Tryz.prog 157 [.agg [.str x.name,.int .i64 x.arity,.int .i64 x.rowCount,.sl 203 3 (x.groups.map aB)],.one (.sl 3 1 (cols.map intD))] (vI ((iL x cols).getD 0 0)) []
theorem aOf (x:aH) (cols:List Int) (hc:bA x≤1048576) (hl:cols.length≤1048576):aDt x cols:=by
 refine aT bE aL Tryz.func157 (by kernel_rfl) (bV (aBN x cols)<| .len ((iL x cols).length)<| .br (.fin []) (.len ((iL x cols).length)<| .elem _ intD (iL x cols) (fun e14=> .fin []))) (p:=(x.groups.map aB).length≤9223372036854775807→(cols.map intD).length≤9223372036854775807→aG7 x cols∧(Lm intD (iL x cols)∧(((decide ((((iL x cols).length:Nat):Int)=(0:Int)))=true→(0:Int)=((iL x cols).getD 0 0)∧True)∧((decide ((((iL x cols).length:Nat):Int)=(0:Int)))=false→0≤(0:Int)∧Lm intD (iL x cols)∧(0:Int)<(((iL x cols).length:Nat):Int)∧Em intD (iL x cols) 0 fun e14=>e14=((iL x cols).getD 0 0)∧True)))) (by kernel_rfl) ?_
 intro n0 n1
 simp only [List.length_map] at n0 n1
 refine ⟨aRJ _ _ (by omega) (by omega),List.length_map _,fun c0=>?_,fun c0=>?_⟩
 ·replace c0:=yq c0
  have hz:iL x cols= []:=List.eq_nil_of_length_eq_zero (by omega)
  refine ⟨?_,trivial⟩
  ·first | (rw [hz]<;>rfl) | (rw [bC h14])
 ·replace c0:=nq c0
  refine ⟨by omega,List.length_map _,by omega,rfl,by omega,fun e14 h14=>?_⟩
  refine ⟨?_,trivial⟩
  ·first | (rw [hz]<;>rfl) | (rw [bC h14])
def aM1 (m x:Int):Int:=if eB x 0 3=true then cF .or .i64 m ((1:Int)*2^x.toNat) else m
def gV (l:List Int):Int:=l.foldl aM1 0
theorem kZ (l:List Int) (x:Int):gV (l++[x])=aM1 (gV l) x:=by simp [gV]
theorem aCX {m x:Int} (h:eB x 0 3=true):aM1 m x=cF .or .i64 m ((1:Int)*2^x.toNat):=by rw [aM1,if_pos h]
theorem aFB {m x:Int} (h:eB x 0 3=false):aM1 m x=m:=by rw [aM1,if_neg (by rw [h];decide)]
theorem aDR {x:Int} (h:eB x 0 3=true):cC ((1:Int)*2^x.toNat)∧0≤x∧x≤64:=by
 have h2:=eU h
 have h1:x=0∨x=1∨x=2∨x=3:=by omega
 refine ⟨?_,by omega,by omega⟩
 unfold cC
 rcases h1 with rfl | rfl | rfl | rfl<;>exact ⟨by decide,by decide⟩
def vsS (m:Int) (l:List Int):Nat→Int
 | 0=>0
 | k+1=>if (decide (cF .and .i64 (m/2^k) 1=1)&&eB (l.getD k 0) 0 3)=true then cF .or .i64 (vsS m l k) ((1:Int)*2^(l.getD k 0).toNat) else vsS m l k
theorem aJh {m:Int} {l:List Int} {k:Nat} {x:Int} (hx:l[k]? =some x) (h1:cF .and .i64 (m/2^k) 1=1) (h2:eB x 0 3=true):vsS m l (k+1)=cF .or .i64 (vsS m l k) ((1:Int)*2^x.toNat):=by
 rw [vsS,bC hx,if_pos (by simp [h1,h2])]
theorem aDS {m:Int} {l:List Int} {k:Nat} {x:Int} (hx:l[k]? =some x) (h:(decide (cF .and .i64 (m/2^k) 1=1)&&eB x 0 3)=false):vsS m l (k+1)=vsS m l k:=by
 rw [vsS,bC hx,if_neg (by rw [h];decide)]
theorem aG8 (m:Int) (l:List Int): ∀k,gV ((lV m k).map (sP l))=vsS m l k
 | 0=>rfl
 | k+1=>by
   by_cases h:cF .and .i64 (m/2^k) 1=1
   ·rw [tV h,List.map_append,List.map_cons,List.map_nil,kZ,aG8 m l k]
    have e:sP l (k:Int)=l.getD k 0:=by simp [sP]
    rw [e,vsS,aM1]
    simp [h]
   ·rw [yD h,aG8 m l k,vsS,if_neg (by simp [h])]
theorem aG9 {m:Int} {l:List Int} {k:Nat} (h:m/2^k=0):vsS m l (k+1)=vsS m l k:=by
 rw [vsS,if_neg (by rw [h];simp [show ¬cF .and .i64 0 1=1 by decide])]
theorem aIs {m:Int} {l:List Int} {n:Int} (hn:1≤n∧n≤3) (hl:(l.length:Int)=n) (h0:0≤m) (h1:m<2^n.toNat - 1):vsS m l (min l.length 3)=vsS m l 3:=by
 have h:n=1∨n=2∨n=3:=by omega
 rcases h with rfl | rfl | rfl
 ·have hm:m=0:=by simp at h1;omega
  subst hm
  rw [show min l.length 3=1 by omega,aG9 (k:=2) (by decide),aG9 (k:=1) (by decide)]
 ·have hm:m<4:=by simp at h1;omega
  rw [show min l.length 3=2 by omega,aG9 (k:=2) (by omega)]
 ·rw [show min l.length 3=3 by omega]
theorem aLT {m:Int} {l:List Int} {n:Int} (hn:1≤n∧n≤3) (hl:(l.length:Int)=n) (h0:0≤m) (h1:m<2^n.toNat - 1):gV (fK l (eZ m)).1=vsS m l 3:=by
 have hs:aKi l.length (eZ m)=true:=by
  rw [hl]
  have h:n=1∨n=2∨n=3:=by omega
  rcases h with rfl | rfl | rfl
  ·have hm:m=0:=by simp at h1;omega
   subst hm;decide
  ·have hm:m=0∨m=1∨m=2:=by simp at h1;omega
   rcases hm with rfl | rfl | rfl<;>decide
  ·have hm:m=0∨m=1∨m=2∨m=3∨m=4∨m=5∨m=6:=by simp at h1;omega
   rcases hm with rfl | rfl | rfl | rfl | rfl | rfl | rfl<;>decide
 rw [fK,if_pos hs]
 exact aG8 m l 3
def kQ:Nat→Nat→Int→Int
 | 0,b,_=>b
 | f+1,b,n=>if (2:Int)^b<n then kQ f (b+1) n else b
def nN (n:Int):Int:=if eB n 1 4096=true then kQ 12 0 n else -1
theorem aGa {b:Nat} {n:Int} (h2:n≤4096) (hb:b≤12) (h:(2:Int)^b<n):b<12∧kQ (12 - (b+1)) (b+1) n=kQ (12 - b) b n:=by
 have hlt:b<12:=by
  rcases Nat.lt_or_ge b 12 with h' | h'
  ·exact h'
  ·obtain rfl:b=12:=by omega
   exact absurd h (by have:(2:Int)^12=4096:=by decide
                      omega)
 refine ⟨hlt,?_⟩
 obtain ⟨f,hf⟩: ∃f,12 - b=f+1:=⟨11 - b,by omega⟩
 rw [hf,show 12 - (b+1)=f by omega,kQ,if_pos h]
theorem aGb {b:Nat} {n:Int} (h:n≤(2:Int)^b): ∀f,kQ f b n=b
 | 0=>rfl
 | f+1=>by rw [kQ,if_neg (by omega)]
def tcC (x:aH) (a:dS) (m:Nat):aD:=⟨vsS (m:Int) a.vars 3,gV a.vars,nN ((iL x (eZ (m:Int))).getD 0 0)⟩
def nO (x:aH) (a:dS):Bool:=bX x&&(!decide (x.rowCount=0)&&decide ((a.vars.length:Int)=x.arity))
def lO (x:aH) (a:dS):List aD:=if nO x a=true then (List.range ((2:Int)^x.arity.toNat - 1).toNat).map (tcC x a) else []
theorem oC {x:aH} {a:dS} (h:nO x a=true):lO x a=(List.range ((2:Int)^x.arity.toNat - 1).toNat).map (tcC x a):=by rw [lO,if_pos h]
theorem qR {x:aH} {a:dS} (h:nO x a=false):lO x a= []:=by rw [lO,if_neg (by rw [h];decide)]
theorem aBO {x:aH} {a:dS} (h:nO x a=true):bX x=true∧(a.vars.length:Int)=x.arity:=by
 simp only [nO,Bool.and_eq_true,decide_eq_true_eq] at h
 exact ⟨h.1,h.2.2⟩
theorem aGc (x:aH) (a:dS):(lO x a).length≤7:=by
 cases h:nO x a with
 | false=>rw [qR h];exact Nat.zero_le _
 | true=>
   have:=qY (aAL (aBO h).1)
   rw [oC h,List.length_map,List.length_range]
   omega
abbrev yO (l:List Int):Prop:=cT Tryz.prog 155 [.one (.sl 3 1 (l.map intD))] (vI (gV l)) []
theorem aIt (l:List Int):yO l:=by
 refine aT bE aL Tryz.func155 (by kernel_rfl) (.len l.length<| .loop (Nat × Int) (Q2 Nat Int) [3,5,8,9,10,11,12,13,14,15,16,17,18] [] (fun yy0=>[(8,vI (yy0.1:Int)),(3,vI yy0.2)]) (fun yy0=>[]) (fun yy0=>yy0.1≤l.length∧yy0.2=gV (l.take yy0.1)) (fun yy0=>l.length - yy0.1) (fun yy0=> .br (.elem _ intD l (fun e10=> .call (vB (eB e10 (0:Int) (3:Int))) []<| .br (.back []) (.back []))) (.fin []))) (p:=(l.map intD).length≤9223372036854775807→Lm intD l∧((∃(k:Nat) (o:Int),(0:Int)=(k:Int)∧(0:Int)=o∧k≤l.length∧o=gV (l.take k))∧ ∀(k:Nat) (o:Int),(k≤l.length∧o=gV (l.take k))→((decide ((k:Int)<((l.length:Nat):Int)))=true→0≤(k:Int)∧Em intD l k fun e10=>fS e10 (0:Int) (3:Int)∧(((eB e10 (0:Int) (3:Int))=true→(0≤e10∧e10≤64)∧cC ((1:Int)*2^(Int.toNat e10))∧cC ((k:Int)+(1:Int))∧ ∃(k' :Nat) (o' :Int),((k:Int)+(1:Int))=(k' :Int)∧(cF .or .i64 o ((1:Int)*2^(Int.toNat e10)))=o' ∧(k' ≤l.length∧o' =gV (l.take k'))∧l.length - k' <l.length - k)∧((eB e10 (0:Int) (3:Int))=false→cC ((k:Int)+(1:Int))∧ ∃(k' :Nat) (o' :Int),((k:Int)+(1:Int))=(k' :Int)∧o=o' ∧(k' ≤l.length∧o' =gV (l.take k'))∧l.length - k' <l.length - k)))∧((decide ((k:Int)<((l.length:Nat):Int)))=false→o=(gV l)∧True))) (by kernel_rfl) ?_
 intro n0
 simp only [List.length_map] at n0
 refine ⟨List.length_map _,⟨0,0,rfl,rfl,Nat.zero_le _,rfl⟩,fun k o ⟨hk,hv⟩=>?_⟩
 refine ⟨fun c0=>?_,fun c0=>?_⟩
 ·replace c0:=yq c0
  refine ⟨by omega,rfl,by omega,fun e10 h10=>?_⟩
  try (obtain rfl:=(aY h10 h10).symm)
  refine ⟨jQ _ _ _,fun c1=>?_,fun c1=>?_⟩
  ·obtain ⟨w1,w2,w3⟩:=aDR c1
   refine ⟨⟨by omega,by omega⟩,by first | exact w1 | exact ⟨by omega,by omega⟩,by first | exact w1 | exact ⟨by omega,by omega⟩,?_⟩
   exact ⟨k+1,_,rfl,rfl,⟨by omega,by first | (rw [bO h10,kZ,aCX c1,hv];done) | (rw [bO h10,kZ,aFB c1,hv];done)⟩,by omega⟩
  ·refine ⟨by first | exact w1 | exact ⟨by omega,by omega⟩,?_⟩
   exact ⟨k+1,_,rfl,rfl,⟨by omega,by first | (rw [bO h10,kZ,aCX c1,hv];done) | (rw [bO h10,kZ,aFB c1,hv];done)⟩,by omega⟩
 ·replace c0:=nq c0
  refine ⟨?_,trivial⟩
  ·rw [hv,List.take_of_length_le (by omega)]
abbrev aDu (l:List Int):Prop:=cT Tryz.prog 137 [.one (.sl 3 1 (l.map intD))] (vI (gV l)) []
theorem aOg (l:List Int):aDu l:=by
 refine aT bE aL Tryz.func137 (by kernel_rfl) (.loop (Nat × Int) (Q2 Nat Int) [3,4,5,6,7,8,9,10,11,12,13,14,15,16,17,18,19,20,21,22] [] (fun yy0=>[(4,vI (yy0.1:Int)),(3,vI yy0.2)]) (fun yy0=>[]) (fun yy0=>yy0.1≤l.length∧yy0.2=gV (l.take yy0.1)) (fun yy0=>l.length - yy0.1) (fun yy0=> .len l.length<| .br (.elem _ intD l (fun e13=> .call (vB (eB e13 (0:Int) (3:Int))) []<| .br (.elem _ intD l (fun e19=> .back [])) (.back []))) (.fin []))) (p:=(l.map intD).length≤9223372036854775807→(∃(k:Nat) (o:Int),(0:Int)=(k:Int)∧(0:Int)=o∧k≤l.length∧o=gV (l.take k))∧ ∀(k:Nat) (o:Int),(k≤l.length∧o=gV (l.take k))→Lm intD l∧(((decide ((k:Int)<((l.length:Nat):Int)))=true→0≤(k:Int)∧Em intD l k fun e13=>fT e13 (0:Int) (3:Int)∧(((eB e13 (0:Int) (3:Int))=true→0≤(k:Int)∧Em intD l k fun e19=>(0≤e19∧e19≤64)∧cC ((1:Int)*2^(Int.toNat e19))∧cC ((k:Int)+(1:Int))∧ ∃(k' :Nat) (o' :Int),((k:Int)+(1:Int))=(k' :Int)∧(cF .or .i64 o ((1:Int)*2^(Int.toNat e19)))=o' ∧(k' ≤l.length∧o' =gV (l.take k'))∧l.length - k' <l.length - k)∧((eB e13 (0:Int) (3:Int))=false→cC ((k:Int)+(1:Int))∧ ∃(k' :Nat) (o' :Int),((k:Int)+(1:Int))=(k' :Int)∧o=o' ∧(k' ≤l.length∧o' =gV (l.take k'))∧l.length - k' <l.length - k)))∧((decide ((k:Int)<((l.length:Nat):Int)))=false→o=(gV l)∧True))) (by kernel_rfl) ?_
 intro n0
 simp only [List.length_map] at n0
 refine ⟨⟨0,0,rfl,rfl,Nat.zero_le _,rfl⟩,fun k o ⟨hk,hv⟩=>?_⟩
 refine ⟨List.length_map _,fun c0=>?_,fun c0=>?_⟩
 ·replace c0:=yq c0
  refine ⟨by omega,rfl,by omega,fun e13 h13=>?_⟩
  try (obtain rfl:=(aY h13 h13).symm)
  refine ⟨jR _ _ _,fun c1=>?_,fun c1=>?_⟩
  ·obtain ⟨w1,w2,w3⟩:=aDR c1
   refine ⟨by omega,rfl,by omega,fun e19 h19=>?_⟩
   try (obtain rfl:=(aY h13 h19).symm)
   refine ⟨⟨by omega,by omega⟩,by first | exact w1 | exact ⟨by omega,by omega⟩,by first | exact w1 | exact ⟨by omega,by omega⟩,?_⟩
   exact ⟨k+1,_,rfl,rfl,⟨by omega,by first | (rw [bO h13,kZ,aCX c1,hv];done) | (rw [bO h13,kZ,aFB c1,hv];done)⟩,by omega⟩
  ·refine ⟨by first | exact w1 | exact ⟨by omega,by omega⟩,?_⟩
   exact ⟨k+1,_,rfl,rfl,⟨by omega,by first | (rw [bO h13,kZ,aCX c1,hv];done) | (rw [bO h13,kZ,aFB c1,hv];done)⟩,by omega⟩
 ·replace c0:=nq c0
  refine ⟨?_,trivial⟩
  ·rw [hv,List.take_of_length_le (by omega)]
abbrev aDv (n:Int):Prop:=cT Tryz.prog 156 [.one (.int .i64 n)] (vI (nN n)) []
theorem aOh (n:Int):aDv n:=by
 refine aT bE aL Tryz.func156 (by kernel_rfl) (.call (vB (eB n (1:Int) (4096:Int))) []<| .br (.fin []) (.loop Nat (Q1 Nat) [3,7,8,9,10,11,12] [] (fun b=>[(3,vI (b:Int))]) (fun b=>[]) (fun b=>b≤12∧kQ (12 - b) b n=kQ 12 0 n) (fun b=>12 - b) (fun b=> .br (.back []) (.fin [])))) (p:=fS n (1:Int) (4096:Int)∧(((!(eB n (1:Int) (4096:Int)))=true→(-1:Int)=(nN n)∧True)∧((!(eB n (1:Int) (4096:Int)))=false→(∃(b:Nat),(0:Int)=(b:Int)∧b≤12∧kQ (12 - b) b n=kQ 12 0 n)∧ ∀(b:Nat),(b≤12∧kQ (12 - b) b n=kQ 12 0 n)→(0≤(b:Int)∧(b:Int)≤64)∧(cC ((1:Int)*2^b)∧(((decide (((1:Int)*2^b)<n))=true→cC ((b:Int)+(1:Int))∧ ∃(b' :Nat),((b:Int)+(1:Int))=(b' :Int)∧(b' ≤12∧kQ (12 - b') b' n=kQ 12 0 n)∧12 - b' <12 - b)∧((decide (((1:Int)*2^b)<n))=false→(b:Int)=(nN n)∧True)))))) (by kernel_rfl) ?_
 refine ⟨jQ _ _ _,fun c0=>?_,fun c0=>?_⟩
 ·replace c0:=nt c0
  have hn:eB n 1 4096=false:=by simpa using c0
  refine ⟨?_,trivial⟩
  ·first | (rw [nN,if_neg (by rw [hn];decide)];done) | (rw [nN,if_pos hn,←hr,w5])
 ·replace c0:=nf c0
  have hn:eB n 1 4096=true:=by simpa using c0
  obtain ⟨w1,w2⟩:=eU hn
  refine ⟨⟨0,rfl,by omega,rfl⟩,fun b ⟨hb,hr⟩=>?_⟩
  refine ⟨⟨by omega,by omega⟩,by first | exact ⟨by omega,by omega⟩ | (have hp:=aEq b hb;exact ⟨by omega,by omega⟩),fun c1=>?_,fun c1=>?_⟩
  ·replace c1:=yq c1
   obtain ⟨w3,w4⟩:=aGa w2 hb (by omega)
   refine ⟨by first | exact ⟨by omega,by omega⟩ | (have hp:=aEq b hb;exact ⟨by omega,by omega⟩),?_⟩
   exact ⟨b+1,rfl,⟨by omega,by rw [w4];exact hr⟩,by omega⟩
  ·replace c1:=nq c1
   have w5:=aGb (b:=b) (n:=n) (by omega) (12 - b)
   refine ⟨?_,trivial⟩
   ·first | (rw [nN,if_neg (by rw [hn];decide)];done) | (rw [nN,if_pos hn,←hr,w5])
abbrev aDw (n:Int):Prop:=cT Tryz.prog 138 [.one (.int .i64 n)] (vI (nN n)) []
theorem aOi (n:Int):aDw n:=by
 refine aT bE aL Tryz.func138 (by kernel_rfl) (.call (vB (eB n (1:Int) (4096:Int))) []<| .br (.fin []) (.loop Nat (Q1 Nat) [3,7,8,9,10,11,12] [] (fun b=>[(3,vI (b:Int))]) (fun b=>[]) (fun b=>b≤12∧kQ (12 - b) b n=kQ 12 0 n) (fun b=>12 - b) (fun b=> .br (.back []) (.fin [])))) (p:=fT n (1:Int) (4096:Int)∧(((!(eB n (1:Int) (4096:Int)))=true→(-1:Int)=(nN n)∧True)∧((!(eB n (1:Int) (4096:Int)))=false→(∃(b:Nat),(0:Int)=(b:Int)∧b≤12∧kQ (12 - b) b n=kQ 12 0 n)∧ ∀(b:Nat),(b≤12∧kQ (12 - b) b n=kQ 12 0 n)→(0≤(b:Int)∧(b:Int)≤64)∧(cC ((1:Int)*2^b)∧(((decide (((1:Int)*2^b)<n))=true→cC ((b:Int)+(1:Int))∧ ∃(b' :Nat),((b:Int)+(1:Int))=(b' :Int)∧(b' ≤12∧kQ (12 - b') b' n=kQ 12 0 n)∧12 - b' <12 - b)∧((decide (((1:Int)*2^b)<n))=false→(b:Int)=(nN n)∧True)))))) (by kernel_rfl) ?_
 refine ⟨jR _ _ _,fun c0=>?_,fun c0=>?_⟩
 ·replace c0:=nt c0
  have hn:eB n 1 4096=false:=by simpa using c0
  refine ⟨?_,trivial⟩
  ·first | (rw [nN,if_neg (by rw [hn];decide)];done) | (rw [nN,if_pos hn,←hr,w5])
 ·replace c0:=nf c0
  have hn:eB n 1 4096=true:=by simpa using c0
  obtain ⟨w1,w2⟩:=eU hn
  refine ⟨⟨0,rfl,by omega,rfl⟩,fun b ⟨hb,hr⟩=>?_⟩
  refine ⟨⟨by omega,by omega⟩,by first | exact ⟨by omega,by omega⟩ | (have hp:=aEq b hb;exact ⟨by omega,by omega⟩),fun c1=>?_,fun c1=>?_⟩
  ·replace c1:=yq c1
   obtain ⟨w3,w4⟩:=aGa w2 hb (by omega)
   refine ⟨by first | exact ⟨by omega,by omega⟩ | (have hp:=aEq b hb;exact ⟨by omega,by omega⟩),?_⟩
   exact ⟨b+1,rfl,⟨by omega,by rw [w4];exact hr⟩,by omega⟩
  ·replace c1:=nq c1
   have w5:=aGb (b:=b) (n:=n) (by omega) (12 - b)
   refine ⟨?_,trivial⟩
   ·first | (rw [nN,if_neg (by rw [hn];decide)];done) | (rw [nN,if_pos hn,←hr,w5])
end Go.Proofs.YtdfebigfnjfgpaaGreat
