/-
  Contracts and plain laws, joined: part 9.
-/
import Derived.Test.YtokkjaflmcjlhaaGreatQA7
import Derived.Test.YtokkjaflmcjlhaaGreatQA5
import Derived.Test.YtokkjaflmcjlhaaGreatQA3
import Derived.Test.YtokkjaflmcjlhaaGreatQA4
namespace Go.Proofs.YtokkjaflmcjlhaaGreat
open Go.ChangeShapes Go.WideShapes Go.ChangeAt Go.RowKit
set_option linter.unusedVariables false
set_option linter.unusedSimpArgs false
set_option maxRecDepth 100000
set_option maxHeartbeats 4000000
def rJ (t:aS) (cols:List Int):aN:=⟨cols,(dG t cols).1,(dG t cols).2⟩
def aX (t:aS):aF:=if aL t=true then ⟨t.name,t.arity,(t.rows.length:Nat),(bK t.arity).map (rJ t)⟩ else dJ
theorem bJ {t:aS} (h:aL t=true):aX t=⟨t.name,t.arity,(t.rows.length:Nat),(bK t.arity).map (rJ t)⟩:=by rw [aX,if_pos h]
theorem eH {t:aS} (h:aL t=false):aX t=dJ:=by rw [aX,if_neg (by rw [h];decide)]
theorem aK9 {α:Type} {l:List α} {k:Nat} (h:k<l.length):l.drop k≠[]:=fun e=>by
 have:=congrArg List.length e
 simp at this
 omega
theorem aKa {α:Type} {l l2:List α} {k:Nat} {x:α} (h:l.drop k=x::l2):l2=l.drop (k+1):=by rw [←List.tail_drop,h];rfl
theorem aKb {α:Type} {l l2:List α} {k:Nat} {x:α} (h:l.drop k=x::l2):l[k]? =some x:=by
 have:=congrArg List.head? h
 simpa [List.head?_drop] using this
theorem zN {n:Int} {k:Nat} {x:List Int} (h:(bK n)[k]? =some x):x.length≤3:=by
 obtain ⟨i,_,rfl⟩:=List.mem_map.1 (List.mem_of_getElem? h)
 exact aBc _ 3
theorem vY {n:Int} (h:1≤n∧n≤3):(bK n).length≤7:=by
 have:=aBd h
 simp only [bK,pF,List.length_map,List.length_range]
 omega
abbrev xU (t:aS):AV × List (Nat × Rs):=(.agg [.p none (.str ((aX t).name)),vI ((aX t).arity),vI ((aX t).rowCount),.own 0],[(0,.arr 218 3 true (((aX t).groups).map aA))])
abbrev aBe (t:aS):Prop:=cO Tryz.prog 155 [.agg [.str t.name,.int .i64 t.arity,.sl 32 1 (t.rows.map aC)]] (xU t).1 (xU t).2
theorem aHI (t:aS):aBe t:=by
 refine aT bF aQ Tryz.func155 (by kernel_rfl) (.call (vB (aL t)) []<| .br (.fin []) (.len t.rows.length<| bH (vW t.arity)<| .len ((bK t.arity).length)<| .loop (Nat × (List (List Int)) × (List aN)) (Q3 Nat (List (List Int)) (List aN)) [5,6,7,24,25,26,27,28,29,30,31,32,33,34,35,36,37,38,39,40,41,42,43] [300,2200,3100,3101,4000,4100,9000,50607] (fun yy0=>[(24,vI (yy0.1:Int))]) (fun yy0=>[(300,some (.box 121 [.p none (.str t.name),vI t.arity,vI ((t.rows.length:Nat):Int),.own 9000])),(9000,some (.arr 218 3 true (yy0.2.2.map aA))),(2200,some (.arr 32 1 true (List.replicate yy0.1 [bI.gone]++yy0.2.1.map aC)))]) (fun yy0=>yy0.1≤(bK t.arity).length∧yy0.2.1=(bK t.arity).drop yy0.1∧yy0.2.2=((bK t.arity).take yy0.1).map (rJ t)) (fun yy0=>(bK t.arity).length - yy0.1) (fun yy0=> .br (.takeg 6 2200 yy0.1 50607 (List Int) aC yy0.2.1 (fun x6 l6=> .len (yy0.1+(l6.length+1))<| .leave 7 2200 yy0.1 50607 (List Int) aC x6 l6 (bH (sN t x6)<| .appx aN aA yy0.2.2 (⟨x6,(dG t x6).1,(dG t x6).2⟩:aN)<| .back [(300,300),(2200,2200),(9000,4100)]))) (.fin [(0,9000)])))) (p:=(t.rows.map aC).length≤9223372036854775807→pB t∧(((!(aL t))=true→ByteArray.empty=((aX t).name)∧(0:Int)=((aX t).arity)∧(0:Int)=((aX t).rowCount)∧[]=((aX t).groups).map aA∧True)∧((!(aL t))=false→Lm aC t.rows∧(aCJ t.arity∧(Lm aC (bK t.arity)∧((∃(k:Nat) (l2:List (List Int)) (out:List aN),(0:Int)=(k:Int)∧t.name=t.name∧t.arity=t.arity∧((t.rows.length:Nat):Int)=((t.rows.length:Nat):Int)∧[]=out.map aA∧(bK t.arity).map aC=List.replicate k [bI.gone]++l2.map aC∧k≤(bK t.arity).length∧l2=(bK t.arity).drop k∧out=((bK t.arity).take k).map (rJ t))∧ ∀(k:Nat) (l2:List (List Int)) (out:List aN),(k≤(bK t.arity).length∧l2=(bK t.arity).drop k∧out=((bK t.arity).take k).map (rJ t))→((decide ((k:Int)<(((bK t.arity).length:Nat):Int)))=true→List.replicate k [bI.gone]++l2.map aC=List.replicate k [bI.gone]++l2.map aC∧l2≠[]∧ ∀x6 l6,l2=x6::l6→0≤(k:Int)∧(List.replicate k [bI.gone]++(x6::l6).map aC).length=k+(l6.length+1)∧(k:Int)<((k+(l6.length+1):Nat):Int)∧k=k∧List.replicate k [bI.gone]++(x6::l6).map aC=List.replicate k [bI.gone]++(x6::l6).map aC∧k=k∧zK t x6∧out.map aA=out.map aA∧x6.map intD=((⟨x6,(dG t x6).1,(dG t x6).2⟩:aN).columns).map intD∧((dG t x6).1).map aC=((⟨x6,(dG t x6).1,(dG t x6).2⟩:aN).values).map aC∧((dG t x6).2).map intD=((⟨x6,(dG t x6).1,(dG t x6).2⟩:aN).counts).map intD∧(out.length+1)*72≤140737488355328∧cL ((k:Int)+(1:Int))∧ ∃(k' :Nat) (l2' :List (List Int)) (out' :List aN),((k:Int)+(1:Int))=(k' :Int)∧t.name=t.name∧t.arity=t.arity∧((t.rows.length:Nat):Int)=((t.rows.length:Nat):Int)∧(out++[(⟨x6,(dG t x6).1,(dG t x6).2⟩:aN)]).map aA=out'.map aA∧List.replicate (k+1) [bI.gone]++l6.map aC=List.replicate k' [bI.gone]++l2'.map aC∧(k' ≤(bK t.arity).length∧l2' =(bK t.arity).drop k' ∧out' =((bK t.arity).take k').map (rJ t))∧(bK t.arity).length - k' <(bK t.arity).length - k)∧((decide ((k:Int)<(((bK t.arity).length:Nat):Int)))=false→t.name=((aX t).name)∧t.arity=((aX t).arity)∧((t.rows.length:Nat):Int)=((aX t).rowCount)∧out.map aA=((aX t).groups).map aA∧True))))))) (by kernel_rfl) ?_
 intro n0
 simp only [List.length_map] at n0
 refine ⟨vO t,fun c0=>?_,fun c0=>?_⟩
 ·replace c0:=nt c0
  have hbad:aL t=false:=by simpa using c0
  refine ⟨?_,?_,?_,?_,trivial⟩
  ·first | (rw [eH hbad]<;>rfl) | (rw [bJ hok]<;>rfl) | (rw [bJ hok,ho,List.take_of_length_le (by omega)])
  ·first | (rw [eH hbad]<;>rfl) | (rw [bJ hok]<;>rfl) | (rw [bJ hok,ho,List.take_of_length_le (by omega)])
  ·first | (rw [eH hbad]<;>rfl) | (rw [bJ hok]<;>rfl) | (rw [bJ hok,ho,List.take_of_length_le (by omega)])
  ·first | (rw [eH hbad]<;>rfl) | (rw [bJ hok]<;>rfl) | (rw [bJ hok,ho,List.take_of_length_le (by omega)])
 ·replace c0:=nf c0
  have hok:aL t=true:=by simpa using c0
  have hT:=bT hok
  have hn:=vY (n:=t.arity) ⟨hT.1,hT.2.1⟩
  refine ⟨List.length_map _,aLa t.arity (by omega),List.length_map _,⟨0,bK t.arity,([]:List aN),rfl,rfl,rfl,rfl,rfl,rfl,Nat.zero_le _,rfl,rfl⟩,fun k l2 out ⟨hk,hl,ho⟩=>?_⟩
  have hlen:l2.length=(bK t.arity).length - k:=by rw [hl,List.length_drop]
  refine ⟨fun c1=>?_,fun c1=>?_⟩
  ·replace c1:=yq c1
   refine ⟨rfl,(by rw [hl];exact aK9 (by omega)),fun x6 l6 t6=>?_⟩
   have hdx:=hl.symm.trans t6
   have hx:=aKb hdx
   have hx3:=zN hx
   refine ⟨by omega,by simp,by omega,rfl,rfl,rfl,aIX t x6 (by omega),rfl,rfl,rfl,rfl,by first | omega | (simp [ho];omega),⟨by omega,by omega⟩,?_⟩
   exact ⟨k+1,_,_,rfl,rfl,rfl,rfl,rfl,rfl,⟨by omega,aKa hdx,by rw [ho,cI hx,List.map_append];rfl⟩,by omega⟩
  ·replace c1:=nq c1
   refine ⟨?_,?_,?_,?_,trivial⟩
   ·first | (rw [eH hbad]<;>rfl) | (rw [bJ hok]<;>rfl) | (rw [bJ hok,ho,List.take_of_length_le (by omega)])
   ·first | (rw [eH hbad]<;>rfl) | (rw [bJ hok]<;>rfl) | (rw [bJ hok,ho,List.take_of_length_le (by omega)])
   ·first | (rw [eH hbad]<;>rfl) | (rw [bJ hok]<;>rfl) | (rw [bJ hok,ho,List.take_of_length_le (by omega)])
   ·first | (rw [eH hbad]<;>rfl) | (rw [bJ hok]<;>rfl) | (rw [bJ hok,ho,List.take_of_length_le (by omega)])
abbrev xV (t:aS):AV × List (Nat × Rs):=(.agg [.p none (.str ((aX t).name)),vI ((aX t).arity),vI ((aX t).rowCount),.own 0],[(0,.arr 218 3 true (((aX t).groups).map aA))])
abbrev aBf (t:aS):Prop:=cO Tryz.prog 139 [.agg [.str t.name,.int .i64 t.arity,.sl 32 1 (t.rows.map aC)]] (xV t).1 (xV t).2
theorem aKc (t:aS):aBf t:=by
 refine aT bF aQ Tryz.func139 (by kernel_rfl) (.call (vB (aL t)) []<| .br (.fin []) (.len t.rows.length<| bH (vX t.arity)<| .loop (Nat × (List (List Int)) × (List aN)) (Q3 Nat (List (List Int)) (List aN)) [5,6,7,23,24,25,26,27,28,29,30,31,32,33,34,35,36,37,38,39,40,41,42,43,44,45,46,47,48,49] [300,2200,3500,3501,4700,4800,9000,50807] (fun yy0=>[(5,vI (yy0.1:Int))]) (fun yy0=>[(300,some (.box 121 [.p none (.str t.name),vI t.arity,vI ((t.rows.length:Nat):Int),.own 9000])),(9000,some (.arr 218 3 true (yy0.2.2.map aA))),(2200,some (.arr 32 1 true (List.replicate yy0.1 [bI.gone]++yy0.2.1.map aC)))]) (fun yy0=>yy0.1≤(bK t.arity).length∧yy0.2.1=(bK t.arity).drop yy0.1∧yy0.2.2=((bK t.arity).take yy0.1).map (rJ t)) (fun yy0=>(bK t.arity).length - yy0.1) (fun yy0=> .len (yy0.1+yy0.2.1.length)<| .br (.takeg 8 2200 yy0.1 50807 (List Int) aC yy0.2.1 (fun x8 l8=> .len (yy0.1+(l8.length+1))<| bH (zM t x8)<| .len (yy0.1+(l8.length+1))<| .appx aN aA yy0.2.2 (⟨x8,(dG t x8).1,(dG t x8).2⟩:aN)<| .leave 7 2200 yy0.1 50807 (List Int) aC x8 l8 (.back [(300,300),(2200,2200),(9000,4800)]))) (.fin [(0,9000)])))) (p:=(t.rows.map aC).length≤9223372036854775807→mE t∧(((!(aL t))=true→ByteArray.empty=((aX t).name)∧(0:Int)=((aX t).arity)∧(0:Int)=((aX t).rowCount)∧[]=((aX t).groups).map aA∧True)∧((!(aL t))=false→Lm aC t.rows∧(aCK t.arity∧((∃(k:Nat) (l2:List (List Int)) (out:List aN),(0:Int)=(k:Int)∧t.name=t.name∧t.arity=t.arity∧((t.rows.length:Nat):Int)=((t.rows.length:Nat):Int)∧[]=out.map aA∧(bK t.arity).map aC=List.replicate k [bI.gone]++l2.map aC∧k≤(bK t.arity).length∧l2=(bK t.arity).drop k∧out=((bK t.arity).take k).map (rJ t))∧ ∀(k:Nat) (l2:List (List Int)) (out:List aN),(k≤(bK t.arity).length∧l2=(bK t.arity).drop k∧out=((bK t.arity).take k).map (rJ t))→(List.replicate k [bI.gone]++l2.map aC).length=k+l2.length∧(((decide ((k:Int)<((k+l2.length:Nat):Int)))=true→List.replicate k [bI.gone]++l2.map aC=List.replicate k [bI.gone]++l2.map aC∧l2≠[]∧ ∀x8 l8,l2=x8::l8→0≤(k:Int)∧(List.replicate k [bI.gone]++(x8::l8).map aC).length=k+(l8.length+1)∧(k:Int)<((k+(l8.length+1):Nat):Int)∧k=k∧aED t x8∧0≤(k:Int)∧(List.replicate k [bI.gone]++(x8::l8).map aC).length=k+(l8.length+1)∧(k:Int)<((k+(l8.length+1):Nat):Int)∧k=k∧out.map aA=out.map aA∧x8.map intD=((⟨x8,(dG t x8).1,(dG t x8).2⟩:aN).columns).map intD∧((dG t x8).1).map aC=((⟨x8,(dG t x8).1,(dG t x8).2⟩:aN).values).map aC∧((dG t x8).2).map intD=((⟨x8,(dG t x8).1,(dG t x8).2⟩:aN).counts).map intD∧(out.length+1)*72≤140737488355328∧List.replicate k [bI.gone]++(x8::l8).map aC=List.replicate k [bI.gone]++(x8::l8).map aC∧k=k∧cL ((k:Int)+(1:Int))∧ ∃(k' :Nat) (l2' :List (List Int)) (out' :List aN),((k:Int)+(1:Int))=(k' :Int)∧t.name=t.name∧t.arity=t.arity∧((t.rows.length:Nat):Int)=((t.rows.length:Nat):Int)∧(out++[(⟨x8,(dG t x8).1,(dG t x8).2⟩:aN)]).map aA=out'.map aA∧List.replicate (k+1) [bI.gone]++l8.map aC=List.replicate k' [bI.gone]++l2'.map aC∧(k' ≤(bK t.arity).length∧l2' =(bK t.arity).drop k' ∧out' =((bK t.arity).take k').map (rJ t))∧(bK t.arity).length - k' <(bK t.arity).length - k)∧((decide ((k:Int)<((k+l2.length:Nat):Int)))=false→t.name=((aX t).name)∧t.arity=((aX t).arity)∧((t.rows.length:Nat):Int)=((aX t).rowCount)∧out.map aA=((aX t).groups).map aA∧True))))))) (by kernel_rfl) ?_
 intro n0
 simp only [List.length_map] at n0
 refine ⟨vP t,fun c0=>?_,fun c0=>?_⟩
 ·replace c0:=nt c0
  have hbad:aL t=false:=by simpa using c0
  refine ⟨?_,?_,?_,?_,trivial⟩
  ·first | (rw [eH hbad]<;>rfl) | (rw [bJ hok]<;>rfl) | (rw [bJ hok,ho,List.take_of_length_le (by omega)])
  ·first | (rw [eH hbad]<;>rfl) | (rw [bJ hok]<;>rfl) | (rw [bJ hok,ho,List.take_of_length_le (by omega)])
  ·first | (rw [eH hbad]<;>rfl) | (rw [bJ hok]<;>rfl) | (rw [bJ hok,ho,List.take_of_length_le (by omega)])
  ·first | (rw [eH hbad]<;>rfl) | (rw [bJ hok]<;>rfl) | (rw [bJ hok,ho,List.take_of_length_le (by omega)])
 ·replace c0:=nf c0
  have hok:aL t=true:=by simpa using c0
  have hT:=bT hok
  have hn:=vY (n:=t.arity) ⟨hT.1,hT.2.1⟩
  refine ⟨List.length_map _,aLb t.arity (by omega),⟨0,bK t.arity,([]:List aN),rfl,rfl,rfl,rfl,rfl,rfl,Nat.zero_le _,rfl,rfl⟩,fun k l2 out ⟨hk,hl,ho⟩=>?_⟩
  have hlen:l2.length=(bK t.arity).length - k:=by rw [hl,List.length_drop]
  refine ⟨by simp,fun c1=>?_,fun c1=>?_⟩
  ·replace c1:=yq c1
   refine ⟨rfl,(by rw [hl];exact aK9 (by omega)),fun x8 l8 t8=>?_⟩
   have hdx:=hl.symm.trans t8
   have hx:=aKb hdx
   have hx3:=zN hx
   refine ⟨by omega,by simp,by omega,rfl,aNm t x8 (by omega),by omega,by simp,by omega,rfl,rfl,rfl,rfl,rfl,by first | omega | (simp [ho];omega),rfl,rfl,⟨by omega,by omega⟩,?_⟩
   exact ⟨k+1,_,_,rfl,rfl,rfl,rfl,rfl,rfl,⟨by omega,aKa hdx,by rw [ho,cI hx,List.map_append];rfl⟩,by omega⟩
  ·replace c1:=nq c1
   refine ⟨?_,?_,?_,?_,trivial⟩
   ·first | (rw [eH hbad]<;>rfl) | (rw [bJ hok]<;>rfl) | (rw [bJ hok,ho,List.take_of_length_le (by omega)])
   ·first | (rw [eH hbad]<;>rfl) | (rw [bJ hok]<;>rfl) | (rw [bJ hok,ho,List.take_of_length_le (by omega)])
   ·first | (rw [eH hbad]<;>rfl) | (rw [bJ hok]<;>rfl) | (rw [bJ hok,ho,List.take_of_length_le (by omega)])
   ·first | (rw [eH hbad]<;>rfl) | (rw [bJ hok]<;>rfl) | (rw [bJ hok,ho,List.take_of_length_le (by omega)])
abbrev zO (x:aF):AV × List (Nat × Rs):=(.agg [.p none (.str x.name),vI x.arity,vI x.rowCount,.own 0],[(0,.arr 218 3 true (x.groups.map aA))])
abbrev aEF (x:aF):Prop:=cO Tryz.prog 197 [.agg [.str x.name,.int .i64 x.arity,.int .i64 x.rowCount,.sl 218 3 (x.groups.map aA)]] (zO x).1 (zO x).2
theorem aNn (x:aF) (hc:aZ x≤1048576):aEF x:=by
 refine aT bF aQ Tryz.func197 (by kernel_rfl) (.len x.groups.length<| .loop (Nat × (List aN)) (Q2 Nat (List aN)) [3,5,6,10,11,12,13,14,15,16,17,18,19,20,21,22,23,24,25,26,27] [500,600,1700,2000,2300,2500,2600] (fun yy0=>[(3,.own 600),(10,vI (yy0.1:Int))]) (fun yy0=>[(600,some (.arr 218 3 true (yy0.2.map aA)))]) (fun yy0=>yy0.1≤x.groups.length∧yy0.2=x.groups.take yy0.1) (fun yy0=>x.groups.length - yy0.1) (fun yy0=> .br (.elem _ aA x.groups (fun e12=>bH (aGP e12.columns)<| bH (aGQ e12.values)<| bH (aGP e12.counts)<| .appx aN aA yy0.2 e12<| .back [(600,2600)])) (.fin [(0,600)]))) (p:=(x.groups.map aA).length≤9223372036854775807→Lm aA x.groups∧((∃(k:Nat) (out:List aN),(0:Int)=(k:Int)∧[]=out.map aA∧k≤x.groups.length∧out=x.groups.take k)∧ ∀(k:Nat) (out:List aN),(k≤x.groups.length∧out=x.groups.take k)→((decide ((k:Int)<((x.groups.length:Nat):Int)))=true→0≤(k:Int)∧Em aA x.groups k fun e12=>aIN e12.columns∧aIO e12.values∧aIN e12.counts∧out.map aA=out.map aA∧e12.columns.map intD=e12.columns.map intD∧e12.values.map aC=e12.values.map aC∧e12.counts.map intD=e12.counts.map intD∧(out.length+1)*72≤140737488355328∧cL ((k:Int)+(1:Int))∧ ∃(k' :Nat) (out' :List aN),((k:Int)+(1:Int))=(k' :Int)∧(out++[e12]).map aA=out'.map aA∧(k' ≤x.groups.length∧out' =x.groups.take k')∧x.groups.length - k' <x.groups.length - k)∧((decide ((k:Int)<((x.groups.length:Nat):Int)))=false→x.name=x.name∧x.arity=x.arity∧x.rowCount=x.rowCount∧out.map aA=x.groups.map aA∧True))) (by kernel_rfl) ?_
 intro n0
 simp only [List.length_map] at n0
 have q2:aZ x=x.name.size+dB x.groups:=rfl
 have q5:=fJ x.groups
 refine ⟨List.length_map _,⟨0,([]:List aN),rfl,rfl,Nat.zero_le _,rfl⟩,fun k out ⟨hk,ho⟩=>?_⟩
 refine ⟨fun c0=>?_,fun c0=>?_⟩
 ·replace c0:=yq c0
  refine ⟨by omega,rfl,by omega,fun e12 h12=>?_⟩
  have q1:=fT h12
  have q3:bN e12=cG e12.columns+cK e12.values+cG e12.counts:=rfl
  have q6:cG e12.columns=e12.columns.length:=rfl
  have q7:cG e12.counts=e12.counts.length:=rfl
  have q8:=fA e12.values
  refine ⟨cpI _ (by omega),cpR _ (by omega),cpI _ (by omega),rfl,rfl,rfl,rfl,by simp [ho];omega,⟨by omega,by omega⟩,?_⟩
  exact ⟨k+1,out++[e12],rfl,rfl,⟨by omega,by rw [ho,cI h12]⟩,by omega⟩
 ·replace c0:=nq c0
  refine ⟨rfl,rfl,rfl,?_,trivial⟩
  ·rw [ho,List.take_of_length_le (by omega)]
def jD (x:aF):List (List Int):=(x.groups.getD (x.groups.length - 1) eA).values
def bU (x:aF):aS:=⟨x.name,x.arity,jD x⟩
def bM (x:aF):Bool:=aL (bU x)&&decide (aX (bU x)=x)
theorem aI2 {x:aF} {g:aN} (h:x.groups[x.groups.length - 1]? =some g):jD x=g.values:=by rw [jD,aP h]
theorem aLc {x:aF} (h:x.groups.length=0):jD x= []:=by
 rw [jD,List.length_eq_zero_iff.1 h];rfl
abbrev nZ (x:aF):AV × List (Nat × Rs):=(.tup [.agg [.p none (.str ((bU x).name)),vI ((bU x).arity),.own 0],vB (bM x)],[(0,.arr 32 1 true (((bU x).rows).map aC))])
abbrev sP (x:aF):Prop:=cO Tryz.prog 181 [.agg [.str x.name,.int .i64 x.arity,.int .i64 x.rowCount,.sl 218 3 (x.groups.map aA)]] (nZ x).1 (nZ x).2
theorem aEG (x:aF) (hc:aZ x≤1048576):sP x:=by
 refine aT bF aQ Tryz.func181 (by kernel_rfl) (.len x.groups.length<| .br (.elem _ aA x.groups (fun e20=>bH (aGQ e20.values)<| .call (vB (aL (⟨x.name,x.arity,e20.values⟩:aS))) []<| .br (bH (xU (⟨x.name,x.arity,e20.values⟩:aS))<| .call (vB (decide ((aX (⟨x.name,x.arity,e20.values⟩:aS))=x))) []<| .fin [(0,2300)]) (.fin [(0,2300)]))) (.call (vB (aL (⟨x.name,x.arity,([]:List (List Int))⟩:aS))) []<| .br (.call (.agg [.p none (.str ((aX (⟨x.name,x.arity,([]:List (List Int))⟩:aS)).name)),vI ((aX (⟨x.name,x.arity,([]:List (List Int))⟩:aS)).arity),vI ((aX (⟨x.name,x.arity,([]:List (List Int))⟩:aS)).rowCount),.own 0]) [(0,.arr 218 3 true (((aX (⟨x.name,x.arity,([]:List (List Int))⟩:aS)).groups).map aA))]<| .call (vB (decide ((aX (⟨x.name,x.arity,([]:List (List Int))⟩:aS))=x))) []<| .fin []) (.fin []))) (p:=(x.groups.map aA).length≤9223372036854775807→Lm aA x.groups∧(((decide ((0:Int)<((x.groups.length:Nat):Int)))=true→cL (((x.groups.length:Nat):Int) - (1:Int))∧(0≤(((x.groups.length:Nat):Int) - (1:Int))∧Em aA x.groups ((((x.groups.length:Nat):Int) - (1:Int)).toNat) fun e20=>aIO e20.values∧(pB (⟨x.name,x.arity,e20.values⟩:aS)∧(((aL (⟨x.name,x.arity,e20.values⟩:aS))=true→aBe (⟨x.name,x.arity,e20.values⟩:aS)∧lH (aX (⟨x.name,x.arity,e20.values⟩:aS)) x∧x.name=((bU x).name)∧x.arity=((bU x).arity)∧(decide ((aX (⟨x.name,x.arity,e20.values⟩:aS))=x))=(bM x)∧e20.values.map aC=((bU x).rows).map aC∧True)∧((aL (⟨x.name,x.arity,e20.values⟩:aS))=false→x.name=((bU x).name)∧x.arity=((bU x).arity)∧(false)=(bM x)∧e20.values.map aC=((bU x).rows).map aC∧True)))))∧((decide ((0:Int)<((x.groups.length:Nat):Int)))=false→cO Tryz.prog 225 [.agg [.str x.name,.int .i64 x.arity,.sl 0 1 ([])]] (vB (aL (⟨x.name,x.arity,([]:List (List Int))⟩:aS))) []∧(((aL (⟨x.name,x.arity,([]:List (List Int))⟩:aS))=true→cO Tryz.prog 155 [.agg [.str x.name,.int .i64 x.arity,.sl 0 1 ([])]] (.agg [.p none (.str ((aX (⟨x.name,x.arity,([]:List (List Int))⟩:aS)).name)),vI ((aX (⟨x.name,x.arity,([]:List (List Int))⟩:aS)).arity),vI ((aX (⟨x.name,x.arity,([]:List (List Int))⟩:aS)).rowCount),.own 0]) [(0,.arr 218 3 true (((aX (⟨x.name,x.arity,([]:List (List Int))⟩:aS)).groups).map aA))]∧lH (aX (⟨x.name,x.arity,([]:List (List Int))⟩:aS)) x∧x.name=((bU x).name)∧x.arity=((bU x).arity)∧(decide ((aX (⟨x.name,x.arity,([]:List (List Int))⟩:aS))=x))=(bM x)∧[]=((bU x).rows).map aC∧True)∧((aL (⟨x.name,x.arity,([]:List (List Int))⟩:aS))=false→x.name=((bU x).name)∧x.arity=((bU x).arity)∧(false)=(bM x)∧[]=((bU x).rows).map aC∧True))))) (by kernel_rfl) ?_
 intro n0
 simp only [List.length_map] at n0
 have q2:aZ x=x.name.size+dB x.groups:=rfl
 have q5:=fJ x.groups
 refine ⟨List.length_map _,fun c0=>?_,fun c0=>?_⟩
 ·replace c0:=yq c0
  refine ⟨⟨by omega,by omega⟩,by omega,rfl,by omega,fun e20 h20=>?_⟩
  have i20:x.groups[x.groups.length - 1]? =some e20:=by rw [←h20];congr 1;omega
  have hT:jD x=e20.values:=aI2 i20
  have q1:=fT i20
  have q3:bN e20=cG e20.columns+cK e20.values+cG e20.counts:=rfl
  have q6:cG e20.columns=e20.columns.length:=rfl
  have q7:cG e20.counts=e20.counts.length:=rfl
  have q8:=fA e20.values
  refine ⟨cpR _ (by omega),vO (⟨x.name,x.arity,e20.values⟩:aS),fun g28=>?_,fun g28=>?_⟩
  ·refine ⟨aHI (⟨x.name,x.arity,e20.values⟩:aS),sL _ _,?_,?_,?_,?_,trivial⟩
   ·first | (rw [bU,hT]<;>rfl) | rfl | (simp [bM,bU,hT, *];done)
   ·first | (rw [bU,hT]<;>rfl) | rfl | (simp [bM,bU,hT, *];done)
   ·first | (rw [bU,hT]<;>rfl) | rfl | (simp [bM,bU,hT, *];done)
   ·first | (rw [bU,hT]<;>rfl) | rfl | (simp [bM,bU,hT, *];done)
  ·refine ⟨?_,?_,?_,?_,trivial⟩
   ·first | (rw [bU,hT]<;>rfl) | rfl | (simp [bM,bU,hT, *];done)
   ·first | (rw [bU,hT]<;>rfl) | rfl | (simp [bM,bU,hT, *];done)
   ·first | (rw [bU,hT]<;>rfl) | rfl | (simp [bM,bU,hT, *];done)
   ·first | (rw [bU,hT]<;>rfl) | rfl | (simp [bM,bU,hT, *];done)
 ·replace c0:=nq c0
  have hT:jD x= []:=aLc (by omega)
  refine ⟨cO.imp (fun A w vs h=>by simpa only [mY,aJP,gT,aHj,List.map_nil] using h) (vO (⟨x.name,x.arity,([]:List (List Int))⟩:aS)),?_⟩
  refine ⟨fun g28=>?_,fun g28=>?_⟩
  ·refine ⟨cO.imp (fun A w vs h=>by simpa only [mY,aJP,gT,aHj,List.map_nil] using h) (aHI (⟨x.name,x.arity,([]:List (List Int))⟩:aS)),?_⟩
   refine ⟨sL _ _,?_,?_,?_,?_,trivial⟩
   ·first | (rw [bU,hT]<;>rfl) | rfl | (simp [bM,bU,hT, *];done)
   ·first | (rw [bU,hT]<;>rfl) | rfl | (simp [bM,bU,hT, *];done)
   ·first | (rw [bU,hT]<;>rfl) | rfl | (simp [bM,bU,hT, *];done)
   ·first | (rw [bU,hT]<;>rfl) | rfl | (simp [bM,bU,hT, *];done)
  ·refine ⟨?_,?_,?_,?_,trivial⟩
   ·first | (rw [bU,hT]<;>rfl) | rfl | (simp [bM,bU,hT, *];done)
   ·first | (rw [bU,hT]<;>rfl) | rfl | (simp [bM,bU,hT, *];done)
   ·first | (rw [bU,hT]<;>rfl) | rfl | (simp [bM,bU,hT, *];done)
   ·first | (rw [bU,hT]<;>rfl) | rfl | (simp [bM,bU,hT, *];done)
abbrev aEH (x:aF):Prop:=cO Tryz.prog 196 [.agg [.str x.name,.int .i64 x.arity,.int .i64 x.rowCount,.sl 218 3 (x.groups.map aA)]] (vB (bM x)) []
theorem aNo (x:aF) (hc:aZ x≤1048576):aEH x:=by
 refine aT bF aQ Tryz.func196 (by kernel_rfl) (bH (nZ x)<| .fin []) (p:=(x.groups.map aA).length≤9223372036854775807→sP x∧(bM x)=(bM x)∧True) (by kernel_rfl) ?_
 intro n0
 simp only [List.length_map] at n0
 refine ⟨aEG x (by omega),?_⟩
 exact ⟨rfl,trivial⟩
theorem jK (a:List Int) (l:List (List Int)):cK (a::l)=cK l+1+a.length:=by
 simp only [cK,aAN,cG,List.map_cons,List.sum_cons,List.length_cons]
 omega
theorem aI3 (l:List (List Int)): ∀k,cK (l.take k)≤cK l:=by
 induction l with
 | nil=>intro k;simp
 | cons a l ih=>
   intro k
   cases k with
   | zero=>rw [List.take_zero];exact Nat.zero_le _
   | succ k=>rw [List.take_succ_cons,jK,jK];have:=ih k;omega
theorem aI4 {row:List Int}: ∀{xs:List (List Int)},cK (iZ row xs)≤cK xs+1+row.length
 | []=>by rw [aAj,jK];exact Nat.le_refl _
 | x::xs=>by
   by_cases h:0<bS x row
   ·rw [aAk h,jK];omega
   ·by_cases h' :bS x row=0
    ·rw [aAl h'];omega
    ·rw [aAm h h',jK,jK]
     have:=aI4 (row:=row) (xs:=xs)
     omega
theorem aKd {row:List Int}: ∀{xs:List (List Int)},xs.length≤(iZ row xs).length
 | []=>by simp
 | x::xs=>by
   by_cases h:0<bS x row
   ·rw [aAk h];simp
   ·by_cases h' :bS x row=0
    ·rw [aAl h'];simp
    ·rw [aAm h h']
     have:=aKd (row:=row) (xs:=xs)
     simp only [List.length_cons];omega
theorem aI5 (l:List (List Int)): ∀acc,cK (l.foldl (fun acc x=>iZ x acc) acc)≤cK acc+cK l∧acc.length≤(l.foldl (fun acc x=>iZ x acc) acc).length:=by
 induction l with
 | nil=>intro acc;simp
 | cons x l ih=>
   intro acc
   obtain ⟨h1,h2⟩:=ih (iZ x acc)
   have h3:=aI4 (row:=x) (xs:=acc)
   have h4:=aKd (row:=x) (xs:=acc)
   rw [List.foldl_cons,jK]
   exact ⟨by omega,by omega⟩
theorem aI6 (l:List (List Int)) (k:Nat):cK (cB (l.take k))≤cK l:=by
 have h1:=(aI5 (l.take k) []).1
 have h2:=aI3 l k
 have h3:cK ([]:List (List Int))=0:=rfl
 unfold cB
 omega
theorem aHJ (l:List (List Int)) (k:Nat):(cB (l.take k)).length≤(cB l).length:=by
 have h:=(aI5 (l.drop k) (cB (l.take k))).2
 have e:cB l=(l.drop k).foldl (fun acc x=>iZ x acc) (cB (l.take k)):=by
  unfold cB
  rw [←List.foldl_append,List.take_append_drop]
 rw [e];exact h
def kY (name:ByteArray) (arity:Int) (rows:List (List Int)):aS × Bool:=if aL ⟨name,arity,cB rows⟩=true then (⟨name,arity,cB rows⟩,true) else (fI,false)
theorem cU {name:ByteArray} {arity:Int} {rows:List (List Int)} (h:aL ⟨name,arity,cB rows⟩=true):kY name arity rows=(⟨name,arity,cB rows⟩,true):=by rw [kY,if_pos h]
theorem gX {name:ByteArray} {arity:Int} {rows:List (List Int)} (h:aL ⟨name,arity,cB rows⟩=false):kY name arity rows=(fI,false):=by rw [kY,if_neg (by rw [h];decide)]
theorem aCL {t:aS} (h:8<t.rows.length):aL t=false:=by
 cases e:aL t with
 | false=>rfl
 | true=>have:=bT e;omega
theorem aI7 {name:ByteArray} {arity:Int} {rows:List (List Int)} {k:Nat} {acc:List (List Int)} (ha:acc=cB (rows.take k)) (h:rows.length≤k∨8<acc.length):aL ⟨name,arity,acc⟩=aL ⟨name,arity,cB rows⟩∧(aL ⟨name,arity,acc⟩=true→acc=cB rows):=by
 by_cases h1:8<acc.length
 ·have h2:=aHJ rows k
  rw [←ha] at h2
  have q1:=aCL (t:=⟨name,arity,acc⟩) h1
  rw [q1,aCL (t:=⟨name,arity,cB rows⟩) (show 8<(cB rows).length by omega)]
  exact ⟨rfl,fun q=>by cases q⟩
 ·have e:acc=cB rows:=by rw [ha,List.take_of_length_le (by omega)]
  rw [e];exact ⟨rfl,fun _=>rfl⟩
theorem aNp: ∀{l:List (List Int)},(∀i,i+1<l.length→bS (l.getD i []) (l.getD (i+1) [])<0)→Asc l
 | [],_=>List.Pairwise.nil
 | [a],_=>List.pairwise_singleton _ _
 | a::b::l,h=>by
   have ih:=aNp (l:=b::l) fun i hi=>by
    have:=h (i+1) (by simpa using hi)
    simpa using this
   have h0:bS a b<0:=by
    have:=h 0 (by simp)
    simpa using this
   refine List.pairwise_cons.2 ⟨fun y hy=>?_,ih⟩
   rcases List.mem_cons.1 hy with rfl | q
   ·exact h0
   ·exact kM h0 ((List.pairwise_cons.1 ih).1 y q)
theorem aI8 {l:List (List Int)} (h:zF l=true):Asc l:=aNp fun i hi=>by
 have:=List.all_eq_true.1 h i (List.mem_range.2 (by omega))
 simpa [kE] using this
theorem mN {t:aS} (h:aL t=true):t.rows.all (fW t.arity)=true∧dR t.name=true∧zF t.rows=true:=by
 simp only [aL,Bool.and_eq_true] at h
 exact ⟨h.1,h.2.1,h.2.2.2.2⟩
theorem aCM {l:List (List Int)} (h:Asc l):cB l=l:=by
 obtain ⟨h1,h2,_⟩:=qF l [] List.Pairwise.nil
 exact aCz h1 h fun x=>by have:=h2 x;simpa [cB] using this
theorem mO {t:aS} (h:aL t=true) {r:List Int} (hr:r∈t.rows):(r.length:Int)=t.arity:=by
 have:=List.all_eq_true.1 (mN h).1 r hr
 simp only [fW,Bool.and_eq_true,decide_eq_true_eq] at this
 exact this.2
def aJg (n:Int):List Int:=nK ((2:Int)^n.toNat - 1)
theorem aP3 {n:Int} (hn:1≤n∧n≤3) {r:List Int} (h:(r.length:Int)=n):(eT r (aJg n)).1=r:=by
 have h1:n=1∨n=2∨n=3:=by omega
 rcases h1 with rfl | rfl | rfl
 ·match r,h with
  | [a],_=>rfl
  | [],h=>simp at h
  | _::_::_,h=>simp at h;omega
 ·match r,h with
  | [a,b],_=>rfl
  | [],h=>simp at h
  | [_],h=>simp at h
  | _::_::_::_,h=>simp at h;omega
 ·match r,h with
  | [a,b,c],_=>rfl
  | [],h=>simp at h
  | [_],h=>simp at h
  | [_,_],h=>simp at h
  | _::_::_::_::_,h=>simp at h;omega
theorem aNq {n:Int} (hn:1≤n∧n≤3):cQ (n - 1) (aJg n)=true:=by
 have h1:n=1∨n=2∨n=3:=by omega
 rcases h1 with rfl | rfl | rfl<;>decide
theorem aHK {n:Int} (hn:1≤n∧n≤3):0<(bK n).length∧(bK n)[(bK n).length - 1]? =some (aJg n):=by
 have h1:n=1∨n=2∨n=3:=by omega
 rcases h1 with rfl | rfl | rfl<;>decide
theorem aNr {t:aS} (h:aL t=true):(dG t (aJg t.arity)).1=t.rows:=by
 have hT:=bT h
 have hc:=aNq (n:=t.arity) ⟨hT.1,hT.2.1⟩
 rw [eB (by rw [h,hc];rfl)]
 have e:iO t (aJg t.arity)=t.rows:=by
  rw [iO]
  conv=>rhs;rw [←List.map_id t.rows]
  exact List.map_congr_left fun r hr=>aP3 ⟨hT.1,hT.2.1⟩ (mO h hr)
 show eY (cV (iO t (aJg t.arity)))=t.rows
 rw [e,←qG,aCM (aI8 (mN h).2.2)]
theorem vZ {t:aS} (h:aL t=true):jD (aX t)=t.rows∧(aX t).groups≠[]:=by
 have hT:=bT h
 obtain ⟨h0,h1⟩:=aHK (n:=t.arity) ⟨hT.1,hT.2.1⟩
 rw [bJ h]
 constructor
 ·rw [jD]
  show (((bK t.arity).map (rJ t)).getD (((bK t.arity).map (rJ t)).length - 1) eA).values=t.rows
  rw [List.length_map,aP (x:=rJ t (aJg t.arity)) (by rw [List.getElem?_map,h1];rfl)]
  exact aNr h
 ·intro e
  have:((bK t.arity).map (rJ t)).length=0:=congrArg List.length e
  rw [List.length_map] at this
  omega
def kZ (x:aF):aS × Bool:=if x.groups.length=0 then (fI,false) else kY x.name x.arity (jD x)
theorem aP4 {x:aF} (h:bM x=true):kZ x=(bU x,true):=by
 simp only [bM,Bool.and_eq_true,decide_eq_true_eq] at h
 have h2:=(vZ h.1).2
 rw [h.2] at h2
 rw [kZ,if_neg (fun e=>h2 (List.eq_nil_of_length_eq_zero e))]
 have e:=aCM (aI8 (mN h.1).2.2)
 rw [show (bU x).rows=jD x from rfl] at e
 rw [cU (by rw [e];exact h.1),e];rfl
theorem aLd (x:aF):((kZ x).2&&decide (aX (kZ x).1=x))=bM x:=by
 cases h:bM x with
 | true=>
   rw [aP4 h]
   simp only [bM,Bool.and_eq_true,decide_eq_true_eq] at h
   simp [h.2]
 | false=>
   rw [kZ]
   split
   ·rfl
   ·cases e:aL ⟨x.name,x.arity,cB (jD x)⟩ with
    | false=>rw [gX e];rfl
    | true=>
      rw [cU e]
      simp only [Bool.true_and]
      by_cases q:aX ⟨x.name,x.arity,cB (jD x)⟩=x
      ·exfalso
       have h3:=(vZ e).1
       rw [q] at h3
       have h4:bU x=⟨x.name,x.arity,cB (jD x)⟩:=by
        rw [bU]
        congr 1
       rw [bM,h4,e,q] at h
       simp at h
      ·simp [q]
theorem rK {x:aF} (h:bM x=true):aL (bU x)=true∧aX (bU x)=x:=by
 simpa only [bM,Bool.and_eq_true,decide_eq_true_eq] using h
theorem aEI {x:aF} (h:bM x=true):x.groups=(bK x.arity).map (rJ (bU x)):=by
 obtain ⟨h1,h2⟩:=rK h
 rw [bJ h1] at h2
 exact (congrArg aF.groups h2).symm
theorem aLe {x:aF} (h:bM x=true):x.rowCount=((jD x).length:Nat):=by
 obtain ⟨h1,h2⟩:=rK h
 rw [bJ h1] at h2
 exact (congrArg aF.rowCount h2).symm
theorem aLf {x:aF} (h:bM x=true):1≤x.arity∧x.arity≤3:=by
 have:=bT (rK h).1
 exact ⟨this.1,this.2.1⟩
theorem aHL {α:Type} {p:α→Bool} {l:List α} {k:Nat} {x:α} (h:l[k]? =some x) (ha:(l.take k).all (fun y=> !p y)=true) (hx:p x=true):l.find? p=some x:=by
 rw [List.find?_eq_some_iff_getElem]
 obtain ⟨hk,rfl⟩:=List.getElem?_eq_some_iff.1 h
 refine ⟨hx,k,hk,rfl,fun j hj=>?_⟩
 have:=List.all_eq_true.1 ha l[j] (List.mem_iff_getElem.2 ⟨j,by simp;omega,by simp⟩)
 exact this
theorem aDA {α:Type} {p:α→Bool} {l:List α} (ha:l.all (fun y=> !p y)=true):l.find? p=none:=by
 rw [List.find?_eq_none]
 intro x hx
 have:=List.all_eq_true.1 ha x hx
 simpa using this
def fK (l:List aS) (i:Nat):Bool:=Op.bytesLess (l.getD i fI).name.toList (l.getD (i+1) fI).name.toList
def eU (d:aR):Bool:=d.tables.all aL&&((List.range (d.tables.length - 1)).all (fK d.tables)&&decide ((d.tables.length:Int)≤6))
abbrev aBg (t:aR):Prop:=cO Tryz.prog 154 [.agg [.sl 162 3 (t.tables.map aO)]] (vB (eU t)) []
theorem aKe (t:aR):aBg t:=by
 refine aT bF aQ Tryz.func154 (by kernel_rfl) (.len t.tables.length<| .loop Nat (Q1 Nat) [3,4,8,9,10,11,12,13,14,15,16,17,18,19,20,21,22,23,24,25,26,27,28,29,30,31,32] [400] (fun k=>[(8,vI (k:Int))]) (fun k=>[]) (fun k=>k≤t.tables.length∧(t.tables.take k).all aL=true∧(List.range (k - 1)).all (fK t.tables)=true) (fun k=>t.tables.length - k) (fun k=> .br (.elem _ aO t.tables (fun e11=> .call (vB (aL e11)) []<| .br (.fin []) (.lit<| .lit<| .br (.elem _ aO t.tables (fun e24=> .lit<| .lit<| .lit<| .lit<| .lit<| .lit<| .lit<| .lit<| .br (.fin []) (.back []))) (.back [])))) (.len t.tables.length<| .fin []))) (p:=(t.tables.map aO).length≤9223372036854775807→Lm aO t.tables∧((∃(k:Nat),(0:Int)=(k:Int)∧k≤t.tables.length∧(t.tables.take k).all aL=true∧(List.range (k - 1)).all (fK t.tables)=true)∧ ∀(k:Nat),(k≤t.tables.length∧(t.tables.take k).all aL=true∧(List.range (k - 1)).all (fK t.tables)=true)→((decide ((k:Int)<((t.tables.length:Nat):Int)))=true→0≤(k:Int)∧Em aO t.tables k fun e11=>pB e11∧(((!(aL e11))=true→(false)=(eU t)∧True)∧((!(aL e11))=false→((decide ((0:Int)<(k:Int)))=true→cL ((k:Int) - (1:Int))∧(0≤((k:Int) - (1:Int))∧Em aO t.tables (((k:Int) - (1:Int)).toNat) fun e24=>((!(Op.bytesLess e24.name.toList e11.name.toList))=true→(false)=(eU t)∧True)∧((!(Op.bytesLess e24.name.toList e11.name.toList))=false→cL ((k:Int)+(1:Int))∧ ∃(k' :Nat),((k:Int)+(1:Int))=(k' :Int)∧(k' ≤t.tables.length∧(t.tables.take k').all aL=true∧(List.range (k' - 1)).all (fK t.tables)=true)∧t.tables.length - k' <t.tables.length - k)))∧((decide ((0:Int)<(k:Int)))=false→cL ((k:Int)+(1:Int))∧ ∃(k' :Nat),((k:Int)+(1:Int))=(k' :Int)∧(k' ≤t.tables.length∧(t.tables.take k').all aL=true∧(List.range (k' - 1)).all (fK t.tables)=true)∧t.tables.length - k' <t.tables.length - k))))∧((decide ((k:Int)<((t.tables.length:Nat):Int)))=false→Lm aO t.tables∧(decide (((t.tables.length:Nat):Int)≤(6:Int)))=(eU t)∧True))) (by kernel_rfl) ?_
 intro n0
 simp only [List.length_map] at n0
 refine ⟨List.length_map _,⟨0,rfl,Nat.zero_le _,rfl,rfl⟩,fun k ⟨hk,ha,hs⟩=>?_⟩
 refine ⟨fun c0=>?_,fun c0=>?_⟩
 ·replace c0:=yq c0
  refine ⟨by omega,rfl,by omega,fun e11 h11=>?_⟩
  refine ⟨vO e11,fun g16=>?_,fun g16=>?_⟩
  ·replace g16:=nt g16
   refine ⟨?_,trivial⟩
   ·first | (rw [eU,bY h11 g16];rfl) | (rw [eU,hz];simp [*];done) | (rw [eU,hz];simp;done)
  ·replace g16:=nf g16
   refine ⟨fun g19=>?_,fun g19=>?_⟩
   ·replace g19:=yq g19
    refine ⟨⟨by omega,by omega⟩,by omega,rfl,by omega,fun e24 h24=>?_⟩
    have i1:t.tables[k - 1]? =some e24:=by rw [←h24];congr 1;omega
    refine ⟨fun c1=>?_,fun c1=>?_⟩
    ·replace c1:=nt c1
     have hp:fK t.tables (k - 1)=false:=by rw [fK,aP i1,show k - 1+1=k by omega,aP h11];simpa using c1
     have hz:(List.range (t.tables.length - 1)).all (fK t.tables)=false:=dS (by omega) hp
     refine ⟨?_,trivial⟩
     ·first | (rw [eU,bY h11 g16];rfl) | (rw [eU,hz];simp [*];done) | (rw [eU,hz];simp;done)
    ·replace c1:=nf c1
     have hp:fK t.tables (k - 1)=true:=by rw [fK,aP i1,show k - 1+1=k by omega,aP h11];simpa using c1
     have hs2:(List.range (k+1 - 1)).all (fK t.tables)=true:=by rw [show k+1 - 1=(k - 1)+1 by omega];exact fC hs hp
     refine ⟨⟨by omega,by omega⟩,?_⟩
     exact ⟨k+1,rfl,⟨by omega,dO h11 ha g16,hs2⟩,by omega⟩
   ·replace g19:=nq g19
    have hs2:(List.range (k+1 - 1)).all (fK t.tables)=true:=by rw [show k=0 by omega];rfl
    refine ⟨⟨by omega,by omega⟩,?_⟩
    exact ⟨k+1,rfl,⟨by omega,dO h11 ha g16,hs2⟩,by omega⟩
 ·replace c0:=nq c0
  have hall:=bR (by omega) ha
  have hz:(List.range (t.tables.length - 1)).all (fK t.tables)=true:=by rw [show t.tables.length - 1=k - 1 by omega,hs]
  refine ⟨List.length_map _,?_,trivial⟩
  ·first | (rw [eU,bY h11 g16];rfl) | (rw [eU,hz];simp [*];done) | (rw [eU,hz];simp;done)
abbrev aBh (t:aR):Prop:=cO Tryz.prog 138 [.agg [.sl 162 3 (t.tables.map aO)]] (vB (eU t)) []
theorem aKf (t:aR):aBh t:=by
 refine aT bF aQ Tryz.func138 (by kernel_rfl) (.loop Nat (Q1 Nat) [3,4,5,6,7,8,9,10,11,12,13,14,15,16,17,18,19,20,21,22,23,24,25,26,27,28,29,30,31,32,33,34,35,36,37] [] (fun k=>[(3,vI (k:Int))]) (fun k=>[]) (fun k=>k≤t.tables.length∧(t.tables.take k).all aL=true∧(List.range (k - 1)).all (fK t.tables)=true) (fun k=>t.tables.length - k) (fun k=> .len t.tables.length<| .br (.elem _ aO t.tables (fun e14=> .call (vB (aL e14)) []<| .br (.fin []) (.lit<| .lit<| .br (.elem _ aO t.tables (fun e26=> .elem _ aO t.tables (fun e32=> .lit<| .lit<| .lit<| .lit<| .lit<| .lit<| .br (.fin []) (.back [])))) (.back [])))) (.len t.tables.length<| .fin []))) (p:=(t.tables.map aO).length≤9223372036854775807→(∃(k:Nat),(0:Int)=(k:Int)∧k≤t.tables.length∧(t.tables.take k).all aL=true∧(List.range (k - 1)).all (fK t.tables)=true)∧ ∀(k:Nat),(k≤t.tables.length∧(t.tables.take k).all aL=true∧(List.range (k - 1)).all (fK t.tables)=true)→Lm aO t.tables∧(((decide ((k:Int)<((t.tables.length:Nat):Int)))=true→0≤(k:Int)∧Em aO t.tables k fun e14=>mE e14∧(((!(aL e14))=true→(false)=(eU t)∧True)∧((!(aL e14))=false→((decide ((0:Int)<(k:Int)))=true→cL ((k:Int) - (1:Int))∧(0≤((k:Int) - (1:Int))∧Em aO t.tables (((k:Int) - (1:Int)).toNat) fun e26=>0≤(k:Int)∧Em aO t.tables k fun e32=>((!(Op.bytesLess e26.name.toList e32.name.toList))=true→(false)=(eU t)∧True)∧((!(Op.bytesLess e26.name.toList e32.name.toList))=false→cL ((k:Int)+(1:Int))∧ ∃(k' :Nat),((k:Int)+(1:Int))=(k' :Int)∧(k' ≤t.tables.length∧(t.tables.take k').all aL=true∧(List.range (k' - 1)).all (fK t.tables)=true)∧t.tables.length - k' <t.tables.length - k)))∧((decide ((0:Int)<(k:Int)))=false→cL ((k:Int)+(1:Int))∧ ∃(k' :Nat),((k:Int)+(1:Int))=(k' :Int)∧(k' ≤t.tables.length∧(t.tables.take k').all aL=true∧(List.range (k' - 1)).all (fK t.tables)=true)∧t.tables.length - k' <t.tables.length - k))))∧((decide ((k:Int)<((t.tables.length:Nat):Int)))=false→Lm aO t.tables∧(decide (((t.tables.length:Nat):Int)≤(6:Int)))=(eU t)∧True))) (by kernel_rfl) ?_
 intro n0
 simp only [List.length_map] at n0
 refine ⟨⟨0,rfl,Nat.zero_le _,rfl,rfl⟩,fun k ⟨hk,ha,hs⟩=>?_⟩
 refine ⟨List.length_map _,fun c0=>?_,fun c0=>?_⟩
 ·replace c0:=yq c0
  refine ⟨by omega,rfl,by omega,fun e14 h14=>?_⟩
  refine ⟨vP e14,fun g18=>?_,fun g18=>?_⟩
  ·replace g18:=nt g18
   refine ⟨?_,trivial⟩
   ·first | (rw [eU,bY h14 g18];rfl) | (rw [eU,hz];simp [*];done) | (rw [eU,hz];simp;done)
  ·replace g18:=nf g18
   refine ⟨fun g21=>?_,fun g21=>?_⟩
   ·replace g21:=yq g21
    refine ⟨⟨by omega,by omega⟩,by omega,rfl,by omega,fun e26 h26=>?_⟩
    have i1:t.tables[k - 1]? =some e26:=by rw [←h26];congr 1;omega
    refine ⟨by omega,rfl,by omega,fun e32 h32=>?_⟩
    refine ⟨fun c1=>?_,fun c1=>?_⟩
    ·replace c1:=nt c1
     have hp:fK t.tables (k - 1)=false:=by rw [fK,aP i1,show k - 1+1=k by omega,aP h32];simpa using c1
     have hz:(List.range (t.tables.length - 1)).all (fK t.tables)=false:=dS (by omega) hp
     refine ⟨?_,trivial⟩
     ·first | (rw [eU,bY h14 g18];rfl) | (rw [eU,hz];simp [*];done) | (rw [eU,hz];simp;done)
    ·replace c1:=nf c1
     have hp:fK t.tables (k - 1)=true:=by rw [fK,aP i1,show k - 1+1=k by omega,aP h32];simpa using c1
     have hs2:(List.range (k+1 - 1)).all (fK t.tables)=true:=by rw [show k+1 - 1=(k - 1)+1 by omega];exact fC hs hp
     refine ⟨⟨by omega,by omega⟩,?_⟩
     exact ⟨k+1,rfl,⟨by omega,dO h14 ha g18,hs2⟩,by omega⟩
   ·replace g21:=nq g21
    have hs2:(List.range (k+1 - 1)).all (fK t.tables)=true:=by rw [show k=0 by omega];rfl
    refine ⟨⟨by omega,by omega⟩,?_⟩
    exact ⟨k+1,rfl,⟨by omega,dO h14 ha g18,hs2⟩,by omega⟩
 ·replace c0:=nq c0
  have hall:=bR (by omega) ha
  have hz:(List.range (t.tables.length - 1)).all (fK t.tables)=true:=by rw [show t.tables.length - 1=k - 1 by omega,hs]
  refine ⟨List.length_map _,?_,trivial⟩
  ·first | (rw [eU,bY h14 g18];rfl) | (rw [eU,hz];simp [*];done) | (rw [eU,hz];simp;done)
end Go.Proofs.YtokkjaflmcjlhaaGreat
