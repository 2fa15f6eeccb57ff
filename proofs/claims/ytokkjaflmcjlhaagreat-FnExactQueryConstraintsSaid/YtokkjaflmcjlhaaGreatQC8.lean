/-
  Contracts and plain laws, joined: part 9.
-/
import Derived.Test.YtokkjaflmcjlhaaGreatQC7
import Derived.Test.YtokkjaflmcjlhaaGreatQC5
import Derived.Test.YtokkjaflmcjlhaaGreatQC3
import Derived.Test.YtokkjaflmcjlhaaGreatQC4
namespace Go.Proofs.YtokkjaflmcjlhaaGreat
open Go.ChangeShapes Go.WideShapes Go.ChangeAt Go.RowKit
set_option linter.unusedVariables false
set_option linter.unusedSimpArgs false
set_option maxRecDepth 100000
set_option maxHeartbeats 4000000
def sU (t:aR) (cols:List Int):aG:=⟨cols,(dW t cols).1,(dW t cols).2⟩
def bB (t:aR):aB:=if aT t=true then ⟨t.name,t.arity,(t.rows.length:Nat),(bO t.arity).map (sU t)⟩ else dN
theorem bQ {t:aR} (h:aT t=true):bB t=⟨t.name,t.arity,(t.rows.length:Nat),(bO t.arity).map (sU t)⟩:=by rw [bB,if_pos h]
theorem eQ {t:aR} (h:aT t=false):bB t=dN:=by rw [bB,if_neg (by rw [h];decide)]
theorem aLD {α:Type} {l:List α} {k:Nat} (h:k<l.length):l.drop k≠[]:=fun e=>by
 have:=congrArg List.length e
 simp at this
 omega
theorem aLE {α:Type} {l l2:List α} {k:Nat} {x:α} (h:l.drop k=x::l2):l2=l.drop (k+1):=by rw [←List.tail_drop,h];rfl
theorem aLF {α:Type} {l l2:List α} {k:Nat} {x:α} (h:l.drop k=x::l2):l[k]? =some x:=by
 have:=congrArg List.head? h
 simpa [List.head?_drop] using this
theorem aAN {n:Int} {k:Nat} {x:List Int} (h:(bO n)[k]? =some x):x.length≤3:=by
 obtain ⟨i,_,rfl⟩:=List.mem_map.1 (List.mem_of_getElem? h)
 exact sT _ 3
theorem xA {n:Int} (h:1≤n∧n≤3):(bO n).length≤7:=by
 have:=pS h
 simp only [bO,qN,List.length_map,List.length_range]
 omega
abbrev yS (t:aR):AV × List (Nat × Rs):=(.agg [.p none (.str ((bB t).name)),vI ((bB t).arity),vI ((bB t).rowCount),.own 0],[(0,.arr 218 3 true (((bB t).groups).map aA))])
abbrev aCJ (t:aR):Prop:=dG Tryz.prog 155 [.agg [.str t.name,.int .i64 t.arity,.sl 32 1 (t.rows.map aE)]] (yS t).1 (yS t).2
theorem aHl (t:aR):aCJ t:=by
 refine aY bK aU Tryz.func155 (by kernel_rfl) (.call (vB (aT t)) []<| .br (.fin []) (.len t.rows.length<| cI (wY t.arity)<| .len ((bO t.arity).length)<| .loop (Nat × (List (List Int)) × (List aG)) (Q3 Nat (List (List Int)) (List aG)) [5,6,7,24,25,26,27,28,29,30,31,32,33,34,35,36,37,38,39,40,41,42,43] [300,2200,3100,3101,4000,4100,9000,50607] (fun yy0=>[(24,vI (yy0.1:Int))]) (fun yy0=>[(300,some (.box 121 [.p none (.str t.name),vI t.arity,vI ((t.rows.length:Nat):Int),.own 9000])),(9000,some (.arr 218 3 true (yy0.2.2.map aA))),(2200,some (.arr 32 1 true (List.replicate yy0.1 [bL.gone]++yy0.2.1.map aE)))]) (fun yy0=>yy0.1≤(bO t.arity).length∧yy0.2.1=(bO t.arity).drop yy0.1∧yy0.2.2=((bO t.arity).take yy0.1).map (sU t)) (fun yy0=>(bO t.arity).length - yy0.1) (fun yy0=> .br (.takeg 6 2200 yy0.1 50607 (List Int) aE yy0.2.1 (fun x6 l6=> .len (yy0.1+(l6.length+1))<| .leave 7 2200 yy0.1 50607 (List Int) aE x6 l6 (cI (tV t x6)<| .appx aG aA yy0.2.2 (⟨x6,(dW t x6).1,(dW t x6).2⟩:aG)<| .back [(300,300),(2200,2200),(9000,4100)]))) (.fin [(0,9000)])))) (p:=(t.rows.map aE).length≤9223372036854775807→qJ t∧(((!(aT t))=true→ByteArray.empty=((bB t).name)∧(0:Int)=((bB t).arity)∧(0:Int)=((bB t).rowCount)∧[]=((bB t).groups).map aA∧True)∧((!(aT t))=false→Lm aE t.rows∧(aC8 t.arity∧(Lm aE (bO t.arity)∧((∃(k:Nat) (l2:List (List Int)) (out:List aG),(0:Int)=(k:Int)∧t.name=t.name∧t.arity=t.arity∧((t.rows.length:Nat):Int)=((t.rows.length:Nat):Int)∧[]=out.map aA∧(bO t.arity).map aE=List.replicate k [bL.gone]++l2.map aE∧k≤(bO t.arity).length∧l2=(bO t.arity).drop k∧out=((bO t.arity).take k).map (sU t))∧ ∀(k:Nat) (l2:List (List Int)) (out:List aG),(k≤(bO t.arity).length∧l2=(bO t.arity).drop k∧out=((bO t.arity).take k).map (sU t))→((decide ((k:Int)<(((bO t.arity).length:Nat):Int)))=true→List.replicate k [bL.gone]++l2.map aE=List.replicate k [bL.gone]++l2.map aE∧l2≠[]∧ ∀x6 l6,l2=x6::l6→0≤(k:Int)∧(List.replicate k [bL.gone]++(x6::l6).map aE).length=k+(l6.length+1)∧(k:Int)<((k+(l6.length+1):Nat):Int)∧k=k∧List.replicate k [bL.gone]++(x6::l6).map aE=List.replicate k [bL.gone]++(x6::l6).map aE∧k=k∧aAK t x6∧out.map aA=out.map aA∧x6.map intD=((⟨x6,(dW t x6).1,(dW t x6).2⟩:aG).columns).map intD∧((dW t x6).1).map aE=((⟨x6,(dW t x6).1,(dW t x6).2⟩:aG).values).map aE∧((dW t x6).2).map intD=((⟨x6,(dW t x6).1,(dW t x6).2⟩:aG).counts).map intD∧(out.length+1)*72≤140737488355328∧dB ((k:Int)+(1:Int))∧ ∃(k' :Nat) (l2' :List (List Int)) (out' :List aG),((k:Int)+(1:Int))=(k' :Int)∧t.name=t.name∧t.arity=t.arity∧((t.rows.length:Nat):Int)=((t.rows.length:Nat):Int)∧(out++[(⟨x6,(dW t x6).1,(dW t x6).2⟩:aG)]).map aA=out'.map aA∧List.replicate (k+1) [bL.gone]++l6.map aE=List.replicate k' [bL.gone]++l2'.map aE∧(k' ≤(bO t.arity).length∧l2' =(bO t.arity).drop k' ∧out' =((bO t.arity).take k').map (sU t))∧(bO t.arity).length - k' <(bO t.arity).length - k)∧((decide ((k:Int)<(((bO t.arity).length:Nat):Int)))=false→t.name=((bB t).name)∧t.arity=((bB t).arity)∧((t.rows.length:Nat):Int)=((bB t).rowCount)∧out.map aA=((bB t).groups).map aA∧True))))))) (by kernel_rfl) ?_
 intro n0
 simp only [List.length_map] at n0
 refine ⟨wQ t,fun c0=>?_,fun c0=>?_⟩
 ·replace c0:=nt c0
  have hbad:aT t=false:=by simpa using c0
  refine ⟨?_,?_,?_,?_,trivial⟩
  ·first | (rw [eQ hbad]<;>rfl) | (rw [bQ hok]<;>rfl) | (rw [bQ hok,ho,List.take_of_length_le (by omega)])
  ·first | (rw [eQ hbad]<;>rfl) | (rw [bQ hok]<;>rfl) | (rw [bQ hok,ho,List.take_of_length_le (by omega)])
  ·first | (rw [eQ hbad]<;>rfl) | (rw [bQ hok]<;>rfl) | (rw [bQ hok,ho,List.take_of_length_le (by omega)])
  ·first | (rw [eQ hbad]<;>rfl) | (rw [bQ hok]<;>rfl) | (rw [bQ hok,ho,List.take_of_length_le (by omega)])
 ·replace c0:=nf c0
  have hok:aT t=true:=by simpa using c0
  have hT:=bZ hok
  have hn:=xA (n:=t.arity) ⟨hT.1,hT.2.1⟩
  refine ⟨List.length_map _,aMA t.arity (by omega),List.length_map _,⟨0,bO t.arity,([]:List aG),rfl,rfl,rfl,rfl,rfl,rfl,Nat.zero_le _,rfl,rfl⟩,fun k l2 out ⟨hk,hl,ho⟩=>?_⟩
  have hlen:l2.length=(bO t.arity).length - k:=by rw [hl,List.length_drop]
  refine ⟨fun c1=>?_,fun c1=>?_⟩
  ·replace c1:=yq c1
   refine ⟨rfl,(by rw [hl];exact aLD (by omega)),fun x6 l6 t6=>?_⟩
   have hdx:=hl.symm.trans t6
   have hx:=aLF hdx
   have hx3:=aAN hx
   refine ⟨by omega,by simp,by omega,rfl,rfl,rfl,aIz t x6 (by omega),rfl,rfl,rfl,rfl,by first | omega | (simp [ho];omega),⟨by omega,by omega⟩,?_⟩
   exact ⟨k+1,_,_,rfl,rfl,rfl,rfl,rfl,rfl,⟨by omega,aLE hdx,by rw [ho,cA hx,List.map_append];rfl⟩,by omega⟩
  ·replace c1:=nq c1
   refine ⟨?_,?_,?_,?_,trivial⟩
   ·first | (rw [eQ hbad]<;>rfl) | (rw [bQ hok]<;>rfl) | (rw [bQ hok,ho,List.take_of_length_le (by omega)])
   ·first | (rw [eQ hbad]<;>rfl) | (rw [bQ hok]<;>rfl) | (rw [bQ hok,ho,List.take_of_length_le (by omega)])
   ·first | (rw [eQ hbad]<;>rfl) | (rw [bQ hok]<;>rfl) | (rw [bQ hok,ho,List.take_of_length_le (by omega)])
   ·first | (rw [eQ hbad]<;>rfl) | (rw [bQ hok]<;>rfl) | (rw [bQ hok,ho,List.take_of_length_le (by omega)])
abbrev yT (t:aR):AV × List (Nat × Rs):=(.agg [.p none (.str ((bB t).name)),vI ((bB t).arity),vI ((bB t).rowCount),.own 0],[(0,.arr 218 3 true (((bB t).groups).map aA))])
abbrev aCK (t:aR):Prop:=dG Tryz.prog 139 [.agg [.str t.name,.int .i64 t.arity,.sl 32 1 (t.rows.map aE)]] (yT t).1 (yT t).2
theorem aLG (t:aR):aCK t:=by
 refine aY bK aU Tryz.func139 (by kernel_rfl) (.call (vB (aT t)) []<| .br (.fin []) (.len t.rows.length<| cI (wZ t.arity)<| .loop (Nat × (List (List Int)) × (List aG)) (Q3 Nat (List (List Int)) (List aG)) [5,6,7,23,24,25,26,27,28,29,30,31,32,33,34,35,36,37,38,39,40,41,42,43,44,45,46,47,48,49] [300,2200,3500,3501,4700,4800,9000,50807] (fun yy0=>[(5,vI (yy0.1:Int))]) (fun yy0=>[(300,some (.box 121 [.p none (.str t.name),vI t.arity,vI ((t.rows.length:Nat):Int),.own 9000])),(9000,some (.arr 218 3 true (yy0.2.2.map aA))),(2200,some (.arr 32 1 true (List.replicate yy0.1 [bL.gone]++yy0.2.1.map aE)))]) (fun yy0=>yy0.1≤(bO t.arity).length∧yy0.2.1=(bO t.arity).drop yy0.1∧yy0.2.2=((bO t.arity).take yy0.1).map (sU t)) (fun yy0=>(bO t.arity).length - yy0.1) (fun yy0=> .len (yy0.1+yy0.2.1.length)<| .br (.takeg 8 2200 yy0.1 50807 (List Int) aE yy0.2.1 (fun x8 l8=> .len (yy0.1+(l8.length+1))<| cI (aAM t x8)<| .len (yy0.1+(l8.length+1))<| .appx aG aA yy0.2.2 (⟨x8,(dW t x8).1,(dW t x8).2⟩:aG)<| .leave 7 2200 yy0.1 50807 (List Int) aE x8 l8 (.back [(300,300),(2200,2200),(9000,4800)]))) (.fin [(0,9000)])))) (p:=(t.rows.map aE).length≤9223372036854775807→nC t∧(((!(aT t))=true→ByteArray.empty=((bB t).name)∧(0:Int)=((bB t).arity)∧(0:Int)=((bB t).rowCount)∧[]=((bB t).groups).map aA∧True)∧((!(aT t))=false→Lm aE t.rows∧(aC9 t.arity∧((∃(k:Nat) (l2:List (List Int)) (out:List aG),(0:Int)=(k:Int)∧t.name=t.name∧t.arity=t.arity∧((t.rows.length:Nat):Int)=((t.rows.length:Nat):Int)∧[]=out.map aA∧(bO t.arity).map aE=List.replicate k [bL.gone]++l2.map aE∧k≤(bO t.arity).length∧l2=(bO t.arity).drop k∧out=((bO t.arity).take k).map (sU t))∧ ∀(k:Nat) (l2:List (List Int)) (out:List aG),(k≤(bO t.arity).length∧l2=(bO t.arity).drop k∧out=((bO t.arity).take k).map (sU t))→(List.replicate k [bL.gone]++l2.map aE).length=k+l2.length∧(((decide ((k:Int)<((k+l2.length:Nat):Int)))=true→List.replicate k [bL.gone]++l2.map aE=List.replicate k [bL.gone]++l2.map aE∧l2≠[]∧ ∀x8 l8,l2=x8::l8→0≤(k:Int)∧(List.replicate k [bL.gone]++(x8::l8).map aE).length=k+(l8.length+1)∧(k:Int)<((k+(l8.length+1):Nat):Int)∧k=k∧aEa t x8∧0≤(k:Int)∧(List.replicate k [bL.gone]++(x8::l8).map aE).length=k+(l8.length+1)∧(k:Int)<((k+(l8.length+1):Nat):Int)∧k=k∧out.map aA=out.map aA∧x8.map intD=((⟨x8,(dW t x8).1,(dW t x8).2⟩:aG).columns).map intD∧((dW t x8).1).map aE=((⟨x8,(dW t x8).1,(dW t x8).2⟩:aG).values).map aE∧((dW t x8).2).map intD=((⟨x8,(dW t x8).1,(dW t x8).2⟩:aG).counts).map intD∧(out.length+1)*72≤140737488355328∧List.replicate k [bL.gone]++(x8::l8).map aE=List.replicate k [bL.gone]++(x8::l8).map aE∧k=k∧dB ((k:Int)+(1:Int))∧ ∃(k' :Nat) (l2' :List (List Int)) (out' :List aG),((k:Int)+(1:Int))=(k' :Int)∧t.name=t.name∧t.arity=t.arity∧((t.rows.length:Nat):Int)=((t.rows.length:Nat):Int)∧(out++[(⟨x8,(dW t x8).1,(dW t x8).2⟩:aG)]).map aA=out'.map aA∧List.replicate (k+1) [bL.gone]++l8.map aE=List.replicate k' [bL.gone]++l2'.map aE∧(k' ≤(bO t.arity).length∧l2' =(bO t.arity).drop k' ∧out' =((bO t.arity).take k').map (sU t))∧(bO t.arity).length - k' <(bO t.arity).length - k)∧((decide ((k:Int)<((k+l2.length:Nat):Int)))=false→t.name=((bB t).name)∧t.arity=((bB t).arity)∧((t.rows.length:Nat):Int)=((bB t).rowCount)∧out.map aA=((bB t).groups).map aA∧True))))))) (by kernel_rfl) ?_
 intro n0
 simp only [List.length_map] at n0
 refine ⟨wR t,fun c0=>?_,fun c0=>?_⟩
 ·replace c0:=nt c0
  have hbad:aT t=false:=by simpa using c0
  refine ⟨?_,?_,?_,?_,trivial⟩
  ·first | (rw [eQ hbad]<;>rfl) | (rw [bQ hok]<;>rfl) | (rw [bQ hok,ho,List.take_of_length_le (by omega)])
  ·first | (rw [eQ hbad]<;>rfl) | (rw [bQ hok]<;>rfl) | (rw [bQ hok,ho,List.take_of_length_le (by omega)])
  ·first | (rw [eQ hbad]<;>rfl) | (rw [bQ hok]<;>rfl) | (rw [bQ hok,ho,List.take_of_length_le (by omega)])
  ·first | (rw [eQ hbad]<;>rfl) | (rw [bQ hok]<;>rfl) | (rw [bQ hok,ho,List.take_of_length_le (by omega)])
 ·replace c0:=nf c0
  have hok:aT t=true:=by simpa using c0
  have hT:=bZ hok
  have hn:=xA (n:=t.arity) ⟨hT.1,hT.2.1⟩
  refine ⟨List.length_map _,aMB t.arity (by omega),⟨0,bO t.arity,([]:List aG),rfl,rfl,rfl,rfl,rfl,rfl,Nat.zero_le _,rfl,rfl⟩,fun k l2 out ⟨hk,hl,ho⟩=>?_⟩
  have hlen:l2.length=(bO t.arity).length - k:=by rw [hl,List.length_drop]
  refine ⟨by simp,fun c1=>?_,fun c1=>?_⟩
  ·replace c1:=yq c1
   refine ⟨rfl,(by rw [hl];exact aLD (by omega)),fun x8 l8 t8=>?_⟩
   have hdx:=hl.symm.trans t8
   have hx:=aLF hdx
   have hx3:=aAN hx
   refine ⟨by omega,by simp,by omega,rfl,aOJ t x8 (by omega),by omega,by simp,by omega,rfl,rfl,rfl,rfl,rfl,by first | omega | (simp [ho];omega),rfl,rfl,⟨by omega,by omega⟩,?_⟩
   exact ⟨k+1,_,_,rfl,rfl,rfl,rfl,rfl,rfl,⟨by omega,aLE hdx,by rw [ho,cA hx,List.map_append];rfl⟩,by omega⟩
  ·replace c1:=nq c1
   refine ⟨?_,?_,?_,?_,trivial⟩
   ·first | (rw [eQ hbad]<;>rfl) | (rw [bQ hok]<;>rfl) | (rw [bQ hok,ho,List.take_of_length_le (by omega)])
   ·first | (rw [eQ hbad]<;>rfl) | (rw [bQ hok]<;>rfl) | (rw [bQ hok,ho,List.take_of_length_le (by omega)])
   ·first | (rw [eQ hbad]<;>rfl) | (rw [bQ hok]<;>rfl) | (rw [bQ hok,ho,List.take_of_length_le (by omega)])
   ·first | (rw [eQ hbad]<;>rfl) | (rw [bQ hok]<;>rfl) | (rw [bQ hok,ho,List.take_of_length_le (by omega)])
abbrev aAO (x:aB):AV × List (Nat × Rs):=(.agg [.p none (.str x.name),vI x.arity,vI x.rowCount,.own 0],[(0,.arr 218 3 true (x.groups.map aA))])
abbrev aEc (x:aB):Prop:=dG Tryz.prog 197 [.agg [.str x.name,.int .i64 x.arity,.int .i64 x.rowCount,.sl 218 3 (x.groups.map aA)]] (aAO x).1 (aAO x).2
theorem aOK (x:aB) (hc:aW x≤1048576):aEc x:=by
 refine aY bK aU Tryz.func197 (by kernel_rfl) (.len x.groups.length<| .loop (Nat × (List aG)) (Q2 Nat (List aG)) [3,5,6,10,11,12,13,14,15,16,17,18,19,20,21,22,23,24,25,26,27] [500,600,1700,2000,2300,2500,2600] (fun yy0=>[(3,.own 600),(10,vI (yy0.1:Int))]) (fun yy0=>[(600,some (.arr 218 3 true (yy0.2.map aA)))]) (fun yy0=>yy0.1≤x.groups.length∧yy0.2=x.groups.take yy0.1) (fun yy0=>x.groups.length - yy0.1) (fun yy0=> .br (.elem _ aA x.groups (fun e12=>cI (aGp e12.columns)<| cI (aGq e12.values)<| cI (aGp e12.counts)<| .appx aG aA yy0.2 e12<| .back [(600,2600)])) (.fin [(0,600)]))) (p:=(x.groups.map aA).length≤9223372036854775807→Lm aA x.groups∧((∃(k:Nat) (out:List aG),(0:Int)=(k:Int)∧[]=out.map aA∧k≤x.groups.length∧out=x.groups.take k)∧ ∀(k:Nat) (out:List aG),(k≤x.groups.length∧out=x.groups.take k)→((decide ((k:Int)<((x.groups.length:Nat):Int)))=true→0≤(k:Int)∧Em aA x.groups k fun e12=>aIo e12.columns∧aIp e12.values∧aIo e12.counts∧out.map aA=out.map aA∧e12.columns.map intD=e12.columns.map intD∧e12.values.map aE=e12.values.map aE∧e12.counts.map intD=e12.counts.map intD∧(out.length+1)*72≤140737488355328∧dB ((k:Int)+(1:Int))∧ ∃(k' :Nat) (out' :List aG),((k:Int)+(1:Int))=(k' :Int)∧(out++[e12]).map aA=out'.map aA∧(k' ≤x.groups.length∧out' =x.groups.take k')∧x.groups.length - k' <x.groups.length - k)∧((decide ((k:Int)<((x.groups.length:Nat):Int)))=false→x.name=x.name∧x.arity=x.arity∧x.rowCount=x.rowCount∧out.map aA=x.groups.map aA∧True))) (by kernel_rfl) ?_
 intro n0
 simp only [List.length_map] at n0
 have q2:aW x=x.name.size+cQ x.groups:=rfl
 have q5:=fU x.groups
 refine ⟨List.length_map _,⟨0,([]:List aG),rfl,rfl,Nat.zero_le _,rfl⟩,fun k out ⟨hk,ho⟩=>?_⟩
 refine ⟨fun c0=>?_,fun c0=>?_⟩
 ·replace c0:=yq c0
  refine ⟨by omega,rfl,by omega,fun e12 h12=>?_⟩
  have q1:=gE h12
  have q3:bH e12=bX e12.columns+cM e12.values+bX e12.counts:=rfl
  have q6:bX e12.columns=e12.columns.length:=rfl
  have q7:bX e12.counts=e12.counts.length:=rfl
  have q8:=fL e12.values
  refine ⟨cpI _ (by omega),cpR _ (by omega),cpI _ (by omega),rfl,rfl,rfl,rfl,by simp [ho];omega,⟨by omega,by omega⟩,?_⟩
  exact ⟨k+1,out++[e12],rfl,rfl,⟨by omega,by rw [ho,cA h12]⟩,by omega⟩
 ·replace c0:=nq c0
  refine ⟨rfl,rfl,rfl,?_,trivial⟩
  ·rw [ho,List.take_of_length_le (by omega)]
def kD (x:aB):List (List Int):=(x.groups.getD (x.groups.length - 1) eH).values
def cL (x:aB):aR:=⟨x.name,x.arity,kD x⟩
def bP (x:aB):Bool:=aT (cL x)&&decide (bB (cL x)=x)
theorem aJE {x:aB} {g:aG} (h:x.groups[x.groups.length - 1]? =some g):kD x=g.values:=by rw [kD,bD h]
theorem aMC {x:aB} (h:x.groups.length=0):kD x= []:=by
 rw [kD,List.length_eq_zero_iff.1 h];rfl
abbrev pH (x:aB):AV × List (Nat × Rs):=(.tup [.agg [.p none (.str ((cL x).name)),vI ((cL x).arity),.own 0],vB (bP x)],[(0,.arr 32 1 true (((cL x).rows).map aE))])
abbrev tX (x:aB):Prop:=dG Tryz.prog 181 [.agg [.str x.name,.int .i64 x.arity,.int .i64 x.rowCount,.sl 218 3 (x.groups.map aA)]] (pH x).1 (pH x).2
theorem aEd (x:aB) (hc:aW x≤1048576):tX x:=by
 refine aY bK aU Tryz.func181 (by kernel_rfl) (.len x.groups.length<| .br (.elem _ aA x.groups (fun e20=>cI (aGq e20.values)<| .call (vB (aT (⟨x.name,x.arity,e20.values⟩:aR))) []<| .br (cI (yS (⟨x.name,x.arity,e20.values⟩:aR))<| .call (vB (decide ((bB (⟨x.name,x.arity,e20.values⟩:aR))=x))) []<| .fin [(0,2300)]) (.fin [(0,2300)]))) (.call (vB (aT (⟨x.name,x.arity,([]:List (List Int))⟩:aR))) []<| .br (.call (.agg [.p none (.str ((bB (⟨x.name,x.arity,([]:List (List Int))⟩:aR)).name)),vI ((bB (⟨x.name,x.arity,([]:List (List Int))⟩:aR)).arity),vI ((bB (⟨x.name,x.arity,([]:List (List Int))⟩:aR)).rowCount),.own 0]) [(0,.arr 218 3 true (((bB (⟨x.name,x.arity,([]:List (List Int))⟩:aR)).groups).map aA))]<| .call (vB (decide ((bB (⟨x.name,x.arity,([]:List (List Int))⟩:aR))=x))) []<| .fin []) (.fin []))) (p:=(x.groups.map aA).length≤9223372036854775807→Lm aA x.groups∧(((decide ((0:Int)<((x.groups.length:Nat):Int)))=true→dB (((x.groups.length:Nat):Int) - (1:Int))∧(0≤(((x.groups.length:Nat):Int) - (1:Int))∧Em aA x.groups ((((x.groups.length:Nat):Int) - (1:Int)).toNat) fun e20=>aIp e20.values∧(qJ (⟨x.name,x.arity,e20.values⟩:aR)∧(((aT (⟨x.name,x.arity,e20.values⟩:aR))=true→aCJ (⟨x.name,x.arity,e20.values⟩:aR)∧mG (bB (⟨x.name,x.arity,e20.values⟩:aR)) x∧x.name=((cL x).name)∧x.arity=((cL x).arity)∧(decide ((bB (⟨x.name,x.arity,e20.values⟩:aR))=x))=(bP x)∧e20.values.map aE=((cL x).rows).map aE∧True)∧((aT (⟨x.name,x.arity,e20.values⟩:aR))=false→x.name=((cL x).name)∧x.arity=((cL x).arity)∧(false)=(bP x)∧e20.values.map aE=((cL x).rows).map aE∧True)))))∧((decide ((0:Int)<((x.groups.length:Nat):Int)))=false→dG Tryz.prog 225 [.agg [.str x.name,.int .i64 x.arity,.sl 0 1 ([])]] (vB (aT (⟨x.name,x.arity,([]:List (List Int))⟩:aR))) []∧(((aT (⟨x.name,x.arity,([]:List (List Int))⟩:aR))=true→dG Tryz.prog 155 [.agg [.str x.name,.int .i64 x.arity,.sl 0 1 ([])]] (.agg [.p none (.str ((bB (⟨x.name,x.arity,([]:List (List Int))⟩:aR)).name)),vI ((bB (⟨x.name,x.arity,([]:List (List Int))⟩:aR)).arity),vI ((bB (⟨x.name,x.arity,([]:List (List Int))⟩:aR)).rowCount),.own 0]) [(0,.arr 218 3 true (((bB (⟨x.name,x.arity,([]:List (List Int))⟩:aR)).groups).map aA))]∧mG (bB (⟨x.name,x.arity,([]:List (List Int))⟩:aR)) x∧x.name=((cL x).name)∧x.arity=((cL x).arity)∧(decide ((bB (⟨x.name,x.arity,([]:List (List Int))⟩:aR))=x))=(bP x)∧[]=((cL x).rows).map aE∧True)∧((aT (⟨x.name,x.arity,([]:List (List Int))⟩:aR))=false→x.name=((cL x).name)∧x.arity=((cL x).arity)∧(false)=(bP x)∧[]=((cL x).rows).map aE∧True))))) (by kernel_rfl) ?_
 intro n0
 simp only [List.length_map] at n0
 have q2:aW x=x.name.size+cQ x.groups:=rfl
 have q5:=fU x.groups
 refine ⟨List.length_map _,fun c0=>?_,fun c0=>?_⟩
 ·replace c0:=yq c0
  refine ⟨⟨by omega,by omega⟩,by omega,rfl,by omega,fun e20 h20=>?_⟩
  have i20:x.groups[x.groups.length - 1]? =some e20:=by rw [←h20];congr 1;omega
  have hT:kD x=e20.values:=aJE i20
  have q1:=gE i20
  have q3:bH e20=bX e20.columns+cM e20.values+bX e20.counts:=rfl
  have q6:bX e20.columns=e20.columns.length:=rfl
  have q7:bX e20.counts=e20.counts.length:=rfl
  have q8:=fL e20.values
  refine ⟨cpR _ (by omega),wQ (⟨x.name,x.arity,e20.values⟩:aR),fun g28=>?_,fun g28=>?_⟩
  ·refine ⟨aHl (⟨x.name,x.arity,e20.values⟩:aR),tU _ _,?_,?_,?_,?_,trivial⟩
   ·first | (rw [cL,hT]<;>rfl) | rfl | (simp [bP,cL,hT, *];done)
   ·first | (rw [cL,hT]<;>rfl) | rfl | (simp [bP,cL,hT, *];done)
   ·first | (rw [cL,hT]<;>rfl) | rfl | (simp [bP,cL,hT, *];done)
   ·first | (rw [cL,hT]<;>rfl) | rfl | (simp [bP,cL,hT, *];done)
  ·refine ⟨?_,?_,?_,?_,trivial⟩
   ·first | (rw [cL,hT]<;>rfl) | rfl | (simp [bP,cL,hT, *];done)
   ·first | (rw [cL,hT]<;>rfl) | rfl | (simp [bP,cL,hT, *];done)
   ·first | (rw [cL,hT]<;>rfl) | rfl | (simp [bP,cL,hT, *];done)
   ·first | (rw [cL,hT]<;>rfl) | rfl | (simp [bP,cL,hT, *];done)
 ·replace c0:=nq c0
  have hT:kD x= []:=aMC (by omega)
  refine ⟨dG.imp (fun A w vs h=>by simpa only [oB,aJj,iB,aIW,List.map_nil] using h) (wQ (⟨x.name,x.arity,([]:List (List Int))⟩:aR)),?_⟩
  refine ⟨fun g28=>?_,fun g28=>?_⟩
  ·refine ⟨dG.imp (fun A w vs h=>by simpa only [oB,aJj,iB,aIW,List.map_nil] using h) (aHl (⟨x.name,x.arity,([]:List (List Int))⟩:aR)),?_⟩
   refine ⟨tU _ _,?_,?_,?_,?_,trivial⟩
   ·first | (rw [cL,hT]<;>rfl) | rfl | (simp [bP,cL,hT, *];done)
   ·first | (rw [cL,hT]<;>rfl) | rfl | (simp [bP,cL,hT, *];done)
   ·first | (rw [cL,hT]<;>rfl) | rfl | (simp [bP,cL,hT, *];done)
   ·first | (rw [cL,hT]<;>rfl) | rfl | (simp [bP,cL,hT, *];done)
  ·refine ⟨?_,?_,?_,?_,trivial⟩
   ·first | (rw [cL,hT]<;>rfl) | rfl | (simp [bP,cL,hT, *];done)
   ·first | (rw [cL,hT]<;>rfl) | rfl | (simp [bP,cL,hT, *];done)
   ·first | (rw [cL,hT]<;>rfl) | rfl | (simp [bP,cL,hT, *];done)
   ·first | (rw [cL,hT]<;>rfl) | rfl | (simp [bP,cL,hT, *];done)
abbrev aAP (x:aB):Prop:=dG Tryz.prog 196 [.agg [.str x.name,.int .i64 x.arity,.int .i64 x.rowCount,.sl 218 3 (x.groups.map aA)]] (vB (bP x)) []
theorem aJF (x:aB) (hc:aW x≤1048576):aAP x:=by
 refine aY bK aU Tryz.func196 (by kernel_rfl) (cI (pH x)<| .fin []) (p:=(x.groups.map aA).length≤9223372036854775807→tX x∧(bP x)=(bP x)∧True) (by kernel_rfl) ?_
 intro n0
 simp only [List.length_map] at n0
 refine ⟨aEd x (by omega),?_⟩
 exact ⟨rfl,trivial⟩
theorem kK (a:List Int) (l:List (List Int)):cM (a::l)=cM l+1+a.length:=by
 simp only [cM,vK,bX,List.map_cons,List.sum_cons,List.length_cons]
 omega
theorem aJG (l:List (List Int)): ∀k,cM (l.take k)≤cM l:=by
 induction l with
 | nil=>intro k;simp
 | cons a l ih=>
   intro k
   cases k with
   | zero=>rw [List.take_zero];exact Nat.zero_le _
   | succ k=>rw [List.take_succ_cons,kK,kK];have:=ih k;omega
theorem aJH {row:List Int}: ∀{xs:List (List Int)},cM (kA row xs)≤cM xs+1+row.length
 | []=>by rw [aBN,kK];exact Nat.le_refl _
 | x::xs=>by
   by_cases h:0<bV x row
   ·rw [aBO h,kK];omega
   ·by_cases h' :bV x row=0
    ·rw [aBP h'];omega
    ·rw [aBQ h h',kK,kK]
     have:=aJH (row:=row) (xs:=xs)
     omega
theorem aLH {row:List Int}: ∀{xs:List (List Int)},xs.length≤(kA row xs).length
 | []=>by simp
 | x::xs=>by
   by_cases h:0<bV x row
   ·rw [aBO h];simp
   ·by_cases h' :bV x row=0
    ·rw [aBP h'];simp
    ·rw [aBQ h h']
     have:=aLH (row:=row) (xs:=xs)
     simp only [List.length_cons];omega
theorem aJI (l:List (List Int)): ∀acc,cM (l.foldl (fun acc x=>kA x acc) acc)≤cM acc+cM l∧acc.length≤(l.foldl (fun acc x=>kA x acc) acc).length:=by
 induction l with
 | nil=>intro acc;simp
 | cons x l ih=>
   intro acc
   obtain ⟨h1,h2⟩:=ih (kA x acc)
   have h3:=aJH (row:=x) (xs:=acc)
   have h4:=aLH (row:=x) (xs:=acc)
   rw [List.foldl_cons,kK]
   exact ⟨by omega,by omega⟩
theorem aJJ (l:List (List Int)) (k:Nat):cM (cJ (l.take k))≤cM l:=by
 have h1:=(aJI (l.take k) []).1
 have h2:=aJG l k
 have h3:cM ([]:List (List Int))=0:=rfl
 unfold cJ
 omega
theorem aHm (l:List (List Int)) (k:Nat):(cJ (l.take k)).length≤(cJ l).length:=by
 have h:=(aJI (l.drop k) (cJ (l.take k))).2
 have e:cJ l=(l.drop k).foldl (fun acc x=>kA x acc) (cJ (l.take k)):=by
  unfold cJ
  rw [←List.foldl_append,List.take_append_drop]
 rw [e];exact h
def lY (name:ByteArray) (arity:Int) (rows:List (List Int)):aR × Bool:=if aT ⟨name,arity,cJ rows⟩=true then (⟨name,arity,cJ rows⟩,true) else (fT,false)
theorem dF {name:ByteArray} {arity:Int} {rows:List (List Int)} (h:aT ⟨name,arity,cJ rows⟩=true):lY name arity rows=(⟨name,arity,cJ rows⟩,true):=by rw [lY,if_pos h]
theorem iL {name:ByteArray} {arity:Int} {rows:List (List Int)} (h:aT ⟨name,arity,cJ rows⟩=false):lY name arity rows=(fT,false):=by rw [lY,if_neg (by rw [h];decide)]
theorem aCa {t:aR} (h:8<t.rows.length):aT t=false:=by
 cases e:aT t with
 | false=>rfl
 | true=>have:=bZ e;omega
theorem aJK {name:ByteArray} {arity:Int} {rows:List (List Int)} {k:Nat} {acc:List (List Int)} (ha:acc=cJ (rows.take k)) (h:rows.length≤k∨8<acc.length):aT ⟨name,arity,acc⟩=aT ⟨name,arity,cJ rows⟩∧(aT ⟨name,arity,acc⟩=true→acc=cJ rows):=by
 by_cases h1:8<acc.length
 ·have h2:=aHm rows k
  rw [←ha] at h2
  have q1:=aCa (t:=⟨name,arity,acc⟩) h1
  rw [q1,aCa (t:=⟨name,arity,cJ rows⟩) (show 8<(cJ rows).length by omega)]
  exact ⟨rfl,fun q=>by cases q⟩
 ·have e:acc=cJ rows:=by rw [ha,List.take_of_length_le (by omega)]
  rw [e];exact ⟨rfl,fun _=>rfl⟩
theorem aOL: ∀{l:List (List Int)},(∀i,i+1<l.length→bV (l.getD i []) (l.getD (i+1) [])<0)→Asc l
 | [],_=>List.Pairwise.nil
 | [a],_=>List.pairwise_singleton _ _
 | a::b::l,h=>by
   have ih:=aOL (l:=b::l) fun i hi=>by
    have:=h (i+1) (by simpa using hi)
    simpa using this
   have h0:bV a b<0:=by
    have:=h 0 (by simp)
    simpa using this
   refine List.pairwise_cons.2 ⟨fun y hy=>?_,ih⟩
   rcases List.mem_cons.1 hy with rfl | q
   ·exact h0
   ·exact lL h0 ((List.pairwise_cons.1 ih).1 y q)
theorem aJL {l:List (List Int)} (h:aAG l=true):Asc l:=aOL fun i hi=>by
 have:=List.all_eq_true.1 h i (List.mem_range.2 (by omega))
 simpa [lD] using this
theorem nR {t:aR} (h:aT t=true):t.rows.all (gH t.arity)=true∧dV t.name=true∧aAG t.rows=true:=by
 simp only [aT,Bool.and_eq_true] at h
 exact ⟨h.1,h.2.1,h.2.2.2.2⟩
theorem aCb {l:List (List Int)} (h:Asc l):cJ l=l:=by
 obtain ⟨h1,h2,_⟩:=rP l [] List.Pairwise.nil
 exact aD5 h1 h fun x=>by have:=h2 x;simpa [cJ] using this
theorem nS {t:aR} (h:aT t=true) {r:List Int} (hr:r∈t.rows):(r.length:Int)=t.arity:=by
 have:=List.all_eq_true.1 (nR h).1 r hr
 simp only [gH,Bool.and_eq_true,decide_eq_true_eq] at this
 exact this.2
def aKM (n:Int):List Int:=eE ((2:Int)^n.toNat - 1)
theorem aPs {n:Int} (hn:1≤n∧n≤3) {r:List Int} (h:(r.length:Int)=n):(eO r (aKM n)).1=r:=by
 have h1:n=1∨n=2∨n=3:=by omega
 rcases h1 with rfl | rfl | rfl
 ·match r,h with
  | [a],_=>rfl
  | [],h=>simp at h
  | _::_::_,h=>simp at h;omega
 ·match r,h with
  | [a,b],_=>rfl
  | [],h=>simp at h
  | [_],h=>simp at h
  | _::_::_::_,h=>simp at h;omega
 ·match r,h with
  | [a,b,c],_=>rfl
  | [],h=>simp at h
  | [_],h=>simp at h
  | [_,_],h=>simp at h
  | _::_::_::_::_,h=>simp at h;omega
theorem aOM {n:Int} (hn:1≤n∧n≤3):dD (n - 1) (aKM n)=true:=by
 have h1:n=1∨n=2∨n=3:=by omega
 rcases h1 with rfl | rfl | rfl<;>decide
theorem aHn {n:Int} (hn:1≤n∧n≤3):0<(bO n).length∧(bO n)[(bO n).length - 1]? =some (aKM n):=by
 have h1:n=1∨n=2∨n=3:=by omega
 rcases h1 with rfl | rfl | rfl<;>decide
theorem aON {t:aR} (h:aT t=true):(dW t (aKM t.arity)).1=t.rows:=by
 have hT:=bZ h
 have hc:=aOM (n:=t.arity) ⟨hT.1,hT.2.1⟩
 rw [eP (by rw [h,hc];rfl)]
 have e:jP t (aKM t.arity)=t.rows:=by
  rw [jP]
  conv=>rhs;rw [←List.map_id t.rows]
  exact List.map_congr_left fun r hr=>aPs ⟨hT.1,hT.2.1⟩ (nS h hr)
 show fI (dH (jP t (aKM t.arity)))=t.rows
 rw [e,←rQ,aCb (aJL (nR h).2.2)]
theorem aCc {t:aR} (h:aT t=true):kD (bB t)=t.rows∧(bB t).groups≠[]:=by
 have hT:=bZ h
 obtain ⟨h0,h1⟩:=aHn (n:=t.arity) ⟨hT.1,hT.2.1⟩
 rw [bQ h]
 constructor
 ·rw [kD]
  show (((bO t.arity).map (sU t)).getD (((bO t.arity).map (sU t)).length - 1) eH).values=t.rows
  rw [List.length_map,bD (x:=sU t (aKM t.arity)) (by rw [List.getElem?_map,h1];rfl)]
  exact aON h
 ·intro e
  have:((bO t.arity).map (sU t)).length=0:=congrArg List.length e
  rw [List.length_map] at this
  omega
def lZ (x:aB):aR × Bool:=if x.groups.length=0 then (fT,false) else lY x.name x.arity (kD x)
theorem aPt {x:aB} (h:bP x=true):lZ x=(cL x,true):=by
 simp only [bP,Bool.and_eq_true,decide_eq_true_eq] at h
 have h2:=(aCc h.1).2
 rw [h.2] at h2
 rw [lZ,if_neg (fun e=>h2 (List.eq_nil_of_length_eq_zero e))]
 have e:=aCb (aJL (nR h.1).2.2)
 rw [show (cL x).rows=kD x from rfl] at e
 rw [dF (by rw [e];exact h.1),e];rfl
theorem aMD (x:aB):((lZ x).2&&decide (bB (lZ x).1=x))=bP x:=by
 cases h:bP x with
 | true=>
   rw [aPt h]
   simp only [bP,Bool.and_eq_true,decide_eq_true_eq] at h
   simp [h.2]
 | false=>
   rw [lZ]
   split
   ·rfl
   ·cases e:aT ⟨x.name,x.arity,cJ (kD x)⟩ with
    | false=>rw [iL e];rfl
    | true=>
      rw [dF e]
      simp only [Bool.true_and]
      by_cases q:bB ⟨x.name,x.arity,cJ (kD x)⟩=x
      ·exfalso
       have h3:=(aCc e).1
       rw [q] at h3
       have h4:cL x=⟨x.name,x.arity,cJ (kD x)⟩:=by
        rw [cL]
        congr 1
       rw [bP,h4,e,q] at h
       simp at h
      ·simp [q]
theorem sV {x:aB} (h:bP x=true):aT (cL x)=true∧bB (cL x)=x:=by
 simpa only [bP,Bool.and_eq_true,decide_eq_true_eq] using h
theorem aEe {x:aB} (h:bP x=true):x.groups=(bO x.arity).map (sU (cL x)):=by
 obtain ⟨h1,h2⟩:=sV h
 rw [bQ h1] at h2
 exact (congrArg aB.groups h2).symm
theorem aME {x:aB} (h:bP x=true):x.rowCount=((kD x).length:Nat):=by
 obtain ⟨h1,h2⟩:=sV h
 rw [bQ h1] at h2
 exact (congrArg aB.rowCount h2).symm
theorem yU {x:aB} (h:bP x=true):1≤x.arity∧x.arity≤3:=by
 have:=bZ (sV h).1
 exact ⟨this.1,this.2.1⟩
theorem aHo {α:Type} {p:α→Bool} {l:List α} {k:Nat} {x:α} (h:l[k]? =some x) (ha:(l.take k).all (fun y=> !p y)=true) (hx:p x=true):l.find? p=some x:=by
 rw [List.find?_eq_some_iff_getElem]
 obtain ⟨hk,rfl⟩:=List.getElem?_eq_some_iff.1 h
 refine ⟨hx,k,hk,rfl,fun j hj=>?_⟩
 have:=List.all_eq_true.1 ha l[j] (List.mem_iff_getElem.2 ⟨j,by simp;omega,by simp⟩)
 exact this
theorem aD6 {α:Type} {p:α→Bool} {l:List α} (ha:l.all (fun y=> !p y)=true):l.find? p=none:=by
 rw [List.find?_eq_none]
 intro x hx
 have:=List.all_eq_true.1 ha x hx
 simpa using this
def fV (l:List aR) (i:Nat):Bool:=Op.bytesLess (l.getD i fT).name.toList (l.getD (i+1) fT).name.toList
def fJ (d:aV):Bool:=d.tables.all aT&&((List.range (d.tables.length - 1)).all (fV d.tables)&&decide ((d.tables.length:Int)≤6))
abbrev aCL (t:aV):Prop:=dG Tryz.prog 154 [.agg [.sl 162 3 (t.tables.map aP)]] (vB (fJ t)) []
theorem aLI (t:aV):aCL t:=by
 refine aY bK aU Tryz.func154 (by kernel_rfl) (.len t.tables.length<| .loop Nat (Q1 Nat) [3,4,8,9,10,11,12,13,14,15,16,17,18,19,20,21,22,23,24,25,26,27,28,29,30,31,32] [400] (fun k=>[(8,vI (k:Int))]) (fun k=>[]) (fun k=>k≤t.tables.length∧(t.tables.take k).all aT=true∧(List.range (k - 1)).all (fV t.tables)=true) (fun k=>t.tables.length - k) (fun k=> .br (.elem _ aP t.tables (fun e11=> .call (vB (aT e11)) []<| .br (.fin []) (.lit<| .lit<| .br (.elem _ aP t.tables (fun e24=> .lit<| .lit<| .lit<| .lit<| .lit<| .lit<| .lit<| .lit<| .br (.fin []) (.back []))) (.back [])))) (.len t.tables.length<| .fin []))) (p:=(t.tables.map aP).length≤9223372036854775807→Lm aP t.tables∧((∃(k:Nat),(0:Int)=(k:Int)∧k≤t.tables.length∧(t.tables.take k).all aT=true∧(List.range (k - 1)).all (fV t.tables)=true)∧ ∀(k:Nat),(k≤t.tables.length∧(t.tables.take k).all aT=true∧(List.range (k - 1)).all (fV t.tables)=true)→((decide ((k:Int)<((t.tables.length:Nat):Int)))=true→0≤(k:Int)∧Em aP t.tables k fun e11=>qJ e11∧(((!(aT e11))=true→(false)=(fJ t)∧True)∧((!(aT e11))=false→((decide ((0:Int)<(k:Int)))=true→dB ((k:Int) - (1:Int))∧(0≤((k:Int) - (1:Int))∧Em aP t.tables (((k:Int) - (1:Int)).toNat) fun e24=>((!(Op.bytesLess e24.name.toList e11.name.toList))=true→(false)=(fJ t)∧True)∧((!(Op.bytesLess e24.name.toList e11.name.toList))=false→dB ((k:Int)+(1:Int))∧ ∃(k' :Nat),((k:Int)+(1:Int))=(k' :Int)∧(k' ≤t.tables.length∧(t.tables.take k').all aT=true∧(List.range (k' - 1)).all (fV t.tables)=true)∧t.tables.length - k' <t.tables.length - k)))∧((decide ((0:Int)<(k:Int)))=false→dB ((k:Int)+(1:Int))∧ ∃(k' :Nat),((k:Int)+(1:Int))=(k' :Int)∧(k' ≤t.tables.length∧(t.tables.take k').all aT=true∧(List.range (k' - 1)).all (fV t.tables)=true)∧t.tables.length - k' <t.tables.length - k))))∧((decide ((k:Int)<((t.tables.length:Nat):Int)))=false→Lm aP t.tables∧(decide (((t.tables.length:Nat):Int)≤(6:Int)))=(fJ t)∧True))) (by kernel_rfl) ?_
 intro n0
 simp only [List.length_map] at n0
 refine ⟨List.length_map _,⟨0,rfl,Nat.zero_le _,rfl,rfl⟩,fun k ⟨hk,ha,hs⟩=>?_⟩
 refine ⟨fun c0=>?_,fun c0=>?_⟩
 ·replace c0:=yq c0
  refine ⟨by omega,rfl,by omega,fun e11 h11=>?_⟩
  refine ⟨wQ e11,fun g16=>?_,fun g16=>?_⟩
  ·replace g16:=nt g16
   refine ⟨?_,trivial⟩
   ·first | (rw [fJ,cG h11 g16];rfl) | (rw [fJ,hz];simp [*];done) | (rw [fJ,hz];simp;done)
  ·replace g16:=nf g16
   refine ⟨fun g19=>?_,fun g19=>?_⟩
   ·replace g19:=yq g19
    refine ⟨⟨by omega,by omega⟩,by omega,rfl,by omega,fun e24 h24=>?_⟩
    have i1:t.tables[k - 1]? =some e24:=by rw [←h24];congr 1;omega
    refine ⟨fun c1=>?_,fun c1=>?_⟩
    ·replace c1:=nt c1
     have hp:fV t.tables (k - 1)=false:=by rw [fV,bD i1,show k - 1+1=k by omega,bD h11];simpa using c1
     have hz:(List.range (t.tables.length - 1)).all (fV t.tables)=false:=fF (by omega) hp
     refine ⟨?_,trivial⟩
     ·first | (rw [fJ,cG h11 g16];rfl) | (rw [fJ,hz];simp [*];done) | (rw [fJ,hz];simp;done)
    ·replace c1:=nf c1
     have hp:fV t.tables (k - 1)=true:=by rw [fV,bD i1,show k - 1+1=k by omega,bD h11];simpa using c1
     have hs2:(List.range (k+1 - 1)).all (fV t.tables)=true:=by rw [show k+1 - 1=(k - 1)+1 by omega];exact iT hs hp
     refine ⟨⟨by omega,by omega⟩,?_⟩
     exact ⟨k+1,rfl,⟨by omega,dQ h11 ha g16,hs2⟩,by omega⟩
   ·replace g19:=nq g19
    have hs2:(List.range (k+1 - 1)).all (fV t.tables)=true:=by rw [show k=0 by omega];rfl
    refine ⟨⟨by omega,by omega⟩,?_⟩
    exact ⟨k+1,rfl,⟨by omega,dQ h11 ha g16,hs2⟩,by omega⟩
 ·replace c0:=nq c0
  have hall:=bU (by omega) ha
  have hz:(List.range (t.tables.length - 1)).all (fV t.tables)=true:=by rw [show t.tables.length - 1=k - 1 by omega,hs]
  refine ⟨List.length_map _,?_,trivial⟩
  ·first | (rw [fJ,cG h11 g16];rfl) | (rw [fJ,hz];simp [*];done) | (rw [fJ,hz];simp;done)
abbrev aCM (t:aV):Prop:=dG Tryz.prog 138 [.agg [.sl 162 3 (t.tables.map aP)]] (vB (fJ t)) []
theorem aLJ (t:aV):aCM t:=by
 refine aY bK aU Tryz.func138 (by kernel_rfl) (.loop Nat (Q1 Nat) [3,4,5,6,7,8,9,10,11,12,13,14,15,16,17,18,19,20,21,22,23,24,25,26,27,28,29,30,31,32,33,34,35,36,37] [] (fun k=>[(3,vI (k:Int))]) (fun k=>[]) (fun k=>k≤t.tables.length∧(t.tables.take k).all aT=true∧(List.range (k - 1)).all (fV t.tables)=true) (fun k=>t.tables.length - k) (fun k=> .len t.tables.length<| .br (.elem _ aP t.tables (fun e14=> .call (vB (aT e14)) []<| .br (.fin []) (.lit<| .lit<| .br (.elem _ aP t.tables (fun e26=> .elem _ aP t.tables (fun e32=> .lit<| .lit<| .lit<| .lit<| .lit<| .lit<| .br (.fin []) (.back [])))) (.back [])))) (.len t.tables.length<| .fin []))) (p:=(t.tables.map aP).length≤9223372036854775807→(∃(k:Nat),(0:Int)=(k:Int)∧k≤t.tables.length∧(t.tables.take k).all aT=true∧(List.range (k - 1)).all (fV t.tables)=true)∧ ∀(k:Nat),(k≤t.tables.length∧(t.tables.take k).all aT=true∧(List.range (k - 1)).all (fV t.tables)=true)→Lm aP t.tables∧(((decide ((k:Int)<((t.tables.length:Nat):Int)))=true→0≤(k:Int)∧Em aP t.tables k fun e14=>nC e14∧(((!(aT e14))=true→(false)=(fJ t)∧True)∧((!(aT e14))=false→((decide ((0:Int)<(k:Int)))=true→dB ((k:Int) - (1:Int))∧(0≤((k:Int) - (1:Int))∧Em aP t.tables (((k:Int) - (1:Int)).toNat) fun e26=>0≤(k:Int)∧Em aP t.tables k fun e32=>((!(Op.bytesLess e26.name.toList e32.name.toList))=true→(false)=(fJ t)∧True)∧((!(Op.bytesLess e26.name.toList e32.name.toList))=false→dB ((k:Int)+(1:Int))∧ ∃(k' :Nat),((k:Int)+(1:Int))=(k' :Int)∧(k' ≤t.tables.length∧(t.tables.take k').all aT=true∧(List.range (k' - 1)).all (fV t.tables)=true)∧t.tables.length - k' <t.tables.length - k)))∧((decide ((0:Int)<(k:Int)))=false→dB ((k:Int)+(1:Int))∧ ∃(k' :Nat),((k:Int)+(1:Int))=(k' :Int)∧(k' ≤t.tables.length∧(t.tables.take k').all aT=true∧(List.range (k' - 1)).all (fV t.tables)=true)∧t.tables.length - k' <t.tables.length - k))))∧((decide ((k:Int)<((t.tables.length:Nat):Int)))=false→Lm aP t.tables∧(decide (((t.tables.length:Nat):Int)≤(6:Int)))=(fJ t)∧True))) (by kernel_rfl) ?_
 intro n0
 simp only [List.length_map] at n0
 refine ⟨⟨0,rfl,Nat.zero_le _,rfl,rfl⟩,fun k ⟨hk,ha,hs⟩=>?_⟩
 refine ⟨List.length_map _,fun c0=>?_,fun c0=>?_⟩
 ·replace c0:=yq c0
  refine ⟨by omega,rfl,by omega,fun e14 h14=>?_⟩
  refine ⟨wR e14,fun g18=>?_,fun g18=>?_⟩
  ·replace g18:=nt g18
   refine ⟨?_,trivial⟩
   ·first | (rw [fJ,cG h14 g18];rfl) | (rw [fJ,hz];simp [*];done) | (rw [fJ,hz];simp;done)
  ·replace g18:=nf g18
   refine ⟨fun g21=>?_,fun g21=>?_⟩
   ·replace g21:=yq g21
    refine ⟨⟨by omega,by omega⟩,by omega,rfl,by omega,fun e26 h26=>?_⟩
    have i1:t.tables[k - 1]? =some e26:=by rw [←h26];congr 1;omega
    refine ⟨by omega,rfl,by omega,fun e32 h32=>?_⟩
    refine ⟨fun c1=>?_,fun c1=>?_⟩
    ·replace c1:=nt c1
     have hp:fV t.tables (k - 1)=false:=by rw [fV,bD i1,show k - 1+1=k by omega,bD h32];simpa using c1
     have hz:(List.range (t.tables.length - 1)).all (fV t.tables)=false:=fF (by omega) hp
     refine ⟨?_,trivial⟩
     ·first | (rw [fJ,cG h14 g18];rfl) | (rw [fJ,hz];simp [*];done) | (rw [fJ,hz];simp;done)
    ·replace c1:=nf c1
     have hp:fV t.tables (k - 1)=true:=by rw [fV,bD i1,show k - 1+1=k by omega,bD h32];simpa using c1
     have hs2:(List.range (k+1 - 1)).all (fV t.tables)=true:=by rw [show k+1 - 1=(k - 1)+1 by omega];exact iT hs hp
     refine ⟨⟨by omega,by omega⟩,?_⟩
     exact ⟨k+1,rfl,⟨by omega,dQ h14 ha g18,hs2⟩,by omega⟩
   ·replace g21:=nq g21
    have hs2:(List.range (k+1 - 1)).all (fV t.tables)=true:=by rw [show k=0 by omega];rfl
    refine ⟨⟨by omega,by omega⟩,?_⟩
    exact ⟨k+1,rfl,⟨by omega,dQ h14 ha g18,hs2⟩,by omega⟩
 ·replace c0:=nq c0
  have hall:=bU (by omega) ha
  have hz:(List.range (t.tables.length - 1)).all (fV t.tables)=true:=by rw [show t.tables.length - 1=k - 1 by omega,hs]
  refine ⟨List.length_map _,?_,trivial⟩
  ·first | (rw [fJ,cG h14 g18];rfl) | (rw [fJ,hz];simp [*];done) | (rw [fJ,hz];simp;done)
end Go.Proofs.YtokkjaflmcjlhaaGreat
