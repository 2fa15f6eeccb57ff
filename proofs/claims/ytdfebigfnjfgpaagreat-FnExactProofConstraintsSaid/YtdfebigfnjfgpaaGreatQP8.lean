/-
  Contracts and plain laws, joined: part 9.
-/
import Derived.Test.YtdfebigfnjfgpaaGreatQP7
import Derived.Test.YtdfebigfnjfgpaaGreatQP5
import Derived.Test.YtdfebigfnjfgpaaGreatQP3
import Derived.Test.YtdfebigfnjfgpaaGreatQP4
namespace Go.Proofs.YtdfebigfnjfgpaaGreat
open Go.ChangeShapes Go.WideShapes Go.ChangeAt Go.RowKit
set_option linter.unusedVariables false
set_option linter.unusedSimpArgs false
set_option maxRecDepth 100000
set_option maxHeartbeats 4000000
def vE (t:aS) (cols:List Int):aG:=⟨cols,(eK t cols).1,(eK t cols).2⟩
def bF (t:aS):aB:=if aU t=true then ⟨t.name,t.arity,(t.rows.length:Nat),(bV t.arity).map (vE t)⟩ else eB
theorem bX {t:aS} (h:aU t=true):bF t=⟨t.name,t.arity,(t.rows.length:Nat),(bV t.arity).map (vE t)⟩:=by rw [bF,if_pos h]
theorem fH {t:aS} (h:aU t=false):bF t=eB:=by rw [bF,if_neg (by rw [h];decide)]
theorem aOH {α:Type} {l:List α} {k:Nat} (h:k<l.length):l.drop k≠[]:=fun e=>by
 have:=congrArg List.length e
 simp at this
 omega
theorem aOI {α:Type} {l l2:List α} {k:Nat} {x:α} (h:l.drop k=x::l2):l2=l.drop (k+1):=by rw [←List.tail_drop,h];rfl
theorem aOJ {α:Type} {l l2:List α} {k:Nat} {x:α} (h:l.drop k=x::l2):l[k]? =some x:=by
 have:=congrArg List.head? h
 simpa [List.head?_drop] using this
theorem aBi {n:Int} {k:Nat} {x:List Int} (h:(bV n)[k]? =some x):x.length≤3:=by
 obtain ⟨i,_,rfl⟩:=List.mem_map.1 (List.mem_of_getElem? h)
 exact vD _ 3
theorem zT {n:Int} (h:1≤n∧n≤3):(bV n).length≤7:=by
 have:=rV h
 simp only [bV,sQ,List.length_map,List.length_range]
 omega
abbrev aAm (t:aS):AV × List (Nat × Rs):=(.agg [.p none (.str ((bF t).name)),vI ((bF t).arity),vI ((bF t).rowCount),.own 0],[(0,.arr 203 3 true (((bF t).groups).map aA))])
abbrev aDp (t:aS):Prop:=cX Tryz.prog 176 [.agg [.str t.name,.int .i64 t.arity,.sl 39 1 (t.rows.map aC)]] (aAm t).1 (aAm t).2
theorem aKY (t:aS):aDp t:=by
 refine aX bG aR Tryz.func176 (by kernel_rfl) (.call (vB (aU t)) []<| .br (.fin []) (.len t.rows.length<| cB (zR t.arity)<| .len ((bV t.arity).length)<| .loop (Nat × (List (List Int)) × (List aG)) (Q3 Nat (List (List Int)) (List aG)) [5,6,7,24,25,26,27,28,29,30,31,32,33,34,35,36,37,38,39,40,41,42,43] [300,2200,3100,3101,4000,4100,9000,50607] (fun yy0=>[(24,vI (yy0.1:Int))]) (fun yy0=>[(300,some (.box 161 [.p none (.str t.name),vI t.arity,vI ((t.rows.length:Nat):Int),.own 9000])),(9000,some (.arr 203 3 true (yy0.2.2.map aA))),(2200,some (.arr 39 1 true (List.replicate yy0.1 [bQ.gone]++yy0.2.1.map aC)))]) (fun yy0=>yy0.1≤(bV t.arity).length∧yy0.2.1=(bV t.arity).drop yy0.1∧yy0.2.2=((bV t.arity).take yy0.1).map (vE t)) (fun yy0=>(bV t.arity).length - yy0.1) (fun yy0=> .br (.takeg 6 2200 yy0.1 50607 (List Int) aC yy0.2.1 (fun x6 l6=> .len (yy0.1+(l6.length+1))<| .leave 7 2200 yy0.1 50607 (List Int) aC x6 l6 (cB (wH t x6)<| .appx aG aA yy0.2.2 (⟨x6,(eK t x6).1,(eK t x6).2⟩:aG)<| .back [(300,300),(2200,2200),(9000,4100)]))) (.fin [(0,9000)])))) (p:=(t.rows.map aC).length≤9223372036854775807→sM t∧(((!(aU t))=true→ByteArray.empty=((bF t).name)∧(0:Int)=((bF t).arity)∧(0:Int)=((bF t).rowCount)∧[]=((bF t).groups).map aA∧True)∧((!(aU t))=false→Lm aC t.rows∧(aES t.arity∧(Lm aC (bV t.arity)∧((∃(k:Nat) (l2:List (List Int)) (out:List aG),(0:Int)=(k:Int)∧t.name=t.name∧t.arity=t.arity∧((t.rows.length:Nat):Int)=((t.rows.length:Nat):Int)∧[]=out.map aA∧(bV t.arity).map aC=List.replicate k [bQ.gone]++l2.map aC∧k≤(bV t.arity).length∧l2=(bV t.arity).drop k∧out=((bV t.arity).take k).map (vE t))∧ ∀(k:Nat) (l2:List (List Int)) (out:List aG),(k≤(bV t.arity).length∧l2=(bV t.arity).drop k∧out=((bV t.arity).take k).map (vE t))→((decide ((k:Int)<(((bV t.arity).length:Nat):Int)))=true→List.replicate k [bQ.gone]++l2.map aC=List.replicate k [bQ.gone]++l2.map aC∧l2≠[]∧ ∀x6 l6,l2=x6::l6→0≤(k:Int)∧(List.replicate k [bQ.gone]++(x6::l6).map aC).length=k+(l6.length+1)∧(k:Int)<((k+(l6.length+1):Nat):Int)∧k=k∧List.replicate k [bQ.gone]++(x6::l6).map aC=List.replicate k [bQ.gone]++(x6::l6).map aC∧k=k∧aBf t x6∧out.map aA=out.map aA∧x6.map intD=((⟨x6,(eK t x6).1,(eK t x6).2⟩:aG).columns).map intD∧((eK t x6).1).map aC=((⟨x6,(eK t x6).1,(eK t x6).2⟩:aG).values).map aC∧((eK t x6).2).map intD=((⟨x6,(eK t x6).1,(eK t x6).2⟩:aG).counts).map intD∧(out.length+1)*72≤140737488355328∧cC ((k:Int)+(1:Int))∧ ∃(k' :Nat) (l2' :List (List Int)) (out' :List aG),((k:Int)+(1:Int))=(k' :Int)∧t.name=t.name∧t.arity=t.arity∧((t.rows.length:Nat):Int)=((t.rows.length:Nat):Int)∧(out++[(⟨x6,(eK t x6).1,(eK t x6).2⟩:aG)]).map aA=out'.map aA∧List.replicate (k+1) [bQ.gone]++l6.map aC=List.replicate k' [bQ.gone]++l2'.map aC∧(k' ≤(bV t.arity).length∧l2' =(bV t.arity).drop k' ∧out' =((bV t.arity).take k').map (vE t))∧(bV t.arity).length - k' <(bV t.arity).length - k)∧((decide ((k:Int)<(((bV t.arity).length:Nat):Int)))=false→t.name=((bF t).name)∧t.arity=((bF t).arity)∧((t.rows.length:Nat):Int)=((bF t).rowCount)∧out.map aA=((bF t).groups).map aA∧True))))))) (by kernel_rfl) ?_
 intro n0
 simp only [List.length_map] at n0
 refine ⟨zJ t,fun c0=>?_,fun c0=>?_⟩
 ·replace c0:=nt c0
  have hbad:aU t=false:=by simpa using c0
  refine ⟨?_,?_,?_,?_,trivial⟩
  ·first | (rw [fH hbad]<;>rfl) | (rw [bX hok]<;>rfl) | (rw [bX hok,ho,List.take_of_length_le (by omega)])
  ·first | (rw [fH hbad]<;>rfl) | (rw [bX hok]<;>rfl) | (rw [bX hok,ho,List.take_of_length_le (by omega)])
  ·first | (rw [fH hbad]<;>rfl) | (rw [bX hok]<;>rfl) | (rw [bX hok,ho,List.take_of_length_le (by omega)])
  ·first | (rw [fH hbad]<;>rfl) | (rw [bX hok]<;>rfl) | (rw [bX hok,ho,List.take_of_length_le (by omega)])
 ·replace c0:=nf c0
  have hok:aU t=true:=by simpa using c0
  have hT:=cN hok
  have hn:=zT (n:=t.arity) ⟨hT.1,hT.2.1⟩
  refine ⟨List.length_map _,aPI t.arity (by omega),List.length_map _,⟨0,bV t.arity,([]:List aG),rfl,rfl,rfl,rfl,rfl,rfl,Nat.zero_le _,rfl,rfl⟩,fun k l2 out ⟨hk,hl,ho⟩=>?_⟩
  have hlen:l2.length=(bV t.arity).length - k:=by rw [hl,List.length_drop]
  refine ⟨fun c1=>?_,fun c1=>?_⟩
  ·replace c1:=yq c1
   refine ⟨rfl,(by rw [hl];exact aOH (by omega)),fun x6 l6 t6=>?_⟩
   have hdx:=hl.symm.trans t6
   have hx:=aOJ hdx
   have hx3:=aBi hx
   refine ⟨by omega,by simp,by omega,rfl,rfl,rfl,aLi t x6 (by omega),rfl,rfl,rfl,rfl,by first | omega | (simp [ho];omega),⟨by omega,by omega⟩,?_⟩
   exact ⟨k+1,_,_,rfl,rfl,rfl,rfl,rfl,rfl,⟨by omega,aOI hdx,by rw [ho,bP hx,List.map_append];rfl⟩,by omega⟩
  ·replace c1:=nq c1
   refine ⟨?_,?_,?_,?_,trivial⟩
   ·first | (rw [fH hbad]<;>rfl) | (rw [bX hok]<;>rfl) | (rw [bX hok,ho,List.take_of_length_le (by omega)])
   ·first | (rw [fH hbad]<;>rfl) | (rw [bX hok]<;>rfl) | (rw [bX hok,ho,List.take_of_length_le (by omega)])
   ·first | (rw [fH hbad]<;>rfl) | (rw [bX hok]<;>rfl) | (rw [bX hok,ho,List.take_of_length_le (by omega)])
   ·first | (rw [fH hbad]<;>rfl) | (rw [bX hok]<;>rfl) | (rw [bX hok,ho,List.take_of_length_le (by omega)])
abbrev aAn (t:aS):AV × List (Nat × Rs):=(.agg [.p none (.str ((bF t).name)),vI ((bF t).arity),vI ((bF t).rowCount),.own 0],[(0,.arr 203 3 true (((bF t).groups).map aA))])
abbrev aDq (t:aS):Prop:=cX Tryz.prog 171 [.agg [.str t.name,.int .i64 t.arity,.sl 39 1 (t.rows.map aC)]] (aAn t).1 (aAn t).2
theorem aOK (t:aS):aDq t:=by
 refine aX bG aR Tryz.func171 (by kernel_rfl) (.call (vB (aU t)) []<| .br (.fin []) (.len t.rows.length<| cB (zS t.arity)<| .loop (Nat × (List (List Int)) × (List aG)) (Q3 Nat (List (List Int)) (List aG)) [5,6,7,23,24,25,26,27,28,29,30,31,32,33,34,35,36,37,38,39,40,41,42,43,44,45,46,47,48,49] [300,2200,3500,3501,4700,4800,9000,50807] (fun yy0=>[(5,vI (yy0.1:Int))]) (fun yy0=>[(300,some (.box 161 [.p none (.str t.name),vI t.arity,vI ((t.rows.length:Nat):Int),.own 9000])),(9000,some (.arr 203 3 true (yy0.2.2.map aA))),(2200,some (.arr 39 1 true (List.replicate yy0.1 [bQ.gone]++yy0.2.1.map aC)))]) (fun yy0=>yy0.1≤(bV t.arity).length∧yy0.2.1=(bV t.arity).drop yy0.1∧yy0.2.2=((bV t.arity).take yy0.1).map (vE t)) (fun yy0=>(bV t.arity).length - yy0.1) (fun yy0=> .len (yy0.1+yy0.2.1.length)<| .br (.takeg 8 2200 yy0.1 50807 (List Int) aC yy0.2.1 (fun x8 l8=> .len (yy0.1+(l8.length+1))<| cB (aBh t x8)<| .len (yy0.1+(l8.length+1))<| .appx aG aA yy0.2.2 (⟨x8,(eK t x8).1,(eK t x8).2⟩:aG)<| .leave 7 2200 yy0.1 50807 (List Int) aC x8 l8 (.back [(300,300),(2200,2200),(9000,4800)]))) (.fin [(0,9000)])))) (p:=(t.rows.map aC).length≤9223372036854775807→pC t∧(((!(aU t))=true→ByteArray.empty=((bF t).name)∧(0:Int)=((bF t).arity)∧(0:Int)=((bF t).rowCount)∧[]=((bF t).groups).map aA∧True)∧((!(aU t))=false→Lm aC t.rows∧(aET t.arity∧((∃(k:Nat) (l2:List (List Int)) (out:List aG),(0:Int)=(k:Int)∧t.name=t.name∧t.arity=t.arity∧((t.rows.length:Nat):Int)=((t.rows.length:Nat):Int)∧[]=out.map aA∧(bV t.arity).map aC=List.replicate k [bQ.gone]++l2.map aC∧k≤(bV t.arity).length∧l2=(bV t.arity).drop k∧out=((bV t.arity).take k).map (vE t))∧ ∀(k:Nat) (l2:List (List Int)) (out:List aG),(k≤(bV t.arity).length∧l2=(bV t.arity).drop k∧out=((bV t.arity).take k).map (vE t))→(List.replicate k [bQ.gone]++l2.map aC).length=k+l2.length∧(((decide ((k:Int)<((k+l2.length:Nat):Int)))=true→List.replicate k [bQ.gone]++l2.map aC=List.replicate k [bQ.gone]++l2.map aC∧l2≠[]∧ ∀x8 l8,l2=x8::l8→0≤(k:Int)∧(List.replicate k [bQ.gone]++(x8::l8).map aC).length=k+(l8.length+1)∧(k:Int)<((k+(l8.length+1):Nat):Int)∧k=k∧aGc t x8∧0≤(k:Int)∧(List.replicate k [bQ.gone]++(x8::l8).map aC).length=k+(l8.length+1)∧(k:Int)<((k+(l8.length+1):Nat):Int)∧k=k∧out.map aA=out.map aA∧x8.map intD=((⟨x8,(eK t x8).1,(eK t x8).2⟩:aG).columns).map intD∧((eK t x8).1).map aC=((⟨x8,(eK t x8).1,(eK t x8).2⟩:aG).values).map aC∧((eK t x8).2).map intD=((⟨x8,(eK t x8).1,(eK t x8).2⟩:aG).counts).map intD∧(out.length+1)*72≤140737488355328∧List.replicate k [bQ.gone]++(x8::l8).map aC=List.replicate k [bQ.gone]++(x8::l8).map aC∧k=k∧cC ((k:Int)+(1:Int))∧ ∃(k' :Nat) (l2' :List (List Int)) (out' :List aG),((k:Int)+(1:Int))=(k' :Int)∧t.name=t.name∧t.arity=t.arity∧((t.rows.length:Nat):Int)=((t.rows.length:Nat):Int)∧(out++[(⟨x8,(eK t x8).1,(eK t x8).2⟩:aG)]).map aA=out'.map aA∧List.replicate (k+1) [bQ.gone]++l8.map aC=List.replicate k' [bQ.gone]++l2'.map aC∧(k' ≤(bV t.arity).length∧l2' =(bV t.arity).drop k' ∧out' =((bV t.arity).take k').map (vE t))∧(bV t.arity).length - k' <(bV t.arity).length - k)∧((decide ((k:Int)<((k+l2.length:Nat):Int)))=false→t.name=((bF t).name)∧t.arity=((bF t).arity)∧((t.rows.length:Nat):Int)=((bF t).rowCount)∧out.map aA=((bF t).groups).map aA∧True))))))) (by kernel_rfl) ?_
 intro n0
 simp only [List.length_map] at n0
 refine ⟨zK t,fun c0=>?_,fun c0=>?_⟩
 ·replace c0:=nt c0
  have hbad:aU t=false:=by simpa using c0
  refine ⟨?_,?_,?_,?_,trivial⟩
  ·first | (rw [fH hbad]<;>rfl) | (rw [bX hok]<;>rfl) | (rw [bX hok,ho,List.take_of_length_le (by omega)])
  ·first | (rw [fH hbad]<;>rfl) | (rw [bX hok]<;>rfl) | (rw [bX hok,ho,List.take_of_length_le (by omega)])
  ·first | (rw [fH hbad]<;>rfl) | (rw [bX hok]<;>rfl) | (rw [bX hok,ho,List.take_of_length_le (by omega)])
  ·first | (rw [fH hbad]<;>rfl) | (rw [bX hok]<;>rfl) | (rw [bX hok,ho,List.take_of_length_le (by omega)])
 ·replace c0:=nf c0
  have hok:aU t=true:=by simpa using c0
  have hT:=cN hok
  have hn:=zT (n:=t.arity) ⟨hT.1,hT.2.1⟩
  refine ⟨List.length_map _,aPJ t.arity (by omega),⟨0,bV t.arity,([]:List aG),rfl,rfl,rfl,rfl,rfl,rfl,Nat.zero_le _,rfl,rfl⟩,fun k l2 out ⟨hk,hl,ho⟩=>?_⟩
  have hlen:l2.length=(bV t.arity).length - k:=by rw [hl,List.length_drop]
  refine ⟨by simp,fun c1=>?_,fun c1=>?_⟩
  ·replace c1:=yq c1
   refine ⟨rfl,(by rw [hl];exact aOH (by omega)),fun x8 l8 t8=>?_⟩
   have hdx:=hl.symm.trans t8
   have hx:=aOJ hdx
   have hx3:=aBi hx
   refine ⟨by omega,by simp,by omega,rfl,aR2 t x8 (by omega),by omega,by simp,by omega,rfl,rfl,rfl,rfl,rfl,by first | omega | (simp [ho];omega),rfl,rfl,⟨by omega,by omega⟩,?_⟩
   exact ⟨k+1,_,_,rfl,rfl,rfl,rfl,rfl,rfl,⟨by omega,aOI hdx,by rw [ho,bP hx,List.map_append];rfl⟩,by omega⟩
  ·replace c1:=nq c1
   refine ⟨?_,?_,?_,?_,trivial⟩
   ·first | (rw [fH hbad]<;>rfl) | (rw [bX hok]<;>rfl) | (rw [bX hok,ho,List.take_of_length_le (by omega)])
   ·first | (rw [fH hbad]<;>rfl) | (rw [bX hok]<;>rfl) | (rw [bX hok,ho,List.take_of_length_le (by omega)])
   ·first | (rw [fH hbad]<;>rfl) | (rw [bX hok]<;>rfl) | (rw [bX hok,ho,List.take_of_length_le (by omega)])
   ·first | (rw [fH hbad]<;>rfl) | (rw [bX hok]<;>rfl) | (rw [bX hok,ho,List.take_of_length_le (by omega)])
abbrev aBj (x:aB):AV × List (Nat × Rs):=(.agg [.p none (.str x.name),vI x.arity,vI x.rowCount,.own 0],[(0,.arr 203 3 true (x.groups.map aA))])
abbrev aGe (x:aB):Prop:=cX Tryz.prog 152 [.agg [.str x.name,.int .i64 x.arity,.int .i64 x.rowCount,.sl 203 3 (x.groups.map aA)]] (aBj x).1 (aBj x).2
theorem aR3 (x:aB) (hc:bA x≤1048576):aGe x:=by
 refine aX bG aR Tryz.func152 (by kernel_rfl) (.len x.groups.length<| .loop (Nat × (List aG)) (Q2 Nat (List aG)) [3,5,6,10,11,12,13,14,15,16,17,18,19,20,21,22,23,24,25,26,27] [500,600,1700,2000,2300,2500,2600] (fun yy0=>[(3,.own 600),(10,vI (yy0.1:Int))]) (fun yy0=>[(600,some (.arr 203 3 true (yy0.2.map aA)))]) (fun yy0=>yy0.1≤x.groups.length∧yy0.2=x.groups.take yy0.1) (fun yy0=>x.groups.length - yy0.1) (fun yy0=> .br (.elem _ aA x.groups (fun e12=>cB (aJT e12.columns)<| cB (aJU e12.values)<| cB (aJT e12.counts)<| .appx aG aA yy0.2 e12<| .back [(600,2600)])) (.fin [(0,600)]))) (p:=(x.groups.map aA).length≤9223372036854775807→Lm aA x.groups∧((∃(k:Nat) (out:List aG),(0:Int)=(k:Int)∧[]=out.map aA∧k≤x.groups.length∧out=x.groups.take k)∧ ∀(k:Nat) (out:List aG),(k≤x.groups.length∧out=x.groups.take k)→((decide ((k:Int)<((x.groups.length:Nat):Int)))=true→0≤(k:Int)∧Em aA x.groups k fun e12=>aL7 e12.columns∧aL8 e12.values∧aL7 e12.counts∧out.map aA=out.map aA∧e12.columns.map intD=e12.columns.map intD∧e12.values.map aC=e12.values.map aC∧e12.counts.map intD=e12.counts.map intD∧(out.length+1)*72≤140737488355328∧cC ((k:Int)+(1:Int))∧ ∃(k' :Nat) (out' :List aG),((k:Int)+(1:Int))=(k' :Int)∧(out++[e12]).map aA=out'.map aA∧(k' ≤x.groups.length∧out' =x.groups.take k')∧x.groups.length - k' <x.groups.length - k)∧((decide ((k:Int)<((x.groups.length:Nat):Int)))=false→x.name=x.name∧x.arity=x.arity∧x.rowCount=x.rowCount∧out.map aA=x.groups.map aA∧True))) (by kernel_rfl) ?_
 intro n0
 simp only [List.length_map] at n0
 have q2:bA x=x.name.size+dD x.groups:=rfl
 have q5:=gW x.groups
 refine ⟨List.length_map _,⟨0,([]:List aG),rfl,rfl,Nat.zero_le _,rfl⟩,fun k out ⟨hk,ho⟩=>?_⟩
 refine ⟨fun c0=>?_,fun c0=>?_⟩
 ·replace c0:=yq c0
  refine ⟨by omega,rfl,by omega,fun e12 h12=>?_⟩
  have q1:=iG h12
  have q3:bN e12=bS e12.columns+cM e12.values+bS e12.counts:=rfl
  have q6:bS e12.columns=e12.columns.length:=rfl
  have q7:bS e12.counts=e12.counts.length:=rfl
  have q8:=fD e12.values
  refine ⟨cpI _ (by omega),cpR _ (by omega),cpI _ (by omega),rfl,rfl,rfl,rfl,by simp [ho];omega,⟨by omega,by omega⟩,?_⟩
  exact ⟨k+1,out++[e12],rfl,rfl,⟨by omega,by rw [ho,bP h12]⟩,by omega⟩
 ·replace c0:=nq c0
  refine ⟨rfl,rfl,rfl,?_,trivial⟩
  ·rw [ho,List.take_of_length_le (by omega)]
def lS (x:aB):List (List Int):=(x.groups.getD (x.groups.length - 1) eV).values
def cW (x:aB):aS:=⟨x.name,x.arity,lS x⟩
def bW (x:aB):Bool:=aU (cW x)&&decide (bF (cW x)=x)
theorem aLn {x:aB} {g:aG} (h:x.groups[x.groups.length - 1]? =some g):lS x=g.values:=by rw [lS,bD h]
theorem aPK {x:aB} (h:x.groups.length=0):lS x= []:=by
 rw [lS,List.length_eq_zero_iff.1 h];rfl
abbrev rJ (x:aB):AV × List (Nat × Rs):=(.tup [.agg [.p none (.str ((cW x).name)),vI ((cW x).arity),.own 0],vB (bW x)],[(0,.arr 39 1 true (((cW x).rows).map aC))])
abbrev wJ (x:aB):Prop:=cX Tryz.prog 186 [.agg [.str x.name,.int .i64 x.arity,.int .i64 x.rowCount,.sl 203 3 (x.groups.map aA)]] (rJ x).1 (rJ x).2
theorem aGf (x:aB) (hc:bA x≤1048576):wJ x:=by
 refine aX bG aR Tryz.func186 (by kernel_rfl) (.len x.groups.length<| .br (.elem _ aA x.groups (fun e20=>cB (aJU e20.values)<| .call (vB (aU (⟨x.name,x.arity,e20.values⟩:aS))) []<| .br (cB (aAm (⟨x.name,x.arity,e20.values⟩:aS))<| .call (vB (decide ((bF (⟨x.name,x.arity,e20.values⟩:aS))=x))) []<| .fin [(0,2300)]) (.fin [(0,2300)]))) (.call (vB (aU (⟨x.name,x.arity,([]:List (List Int))⟩:aS))) []<| .br (.call (.agg [.p none (.str ((bF (⟨x.name,x.arity,([]:List (List Int))⟩:aS)).name)),vI ((bF (⟨x.name,x.arity,([]:List (List Int))⟩:aS)).arity),vI ((bF (⟨x.name,x.arity,([]:List (List Int))⟩:aS)).rowCount),.own 0]) [(0,.arr 203 3 true (((bF (⟨x.name,x.arity,([]:List (List Int))⟩:aS)).groups).map aA))]<| .call (vB (decide ((bF (⟨x.name,x.arity,([]:List (List Int))⟩:aS))=x))) []<| .fin []) (.fin []))) (p:=(x.groups.map aA).length≤9223372036854775807→Lm aA x.groups∧(((decide ((0:Int)<((x.groups.length:Nat):Int)))=true→cC (((x.groups.length:Nat):Int) - (1:Int))∧(0≤(((x.groups.length:Nat):Int) - (1:Int))∧Em aA x.groups ((((x.groups.length:Nat):Int) - (1:Int)).toNat) fun e20=>aL8 e20.values∧(sM (⟨x.name,x.arity,e20.values⟩:aS)∧(((aU (⟨x.name,x.arity,e20.values⟩:aS))=true→aDp (⟨x.name,x.arity,e20.values⟩:aS)∧oD (bF (⟨x.name,x.arity,e20.values⟩:aS)) x∧x.name=((cW x).name)∧x.arity=((cW x).arity)∧(decide ((bF (⟨x.name,x.arity,e20.values⟩:aS))=x))=(bW x)∧e20.values.map aC=((cW x).rows).map aC∧True)∧((aU (⟨x.name,x.arity,e20.values⟩:aS))=false→x.name=((cW x).name)∧x.arity=((cW x).arity)∧(false)=(bW x)∧e20.values.map aC=((cW x).rows).map aC∧True)))))∧((decide ((0:Int)<((x.groups.length:Nat):Int)))=false→cX Tryz.prog 202 [.agg [.str x.name,.int .i64 x.arity,.sl 0 1 ([])]] (vB (aU (⟨x.name,x.arity,([]:List (List Int))⟩:aS))) []∧(((aU (⟨x.name,x.arity,([]:List (List Int))⟩:aS))=true→cX Tryz.prog 176 [.agg [.str x.name,.int .i64 x.arity,.sl 0 1 ([])]] (.agg [.p none (.str ((bF (⟨x.name,x.arity,([]:List (List Int))⟩:aS)).name)),vI ((bF (⟨x.name,x.arity,([]:List (List Int))⟩:aS)).arity),vI ((bF (⟨x.name,x.arity,([]:List (List Int))⟩:aS)).rowCount),.own 0]) [(0,.arr 203 3 true (((bF (⟨x.name,x.arity,([]:List (List Int))⟩:aS)).groups).map aA))]∧oD (bF (⟨x.name,x.arity,([]:List (List Int))⟩:aS)) x∧x.name=((cW x).name)∧x.arity=((cW x).arity)∧(decide ((bF (⟨x.name,x.arity,([]:List (List Int))⟩:aS))=x))=(bW x)∧[]=((cW x).rows).map aC∧True)∧((aU (⟨x.name,x.arity,([]:List (List Int))⟩:aS))=false→x.name=((cW x).name)∧x.arity=((cW x).arity)∧(false)=(bW x)∧[]=((cW x).rows).map aC∧True))))) (by kernel_rfl) ?_
 intro n0
 simp only [List.length_map] at n0
 have q2:bA x=x.name.size+dD x.groups:=rfl
 have q5:=gW x.groups
 refine ⟨List.length_map _,fun c0=>?_,fun c0=>?_⟩
 ·replace c0:=yq c0
  refine ⟨⟨by omega,by omega⟩,by omega,rfl,by omega,fun e20 h20=>?_⟩
  have i20:x.groups[x.groups.length - 1]? =some e20:=by rw [←h20];congr 1;omega
  have hT:lS x=e20.values:=aLn i20
  have q1:=iG i20
  have q3:bN e20=bS e20.columns+cM e20.values+bS e20.counts:=rfl
  have q6:bS e20.columns=e20.columns.length:=rfl
  have q7:bS e20.counts=e20.counts.length:=rfl
  have q8:=fD e20.values
  refine ⟨cpR _ (by omega),zJ (⟨x.name,x.arity,e20.values⟩:aS),fun g28=>?_,fun g28=>?_⟩
  ·refine ⟨aKY (⟨x.name,x.arity,e20.values⟩:aS),wG _ _,?_,?_,?_,?_,trivial⟩
   ·first | (rw [cW,hT]<;>rfl) | rfl | (simp [bW,cW,hT, *];done)
   ·first | (rw [cW,hT]<;>rfl) | rfl | (simp [bW,cW,hT, *];done)
   ·first | (rw [cW,hT]<;>rfl) | rfl | (simp [bW,cW,hT, *];done)
   ·first | (rw [cW,hT]<;>rfl) | rfl | (simp [bW,cW,hT, *];done)
  ·refine ⟨?_,?_,?_,?_,trivial⟩
   ·first | (rw [cW,hT]<;>rfl) | rfl | (simp [bW,cW,hT, *];done)
   ·first | (rw [cW,hT]<;>rfl) | rfl | (simp [bW,cW,hT, *];done)
   ·first | (rw [cW,hT]<;>rfl) | rfl | (simp [bW,cW,hT, *];done)
   ·first | (rw [cW,hT]<;>rfl) | rfl | (simp [bW,cW,hT, *];done)
 ·replace c0:=nq c0
  have hT:lS x= []:=aPK (by omega)
  refine ⟨cX.imp (fun A w vs h=>by simpa only [qD,aMb,jI,aLF,List.map_nil] using h) (zJ (⟨x.name,x.arity,([]:List (List Int))⟩:aS)),?_⟩
  refine ⟨fun g28=>?_,fun g28=>?_⟩
  ·refine ⟨cX.imp (fun A w vs h=>by simpa only [qD,aMb,jI,aLF,List.map_nil] using h) (aKY (⟨x.name,x.arity,([]:List (List Int))⟩:aS)),?_⟩
   refine ⟨wG _ _,?_,?_,?_,?_,trivial⟩
   ·first | (rw [cW,hT]<;>rfl) | rfl | (simp [bW,cW,hT, *];done)
   ·first | (rw [cW,hT]<;>rfl) | rfl | (simp [bW,cW,hT, *];done)
   ·first | (rw [cW,hT]<;>rfl) | rfl | (simp [bW,cW,hT, *];done)
   ·first | (rw [cW,hT]<;>rfl) | rfl | (simp [bW,cW,hT, *];done)
  ·refine ⟨?_,?_,?_,?_,trivial⟩
   ·first | (rw [cW,hT]<;>rfl) | rfl | (simp [bW,cW,hT, *];done)
   ·first | (rw [cW,hT]<;>rfl) | rfl | (simp [bW,cW,hT, *];done)
   ·first | (rw [cW,hT]<;>rfl) | rfl | (simp [bW,cW,hT, *];done)
   ·first | (rw [cW,hT]<;>rfl) | rfl | (simp [bW,cW,hT, *];done)
abbrev aBk (x:aB):Prop:=cX Tryz.prog 151 [.agg [.str x.name,.int .i64 x.arity,.int .i64 x.rowCount,.sl 203 3 (x.groups.map aA)]] (vB (bW x)) []
theorem aLo (x:aB) (hc:bA x≤1048576):aBk x:=by
 refine aX bG aR Tryz.func151 (by kernel_rfl) (cB (rJ x)<| .fin []) (p:=(x.groups.map aA).length≤9223372036854775807→wJ x∧(bW x)=(bW x)∧True) (by kernel_rfl) ?_
 intro n0
 simp only [List.length_map] at n0
 refine ⟨aGf x (by omega),?_⟩
 exact ⟨rfl,trivial⟩
theorem lY (a:List Int) (l:List (List Int)):cM (a::l)=cM l+1+a.length:=by
 simp only [cM,yB,bS,List.map_cons,List.sum_cons,List.length_cons]
 omega
theorem aLp (l:List (List Int)): ∀k,cM (l.take k)≤cM l:=by
 induction l with
 | nil=>intro k;simp
 | cons a l ih=>
   intro k
   cases k with
   | zero=>rw [List.take_zero];exact Nat.zero_le _
   | succ k=>rw [List.take_succ_cons,lY,lY];have:=ih k;omega
theorem aLq {row:List Int}: ∀{xs:List (List Int)},cM (lO row xs)≤cM xs+1+row.length
 | []=>by rw [aCn,lY];exact Nat.le_refl _
 | x::xs=>by
   by_cases h:0<cG x row
   ·rw [aCo h,lY];omega
   ·by_cases h' :cG x row=0
    ·rw [aCp h'];omega
    ·rw [aCq h h',lY,lY]
     have:=aLq (row:=row) (xs:=xs)
     omega
theorem aOL {row:List Int}: ∀{xs:List (List Int)},xs.length≤(lO row xs).length
 | []=>by simp
 | x::xs=>by
   by_cases h:0<cG x row
   ·rw [aCo h];simp
   ·by_cases h' :cG x row=0
    ·rw [aCp h'];simp
    ·rw [aCq h h']
     have:=aOL (row:=row) (xs:=xs)
     simp only [List.length_cons];omega
theorem aLr (l:List (List Int)): ∀acc,cM (l.foldl (fun acc x=>lO x acc) acc)≤cM acc+cM l∧acc.length≤(l.foldl (fun acc x=>lO x acc) acc).length:=by
 induction l with
 | nil=>intro acc;simp
 | cons x l ih=>
   intro acc
   obtain ⟨h1,h2⟩:=ih (lO x acc)
   have h3:=aLq (row:=x) (xs:=acc)
   have h4:=aOL (row:=x) (xs:=acc)
   rw [List.foldl_cons,lY]
   exact ⟨by omega,by omega⟩
theorem aLs (l:List (List Int)) (k:Nat):cM (cV (l.take k))≤cM l:=by
 have h1:=(aLr (l.take k) []).1
 have h2:=aLp l k
 have h3:cM ([]:List (List Int))=0:=rfl
 unfold cV
 omega
theorem aKZ (l:List (List Int)) (k:Nat):(cV (l.take k)).length≤(cV l).length:=by
 have h:=(aLr (l.drop k) (cV (l.take k))).2
 have e:cV l=(l.drop k).foldl (fun acc x=>lO x acc) (cV (l.take k)):=by
  unfold cV
  rw [←List.foldl_append,List.take_append_drop]
 rw [e];exact h
def nQ (name:ByteArray) (arity:Int) (rows:List (List Int)):aS × Bool:=if aU ⟨name,arity,cV rows⟩=true then (⟨name,arity,cV rows⟩,true) else (gV,false)
theorem dP {name:ByteArray} {arity:Int} {rows:List (List Int)} (h:aU ⟨name,arity,cV rows⟩=true):nQ name arity rows=(⟨name,arity,cV rows⟩,true):=by rw [nQ,if_pos h]
theorem jR {name:ByteArray} {arity:Int} {rows:List (List Int)} (h:aU ⟨name,arity,cV rows⟩=false):nQ name arity rows=(gV,false):=by rw [nQ,if_neg (by rw [h];decide)]
theorem aEU {t:aS} (h:8<t.rows.length):aU t=false:=by
 cases e:aU t with
 | false=>rfl
 | true=>have:=cN e;omega
theorem aLt {name:ByteArray} {arity:Int} {rows:List (List Int)} {k:Nat} {acc:List (List Int)} (ha:acc=cV (rows.take k)) (h:rows.length≤k∨8<acc.length):aU ⟨name,arity,acc⟩=aU ⟨name,arity,cV rows⟩∧(aU ⟨name,arity,acc⟩=true→acc=cV rows):=by
 by_cases h1:8<acc.length
 ·have h2:=aKZ rows k
  rw [←ha] at h2
  have q1:=aEU (t:=⟨name,arity,acc⟩) h1
  rw [q1,aEU (t:=⟨name,arity,cV rows⟩) (show 8<(cV rows).length by omega)]
  exact ⟨rfl,fun q=>by cases q⟩
 ·have e:acc=cV rows:=by rw [ha,List.take_of_length_le (by omega)]
  rw [e];exact ⟨rfl,fun _=>rfl⟩
theorem aR4: ∀{l:List (List Int)},(∀i,i+1<l.length→cG (l.getD i []) (l.getD (i+1) [])<0)→Asc l
 | [],_=>List.Pairwise.nil
 | [a],_=>List.pairwise_singleton _ _
 | a::b::l,h=>by
   have ih:=aR4 (l:=b::l) fun i hi=>by
    have:=h (i+1) (by simpa using hi)
    simpa using this
   have h0:cG a b<0:=by
    have:=h 0 (by simp)
    simpa using this
   refine List.pairwise_cons.2 ⟨fun y hy=>?_,ih⟩
   rcases List.mem_cons.1 hy with rfl | q
   ·exact h0
   ·exact nB h0 ((List.pairwise_cons.1 ih).1 y q)
theorem aLu {l:List (List Int)} (h:aBb l=true):Asc l:=aR4 fun i hi=>by
 have:=List.all_eq_true.1 h i (List.mem_range.2 (by omega))
 simpa [mS] using this
theorem pU {t:aS} (h:aU t=true):t.rows.all (iK t.arity)=true∧eJ t.name=true∧aBb t.rows=true:=by
 simp only [aU,Bool.and_eq_true] at h
 exact ⟨h.1,h.2.1,h.2.2.2.2⟩
theorem aEV {l:List (List Int)} (h:Asc l):cV l=l:=by
 obtain ⟨h1,h2,_⟩:=tV l [] List.Pairwise.nil
 exact aF7 h1 h fun x=>by have:=h2 x;simpa [cV] using this
theorem pV {t:aS} (h:aU t=true) {r:List Int} (hr:r∈t.rows):(r.length:Int)=t.arity:=by
 have:=List.all_eq_true.1 (pU h).1 r hr
 simp only [iK,Bool.and_eq_true,decide_eq_true_eq] at this
 exact this.2
def aNF (n:Int):List Int:=eS ((2:Int)^n.toNat - 1)
theorem aT4 {n:Int} (hn:1≤n∧n≤3) {r:List Int} (h:(r.length:Int)=n):(fF r (aNF n)).1=r:=by
 have h1:n=1∨n=2∨n=3:=by omega
 rcases h1 with rfl | rfl | rfl
 ·match r,h with
  | [a],_=>rfl
  | [],h=>simp at h
  | _::_::_,h=>simp at h;omega
 ·match r,h with
  | [a,b],_=>rfl
  | [],h=>simp at h
  | [_],h=>simp at h
  | _::_::_::_,h=>simp at h;omega
 ·match r,h with
  | [a,b,c],_=>rfl
  | [],h=>simp at h
  | [_],h=>simp at h
  | [_,_],h=>simp at h
  | _::_::_::_::_,h=>simp at h;omega
theorem aR5 {n:Int} (hn:1≤n∧n≤3):dN (n - 1) (aNF n)=true:=by
 have h1:n=1∨n=2∨n=3:=by omega
 rcases h1 with rfl | rfl | rfl<;>decide
theorem aK0 {n:Int} (hn:1≤n∧n≤3):0<(bV n).length∧(bV n)[(bV n).length - 1]? =some (aNF n):=by
 have h1:n=1∨n=2∨n=3:=by omega
 rcases h1 with rfl | rfl | rfl<;>decide
theorem aR6 {t:aS} (h:aU t=true):(eK t (aNF t.arity)).1=t.rows:=by
 have hT:=cN h
 have hc:=aR5 (n:=t.arity) ⟨hT.1,hT.2.1⟩
 rw [fG (by rw [h,hc];rfl)]
 have e:lG t (aNF t.arity)=t.rows:=by
  rw [lG]
  conv=>rhs;rw [←List.map_id t.rows]
  exact List.map_congr_left fun r hr=>aT4 ⟨hT.1,hT.2.1⟩ (pV h hr)
 show gG (dQ (lG t (aNF t.arity)))=t.rows
 rw [e,←tW,aEV (aLu (pU h).2.2)]
theorem aEW {t:aS} (h:aU t=true):lS (bF t)=t.rows∧(bF t).groups≠[]:=by
 have hT:=cN h
 obtain ⟨h0,h1⟩:=aK0 (n:=t.arity) ⟨hT.1,hT.2.1⟩
 rw [bX h]
 constructor
 ·rw [lS]
  show (((bV t.arity).map (vE t)).getD (((bV t.arity).map (vE t)).length - 1) eV).values=t.rows
  rw [List.length_map,bD (x:=vE t (aNF t.arity)) (by rw [List.getElem?_map,h1];rfl)]
  exact aR6 h
 ·intro e
  have:((bV t.arity).map (vE t)).length=0:=congrArg List.length e
  rw [List.length_map] at this
  omega
def nR (x:aB):aS × Bool:=if x.groups.length=0 then (gV,false) else nQ x.name x.arity (lS x)
theorem aT5 {x:aB} (h:bW x=true):nR x=(cW x,true):=by
 simp only [bW,Bool.and_eq_true,decide_eq_true_eq] at h
 have h2:=(aEW h.1).2
 rw [h.2] at h2
 rw [nR,if_neg (fun e=>h2 (List.eq_nil_of_length_eq_zero e))]
 have e:=aEV (aLu (pU h.1).2.2)
 rw [show (cW x).rows=lS x from rfl] at e
 rw [dP (by rw [e];exact h.1),e];rfl
theorem aPL (x:aB):((nR x).2&&decide (bF (nR x).1=x))=bW x:=by
 cases h:bW x with
 | true=>
   rw [aT5 h]
   simp only [bW,Bool.and_eq_true,decide_eq_true_eq] at h
   simp [h.2]
 | false=>
   rw [nR]
   split
   ·rfl
   ·cases e:aU ⟨x.name,x.arity,cV (lS x)⟩ with
    | false=>rw [jR e];rfl
    | true=>
      rw [dP e]
      simp only [Bool.true_and]
      by_cases q:bF ⟨x.name,x.arity,cV (lS x)⟩=x
      ·exfalso
       have h3:=(aEW e).1
       rw [q] at h3
       have h4:cW x=⟨x.name,x.arity,cV (lS x)⟩:=by
        rw [cW]
        congr 1
       rw [bW,h4,e,q] at h
       simp at h
      ·simp [q]
theorem vF {x:aB} (h:bW x=true):aU (cW x)=true∧bF (cW x)=x:=by
 simpa only [bW,Bool.and_eq_true,decide_eq_true_eq] using h
theorem aGg {x:aB} (h:bW x=true):x.groups=(bV x.arity).map (vE (cW x)):=by
 obtain ⟨h1,h2⟩:=vF h
 rw [bX h1] at h2
 exact (congrArg aB.groups h2).symm
theorem aPM {x:aB} (h:bW x=true):x.rowCount=((lS x).length:Nat):=by
 obtain ⟨h1,h2⟩:=vF h
 rw [bX h1] at h2
 exact (congrArg aB.rowCount h2).symm
theorem aAo {x:aB} (h:bW x=true):1≤x.arity∧x.arity≤3:=by
 have:=cN (vF h).1
 exact ⟨this.1,this.2.1⟩
theorem aK1 {α:Type} {p:α→Bool} {l:List α} {k:Nat} {x:α} (h:l[k]? =some x) (ha:(l.take k).all (fun y=> !p y)=true) (hx:p x=true):l.find? p=some x:=by
 rw [List.find?_eq_some_iff_getElem]
 obtain ⟨hk,rfl⟩:=List.getElem?_eq_some_iff.1 h
 refine ⟨hx,k,hk,rfl,fun j hj=>?_⟩
 have:=List.all_eq_true.1 ha l[j] (List.mem_iff_getElem.2 ⟨j,by simp;omega,by simp⟩)
 exact this
theorem aF8 {α:Type} {p:α→Bool} {l:List α} (ha:l.all (fun y=> !p y)=true):l.find? p=none:=by
 rw [List.find?_eq_none]
 intro x hx
 have:=List.all_eq_true.1 ha x hx
 simpa using this
def gX (l:List aS) (i:Nat):Bool:=Op.bytesLess (l.getD i gV).name.toList (l.getD (i+1) gV).name.toList
def gI (d:aV):Bool:=d.tables.all aU&&((List.range (d.tables.length - 1)).all (gX d.tables)&&decide ((d.tables.length:Int)≤6))
abbrev aDr (t:aV):Prop:=cX Tryz.prog 175 [.agg [.sl 167 3 (t.tables.map aP)]] (vB (gI t)) []
theorem aOM (t:aV):aDr t:=by
 refine aX bG aR Tryz.func175 (by kernel_rfl) (.len t.tables.length<| .loop Nat (Q1 Nat) [3,4,8,9,10,11,12,13,14,15,16,17,18,19,20,21,22,23,24,25,26,27,28,29,30,31,32] [400] (fun k=>[(8,vI (k:Int))]) (fun k=>[]) (fun k=>k≤t.tables.length∧(t.tables.take k).all aU=true∧(List.range (k - 1)).all (gX t.tables)=true) (fun k=>t.tables.length - k) (fun k=> .br (.elem _ aP t.tables (fun e11=> .call (vB (aU e11)) []<| .br (.fin []) (.lit<| .lit<| .br (.elem _ aP t.tables (fun e24=> .lit<| .lit<| .lit<| .lit<| .lit<| .lit<| .lit<| .lit<| .br (.fin []) (.back []))) (.back [])))) (.len t.tables.length<| .fin []))) (p:=(t.tables.map aP).length≤9223372036854775807→Lm aP t.tables∧((∃(k:Nat),(0:Int)=(k:Int)∧k≤t.tables.length∧(t.tables.take k).all aU=true∧(List.range (k - 1)).all (gX t.tables)=true)∧ ∀(k:Nat),(k≤t.tables.length∧(t.tables.take k).all aU=true∧(List.range (k - 1)).all (gX t.tables)=true)→((decide ((k:Int)<((t.tables.length:Nat):Int)))=true→0≤(k:Int)∧Em aP t.tables k fun e11=>sM e11∧(((!(aU e11))=true→(false)=(gI t)∧True)∧((!(aU e11))=false→((decide ((0:Int)<(k:Int)))=true→cC ((k:Int) - (1:Int))∧(0≤((k:Int) - (1:Int))∧Em aP t.tables (((k:Int) - (1:Int)).toNat) fun e24=>((!(Op.bytesLess e24.name.toList e11.name.toList))=true→(false)=(gI t)∧True)∧((!(Op.bytesLess e24.name.toList e11.name.toList))=false→cC ((k:Int)+(1:Int))∧ ∃(k' :Nat),((k:Int)+(1:Int))=(k' :Int)∧(k' ≤t.tables.length∧(t.tables.take k').all aU=true∧(List.range (k' - 1)).all (gX t.tables)=true)∧t.tables.length - k' <t.tables.length - k)))∧((decide ((0:Int)<(k:Int)))=false→cC ((k:Int)+(1:Int))∧ ∃(k' :Nat),((k:Int)+(1:Int))=(k' :Int)∧(k' ≤t.tables.length∧(t.tables.take k').all aU=true∧(List.range (k' - 1)).all (gX t.tables)=true)∧t.tables.length - k' <t.tables.length - k))))∧((decide ((k:Int)<((t.tables.length:Nat):Int)))=false→Lm aP t.tables∧(decide (((t.tables.length:Nat):Int)≤(6:Int)))=(gI t)∧True))) (by kernel_rfl) ?_
 intro n0
 simp only [List.length_map] at n0
 refine ⟨List.length_map _,⟨0,rfl,Nat.zero_le _,rfl,rfl⟩,fun k ⟨hk,ha,hs⟩=>?_⟩
 refine ⟨fun c0=>?_,fun c0=>?_⟩
 ·replace c0:=yq c0
  refine ⟨by omega,rfl,by omega,fun e11 h11=>?_⟩
  refine ⟨zJ e11,fun g16=>?_,fun g16=>?_⟩
  ·replace g16:=nt g16
   refine ⟨?_,trivial⟩
   ·first | (rw [gI,bU h11 g16];rfl) | (rw [gI,hz];simp [*];done) | (rw [gI,hz];simp;done)
  ·replace g16:=nf g16
   refine ⟨fun g19=>?_,fun g19=>?_⟩
   ·replace g19:=yq g19
    refine ⟨⟨by omega,by omega⟩,by omega,rfl,by omega,fun e24 h24=>?_⟩
    have i1:t.tables[k - 1]? =some e24:=by rw [←h24];congr 1;omega
    refine ⟨fun c1=>?_,fun c1=>?_⟩
    ·replace c1:=nt c1
     have hp:gX t.tables (k - 1)=false:=by rw [gX,bD i1,show k - 1+1=k by omega,bD h11];simpa using c1
     have hz:(List.range (t.tables.length - 1)).all (gX t.tables)=false:=gB (by omega) hp
     refine ⟨?_,trivial⟩
     ·first | (rw [gI,bU h11 g16];rfl) | (rw [gI,hz];simp [*];done) | (rw [gI,hz];simp;done)
    ·replace c1:=nf c1
     have hp:gX t.tables (k - 1)=true:=by rw [gX,bD i1,show k - 1+1=k by omega,bD h11];simpa using c1
     have hs2:(List.range (k+1 - 1)).all (gX t.tables)=true:=by rw [show k+1 - 1=(k - 1)+1 by omega];exact kD hs hp
     refine ⟨⟨by omega,by omega⟩,?_⟩
     exact ⟨k+1,rfl,⟨by omega,cS h11 ha g16,hs2⟩,by omega⟩
   ·replace g19:=nq g19
    have hs2:(List.range (k+1 - 1)).all (gX t.tables)=true:=by rw [show k=0 by omega];rfl
    refine ⟨⟨by omega,by omega⟩,?_⟩
    exact ⟨k+1,rfl,⟨by omega,cS h11 ha g16,hs2⟩,by omega⟩
 ·replace c0:=nq c0
  have hall:=bE (by omega) ha
  have hz:(List.range (t.tables.length - 1)).all (gX t.tables)=true:=by rw [show t.tables.length - 1=k - 1 by omega,hs]
  refine ⟨List.length_map _,?_,trivial⟩
  ·first | (rw [gI,bU h11 g16];rfl) | (rw [gI,hz];simp [*];done) | (rw [gI,hz];simp;done)
abbrev aDs (t:aV):Prop:=cX Tryz.prog 192 [.agg [.sl 167 3 (t.tables.map aP)]] (vB (gI t)) []
theorem aON (t:aV):aDs t:=by
 refine aX bG aR Tryz.func192 (by kernel_rfl) (.loop Nat (Q1 Nat) [3,4,5,6,7,8,9,10,11,12,13,14,15,16,17,18,19,20,21,22,23,24,25,26,27,28,29,30,31,32,33,34,35,36,37] [] (fun k=>[(3,vI (k:Int))]) (fun k=>[]) (fun k=>k≤t.tables.length∧(t.tables.take k).all aU=true∧(List.range (k - 1)).all (gX t.tables)=true) (fun k=>t.tables.length - k) (fun k=> .len t.tables.length<| .br (.elem _ aP t.tables (fun e14=> .call (vB (aU e14)) []<| .br (.fin []) (.lit<| .lit<| .br (.elem _ aP t.tables (fun e26=> .elem _ aP t.tables (fun e32=> .lit<| .lit<| .lit<| .lit<| .lit<| .lit<| .br (.fin []) (.back [])))) (.back [])))) (.len t.tables.length<| .fin []))) (p:=(t.tables.map aP).length≤9223372036854775807→(∃(k:Nat),(0:Int)=(k:Int)∧k≤t.tables.length∧(t.tables.take k).all aU=true∧(List.range (k - 1)).all (gX t.tables)=true)∧ ∀(k:Nat),(k≤t.tables.length∧(t.tables.take k).all aU=true∧(List.range (k - 1)).all (gX t.tables)=true)→Lm aP t.tables∧(((decide ((k:Int)<((t.tables.length:Nat):Int)))=true→0≤(k:Int)∧Em aP t.tables k fun e14=>pC e14∧(((!(aU e14))=true→(false)=(gI t)∧True)∧((!(aU e14))=false→((decide ((0:Int)<(k:Int)))=true→cC ((k:Int) - (1:Int))∧(0≤((k:Int) - (1:Int))∧Em aP t.tables (((k:Int) - (1:Int)).toNat) fun e26=>0≤(k:Int)∧Em aP t.tables k fun e32=>((!(Op.bytesLess e26.name.toList e32.name.toList))=true→(false)=(gI t)∧True)∧((!(Op.bytesLess e26.name.toList e32.name.toList))=false→cC ((k:Int)+(1:Int))∧ ∃(k' :Nat),((k:Int)+(1:Int))=(k' :Int)∧(k' ≤t.tables.length∧(t.tables.take k').all aU=true∧(List.range (k' - 1)).all (gX t.tables)=true)∧t.tables.length - k' <t.tables.length - k)))∧((decide ((0:Int)<(k:Int)))=false→cC ((k:Int)+(1:Int))∧ ∃(k' :Nat),((k:Int)+(1:Int))=(k' :Int)∧(k' ≤t.tables.length∧(t.tables.take k').all aU=true∧(List.range (k' - 1)).all (gX t.tables)=true)∧t.tables.length - k' <t.tables.length - k))))∧((decide ((k:Int)<((t.tables.length:Nat):Int)))=false→Lm aP t.tables∧(decide (((t.tables.length:Nat):Int)≤(6:Int)))=(gI t)∧True))) (by kernel_rfl) ?_
 intro n0
 simp only [List.length_map] at n0
 refine ⟨⟨0,rfl,Nat.zero_le _,rfl,rfl⟩,fun k ⟨hk,ha,hs⟩=>?_⟩
 refine ⟨List.length_map _,fun c0=>?_,fun c0=>?_⟩
 ·replace c0:=yq c0
  refine ⟨by omega,rfl,by omega,fun e14 h14=>?_⟩
  refine ⟨zK e14,fun g18=>?_,fun g18=>?_⟩
  ·replace g18:=nt g18
   refine ⟨?_,trivial⟩
   ·first | (rw [gI,bU h14 g18];rfl) | (rw [gI,hz];simp [*];done) | (rw [gI,hz];simp;done)
  ·replace g18:=nf g18
   refine ⟨fun g21=>?_,fun g21=>?_⟩
   ·replace g21:=yq g21
    refine ⟨⟨by omega,by omega⟩,by omega,rfl,by omega,fun e26 h26=>?_⟩
    have i1:t.tables[k - 1]? =some e26:=by rw [←h26];congr 1;omega
    refine ⟨by omega,rfl,by omega,fun e32 h32=>?_⟩
    refine ⟨fun c1=>?_,fun c1=>?_⟩
    ·replace c1:=nt c1
     have hp:gX t.tables (k - 1)=false:=by rw [gX,bD i1,show k - 1+1=k by omega,bD h32];simpa using c1
     have hz:(List.range (t.tables.length - 1)).all (gX t.tables)=false:=gB (by omega) hp
     refine ⟨?_,trivial⟩
     ·first | (rw [gI,bU h14 g18];rfl) | (rw [gI,hz];simp [*];done) | (rw [gI,hz];simp;done)
    ·replace c1:=nf c1
     have hp:gX t.tables (k - 1)=true:=by rw [gX,bD i1,show k - 1+1=k by omega,bD h32];simpa using c1
     have hs2:(List.range (k+1 - 1)).all (gX t.tables)=true:=by rw [show k+1 - 1=(k - 1)+1 by omega];exact kD hs hp
     refine ⟨⟨by omega,by omega⟩,?_⟩
     exact ⟨k+1,rfl,⟨by omega,cS h14 ha g18,hs2⟩,by omega⟩
   ·replace g21:=nq g21
    have hs2:(List.range (k+1 - 1)).all (gX t.tables)=true:=by rw [show k=0 by omega];rfl
    refine ⟨⟨by omega,by omega⟩,?_⟩
    exact ⟨k+1,rfl,⟨by omega,cS h14 ha g18,hs2⟩,by omega⟩
 ·replace c0:=nq c0
  have hall:=bE (by omega) ha
  have hz:(List.range (t.tables.length - 1)).all (gX t.tables)=true:=by rw [show t.tables.length - 1=k - 1 by omega,hs]
  refine ⟨List.length_map _,?_,trivial⟩
  ·first | (rw [gI,bU h14 g18];rfl) | (rw [gI,hz];simp [*];done) | (rw [gI,hz];simp;done)
end Go.Proofs.YtdfebigfnjfgpaaGreat
