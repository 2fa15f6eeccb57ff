/-
  Contracts and plain laws, joined: part 9.
-/
import Derived.Test.YtokkjaflmcjlhaaGreatQD7
import Derived.Test.YtokkjaflmcjlhaaGreatQD5
import Derived.Test.YtokkjaflmcjlhaaGreatQD3
import Derived.Test.YtokkjaflmcjlhaaGreatQD4
namespace Go.Proofs.YtokkjaflmcjlhaaGreat
open Go.ChangeShapes Go.WideShapes Go.ChangeAt Go.RowKit
set_option linter.unusedVariables false
set_option linter.unusedSimpArgs false
set_option maxRecDepth 100000
set_option maxHeartbeats 4000000
def xC (t:aR) (cols:List Int):aH:=⟨cols,(hZ t cols).1,(hZ t cols).2⟩
def bB (t:aR):aC:=if aQ t=true then ⟨t.name,t.arity,(t.rows.length:Nat),(bN t.arity).map (xC t)⟩ else dP
theorem bQ {t:aR} (h:aQ t=true):bB t=⟨t.name,t.arity,(t.rows.length:Nat),(bN t.arity).map (xC t)⟩:=by rw [bB,if_pos h]
theorem eR {t:aR} (h:aQ t=false):bB t=dP:=by rw [bB,if_neg (by rw [h];decide)]
theorem aM4 {α:Type} {l:List α} {k:Nat} (h:k<l.length):l.drop k≠[]:=fun e=>by
 have:=congrArg List.length e
 simp at this
 omega
theorem aM5 {α:Type} {l l2:List α} {k:Nat} {x:α} (h:l.drop k=x::l2):l2=l.drop (k+1):=by rw [←List.tail_drop,h];rfl
theorem aM6 {α:Type} {l l2:List α} {k:Nat} {x:α} (h:l.drop k=x::l2):l[k]? =some x:=by
 have:=congrArg List.head? h
 simpa [List.head?_drop] using this
theorem aBA {n:Int} {k:Nat} {x:List Int} (h:(bN n)[k]? =some x):x.length≤3:=by
 obtain ⟨i,_,rfl⟩:=List.mem_map.1 (List.mem_of_getElem? h)
 exact aDD _ 3
theorem yV {n:Int} (h:1≤n∧n≤3):(bN n).length≤7:=by
 have:=aDE h
 simp only [bN,rQ,List.length_map,List.length_range]
 omega
abbrev aAP (t:aR):AV × List (Nat × Rs):=(.agg [.p none (.str ((bB t).name)),vI ((bB t).arity),vI ((bB t).rowCount),.own 0],[(0,.arr 218 3 true (((bB t).groups).map aB))])
abbrev aDF (t:aR):Prop:=cU Tryz.prog 155 [.agg [.str t.name,.int .i64 t.arity,.sl 32 1 (t.rows.map aF)]] (aAP t).1 (aAP t).2
theorem aIy (t:aR):aDF t:=by
 refine aV bF aS Tryz.func155 (by kernel_rfl) (.call (vB (aQ t)) []<| .br (.fin []) (.len t.rows.length<| bP (yT t.arity)<| .len ((bN t.arity).length)<| .loop (Nat × (List (List Int)) × (List aH)) (Q3 Nat (List (List Int)) (List aH)) [5,6,7,24,25,26,27,28,29,30,31,32,33,34,35,36,37,38,39,40,41,42,43] [300,2200,3100,3101,4000,4100,9000,50607] (fun yy0=>[(24,vI (yy0.1:Int))]) (fun yy0=>[(300,some (.box 121 [.p none (.str t.name),vI t.arity,vI ((t.rows.length:Nat):Int),.own 9000])),(9000,some (.arr 218 3 true (yy0.2.2.map aB))),(2200,some (.arr 32 1 true (List.replicate yy0.1 [bI.gone]++yy0.2.1.map aF)))]) (fun yy0=>yy0.1≤(bN t.arity).length∧yy0.2.1=(bN t.arity).drop yy0.1∧yy0.2.2=((bN t.arity).take yy0.1).map (xC t)) (fun yy0=>(bN t.arity).length - yy0.1) (fun yy0=> .br (.takeg 6 2200 yy0.1 50607 (List Int) aF yy0.2.1 (fun x6 l6=> .len (yy0.1+(l6.length+1))<| .leave 7 2200 yy0.1 50607 (List Int) aF x6 l6 (bP (aAx t x6)<| .appx aH aB yy0.2.2 (⟨x6,(hZ t x6).1,(hZ t x6).2⟩:aH)<| .back [(300,300),(2200,2200),(9000,4100)]))) (.fin [(0,9000)])))) (p:=(t.rows.map aF).length≤9223372036854775807→rM t∧(((!(aQ t))=true→ByteArray.empty=((bB t).name)∧(0:Int)=((bB t).arity)∧(0:Int)=((bB t).rowCount)∧[]=((bB t).groups).map aB∧True)∧((!(aQ t))=false→Lm aF t.rows∧(aDb t.arity∧(Lm aF (bN t.arity)∧((∃(k:Nat) (l2:List (List Int)) (out:List aH),(0:Int)=(k:Int)∧t.name=t.name∧t.arity=t.arity∧((t.rows.length:Nat):Int)=((t.rows.length:Nat):Int)∧[]=out.map aB∧(bN t.arity).map aF=List.replicate k [bI.gone]++l2.map aF∧k≤(bN t.arity).length∧l2=(bN t.arity).drop k∧out=((bN t.arity).take k).map (xC t))∧ ∀(k:Nat) (l2:List (List Int)) (out:List aH),(k≤(bN t.arity).length∧l2=(bN t.arity).drop k∧out=((bN t.arity).take k).map (xC t))→((decide ((k:Int)<(((bN t.arity).length:Nat):Int)))=true→List.replicate k [bI.gone]++l2.map aF=List.replicate k [bI.gone]++l2.map aF∧l2≠[]∧ ∀x6 l6,l2=x6::l6→0≤(k:Int)∧(List.replicate k [bI.gone]++(x6::l6).map aF).length=k+(l6.length+1)∧(k:Int)<((k+(l6.length+1):Nat):Int)∧k=k∧List.replicate k [bI.gone]++(x6::l6).map aF=List.replicate k [bI.gone]++(x6::l6).map aF∧k=k∧aF8 t x6∧out.map aB=out.map aB∧x6.map intD=((⟨x6,(hZ t x6).1,(hZ t x6).2⟩:aH).columns).map intD∧((hZ t x6).1).map aF=((⟨x6,(hZ t x6).1,(hZ t x6).2⟩:aH).values).map aF∧((hZ t x6).2).map intD=((⟨x6,(hZ t x6).1,(hZ t x6).2⟩:aH).counts).map intD∧(out.length+1)*72≤140737488355328∧cG ((k:Int)+(1:Int))∧ ∃(k' :Nat) (l2' :List (List Int)) (out' :List aH),((k:Int)+(1:Int))=(k' :Int)∧t.name=t.name∧t.arity=t.arity∧((t.rows.length:Nat):Int)=((t.rows.length:Nat):Int)∧(out++[(⟨x6,(hZ t x6).1,(hZ t x6).2⟩:aH)]).map aB=out'.map aB∧List.replicate (k+1) [bI.gone]++l6.map aF=List.replicate k' [bI.gone]++l2'.map aF∧(k' ≤(bN t.arity).length∧l2' =(bN t.arity).drop k' ∧out' =((bN t.arity).take k').map (xC t))∧(bN t.arity).length - k' <(bN t.arity).length - k)∧((decide ((k:Int)<(((bN t.arity).length:Nat):Int)))=false→t.name=((bB t).name)∧t.arity=((bB t).arity)∧((t.rows.length:Nat):Int)=((bB t).rowCount)∧out.map aB=((bB t).groups).map aB∧True))))))) (by kernel_rfl) ?_
 intro n0
 simp only [List.length_map] at n0
 refine ⟨yJ t,fun c0=>?_,fun c0=>?_⟩
 ·replace c0:=nt c0
  have hbad:aQ t=false:=by simpa using c0
  refine ⟨?_,?_,?_,?_,trivial⟩
  ·first | (rw [eR hbad]<;>rfl) | (rw [bQ hok]<;>rfl) | (rw [bQ hok,ho,List.take_of_length_le (by omega)])
  ·first | (rw [eR hbad]<;>rfl) | (rw [bQ hok]<;>rfl) | (rw [bQ hok,ho,List.take_of_length_le (by omega)])
  ·first | (rw [eR hbad]<;>rfl) | (rw [bQ hok]<;>rfl) | (rw [bQ hok,ho,List.take_of_length_le (by omega)])
  ·first | (rw [eR hbad]<;>rfl) | (rw [bQ hok]<;>rfl) | (rw [bQ hok,ho,List.take_of_length_le (by omega)])
 ·replace c0:=nf c0
  have hok:aQ t=true:=by simpa using c0
  have hT:=cD hok
  have hn:=yV (n:=t.arity) ⟨hT.1,hT.2.1⟩
  refine ⟨List.length_map _,aNc t.arity (by omega),List.length_map _,⟨0,bN t.arity,([]:List aH),rfl,rfl,rfl,rfl,rfl,rfl,Nat.zero_le _,rfl,rfl⟩,fun k l2 out ⟨hk,hl,ho⟩=>?_⟩
  have hlen:l2.length=(bN t.arity).length - k:=by rw [hl,List.length_drop]
  refine ⟨fun c1=>?_,fun c1=>?_⟩
  ·replace c1:=yq c1
   refine ⟨rfl,(by rw [hl];exact aM4 (by omega)),fun x6 l6 t6=>?_⟩
   have hdx:=hl.symm.trans t6
   have hx:=aM6 hdx
   have hx3:=aBA hx
   refine ⟨by omega,by simp,by omega,rfl,rfl,rfl,aPn t x6 (by omega),rfl,rfl,rfl,rfl,by first | omega | (simp [ho];omega),⟨by omega,by omega⟩,?_⟩
   exact ⟨k+1,_,_,rfl,rfl,rfl,rfl,rfl,rfl,⟨by omega,aM5 hdx,by rw [ho,cN hx,List.map_append];rfl⟩,by omega⟩
  ·replace c1:=nq c1
   refine ⟨?_,?_,?_,?_,trivial⟩
   ·first | (rw [eR hbad]<;>rfl) | (rw [bQ hok]<;>rfl) | (rw [bQ hok,ho,List.take_of_length_le (by omega)])
   ·first | (rw [eR hbad]<;>rfl) | (rw [bQ hok]<;>rfl) | (rw [bQ hok,ho,List.take_of_length_le (by omega)])
   ·first | (rw [eR hbad]<;>rfl) | (rw [bQ hok]<;>rfl) | (rw [bQ hok,ho,List.take_of_length_le (by omega)])
   ·first | (rw [eR hbad]<;>rfl) | (rw [bQ hok]<;>rfl) | (rw [bQ hok,ho,List.take_of_length_le (by omega)])
abbrev aAQ (t:aR):AV × List (Nat × Rs):=(.agg [.p none (.str ((bB t).name)),vI ((bB t).arity),vI ((bB t).rowCount),.own 0],[(0,.arr 218 3 true (((bB t).groups).map aB))])
abbrev aDG (t:aR):Prop:=cU Tryz.prog 139 [.agg [.str t.name,.int .i64 t.arity,.sl 32 1 (t.rows.map aF)]] (aAQ t).1 (aAQ t).2
theorem aM7 (t:aR):aDG t:=by
 refine aV bF aS Tryz.func139 (by kernel_rfl) (.call (vB (aQ t)) []<| .br (.fin []) (.len t.rows.length<| bP (yU t.arity)<| .loop (Nat × (List (List Int)) × (List aH)) (Q3 Nat (List (List Int)) (List aH)) [5,6,7,23,24,25,26,27,28,29,30,31,32,33,34,35,36,37,38,39,40,41,42,43,44,45,46,47,48,49] [300,2200,3500,3501,4700,4800,9000,50807] (fun yy0=>[(5,vI (yy0.1:Int))]) (fun yy0=>[(300,some (.box 121 [.p none (.str t.name),vI t.arity,vI ((t.rows.length:Nat):Int),.own 9000])),(9000,some (.arr 218 3 true (yy0.2.2.map aB))),(2200,some (.arr 32 1 true (List.replicate yy0.1 [bI.gone]++yy0.2.1.map aF)))]) (fun yy0=>yy0.1≤(bN t.arity).length∧yy0.2.1=(bN t.arity).drop yy0.1∧yy0.2.2=((bN t.arity).take yy0.1).map (xC t)) (fun yy0=>(bN t.arity).length - yy0.1) (fun yy0=> .len (yy0.1+yy0.2.1.length)<| .br (.takeg 8 2200 yy0.1 50807 (List Int) aF yy0.2.1 (fun x8 l8=> .len (yy0.1+(l8.length+1))<| bP (aAz t x8)<| .len (yy0.1+(l8.length+1))<| .appx aH aB yy0.2.2 (⟨x8,(hZ t x8).1,(hZ t x8).2⟩:aH)<| .leave 7 2200 yy0.1 50807 (List Int) aF x8 l8 (.back [(300,300),(2200,2200),(9000,4800)]))) (.fin [(0,9000)])))) (p:=(t.rows.map aF).length≤9223372036854775807→oB t∧(((!(aQ t))=true→ByteArray.empty=((bB t).name)∧(0:Int)=((bB t).arity)∧(0:Int)=((bB t).rowCount)∧[]=((bB t).groups).map aB∧True)∧((!(aQ t))=false→Lm aF t.rows∧(aDc t.arity∧((∃(k:Nat) (l2:List (List Int)) (out:List aH),(0:Int)=(k:Int)∧t.name=t.name∧t.arity=t.arity∧((t.rows.length:Nat):Int)=((t.rows.length:Nat):Int)∧[]=out.map aB∧(bN t.arity).map aF=List.replicate k [bI.gone]++l2.map aF∧k≤(bN t.arity).length∧l2=(bN t.arity).drop k∧out=((bN t.arity).take k).map (xC t))∧ ∀(k:Nat) (l2:List (List Int)) (out:List aH),(k≤(bN t.arity).length∧l2=(bN t.arity).drop k∧out=((bN t.arity).take k).map (xC t))→(List.replicate k [bI.gone]++l2.map aF).length=k+l2.length∧(((decide ((k:Int)<((k+l2.length:Nat):Int)))=true→List.replicate k [bI.gone]++l2.map aF=List.replicate k [bI.gone]++l2.map aF∧l2≠[]∧ ∀x8 l8,l2=x8::l8→0≤(k:Int)∧(List.replicate k [bI.gone]++(x8::l8).map aF).length=k+(l8.length+1)∧(k:Int)<((k+(l8.length+1):Nat):Int)∧k=k∧aFc t x8∧0≤(k:Int)∧(List.replicate k [bI.gone]++(x8::l8).map aF).length=k+(l8.length+1)∧(k:Int)<((k+(l8.length+1):Nat):Int)∧k=k∧out.map aB=out.map aB∧x8.map intD=((⟨x8,(hZ t x8).1,(hZ t x8).2⟩:aH).columns).map intD∧((hZ t x8).1).map aF=((⟨x8,(hZ t x8).1,(hZ t x8).2⟩:aH).values).map aF∧((hZ t x8).2).map intD=((⟨x8,(hZ t x8).1,(hZ t x8).2⟩:aH).counts).map intD∧(out.length+1)*72≤140737488355328∧List.replicate k [bI.gone]++(x8::l8).map aF=List.replicate k [bI.gone]++(x8::l8).map aF∧k=k∧cG ((k:Int)+(1:Int))∧ ∃(k' :Nat) (l2' :List (List Int)) (out' :List aH),((k:Int)+(1:Int))=(k' :Int)∧t.name=t.name∧t.arity=t.arity∧((t.rows.length:Nat):Int)=((t.rows.length:Nat):Int)∧(out++[(⟨x8,(hZ t x8).1,(hZ t x8).2⟩:aH)]).map aB=out'.map aB∧List.replicate (k+1) [bI.gone]++l8.map aF=List.replicate k' [bI.gone]++l2'.map aF∧(k' ≤(bN t.arity).length∧l2' =(bN t.arity).drop k' ∧out' =((bN t.arity).take k').map (xC t))∧(bN t.arity).length - k' <(bN t.arity).length - k)∧((decide ((k:Int)<((k+l2.length:Nat):Int)))=false→t.name=((bB t).name)∧t.arity=((bB t).arity)∧((t.rows.length:Nat):Int)=((bB t).rowCount)∧out.map aB=((bB t).groups).map aB∧True))))))) (by kernel_rfl) ?_
 intro n0
 simp only [List.length_map] at n0
 refine ⟨yK t,fun c0=>?_,fun c0=>?_⟩
 ·replace c0:=nt c0
  have hbad:aQ t=false:=by simpa using c0
  refine ⟨?_,?_,?_,?_,trivial⟩
  ·first | (rw [eR hbad]<;>rfl) | (rw [bQ hok]<;>rfl) | (rw [bQ hok,ho,List.take_of_length_le (by omega)])
  ·first | (rw [eR hbad]<;>rfl) | (rw [bQ hok]<;>rfl) | (rw [bQ hok,ho,List.take_of_length_le (by omega)])
  ·first | (rw [eR hbad]<;>rfl) | (rw [bQ hok]<;>rfl) | (rw [bQ hok,ho,List.take_of_length_le (by omega)])
  ·first | (rw [eR hbad]<;>rfl) | (rw [bQ hok]<;>rfl) | (rw [bQ hok,ho,List.take_of_length_le (by omega)])
 ·replace c0:=nf c0
  have hok:aQ t=true:=by simpa using c0
  have hT:=cD hok
  have hn:=yV (n:=t.arity) ⟨hT.1,hT.2.1⟩
  refine ⟨List.length_map _,aNd t.arity (by omega),⟨0,bN t.arity,([]:List aH),rfl,rfl,rfl,rfl,rfl,rfl,Nat.zero_le _,rfl,rfl⟩,fun k l2 out ⟨hk,hl,ho⟩=>?_⟩
  have hlen:l2.length=(bN t.arity).length - k:=by rw [hl,List.length_drop]
  refine ⟨by simp,fun c1=>?_,fun c1=>?_⟩
  ·replace c1:=yq c1
   refine ⟨rfl,(by rw [hl];exact aM4 (by omega)),fun x8 l8 t8=>?_⟩
   have hdx:=hl.symm.trans t8
   have hx:=aM6 hdx
   have hx3:=aBA hx
   refine ⟨by omega,by simp,by omega,rfl,aPr t x8 (by omega),by omega,by simp,by omega,rfl,rfl,rfl,rfl,rfl,by first | omega | (simp [ho];omega),rfl,rfl,⟨by omega,by omega⟩,?_⟩
   exact ⟨k+1,_,_,rfl,rfl,rfl,rfl,rfl,rfl,⟨by omega,aM5 hdx,by rw [ho,cN hx,List.map_append];rfl⟩,by omega⟩
  ·replace c1:=nq c1
   refine ⟨?_,?_,?_,?_,trivial⟩
   ·first | (rw [eR hbad]<;>rfl) | (rw [bQ hok]<;>rfl) | (rw [bQ hok,ho,List.take_of_length_le (by omega)])
   ·first | (rw [eR hbad]<;>rfl) | (rw [bQ hok]<;>rfl) | (rw [bQ hok,ho,List.take_of_length_le (by omega)])
   ·first | (rw [eR hbad]<;>rfl) | (rw [bQ hok]<;>rfl) | (rw [bQ hok,ho,List.take_of_length_le (by omega)])
   ·first | (rw [eR hbad]<;>rfl) | (rw [bQ hok]<;>rfl) | (rw [bQ hok,ho,List.take_of_length_le (by omega)])
abbrev aBB (x:aC):AV × List (Nat × Rs):=(.agg [.p none (.str x.name),vI x.arity,vI x.rowCount,.own 0],[(0,.arr 218 3 true (x.groups.map aB))])
abbrev aFe (x:aC):Prop:=cU Tryz.prog 197 [.agg [.str x.name,.int .i64 x.arity,.int .i64 x.rowCount,.sl 218 3 (x.groups.map aB)]] (aBB x).1 (aBB x).2
theorem aPs (x:aC) (hc:bA x≤1048576):aFe x:=by
 refine aV bF aS Tryz.func197 (by kernel_rfl) (.len x.groups.length<| .loop (Nat × (List aH)) (Q2 Nat (List aH)) [3,5,6,10,11,12,13,14,15,16,17,18,19,20,21,22,23,24,25,26,27] [500,600,1700,2000,2300,2500,2600] (fun yy0=>[(3,.own 600),(10,vI (yy0.1:Int))]) (fun yy0=>[(600,some (.arr 218 3 true (yy0.2.map aB)))]) (fun yy0=>yy0.1≤x.groups.length∧yy0.2=x.groups.take yy0.1) (fun yy0=>x.groups.length - yy0.1) (fun yy0=> .br (.elem _ aB x.groups (fun e12=>bP (aHs e12.columns)<| bP (aHt e12.values)<| bP (aHs e12.counts)<| .appx aH aB yy0.2 e12<| .back [(600,2600)])) (.fin [(0,600)]))) (p:=(x.groups.map aB).length≤9223372036854775807→Lm aB x.groups∧((∃(k:Nat) (out:List aH),(0:Int)=(k:Int)∧[]=out.map aB∧k≤x.groups.length∧out=x.groups.take k)∧ ∀(k:Nat) (out:List aH),(k≤x.groups.length∧out=x.groups.take k)→((decide ((k:Int)<((x.groups.length:Nat):Int)))=true→0≤(k:Int)∧Em aB x.groups k fun e12=>aKD e12.columns∧aKE e12.values∧aKD e12.counts∧out.map aB=out.map aB∧e12.columns.map intD=e12.columns.map intD∧e12.values.map aF=e12.values.map aF∧e12.counts.map intD=e12.counts.map intD∧(out.length+1)*72≤140737488355328∧cG ((k:Int)+(1:Int))∧ ∃(k' :Nat) (out' :List aH),((k:Int)+(1:Int))=(k' :Int)∧(out++[e12]).map aB=out'.map aB∧(k' ≤x.groups.length∧out' =x.groups.take k')∧x.groups.length - k' <x.groups.length - k)∧((decide ((k:Int)<((x.groups.length:Nat):Int)))=false→x.name=x.name∧x.arity=x.arity∧x.rowCount=x.rowCount∧out.map aB=x.groups.map aB∧True))) (by kernel_rfl) ?_
 intro n0
 simp only [List.length_map] at n0
 have q2:bA x=x.name.size+cR x.groups:=rfl
 have q5:=iF x.groups
 refine ⟨List.length_map _,⟨0,([]:List aH),rfl,rfl,Nat.zero_le _,rfl⟩,fun k out ⟨hk,ho⟩=>?_⟩
 refine ⟨fun c0=>?_,fun c0=>?_⟩
 ·replace c0:=yq c0
  refine ⟨by omega,rfl,by omega,fun e12 h12=>?_⟩
  have q1:=iR h12
  have q3:bH e12=bZ e12.columns+cI e12.values+bZ e12.counts:=rfl
  have q6:bZ e12.columns=e12.columns.length:=rfl
  have q7:bZ e12.counts=e12.counts.length:=rfl
  have q8:=gA e12.values
  refine ⟨cpI _ (by omega),cpR _ (by omega),cpI _ (by omega),rfl,rfl,rfl,rfl,by simp [ho];omega,⟨by omega,by omega⟩,?_⟩
  exact ⟨k+1,out++[e12],rfl,rfl,⟨by omega,by rw [ho,cN h12]⟩,by omega⟩
 ·replace c0:=nq c0
  refine ⟨rfl,rfl,rfl,?_,trivial⟩
  ·rw [ho,List.take_of_length_le (by omega)]
def qC (x:aC):List (List Int):=(x.groups.getD (x.groups.length - 1) eH).values
def eB (x:aC):aR:=⟨x.name,x.arity,qC x⟩
def dK (x:aC):Bool:=aQ (eB x)&&decide (bB (eB x)=x)
theorem aKS {x:aC} {g:aH} (h:x.groups[x.groups.length - 1]? =some g):qC x=g.values:=by rw [qC,aZ h]
theorem aNe {x:aC} (h:x.groups.length=0):qC x= []:=by
 rw [qC,List.length_eq_zero_iff.1 h];rfl
abbrev uY (x:aC):AV × List (Nat × Rs):=(.tup [.agg [.p none (.str ((eB x).name)),vI ((eB x).arity),.own 0],vB (dK x)],[(0,.arr 32 1 true (((eB x).rows).map aF))])
abbrev aCC (x:aC):Prop:=cU Tryz.prog 181 [.agg [.str x.name,.int .i64 x.arity,.int .i64 x.rowCount,.sl 218 3 (x.groups.map aB)]] (uY x).1 (uY x).2
theorem aL6 (x:aC) (hc:bA x≤1048576):aCC x:=by
 refine aV bF aS Tryz.func181 (by kernel_rfl) (.len x.groups.length<| .br (.elem _ aB x.groups (fun e20=>bP (aHt e20.values)<| .call (vB (aQ (⟨x.name,x.arity,e20.values⟩:aR))) []<| .br (bP (aAP (⟨x.name,x.arity,e20.values⟩:aR))<| .call (vB (decide ((bB (⟨x.name,x.arity,e20.values⟩:aR))=x))) []<| .fin [(0,2300)]) (.fin [(0,2300)]))) (.call (vB (aQ (⟨x.name,x.arity,([]:List (List Int))⟩:aR))) []<| .br (.call (.agg [.p none (.str ((bB (⟨x.name,x.arity,([]:List (List Int))⟩:aR)).name)),vI ((bB (⟨x.name,x.arity,([]:List (List Int))⟩:aR)).arity),vI ((bB (⟨x.name,x.arity,([]:List (List Int))⟩:aR)).rowCount),.own 0]) [(0,.arr 218 3 true (((bB (⟨x.name,x.arity,([]:List (List Int))⟩:aR)).groups).map aB))]<| .call (vB (decide ((bB (⟨x.name,x.arity,([]:List (List Int))⟩:aR))=x))) []<| .fin []) (.fin []))) (p:=(x.groups.map aB).length≤9223372036854775807→Lm aB x.groups∧(((decide ((0:Int)<((x.groups.length:Nat):Int)))=true→cG (((x.groups.length:Nat):Int) - (1:Int))∧(0≤(((x.groups.length:Nat):Int) - (1:Int))∧Em aB x.groups ((((x.groups.length:Nat):Int) - (1:Int)).toNat) fun e20=>aKE e20.values∧(rM (⟨x.name,x.arity,e20.values⟩:aR)∧(((aQ (⟨x.name,x.arity,e20.values⟩:aR))=true→aDF (⟨x.name,x.arity,e20.values⟩:aR)∧nA (bB (⟨x.name,x.arity,e20.values⟩:aR)) x∧x.name=((eB x).name)∧x.arity=((eB x).arity)∧(decide ((bB (⟨x.name,x.arity,e20.values⟩:aR))=x))=(dK x)∧e20.values.map aF=((eB x).rows).map aF∧True)∧((aQ (⟨x.name,x.arity,e20.values⟩:aR))=false→x.name=((eB x).name)∧x.arity=((eB x).arity)∧(false)=(dK x)∧e20.values.map aF=((eB x).rows).map aF∧True)))))∧((decide ((0:Int)<((x.groups.length:Nat):Int)))=false→cU Tryz.prog 225 [.agg [.str x.name,.int .i64 x.arity,.sl 0 1 ([])]] (vB (aQ (⟨x.name,x.arity,([]:List (List Int))⟩:aR))) []∧(((aQ (⟨x.name,x.arity,([]:List (List Int))⟩:aR))=true→cU Tryz.prog 155 [.agg [.str x.name,.int .i64 x.arity,.sl 0 1 ([])]] (.agg [.p none (.str ((bB (⟨x.name,x.arity,([]:List (List Int))⟩:aR)).name)),vI ((bB (⟨x.name,x.arity,([]:List (List Int))⟩:aR)).arity),vI ((bB (⟨x.name,x.arity,([]:List (List Int))⟩:aR)).rowCount),.own 0]) [(0,.arr 218 3 true (((bB (⟨x.name,x.arity,([]:List (List Int))⟩:aR)).groups).map aB))]∧nA (bB (⟨x.name,x.arity,([]:List (List Int))⟩:aR)) x∧x.name=((eB x).name)∧x.arity=((eB x).arity)∧(decide ((bB (⟨x.name,x.arity,([]:List (List Int))⟩:aR))=x))=(dK x)∧[]=((eB x).rows).map aF∧True)∧((aQ (⟨x.name,x.arity,([]:List (List Int))⟩:aR))=false→x.name=((eB x).name)∧x.arity=((eB x).arity)∧(false)=(dK x)∧[]=((eB x).rows).map aF∧True))))) (by kernel_rfl) ?_
 intro n0
 simp only [List.length_map] at n0
 have q2:bA x=x.name.size+cR x.groups:=rfl
 have q5:=iF x.groups
 refine ⟨List.length_map _,fun c0=>?_,fun c0=>?_⟩
 ·replace c0:=yq c0
  refine ⟨⟨by omega,by omega⟩,by omega,rfl,by omega,fun e20 h20=>?_⟩
  have i20:x.groups[x.groups.length - 1]? =some e20:=by rw [←h20];congr 1;omega
  have hT:qC x=e20.values:=aKS i20
  have q1:=iR i20
  have q3:bH e20=bZ e20.columns+cI e20.values+bZ e20.counts:=rfl
  have q6:bZ e20.columns=e20.columns.length:=rfl
  have q7:bZ e20.counts=e20.counts.length:=rfl
  have q8:=gA e20.values
  refine ⟨cpR _ (by omega),yJ (⟨x.name,x.arity,e20.values⟩:aR),fun g28=>?_,fun g28=>?_⟩
  ·refine ⟨aIy (⟨x.name,x.arity,e20.values⟩:aR),uV _ _,?_,?_,?_,?_,trivial⟩
   ·first | (rw [eB,hT]<;>rfl) | rfl | (simp [dK,eB,hT, *];done)
   ·first | (rw [eB,hT]<;>rfl) | rfl | (simp [dK,eB,hT, *];done)
   ·first | (rw [eB,hT]<;>rfl) | rfl | (simp [dK,eB,hT, *];done)
   ·first | (rw [eB,hT]<;>rfl) | rfl | (simp [dK,eB,hT, *];done)
  ·refine ⟨?_,?_,?_,?_,trivial⟩
   ·first | (rw [eB,hT]<;>rfl) | rfl | (simp [dK,eB,hT, *];done)
   ·first | (rw [eB,hT]<;>rfl) | rfl | (simp [dK,eB,hT, *];done)
   ·first | (rw [eB,hT]<;>rfl) | rfl | (simp [dK,eB,hT, *];done)
   ·first | (rw [eB,hT]<;>rfl) | rfl | (simp [dK,eB,hT, *];done)
 ·replace c0:=nq c0
  have hT:qC x= []:=aNe (by omega)
  refine ⟨cU.imp (fun A w vs h=>by simpa only [oY,aLG,iQ,aJc,List.map_nil] using h) (yJ (⟨x.name,x.arity,([]:List (List Int))⟩:aR)),?_⟩
  refine ⟨fun g28=>?_,fun g28=>?_⟩
  ·refine ⟨cU.imp (fun A w vs h=>by simpa only [oY,aLG,iQ,aJc,List.map_nil] using h) (aIy (⟨x.name,x.arity,([]:List (List Int))⟩:aR)),?_⟩
   refine ⟨uV _ _,?_,?_,?_,?_,trivial⟩
   ·first | (rw [eB,hT]<;>rfl) | rfl | (simp [dK,eB,hT, *];done)
   ·first | (rw [eB,hT]<;>rfl) | rfl | (simp [dK,eB,hT, *];done)
   ·first | (rw [eB,hT]<;>rfl) | rfl | (simp [dK,eB,hT, *];done)
   ·first | (rw [eB,hT]<;>rfl) | rfl | (simp [dK,eB,hT, *];done)
  ·refine ⟨?_,?_,?_,?_,trivial⟩
   ·first | (rw [eB,hT]<;>rfl) | rfl | (simp [dK,eB,hT, *];done)
   ·first | (rw [eB,hT]<;>rfl) | rfl | (simp [dK,eB,hT, *];done)
   ·first | (rw [eB,hT]<;>rfl) | rfl | (simp [dK,eB,hT, *];done)
   ·first | (rw [eB,hT]<;>rfl) | rfl | (simp [dK,eB,hT, *];done)
abbrev aFf (x:aC):Prop:=cU Tryz.prog 196 [.agg [.str x.name,.int .i64 x.arity,.int .i64 x.rowCount,.sl 218 3 (x.groups.map aB)]] (vB (dK x)) []
theorem aPt (x:aC) (hc:bA x≤1048576):aFf x:=by
 refine aV bF aS Tryz.func196 (by kernel_rfl) (bP (uY x)<| .fin []) (p:=(x.groups.map aB).length≤9223372036854775807→aCC x∧(dK x)=(dK x)∧True) (by kernel_rfl) ?_
 intro n0
 simp only [List.length_map] at n0
 refine ⟨aL6 x (by omega),?_⟩
 exact ⟨rfl,trivial⟩
theorem lH (a:List Int) (l:List (List Int)):cI (a::l)=cI l+1+a.length:=by
 simp only [cI,xB,bZ,List.map_cons,List.sum_cons,List.length_cons]
 omega
theorem aKT (l:List (List Int)): ∀k,cI (l.take k)≤cI l:=by
 induction l with
 | nil=>intro k;simp
 | cons a l ih=>
   intro k
   cases k with
   | zero=>rw [List.take_zero];exact Nat.zero_le _
   | succ k=>rw [List.take_succ_cons,lH,lH];have:=ih k;omega
theorem aKU {row:List Int}: ∀{xs:List (List Int)},cI (kS row xs)≤cI xs+1+row.length
 | []=>by rw [aBw,lH];exact Nat.le_refl _
 | x::xs=>by
   by_cases h:0<bW x row
   ·rw [aBx h,lH];omega
   ·by_cases h' :bW x row=0
    ·rw [aBy h'];omega
    ·rw [aBz h h',lH,lH]
     have:=aKU (row:=row) (xs:=xs)
     omega
theorem aM8 {row:List Int}: ∀{xs:List (List Int)},xs.length≤(kS row xs).length
 | []=>by simp
 | x::xs=>by
   by_cases h:0<bW x row
   ·rw [aBx h];simp
   ·by_cases h' :bW x row=0
    ·rw [aBy h'];simp
    ·rw [aBz h h']
     have:=aM8 (row:=row) (xs:=xs)
     simp only [List.length_cons];omega
theorem aKV (l:List (List Int)): ∀acc,cI (l.foldl (fun acc x=>kS x acc) acc)≤cI acc+cI l∧acc.length≤(l.foldl (fun acc x=>kS x acc) acc).length:=by
 induction l with
 | nil=>intro acc;simp
 | cons x l ih=>
   intro acc
   obtain ⟨h1,h2⟩:=ih (kS x acc)
   have h3:=aKU (row:=x) (xs:=acc)
   have h4:=aM8 (row:=x) (xs:=acc)
   rw [List.foldl_cons,lH]
   exact ⟨by omega,by omega⟩
theorem aKW (l:List (List Int)) (k:Nat):cI (cL (l.take k))≤cI l:=by
 have h1:=(aKV (l.take k) []).1
 have h2:=aKT l k
 have h3:cI ([]:List (List Int))=0:=rfl
 unfold cL
 omega
theorem aIz (l:List (List Int)) (k:Nat):(cL (l.take k)).length≤(cL l).length:=by
 have h:=(aKV (l.drop k) (cL (l.take k))).2
 have e:cL l=(l.drop k).foldl (fun acc x=>kS x acc) (cL (l.take k)):=by
  unfold cL
  rw [←List.foldl_append,List.take_append_drop]
 rw [e];exact h
def mS (name:ByteArray) (arity:Int) (rows:List (List Int)):aR × Bool:=if aQ ⟨name,arity,cL rows⟩=true then (⟨name,arity,cL rows⟩,true) else (gB,false)
theorem dF {name:ByteArray} {arity:Int} {rows:List (List Int)} (h:aQ ⟨name,arity,cL rows⟩=true):mS name arity rows=(⟨name,arity,cL rows⟩,true):=by rw [mS,if_pos h]
theorem iY {name:ByteArray} {arity:Int} {rows:List (List Int)} (h:aQ ⟨name,arity,cL rows⟩=false):mS name arity rows=(gB,false):=by rw [mS,if_neg (by rw [h];decide)]
theorem aDd {t:aR} (h:8<t.rows.length):aQ t=false:=by
 cases e:aQ t with
 | false=>rfl
 | true=>have:=cD e;omega
theorem aKX {name:ByteArray} {arity:Int} {rows:List (List Int)} {k:Nat} {acc:List (List Int)} (ha:acc=cL (rows.take k)) (h:rows.length≤k∨8<acc.length):aQ ⟨name,arity,acc⟩=aQ ⟨name,arity,cL rows⟩∧(aQ ⟨name,arity,acc⟩=true→acc=cL rows):=by
 by_cases h1:8<acc.length
 ·have h2:=aIz rows k
  rw [←ha] at h2
  have q1:=aDd (t:=⟨name,arity,acc⟩) h1
  rw [q1,aDd (t:=⟨name,arity,cL rows⟩) (show 8<(cL rows).length by omega)]
  exact ⟨rfl,fun q=>by cases q⟩
 ·have e:acc=cL rows:=by rw [ha,List.take_of_length_le (by omega)]
  rw [e];exact ⟨rfl,fun _=>rfl⟩
theorem aPu: ∀{l:List (List Int)},(∀i,i+1<l.length→bW (l.getD i []) (l.getD (i+1) [])<0)→Asc l
 | [],_=>List.Pairwise.nil
 | [a],_=>List.pairwise_singleton _ _
 | a::b::l,h=>by
   have ih:=aPu (l:=b::l) fun i hi=>by
    have:=h (i+1) (by simpa using hi)
    simpa using this
   have h0:bW a b<0:=by
    have:=h 0 (by simp)
    simpa using this
   refine List.pairwise_cons.2 ⟨fun y hy=>?_,ih⟩
   rcases List.mem_cons.1 hy with rfl | q
   ·exact h0
   ·exact mG h0 ((List.pairwise_cons.1 ih).1 y q)
theorem aKY {l:List (List Int)} (h:aAt l=true):Asc l:=aPu fun i hi=>by
 have:=List.all_eq_true.1 h i (List.mem_range.2 (by omega))
 simpa [lY] using this
theorem oQ {t:aR} (h:aQ t=true):t.rows.all (gU t.arity)=true∧dW t.name=true∧aAt t.rows=true:=by
 simp only [aQ,Bool.and_eq_true] at h
 exact ⟨h.1,h.2.1,h.2.2.2.2⟩
theorem aDe {l:List (List Int)} (h:Asc l):cL l=l:=by
 obtain ⟨h1,h2,_⟩:=yP l [] List.Pairwise.nil
 exact aIv h1 h fun x=>by have:=h2 x;simpa [cL] using this
theorem oR {t:aR} (h:aQ t=true) {r:List Int} (hr:r∈t.rows):(r.length:Int)=t.arity:=by
 have:=List.all_eq_true.1 (oQ h).1 r hr
 simp only [gU,Bool.and_eq_true,decide_eq_true_eq] at this
 exact this.2
def aL7 (n:Int):List Int:=pK ((2:Int)^n.toNat - 1)
theorem aRe {n:Int} (hn:1≤n∧n≤3) {r:List Int} (h:(r.length:Int)=n):(fJ r (aL7 n)).1=r:=by
 have h1:n=1∨n=2∨n=3:=by omega
 rcases h1 with rfl | rfl | rfl
 ·match r,h with
  | [a],_=>rfl
  | [],h=>simp at h
  | _::_::_,h=>simp at h;omega
 ·match r,h with
  | [a,b],_=>rfl
  | [],h=>simp at h
  | [_],h=>simp at h
  | _::_::_::_,h=>simp at h;omega
 ·match r,h with
  | [a,b,c],_=>rfl
  | [],h=>simp at h
  | [_],h=>simp at h
  | [_,_],h=>simp at h
  | _::_::_::_::_,h=>simp at h;omega
theorem aPv {n:Int} (hn:1≤n∧n≤3):dG (n - 1) (aL7 n)=true:=by
 have h1:n=1∨n=2∨n=3:=by omega
 rcases h1 with rfl | rfl | rfl<;>decide
theorem aJA {n:Int} (hn:1≤n∧n≤3):0<(bN n).length∧(bN n)[(bN n).length - 1]? =some (aL7 n):=by
 have h1:n=1∨n=2∨n=3:=by omega
 rcases h1 with rfl | rfl | rfl<;>decide
theorem aPw {t:aR} (h:aQ t=true):(hZ t (aL7 t.arity)).1=t.rows:=by
 have hT:=cD h
 have hc:=aPv (n:=t.arity) ⟨hT.1,hT.2.1⟩
 rw [eX (by rw [h,hc];rfl)]
 have e:lB t (aL7 t.arity)=t.rows:=by
  rw [lB]
  conv=>rhs;rw [←List.map_id t.rows]
  exact List.map_congr_left fun r hr=>aRe ⟨hT.1,hT.2.1⟩ (oR h hr)
 show fL (dH (lB t (aL7 t.arity)))=t.rows
 rw [e,←yQ,aDe (aKY (oQ h).2.2)]
theorem aDf {t:aR} (h:aQ t=true):qC (bB t)=t.rows∧(bB t).groups≠[]:=by
 have hT:=cD h
 obtain ⟨h0,h1⟩:=aJA (n:=t.arity) ⟨hT.1,hT.2.1⟩
 rw [bQ h]
 constructor
 ·rw [qC]
  show (((bN t.arity).map (xC t)).getD (((bN t.arity).map (xC t)).length - 1) eH).values=t.rows
  rw [List.length_map,aZ (x:=xC t (aL7 t.arity)) (by rw [List.getElem?_map,h1];rfl)]
  exact aPw h
 ·intro e
  have:((bN t.arity).map (xC t)).length=0:=congrArg List.length e
  rw [List.length_map] at this
  omega
def mT (x:aC):aR × Bool:=if x.groups.length=0 then (gB,false) else mS x.name x.arity (qC x)
theorem aRf {x:aC} (h:dK x=true):mT x=(eB x,true):=by
 simp only [dK,Bool.and_eq_true,decide_eq_true_eq] at h
 have h2:=(aDf h.1).2
 rw [h.2] at h2
 rw [mT,if_neg (fun e=>h2 (List.eq_nil_of_length_eq_zero e))]
 have e:=aDe (aKY (oQ h.1).2.2)
 rw [show (eB x).rows=qC x from rfl] at e
 rw [dF (by rw [e];exact h.1),e];rfl
theorem aNf (x:aC):((mT x).2&&decide (bB (mT x).1=x))=dK x:=by
 cases h:dK x with
 | true=>
   rw [aRf h]
   simp only [dK,Bool.and_eq_true,decide_eq_true_eq] at h
   simp [h.2]
 | false=>
   rw [mT]
   split
   ·rfl
   ·cases e:aQ ⟨x.name,x.arity,cL (qC x)⟩ with
    | false=>rw [iY e];rfl
    | true=>
      rw [dF e]
      simp only [Bool.true_and]
      by_cases q:bB ⟨x.name,x.arity,cL (qC x)⟩=x
      ·exfalso
       have h3:=(aDf e).1
       rw [q] at h3
       have h4:eB x=⟨x.name,x.arity,cL (qC x)⟩:=by
        rw [eB]
        congr 1
       rw [dK,h4,e,q] at h
       simp at h
      ·simp [q]
theorem aJB {α:Type} {p:α→Bool} {l:List α} {k:Nat} {x:α} (h:l[k]? =some x) (ha:(l.take k).all (fun y=> !p y)=true) (hx:p x=true):l.find? p=some x:=by
 rw [List.find?_eq_some_iff_getElem]
 obtain ⟨hk,rfl⟩:=List.getElem?_eq_some_iff.1 h
 refine ⟨hx,k,hk,rfl,fun j hj=>?_⟩
 have:=List.all_eq_true.1 ha l[j] (List.mem_iff_getElem.2 ⟨j,by simp;omega,by simp⟩)
 exact this
theorem aEZ {α:Type} {p:α→Bool} {l:List α} (ha:l.all (fun y=> !p y)=true):l.find? p=none:=by
 rw [List.find?_eq_none]
 intro x hx
 have:=List.all_eq_true.1 ha x hx
 simpa using this
def gC (l:List aR) (i:Nat):Bool:=Op.bytesLess (l.getD i gB).name.toList (l.getD (i+1) gB).name.toList
def fM (d:aT):Bool:=d.tables.all aQ&&((List.range (d.tables.length - 1)).all (gC d.tables)&&decide ((d.tables.length:Int)≤6))
abbrev aDH (t:aT):Prop:=cU Tryz.prog 154 [.agg [.sl 162 3 (t.tables.map aL)]] (vB (fM t)) []
theorem aM9 (t:aT):aDH t:=by
 refine aV bF aS Tryz.func154 (by kernel_rfl) (.len t.tables.length<| .loop Nat (Q1 Nat) [3,4,8,9,10,11,12,13,14,15,16,17,18,19,20,21,22,23,24,25,26,27,28,29,30,31,32] [400] (fun k=>[(8,vI (k:Int))]) (fun k=>[]) (fun k=>k≤t.tables.length∧(t.tables.take k).all aQ=true∧(List.range (k - 1)).all (gC t.tables)=true) (fun k=>t.tables.length - k) (fun k=> .br (.elem _ aL t.tables (fun e11=> .call (vB (aQ e11)) []<| .br (.fin []) (.lit<| .lit<| .br (.elem _ aL t.tables (fun e24=> .lit<| .lit<| .lit<| .lit<| .lit<| .lit<| .lit<| .lit<| .br (.fin []) (.back []))) (.back [])))) (.len t.tables.length<| .fin []))) (p:=(t.tables.map aL).length≤9223372036854775807→Lm aL t.tables∧((∃(k:Nat),(0:Int)=(k:Int)∧k≤t.tables.length∧(t.tables.take k).all aQ=true∧(List.range (k - 1)).all (gC t.tables)=true)∧ ∀(k:Nat),(k≤t.tables.length∧(t.tables.take k).all aQ=true∧(List.range (k - 1)).all (gC t.tables)=true)→((decide ((k:Int)<((t.tables.length:Nat):Int)))=true→0≤(k:Int)∧Em aL t.tables k fun e11=>rM e11∧(((!(aQ e11))=true→(false)=(fM t)∧True)∧((!(aQ e11))=false→((decide ((0:Int)<(k:Int)))=true→cG ((k:Int) - (1:Int))∧(0≤((k:Int) - (1:Int))∧Em aL t.tables (((k:Int) - (1:Int)).toNat) fun e24=>((!(Op.bytesLess e24.name.toList e11.name.toList))=true→(false)=(fM t)∧True)∧((!(Op.bytesLess e24.name.toList e11.name.toList))=false→cG ((k:Int)+(1:Int))∧ ∃(k' :Nat),((k:Int)+(1:Int))=(k' :Int)∧(k' ≤t.tables.length∧(t.tables.take k').all aQ=true∧(List.range (k' - 1)).all (gC t.tables)=true)∧t.tables.length - k' <t.tables.length - k)))∧((decide ((0:Int)<(k:Int)))=false→cG ((k:Int)+(1:Int))∧ ∃(k' :Nat),((k:Int)+(1:Int))=(k' :Int)∧(k' ≤t.tables.length∧(t.tables.take k').all aQ=true∧(List.range (k' - 1)).all (gC t.tables)=true)∧t.tables.length - k' <t.tables.length - k))))∧((decide ((k:Int)<((t.tables.length:Nat):Int)))=false→Lm aL t.tables∧(decide (((t.tables.length:Nat):Int)≤(6:Int)))=(fM t)∧True))) (by kernel_rfl) ?_
 intro n0
 simp only [List.length_map] at n0
 refine ⟨List.length_map _,⟨0,rfl,Nat.zero_le _,rfl,rfl⟩,fun k ⟨hk,ha,hs⟩=>?_⟩
 refine ⟨fun c0=>?_,fun c0=>?_⟩
 ·replace c0:=yq c0
  refine ⟨by omega,rfl,by omega,fun e11 h11=>?_⟩
  refine ⟨yJ e11,fun g16=>?_,fun g16=>?_⟩
  ·replace g16:=nt g16
   refine ⟨?_,trivial⟩
   ·first | (rw [fM,cE h11 g16];rfl) | (rw [fM,hz];simp [*];done) | (rw [fM,hz];simp;done)
  ·replace g16:=nf g16
   refine ⟨fun g19=>?_,fun g19=>?_⟩
   ·replace g19:=yq g19
    refine ⟨⟨by omega,by omega⟩,by omega,rfl,by omega,fun e24 h24=>?_⟩
    have i1:t.tables[k - 1]? =some e24:=by rw [←h24];congr 1;omega
    refine ⟨fun c1=>?_,fun c1=>?_⟩
    ·replace c1:=nt c1
     have hp:gC t.tables (k - 1)=false:=by rw [gC,aZ i1,show k - 1+1=k by omega,aZ h11];simpa using c1
     have hz:(List.range (t.tables.length - 1)).all (gC t.tables)=false:=fF (by omega) hp
     refine ⟨?_,trivial⟩
     ·first | (rw [fM,cE h11 g16];rfl) | (rw [fM,hz];simp [*];done) | (rw [fM,hz];simp;done)
    ·replace c1:=nf c1
     have hp:gC t.tables (k - 1)=true:=by rw [gC,aZ i1,show k - 1+1=k by omega,aZ h11];simpa using c1
     have hs2:(List.range (k+1 - 1)).all (gC t.tables)=true:=by rw [show k+1 - 1=(k - 1)+1 by omega];exact jG hs hp
     refine ⟨⟨by omega,by omega⟩,?_⟩
     exact ⟨k+1,rfl,⟨by omega,cY h11 ha g16,hs2⟩,by omega⟩
   ·replace g19:=nq g19
    have hs2:(List.range (k+1 - 1)).all (gC t.tables)=true:=by rw [show k=0 by omega];rfl
    refine ⟨⟨by omega,by omega⟩,?_⟩
    exact ⟨k+1,rfl,⟨by omega,cY h11 ha g16,hs2⟩,by omega⟩
 ·replace c0:=nq c0
  have hall:=bJ (by omega) ha
  have hz:(List.range (t.tables.length - 1)).all (gC t.tables)=true:=by rw [show t.tables.length - 1=k - 1 by omega,hs]
  refine ⟨List.length_map _,?_,trivial⟩
  ·first | (rw [fM,cE h11 g16];rfl) | (rw [fM,hz];simp [*];done) | (rw [fM,hz];simp;done)
abbrev aDI (t:aT):Prop:=cU Tryz.prog 138 [.agg [.sl 162 3 (t.tables.map aL)]] (vB (fM t)) []
theorem aMa (t:aT):aDI t:=by
 refine aV bF aS Tryz.func138 (by kernel_rfl) (.loop Nat (Q1 Nat) [3,4,5,6,7,8,9,10,11,12,13,14,15,16,17,18,19,20,21,22,23,24,25,26,27,28,29,30,31,32,33,34,35,36,37] [] (fun k=>[(3,vI (k:Int))]) (fun k=>[]) (fun k=>k≤t.tables.length∧(t.tables.take k).all aQ=true∧(List.range (k - 1)).all (gC t.tables)=true) (fun k=>t.tables.length - k) (fun k=> .len t.tables.length<| .br (.elem _ aL t.tables (fun e14=> .call (vB (aQ e14)) []<| .br (.fin []) (.lit<| .lit<| .br (.elem _ aL t.tables (fun e26=> .elem _ aL t.tables (fun e32=> .lit<| .lit<| .lit<| .lit<| .lit<| .lit<| .br (.fin []) (.back [])))) (.back [])))) (.len t.tables.length<| .fin []))) (p:=(t.tables.map aL).length≤9223372036854775807→(∃(k:Nat),(0:Int)=(k:Int)∧k≤t.tables.length∧(t.tables.take k).all aQ=true∧(List.range (k - 1)).all (gC t.tables)=true)∧ ∀(k:Nat),(k≤t.tables.length∧(t.tables.take k).all aQ=true∧(List.range (k - 1)).all (gC t.tables)=true)→Lm aL t.tables∧(((decide ((k:Int)<((t.tables.length:Nat):Int)))=true→0≤(k:Int)∧Em aL t.tables k fun e14=>oB e14∧(((!(aQ e14))=true→(false)=(fM t)∧True)∧((!(aQ e14))=false→((decide ((0:Int)<(k:Int)))=true→cG ((k:Int) - (1:Int))∧(0≤((k:Int) - (1:Int))∧Em aL t.tables (((k:Int) - (1:Int)).toNat) fun e26=>0≤(k:Int)∧Em aL t.tables k fun e32=>((!(Op.bytesLess e26.name.toList e32.name.toList))=true→(false)=(fM t)∧True)∧((!(Op.bytesLess e26.name.toList e32.name.toList))=false→cG ((k:Int)+(1:Int))∧ ∃(k' :Nat),((k:Int)+(1:Int))=(k' :Int)∧(k' ≤t.tables.length∧(t.tables.take k').all aQ=true∧(List.range (k' - 1)).all (gC t.tables)=true)∧t.tables.length - k' <t.tables.length - k)))∧((decide ((0:Int)<(k:Int)))=false→cG ((k:Int)+(1:Int))∧ ∃(k' :Nat),((k:Int)+(1:Int))=(k' :Int)∧(k' ≤t.tables.length∧(t.tables.take k').all aQ=true∧(List.range (k' - 1)).all (gC t.tables)=true)∧t.tables.length - k' <t.tables.length - k))))∧((decide ((k:Int)<((t.tables.length:Nat):Int)))=false→Lm aL t.tables∧(decide (((t.tables.length:Nat):Int)≤(6:Int)))=(fM t)∧True))) (by kernel_rfl) ?_
 intro n0
 simp only [List.length_map] at n0
 refine ⟨⟨0,rfl,Nat.zero_le _,rfl,rfl⟩,fun k ⟨hk,ha,hs⟩=>?_⟩
 refine ⟨List.length_map _,fun c0=>?_,fun c0=>?_⟩
 ·replace c0:=yq c0
  refine ⟨by omega,rfl,by omega,fun e14 h14=>?_⟩
  refine ⟨yK e14,fun g18=>?_,fun g18=>?_⟩
  ·replace g18:=nt g18
   refine ⟨?_,trivial⟩
   ·first | (rw [fM,cE h14 g18];rfl) | (rw [fM,hz];simp [*];done) | (rw [fM,hz];simp;done)
  ·replace g18:=nf g18
   refine ⟨fun g21=>?_,fun g21=>?_⟩
   ·replace g21:=yq g21
    refine ⟨⟨by omega,by omega⟩,by omega,rfl,by omega,fun e26 h26=>?_⟩
    have i1:t.tables[k - 1]? =some e26:=by rw [←h26];congr 1;omega
    refine ⟨by omega,rfl,by omega,fun e32 h32=>?_⟩
    refine ⟨fun c1=>?_,fun c1=>?_⟩
    ·replace c1:=nt c1
     have hp:gC t.tables (k - 1)=false:=by rw [gC,aZ i1,show k - 1+1=k by omega,aZ h32];simpa using c1
     have hz:(List.range (t.tables.length - 1)).all (gC t.tables)=false:=fF (by omega) hp
     refine ⟨?_,trivial⟩
     ·first | (rw [fM,cE h14 g18];rfl) | (rw [fM,hz];simp [*];done) | (rw [fM,hz];simp;done)
    ·replace c1:=nf c1
     have hp:gC t.tables (k - 1)=true:=by rw [gC,aZ i1,show k - 1+1=k by omega,aZ h32];simpa using c1
     have hs2:(List.range (k+1 - 1)).all (gC t.tables)=true:=by rw [show k+1 - 1=(k - 1)+1 by omega];exact jG hs hp
     refine ⟨⟨by omega,by omega⟩,?_⟩
     exact ⟨k+1,rfl,⟨by omega,cY h14 ha g18,hs2⟩,by omega⟩
   ·replace g21:=nq g21
    have hs2:(List.range (k+1 - 1)).all (gC t.tables)=true:=by rw [show k=0 by omega];rfl
    refine ⟨⟨by omega,by omega⟩,?_⟩
    exact ⟨k+1,rfl,⟨by omega,cY h14 ha g18,hs2⟩,by omega⟩
 ·replace c0:=nq c0
  have hall:=bJ (by omega) ha
  have hz:(List.range (t.tables.length - 1)).all (gC t.tables)=true:=by rw [show t.tables.length - 1=k - 1 by omega,hs]
  refine ⟨List.length_map _,?_,trivial⟩
  ·first | (rw [fM,cE h14 g18];rfl) | (rw [fM,hz];simp [*];done) | (rw [fM,hz];simp;done)
end Go.Proofs.YtokkjaflmcjlhaaGreat
