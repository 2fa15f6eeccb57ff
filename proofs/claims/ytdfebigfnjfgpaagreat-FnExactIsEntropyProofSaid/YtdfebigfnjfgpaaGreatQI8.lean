/-
  Contracts and plain laws, joined: part 9.
-/
import Derived.Test.YtdfebigfnjfgpaaGreatQI7
import Derived.Test.YtdfebigfnjfgpaaGreatQI5
import Derived.Test.YtdfebigfnjfgpaaGreatQI3
import Derived.Test.YtdfebigfnjfgpaaGreatQI4
namespace Go.Proofs.YtdfebigfnjfgpaaGreat
open Go.ChangeShapes Go.WideShapes Go.ChangeAt Go.RowKit
set_option linter.unusedVariables false
set_option linter.unusedSimpArgs false
set_option maxRecDepth 100000
set_option maxHeartbeats 4000000
def tX (t:aV) (cols:List Int):aP:=⟨cols,(eR t cols).1,(eR t cols).2⟩
def bD (t:aV):aH:=if aO t=true then ⟨t.name,t.arity,(t.rows.length:Nat),(bW t.arity).map (tX t)⟩ else eE
theorem bY {t:aV} (h:aO t=true):bD t=⟨t.name,t.arity,(t.rows.length:Nat),(bW t.arity).map (tX t)⟩:=by rw [bD,if_pos h]
theorem fM {t:aV} (h:aO t=false):bD t=eE:=by rw [bD,if_neg (by rw [h];decide)]
theorem aNT {α:Type} {l:List α} {k:Nat} (h:k<l.length):l.drop k≠[]:=fun e=>by
 have:=congrArg List.length e
 simp at this
 omega
theorem aNU {α:Type} {l l2:List α} {k:Nat} {x:α} (h:l.drop k=x::l2):l2=l.drop (k+1):=by rw [←List.tail_drop,h];rfl
theorem aNV {α:Type} {l l2:List α} {k:Nat} {x:α} (h:l.drop k=x::l2):l[k]? =some x:=by
 have:=congrArg List.head? h
 simpa [List.head?_drop] using this
theorem aBC {n:Int} {k:Nat} {x:List Int} (h:(bW n)[k]? =some x):x.length≤3:=by
 obtain ⟨i,_,rfl⟩:=List.mem_map.1 (List.mem_of_getElem? h)
 exact tW _ 3
theorem yI {n:Int} (h:1≤n∧n≤3):(bW n).length≤7:=by
 have:=qY h
 simp only [bW,rT,List.length_map,List.length_range]
 omega
abbrev aAJ (t:aV):AV × List (Nat × Rs):=(.agg [.p none (.str ((bD t).name)),vI ((bD t).arity),vI ((bD t).rowCount),.own 0],[(0,.arr 203 3 true (((bD t).groups).map aB))])
abbrev aDL (t:aV):Prop:=cT Tryz.prog 176 [.agg [.str t.name,.int .i64 t.arity,.sl 39 1 (t.rows.map aA)]] (aAJ t).1 (aAJ t).2
theorem aJc (t:aV):aDL t:=by
 refine aT bE aL Tryz.func176 (by kernel_rfl) (.call (vB (aO t)) []<| .br (.fin []) (.len t.rows.length<| bV (yG t.arity)<| .len ((bW t.arity).length)<| .loop (Nat × (List (List Int)) × (List aP)) (Q3 Nat (List (List Int)) (List aP)) [5,6,7,24,25,26,27,28,29,30,31,32,33,34,35,36,37,38,39,40,41,42,43] [300,2200,3100,3101,4000,4100,9000,50607] (fun yy0=>[(24,vI (yy0.1:Int))]) (fun yy0=>[(300,some (.box 161 [.p none (.str t.name),vI t.arity,vI ((t.rows.length:Nat):Int),.own 9000])),(9000,some (.arr 203 3 true (yy0.2.2.map aB))),(2200,some (.arr 39 1 true (List.replicate yy0.1 [bP.gone]++yy0.2.1.map aA)))]) (fun yy0=>yy0.1≤(bW t.arity).length∧yy0.2.1=(bW t.arity).drop yy0.1∧yy0.2.2=((bW t.arity).take yy0.1).map (tX t)) (fun yy0=>(bW t.arity).length - yy0.1) (fun yy0=> .br (.takeg 6 2200 yy0.1 50607 (List Int) aA yy0.2.1 (fun x6 l6=> .len (yy0.1+(l6.length+1))<| .leave 7 2200 yy0.1 50607 (List Int) aA x6 l6 (bV (uW t x6)<| .appx aP aB yy0.2.2 (⟨x6,(eR t x6).1,(eR t x6).2⟩:aP)<| .back [(300,300),(2200,2200),(9000,4100)]))) (.fin [(0,9000)])))) (p:=(t.rows.map aA).length≤9223372036854775807→rP t∧(((!(aO t))=true→ByteArray.empty=((bD t).name)∧(0:Int)=((bD t).arity)∧(0:Int)=((bD t).rowCount)∧[]=((bD t).groups).map aB∧True)∧((!(aO t))=false→Lm aA t.rows∧(aDg t.arity∧(Lm aA (bW t.arity)∧((∃(k:Nat) (l2:List (List Int)) (out:List aP),(0:Int)=(k:Int)∧t.name=t.name∧t.arity=t.arity∧((t.rows.length:Nat):Int)=((t.rows.length:Nat):Int)∧[]=out.map aB∧(bW t.arity).map aA=List.replicate k [bP.gone]++l2.map aA∧k≤(bW t.arity).length∧l2=(bW t.arity).drop k∧out=((bW t.arity).take k).map (tX t))∧ ∀(k:Nat) (l2:List (List Int)) (out:List aP),(k≤(bW t.arity).length∧l2=(bW t.arity).drop k∧out=((bW t.arity).take k).map (tX t))→((decide ((k:Int)<(((bW t.arity).length:Nat):Int)))=true→List.replicate k [bP.gone]++l2.map aA=List.replicate k [bP.gone]++l2.map aA∧l2≠[]∧ ∀x6 l6,l2=x6::l6→0≤(k:Int)∧(List.replicate k [bP.gone]++(x6::l6).map aA).length=k+(l6.length+1)∧(k:Int)<((k+(l6.length+1):Nat):Int)∧k=k∧List.replicate k [bP.gone]++(x6::l6).map aA=List.replicate k [bP.gone]++(x6::l6).map aA∧k=k∧aAz t x6∧out.map aB=out.map aB∧x6.map intD=((⟨x6,(eR t x6).1,(eR t x6).2⟩:aP).columns).map intD∧((eR t x6).1).map aA=((⟨x6,(eR t x6).1,(eR t x6).2⟩:aP).values).map aA∧((eR t x6).2).map intD=((⟨x6,(eR t x6).1,(eR t x6).2⟩:aP).counts).map intD∧(out.length+1)*72≤140737488355328∧cC ((k:Int)+(1:Int))∧ ∃(k' :Nat) (l2' :List (List Int)) (out' :List aP),((k:Int)+(1:Int))=(k' :Int)∧t.name=t.name∧t.arity=t.arity∧((t.rows.length:Nat):Int)=((t.rows.length:Nat):Int)∧(out++[(⟨x6,(eR t x6).1,(eR t x6).2⟩:aP)]).map aB=out'.map aB∧List.replicate (k+1) [bP.gone]++l6.map aA=List.replicate k' [bP.gone]++l2'.map aA∧(k' ≤(bW t.arity).length∧l2' =(bW t.arity).drop k' ∧out' =((bW t.arity).take k').map (tX t))∧(bW t.arity).length - k' <(bW t.arity).length - k)∧((decide ((k:Int)<(((bW t.arity).length:Nat):Int)))=false→t.name=((bD t).name)∧t.arity=((bD t).arity)∧((t.rows.length:Nat):Int)=((bD t).rowCount)∧out.map aB=((bD t).groups).map aB∧True))))))) (by kernel_rfl) ?_
 intro n0
 simp only [List.length_map] at n0
 refine ⟨xY t,fun c0=>?_,fun c0=>?_⟩
 ·replace c0:=nt c0
  have hbad:aO t=false:=by simpa using c0
  refine ⟨?_,?_,?_,?_,trivial⟩
  ·first | (rw [fM hbad]<;>rfl) | (rw [bY hok]<;>rfl) | (rw [bY hok,ho,List.take_of_length_le (by omega)])
  ·first | (rw [fM hbad]<;>rfl) | (rw [bY hok]<;>rfl) | (rw [bY hok,ho,List.take_of_length_le (by omega)])
  ·first | (rw [fM hbad]<;>rfl) | (rw [bY hok]<;>rfl) | (rw [bY hok,ho,List.take_of_length_le (by omega)])
  ·first | (rw [fM hbad]<;>rfl) | (rw [bY hok]<;>rfl) | (rw [bY hok,ho,List.take_of_length_le (by omega)])
 ·replace c0:=nf c0
  have hok:aO t=true:=by simpa using c0
  have hT:=cN hok
  have hn:=yI (n:=t.arity) ⟨hT.1,hT.2.1⟩
  refine ⟨List.length_map _,aOV t.arity (by omega),List.length_map _,⟨0,bW t.arity,([]:List aP),rfl,rfl,rfl,rfl,rfl,rfl,Nat.zero_le _,rfl,rfl⟩,fun k l2 out ⟨hk,hl,ho⟩=>?_⟩
  have hlen:l2.length=(bW t.arity).length - k:=by rw [hl,List.length_drop]
  refine ⟨fun c1=>?_,fun c1=>?_⟩
  ·replace c1:=yq c1
   refine ⟨rfl,(by rw [hl];exact aNT (by omega)),fun x6 l6 t6=>?_⟩
   have hdx:=hl.symm.trans t6
   have hx:=aNV hdx
   have hx3:=aBC hx
   refine ⟨by omega,by simp,by omega,rfl,rfl,rfl,aKv t x6 (by omega),rfl,rfl,rfl,rfl,by first | omega | (simp [ho];omega),⟨by omega,by omega⟩,?_⟩
   exact ⟨k+1,_,_,rfl,rfl,rfl,rfl,rfl,rfl,⟨by omega,aNU hdx,by rw [ho,bO hx,List.map_append];rfl⟩,by omega⟩
  ·replace c1:=nq c1
   refine ⟨?_,?_,?_,?_,trivial⟩
   ·first | (rw [fM hbad]<;>rfl) | (rw [bY hok]<;>rfl) | (rw [bY hok,ho,List.take_of_length_le (by omega)])
   ·first | (rw [fM hbad]<;>rfl) | (rw [bY hok]<;>rfl) | (rw [bY hok,ho,List.take_of_length_le (by omega)])
   ·first | (rw [fM hbad]<;>rfl) | (rw [bY hok]<;>rfl) | (rw [bY hok,ho,List.take_of_length_le (by omega)])
   ·first | (rw [fM hbad]<;>rfl) | (rw [bY hok]<;>rfl) | (rw [bY hok,ho,List.take_of_length_le (by omega)])
abbrev aAK (t:aV):AV × List (Nat × Rs):=(.agg [.p none (.str ((bD t).name)),vI ((bD t).arity),vI ((bD t).rowCount),.own 0],[(0,.arr 203 3 true (((bD t).groups).map aB))])
abbrev aDM (t:aV):Prop:=cT Tryz.prog 171 [.agg [.str t.name,.int .i64 t.arity,.sl 39 1 (t.rows.map aA)]] (aAK t).1 (aAK t).2
theorem aNW (t:aV):aDM t:=by
 refine aT bE aL Tryz.func171 (by kernel_rfl) (.call (vB (aO t)) []<| .br (.fin []) (.len t.rows.length<| bV (yH t.arity)<| .loop (Nat × (List (List Int)) × (List aP)) (Q3 Nat (List (List Int)) (List aP)) [5,6,7,23,24,25,26,27,28,29,30,31,32,33,34,35,36,37,38,39,40,41,42,43,44,45,46,47,48,49] [300,2200,3500,3501,4700,4800,9000,50807] (fun yy0=>[(5,vI (yy0.1:Int))]) (fun yy0=>[(300,some (.box 161 [.p none (.str t.name),vI t.arity,vI ((t.rows.length:Nat):Int),.own 9000])),(9000,some (.arr 203 3 true (yy0.2.2.map aB))),(2200,some (.arr 39 1 true (List.replicate yy0.1 [bP.gone]++yy0.2.1.map aA)))]) (fun yy0=>yy0.1≤(bW t.arity).length∧yy0.2.1=(bW t.arity).drop yy0.1∧yy0.2.2=((bW t.arity).take yy0.1).map (tX t)) (fun yy0=>(bW t.arity).length - yy0.1) (fun yy0=> .len (yy0.1+yy0.2.1.length)<| .br (.takeg 8 2200 yy0.1 50807 (List Int) aA yy0.2.1 (fun x8 l8=> .len (yy0.1+(l8.length+1))<| bV (aBB t x8)<| .len (yy0.1+(l8.length+1))<| .appx aP aB yy0.2.2 (⟨x8,(eR t x8).1,(eR t x8).2⟩:aP)<| .leave 7 2200 yy0.1 50807 (List Int) aA x8 l8 (.back [(300,300),(2200,2200),(9000,4800)]))) (.fin [(0,9000)])))) (p:=(t.rows.map aA).length≤9223372036854775807→oT t∧(((!(aO t))=true→ByteArray.empty=((bD t).name)∧(0:Int)=((bD t).arity)∧(0:Int)=((bD t).rowCount)∧[]=((bD t).groups).map aB∧True)∧((!(aO t))=false→Lm aA t.rows∧(aDh t.arity∧((∃(k:Nat) (l2:List (List Int)) (out:List aP),(0:Int)=(k:Int)∧t.name=t.name∧t.arity=t.arity∧((t.rows.length:Nat):Int)=((t.rows.length:Nat):Int)∧[]=out.map aB∧(bW t.arity).map aA=List.replicate k [bP.gone]++l2.map aA∧k≤(bW t.arity).length∧l2=(bW t.arity).drop k∧out=((bW t.arity).take k).map (tX t))∧ ∀(k:Nat) (l2:List (List Int)) (out:List aP),(k≤(bW t.arity).length∧l2=(bW t.arity).drop k∧out=((bW t.arity).take k).map (tX t))→(List.replicate k [bP.gone]++l2.map aA).length=k+l2.length∧(((decide ((k:Int)<((k+l2.length:Nat):Int)))=true→List.replicate k [bP.gone]++l2.map aA=List.replicate k [bP.gone]++l2.map aA∧l2≠[]∧ ∀x8 l8,l2=x8::l8→0≤(k:Int)∧(List.replicate k [bP.gone]++(x8::l8).map aA).length=k+(l8.length+1)∧(k:Int)<((k+(l8.length+1):Nat):Int)∧k=k∧aGB t x8∧0≤(k:Int)∧(List.replicate k [bP.gone]++(x8::l8).map aA).length=k+(l8.length+1)∧(k:Int)<((k+(l8.length+1):Nat):Int)∧k=k∧out.map aB=out.map aB∧x8.map intD=((⟨x8,(eR t x8).1,(eR t x8).2⟩:aP).columns).map intD∧((eR t x8).1).map aA=((⟨x8,(eR t x8).1,(eR t x8).2⟩:aP).values).map aA∧((eR t x8).2).map intD=((⟨x8,(eR t x8).1,(eR t x8).2⟩:aP).counts).map intD∧(out.length+1)*72≤140737488355328∧List.replicate k [bP.gone]++(x8::l8).map aA=List.replicate k [bP.gone]++(x8::l8).map aA∧k=k∧cC ((k:Int)+(1:Int))∧ ∃(k' :Nat) (l2' :List (List Int)) (out' :List aP),((k:Int)+(1:Int))=(k' :Int)∧t.name=t.name∧t.arity=t.arity∧((t.rows.length:Nat):Int)=((t.rows.length:Nat):Int)∧(out++[(⟨x8,(eR t x8).1,(eR t x8).2⟩:aP)]).map aB=out'.map aB∧List.replicate (k+1) [bP.gone]++l8.map aA=List.replicate k' [bP.gone]++l2'.map aA∧(k' ≤(bW t.arity).length∧l2' =(bW t.arity).drop k' ∧out' =((bW t.arity).take k').map (tX t))∧(bW t.arity).length - k' <(bW t.arity).length - k)∧((decide ((k:Int)<((k+l2.length:Nat):Int)))=false→t.name=((bD t).name)∧t.arity=((bD t).arity)∧((t.rows.length:Nat):Int)=((bD t).rowCount)∧out.map aB=((bD t).groups).map aB∧True))))))) (by kernel_rfl) ?_
 intro n0
 simp only [List.length_map] at n0
 refine ⟨xZ t,fun c0=>?_,fun c0=>?_⟩
 ·replace c0:=nt c0
  have hbad:aO t=false:=by simpa using c0
  refine ⟨?_,?_,?_,?_,trivial⟩
  ·first | (rw [fM hbad]<;>rfl) | (rw [bY hok]<;>rfl) | (rw [bY hok,ho,List.take_of_length_le (by omega)])
  ·first | (rw [fM hbad]<;>rfl) | (rw [bY hok]<;>rfl) | (rw [bY hok,ho,List.take_of_length_le (by omega)])
  ·first | (rw [fM hbad]<;>rfl) | (rw [bY hok]<;>rfl) | (rw [bY hok,ho,List.take_of_length_le (by omega)])
  ·first | (rw [fM hbad]<;>rfl) | (rw [bY hok]<;>rfl) | (rw [bY hok,ho,List.take_of_length_le (by omega)])
 ·replace c0:=nf c0
  have hok:aO t=true:=by simpa using c0
  have hT:=cN hok
  have hn:=yI (n:=t.arity) ⟨hT.1,hT.2.1⟩
  refine ⟨List.length_map _,aOW t.arity (by omega),⟨0,bW t.arity,([]:List aP),rfl,rfl,rfl,rfl,rfl,rfl,Nat.zero_le _,rfl,rfl⟩,fun k l2 out ⟨hk,hl,ho⟩=>?_⟩
  have hlen:l2.length=(bW t.arity).length - k:=by rw [hl,List.length_drop]
  refine ⟨by simp,fun c1=>?_,fun c1=>?_⟩
  ·replace c1:=yq c1
   refine ⟨rfl,(by rw [hl];exact aNT (by omega)),fun x8 l8 t8=>?_⟩
   have hdx:=hl.symm.trans t8
   have hx:=aNV hdx
   have hx3:=aBC hx
   refine ⟨by omega,by simp,by omega,rfl,aQj t x8 (by omega),by omega,by simp,by omega,rfl,rfl,rfl,rfl,rfl,by first | omega | (simp [ho];omega),rfl,rfl,⟨by omega,by omega⟩,?_⟩
   exact ⟨k+1,_,_,rfl,rfl,rfl,rfl,rfl,rfl,⟨by omega,aNU hdx,by rw [ho,bO hx,List.map_append];rfl⟩,by omega⟩
  ·replace c1:=nq c1
   refine ⟨?_,?_,?_,?_,trivial⟩
   ·first | (rw [fM hbad]<;>rfl) | (rw [bY hok]<;>rfl) | (rw [bY hok,ho,List.take_of_length_le (by omega)])
   ·first | (rw [fM hbad]<;>rfl) | (rw [bY hok]<;>rfl) | (rw [bY hok,ho,List.take_of_length_le (by omega)])
   ·first | (rw [fM hbad]<;>rfl) | (rw [bY hok]<;>rfl) | (rw [bY hok,ho,List.take_of_length_le (by omega)])
   ·first | (rw [fM hbad]<;>rfl) | (rw [bY hok]<;>rfl) | (rw [bY hok,ho,List.take_of_length_le (by omega)])
abbrev aBD (x:aH):AV × List (Nat × Rs):=(.agg [.p none (.str x.name),vI x.arity,vI x.rowCount,.own 0],[(0,.arr 203 3 true (x.groups.map aB))])
abbrev aGD (x:aH):Prop:=cT Tryz.prog 152 [.agg [.str x.name,.int .i64 x.arity,.int .i64 x.rowCount,.sl 203 3 (x.groups.map aB)]] (aBD x).1 (aBD x).2
theorem aQk (x:aH) (hc:bA x≤1048576):aGD x:=by
 refine aT bE aL Tryz.func152 (by kernel_rfl) (.len x.groups.length<| .loop (Nat × (List aP)) (Q2 Nat (List aP)) [3,5,6,10,11,12,13,14,15,16,17,18,19,20,21,22,23,24,25,26,27] [500,600,1700,2000,2300,2500,2600] (fun yy0=>[(3,.own 600),(10,vI (yy0.1:Int))]) (fun yy0=>[(600,some (.arr 203 3 true (yy0.2.map aB)))]) (fun yy0=>yy0.1≤x.groups.length∧yy0.2=x.groups.take yy0.1) (fun yy0=>x.groups.length - yy0.1) (fun yy0=> .br (.elem _ aB x.groups (fun e12=>bV (aIb e12.columns)<| bV (aIc e12.values)<| bV (aIb e12.counts)<| .appx aP aB yy0.2 e12<| .back [(600,2600)])) (.fin [(0,600)]))) (p:=(x.groups.map aB).length≤9223372036854775807→Lm aB x.groups∧((∃(k:Nat) (out:List aP),(0:Int)=(k:Int)∧[]=out.map aB∧k≤x.groups.length∧out=x.groups.take k)∧ ∀(k:Nat) (out:List aP),(k≤x.groups.length∧out=x.groups.take k)→((decide ((k:Int)<((x.groups.length:Nat):Int)))=true→0≤(k:Int)∧Em aB x.groups k fun e12=>aKk e12.columns∧aKl e12.values∧aKk e12.counts∧out.map aB=out.map aB∧e12.columns.map intD=e12.columns.map intD∧e12.values.map aA=e12.values.map aA∧e12.counts.map intD=e12.counts.map intD∧(out.length+1)*72≤140737488355328∧cC ((k:Int)+(1:Int))∧ ∃(k' :Nat) (out' :List aP),((k:Int)+(1:Int))=(k' :Int)∧(out++[e12]).map aB=out'.map aB∧(k' ≤x.groups.length∧out' =x.groups.take k')∧x.groups.length - k' <x.groups.length - k)∧((decide ((k:Int)<((x.groups.length:Nat):Int)))=false→x.name=x.name∧x.arity=x.arity∧x.rowCount=x.rowCount∧out.map aB=x.groups.map aB∧True))) (by kernel_rfl) ?_
 intro n0
 simp only [List.length_map] at n0
 have q2:bA x=x.name.size+dY x.groups:=rfl
 have q5:=iA x.groups
 refine ⟨List.length_map _,⟨0,([]:List aP),rfl,rfl,Nat.zero_le _,rfl⟩,fun k out ⟨hk,ho⟩=>?_⟩
 refine ⟨fun c0=>?_,fun c0=>?_⟩
 ·replace c0:=yq c0
  refine ⟨by omega,rfl,by omega,fun e12 h12=>?_⟩
  have q1:=iT h12
  have q3:cA e12=cG e12.columns+cX e12.values+cG e12.counts:=rfl
  have q6:cG e12.columns=e12.columns.length:=rfl
  have q7:cG e12.counts=e12.counts.length:=rfl
  have q8:=gG e12.values
  refine ⟨cpI _ (by omega),cpR _ (by omega),cpI _ (by omega),rfl,rfl,rfl,rfl,by simp [ho];omega,⟨by omega,by omega⟩,?_⟩
  exact ⟨k+1,out++[e12],rfl,rfl,⟨by omega,by rw [ho,bO h12]⟩,by omega⟩
 ·replace c0:=nq c0
  refine ⟨rfl,rfl,rfl,?_,trivial⟩
  ·rw [ho,List.take_of_length_le (by omega)]
def lR (x:aH):List (List Int):=(x.groups.getD (x.groups.length - 1) fC).values
def cW (x:aH):aV:=⟨x.name,x.arity,lR x⟩
def bX (x:aH):Bool:=aO (cW x)&&decide (bD (cW x)=x)
theorem aLA {x:aH} {g:aP} (h:x.groups[x.groups.length - 1]? =some g):lR x=g.values:=by rw [lR,bC h]
theorem aOX {x:aH} (h:x.groups.length=0):lR x= []:=by
 rw [lR,List.length_eq_zero_iff.1 h];rfl
abbrev qP (x:aH):AV × List (Nat × Rs):=(.tup [.agg [.p none (.str ((cW x).name)),vI ((cW x).arity),.own 0],vB (bX x)],[(0,.arr 39 1 true (((cW x).rows).map aA))])
abbrev uY (x:aH):Prop:=cT Tryz.prog 186 [.agg [.str x.name,.int .i64 x.arity,.int .i64 x.rowCount,.sl 203 3 (x.groups.map aB)]] (qP x).1 (qP x).2
theorem aGE (x:aH) (hc:bA x≤1048576):uY x:=by
 refine aT bE aL Tryz.func186 (by kernel_rfl) (.len x.groups.length<| .br (.elem _ aB x.groups (fun e20=>bV (aIc e20.values)<| .call (vB (aO (⟨x.name,x.arity,e20.values⟩:aV))) []<| .br (bV (aAJ (⟨x.name,x.arity,e20.values⟩:aV))<| .call (vB (decide ((bD (⟨x.name,x.arity,e20.values⟩:aV))=x))) []<| .fin [(0,2300)]) (.fin [(0,2300)]))) (.call (vB (aO (⟨x.name,x.arity,([]:List (List Int))⟩:aV))) []<| .br (.call (.agg [.p none (.str ((bD (⟨x.name,x.arity,([]:List (List Int))⟩:aV)).name)),vI ((bD (⟨x.name,x.arity,([]:List (List Int))⟩:aV)).arity),vI ((bD (⟨x.name,x.arity,([]:List (List Int))⟩:aV)).rowCount),.own 0]) [(0,.arr 203 3 true (((bD (⟨x.name,x.arity,([]:List (List Int))⟩:aV)).groups).map aB))]<| .call (vB (decide ((bD (⟨x.name,x.arity,([]:List (List Int))⟩:aV))=x))) []<| .fin []) (.fin []))) (p:=(x.groups.map aB).length≤9223372036854775807→Lm aB x.groups∧(((decide ((0:Int)<((x.groups.length:Nat):Int)))=true→cC (((x.groups.length:Nat):Int) - (1:Int))∧(0≤(((x.groups.length:Nat):Int) - (1:Int))∧Em aB x.groups ((((x.groups.length:Nat):Int) - (1:Int)).toNat) fun e20=>aKl e20.values∧(rP (⟨x.name,x.arity,e20.values⟩:aV)∧(((aO (⟨x.name,x.arity,e20.values⟩:aV))=true→aDL (⟨x.name,x.arity,e20.values⟩:aV)∧nX (bD (⟨x.name,x.arity,e20.values⟩:aV)) x∧x.name=((cW x).name)∧x.arity=((cW x).arity)∧(decide ((bD (⟨x.name,x.arity,e20.values⟩:aV))=x))=(bX x)∧e20.values.map aA=((cW x).rows).map aA∧True)∧((aO (⟨x.name,x.arity,e20.values⟩:aV))=false→x.name=((cW x).name)∧x.arity=((cW x).arity)∧(false)=(bX x)∧e20.values.map aA=((cW x).rows).map aA∧True)))))∧((decide ((0:Int)<((x.groups.length:Nat):Int)))=false→cT Tryz.prog 202 [.agg [.str x.name,.int .i64 x.arity,.sl 0 1 ([])]] (vB (aO (⟨x.name,x.arity,([]:List (List Int))⟩:aV))) []∧(((aO (⟨x.name,x.arity,([]:List (List Int))⟩:aV))=true→cT Tryz.prog 176 [.agg [.str x.name,.int .i64 x.arity,.sl 0 1 ([])]] (.agg [.p none (.str ((bD (⟨x.name,x.arity,([]:List (List Int))⟩:aV)).name)),vI ((bD (⟨x.name,x.arity,([]:List (List Int))⟩:aV)).arity),vI ((bD (⟨x.name,x.arity,([]:List (List Int))⟩:aV)).rowCount),.own 0]) [(0,.arr 203 3 true (((bD (⟨x.name,x.arity,([]:List (List Int))⟩:aV)).groups).map aB))]∧nX (bD (⟨x.name,x.arity,([]:List (List Int))⟩:aV)) x∧x.name=((cW x).name)∧x.arity=((cW x).arity)∧(decide ((bD (⟨x.name,x.arity,([]:List (List Int))⟩:aV))=x))=(bX x)∧[]=((cW x).rows).map aA∧True)∧((aO (⟨x.name,x.arity,([]:List (List Int))⟩:aV))=false→x.name=((cW x).name)∧x.arity=((cW x).arity)∧(false)=(bX x)∧[]=((cW x).rows).map aA∧True))))) (by kernel_rfl) ?_
 intro n0
 simp only [List.length_map] at n0
 have q2:bA x=x.name.size+dY x.groups:=rfl
 have q5:=iA x.groups
 refine ⟨List.length_map _,fun c0=>?_,fun c0=>?_⟩
 ·replace c0:=yq c0
  refine ⟨⟨by omega,by omega⟩,by omega,rfl,by omega,fun e20 h20=>?_⟩
  have i20:x.groups[x.groups.length - 1]? =some e20:=by rw [←h20];congr 1;omega
  have hT:lR x=e20.values:=aLA i20
  have q1:=iT i20
  have q3:cA e20=cG e20.columns+cX e20.values+cG e20.counts:=rfl
  have q6:cG e20.columns=e20.columns.length:=rfl
  have q7:cG e20.counts=e20.counts.length:=rfl
  have q8:=gG e20.values
  refine ⟨cpR _ (by omega),xY (⟨x.name,x.arity,e20.values⟩:aV),fun g28=>?_,fun g28=>?_⟩
  ·refine ⟨aJc (⟨x.name,x.arity,e20.values⟩:aV),uV _ _,?_,?_,?_,?_,trivial⟩
   ·first | (rw [cW,hT]<;>rfl) | rfl | (simp [bX,cW,hT, *];done)
   ·first | (rw [cW,hT]<;>rfl) | rfl | (simp [bX,cW,hT, *];done)
   ·first | (rw [cW,hT]<;>rfl) | rfl | (simp [bX,cW,hT, *];done)
   ·first | (rw [cW,hT]<;>rfl) | rfl | (simp [bX,cW,hT, *];done)
  ·refine ⟨?_,?_,?_,?_,trivial⟩
   ·first | (rw [cW,hT]<;>rfl) | rfl | (simp [bX,cW,hT, *];done)
   ·first | (rw [cW,hT]<;>rfl) | rfl | (simp [bX,cW,hT, *];done)
   ·first | (rw [cW,hT]<;>rfl) | rfl | (simp [bX,cW,hT, *];done)
   ·first | (rw [cW,hT]<;>rfl) | rfl | (simp [bX,cW,hT, *];done)
 ·replace c0:=nq c0
  have hT:lR x= []:=aOX (by omega)
  refine ⟨cT.imp (fun A w vs h=>by simpa only [pP,aLp,jS,aKR,List.map_nil] using h) (xY (⟨x.name,x.arity,([]:List (List Int))⟩:aV)),?_⟩
  refine ⟨fun g28=>?_,fun g28=>?_⟩
  ·refine ⟨cT.imp (fun A w vs h=>by simpa only [pP,aLp,jS,aKR,List.map_nil] using h) (aJc (⟨x.name,x.arity,([]:List (List Int))⟩:aV)),?_⟩
   refine ⟨uV _ _,?_,?_,?_,?_,trivial⟩
   ·first | (rw [cW,hT]<;>rfl) | rfl | (simp [bX,cW,hT, *];done)
   ·first | (rw [cW,hT]<;>rfl) | rfl | (simp [bX,cW,hT, *];done)
   ·first | (rw [cW,hT]<;>rfl) | rfl | (simp [bX,cW,hT, *];done)
   ·first | (rw [cW,hT]<;>rfl) | rfl | (simp [bX,cW,hT, *];done)
  ·refine ⟨?_,?_,?_,?_,trivial⟩
   ·first | (rw [cW,hT]<;>rfl) | rfl | (simp [bX,cW,hT, *];done)
   ·first | (rw [cW,hT]<;>rfl) | rfl | (simp [bX,cW,hT, *];done)
   ·first | (rw [cW,hT]<;>rfl) | rfl | (simp [bX,cW,hT, *];done)
   ·first | (rw [cW,hT]<;>rfl) | rfl | (simp [bX,cW,hT, *];done)
abbrev aBE (x:aH):Prop:=cT Tryz.prog 151 [.agg [.str x.name,.int .i64 x.arity,.int .i64 x.rowCount,.sl 203 3 (x.groups.map aB)]] (vB (bX x)) []
theorem aLB (x:aH) (hc:bA x≤1048576):aBE x:=by
 refine aT bE aL Tryz.func151 (by kernel_rfl) (bV (qP x)<| .fin []) (p:=(x.groups.map aB).length≤9223372036854775807→uY x∧(bX x)=(bX x)∧True) (by kernel_rfl) ?_
 intro n0
 simp only [List.length_map] at n0
 refine ⟨aGE x (by omega),?_⟩
 exact ⟨rfl,trivial⟩
theorem lW (a:List Int) (l:List (List Int)):cX (a::l)=cX l+1+a.length:=by
 simp only [cX,aBf,cG,List.map_cons,List.sum_cons,List.length_cons]
 omega
theorem aLC (l:List (List Int)): ∀k,cX (l.take k)≤cX l:=by
 induction l with
 | nil=>intro k;simp
 | cons a l ih=>
   intro k
   cases k with
   | zero=>rw [List.take_zero];exact Nat.zero_le _
   | succ k=>rw [List.take_succ_cons,lW,lW];have:=ih k;omega
theorem aLD {row:List Int}: ∀{xs:List (List Int)},cX (lN row xs)≤cX xs+1+row.length
 | []=>by rw [aCM,lW];exact Nat.le_refl _
 | x::xs=>by
   by_cases h:0<cE x row
   ·rw [aCN h,lW];omega
   ·by_cases h' :cE x row=0
    ·rw [aCO h'];omega
    ·rw [aCP h h',lW,lW]
     have:=aLD (row:=row) (xs:=xs)
     omega
theorem aNX {row:List Int}: ∀{xs:List (List Int)},xs.length≤(lN row xs).length
 | []=>by simp
 | x::xs=>by
   by_cases h:0<cE x row
   ·rw [aCN h];simp
   ·by_cases h' :cE x row=0
    ·rw [aCO h'];simp
    ·rw [aCP h h']
     have:=aNX (row:=row) (xs:=xs)
     simp only [List.length_cons];omega
theorem aLE (l:List (List Int)): ∀acc,cX (l.foldl (fun acc x=>lN x acc) acc)≤cX acc+cX l∧acc.length≤(l.foldl (fun acc x=>lN x acc) acc).length:=by
 induction l with
 | nil=>intro acc;simp
 | cons x l ih=>
   intro acc
   obtain ⟨h1,h2⟩:=ih (lN x acc)
   have h3:=aLD (row:=x) (xs:=acc)
   have h4:=aNX (row:=x) (xs:=acc)
   rw [List.foldl_cons,lW]
   exact ⟨by omega,by omega⟩
theorem aLF (l:List (List Int)) (k:Nat):cX (cV (l.take k))≤cX l:=by
 have h1:=(aLE (l.take k) []).1
 have h2:=aLC l k
 have h3:cX ([]:List (List Int))=0:=rfl
 unfold cV
 omega
theorem aJd (l:List (List Int)) (k:Nat):(cV (l.take k)).length≤(cV l).length:=by
 have h:=(aLE (l.drop k) (cV (l.take k))).2
 have e:cV l=(l.drop k).foldl (fun acc x=>lN x acc) (cV (l.take k)):=by
  unfold cV
  rw [←List.foldl_append,List.take_append_drop]
 rw [e];exact h
def nL (name:ByteArray) (arity:Int) (rows:List (List Int)):aV × Bool:=if aO ⟨name,arity,cV rows⟩=true then (⟨name,arity,cV rows⟩,true) else (hZ,false)
theorem dR {name:ByteArray} {arity:Int} {rows:List (List Int)} (h:aO ⟨name,arity,cV rows⟩=true):nL name arity rows=(⟨name,arity,cV rows⟩,true):=by rw [nL,if_pos h]
theorem kA {name:ByteArray} {arity:Int} {rows:List (List Int)} (h:aO ⟨name,arity,cV rows⟩=false):nL name arity rows=(hZ,false):=by rw [nL,if_neg (by rw [h];decide)]
theorem aDi {t:aV} (h:8<t.rows.length):aO t=false:=by
 cases e:aO t with
 | false=>rfl
 | true=>have:=cN e;omega
theorem aLG {name:ByteArray} {arity:Int} {rows:List (List Int)} {k:Nat} {acc:List (List Int)} (ha:acc=cV (rows.take k)) (h:rows.length≤k∨8<acc.length):aO ⟨name,arity,acc⟩=aO ⟨name,arity,cV rows⟩∧(aO ⟨name,arity,acc⟩=true→acc=cV rows):=by
 by_cases h1:8<acc.length
 ·have h2:=aJd rows k
  rw [←ha] at h2
  have q1:=aDi (t:=⟨name,arity,acc⟩) h1
  rw [q1,aDi (t:=⟨name,arity,cV rows⟩) (show 8<(cV rows).length by omega)]
  exact ⟨rfl,fun q=>by cases q⟩
 ·have e:acc=cV rows:=by rw [ha,List.take_of_length_le (by omega)]
  rw [e];exact ⟨rfl,fun _=>rfl⟩
theorem aQl: ∀{l:List (List Int)},(∀i,i+1<l.length→cE (l.getD i []) (l.getD (i+1) [])<0)→Asc l
 | [],_=>List.Pairwise.nil
 | [a],_=>List.pairwise_singleton _ _
 | a::b::l,h=>by
   have ih:=aQl (l:=b::l) fun i hi=>by
    have:=h (i+1) (by simpa using hi)
    simpa using this
   have h0:cE a b<0:=by
    have:=h 0 (by simp)
    simpa using this
   refine List.pairwise_cons.2 ⟨fun y hy=>?_,ih⟩
   rcases List.mem_cons.1 hy with rfl | q
   ·exact h0
   ·exact mX h0 ((List.pairwise_cons.1 ih).1 y q)
theorem aLH {l:List (List Int)} (h:aAv l=true):Asc l:=aQl fun i hi=>by
 have:=List.all_eq_true.1 h i (List.mem_range.2 (by omega))
 simpa [mM] using this
theorem pG {t:aV} (h:aO t=true):t.rows.all (iX t.arity)=true∧eO t.name=true∧aAv t.rows=true:=by
 simp only [aO,Bool.and_eq_true] at h
 exact ⟨h.1,h.2.1,h.2.2.2.2⟩
theorem aDj {l:List (List Int)} (h:Asc l):cV l=l:=by
 obtain ⟨h1,h2,_⟩:=sR l [] List.Pairwise.nil
 exact aEy h1 h fun x=>by have:=h2 x;simpa [cV] using this
theorem pH {t:aV} (h:aO t=true) {r:List Int} (hr:r∈t.rows):(r.length:Int)=t.arity:=by
 have:=List.all_eq_true.1 (pG h).1 r hr
 simp only [iX,Bool.and_eq_true,decide_eq_true_eq] at this
 exact this.2
def aMT (n:Int):List Int:=eZ ((2:Int)^n.toNat - 1)
theorem aSn {n:Int} (hn:1≤n∧n≤3) {r:List Int} (h:(r.length:Int)=n):(fK r (aMT n)).1=r:=by
 have h1:n=1∨n=2∨n=3:=by omega
 rcases h1 with rfl | rfl | rfl
 ·match r,h with
  | [a],_=>rfl
  | [],h=>simp at h
  | _::_::_,h=>simp at h;omega
 ·match r,h with
  | [a,b],_=>rfl
  | [],h=>simp at h
  | [_],h=>simp at h
  | _::_::_::_,h=>simp at h;omega
 ·match r,h with
  | [a,b,c],_=>rfl
  | [],h=>simp at h
  | [_],h=>simp at h
  | [_,_],h=>simp at h
  | _::_::_::_::_,h=>simp at h;omega
theorem aQm {n:Int} (hn:1≤n∧n≤3):dP (n - 1) (aMT n)=true:=by
 have h1:n=1∨n=2∨n=3:=by omega
 rcases h1 with rfl | rfl | rfl<;>decide
theorem aJe {n:Int} (hn:1≤n∧n≤3):0<(bW n).length∧(bW n)[(bW n).length - 1]? =some (aMT n):=by
 have h1:n=1∨n=2∨n=3:=by omega
 rcases h1 with rfl | rfl | rfl<;>decide
theorem aQn {t:aV} (h:aO t=true):(eR t (aMT t.arity)).1=t.rows:=by
 have hT:=cN h
 have hc:=aQm (n:=t.arity) ⟨hT.1,hT.2.1⟩
 rw [fL (by rw [h,hc];rfl)]
 have e:lG t (aMT t.arity)=t.rows:=by
  rw [lG]
  conv=>rhs;rw [←List.map_id t.rows]
  exact List.map_congr_left fun r hr=>aSn ⟨hT.1,hT.2.1⟩ (pH h hr)
 show gK (dT (lG t (aMT t.arity)))=t.rows
 rw [e,←sS,aDj (aLH (pG h).2.2)]
theorem aDk {t:aV} (h:aO t=true):lR (bD t)=t.rows∧(bD t).groups≠[]:=by
 have hT:=cN h
 obtain ⟨h0,h1⟩:=aJe (n:=t.arity) ⟨hT.1,hT.2.1⟩
 rw [bY h]
 constructor
 ·rw [lR]
  show (((bW t.arity).map (tX t)).getD (((bW t.arity).map (tX t)).length - 1) fC).values=t.rows
  rw [List.length_map,bC (x:=tX t (aMT t.arity)) (by rw [List.getElem?_map,h1];rfl)]
  exact aQn h
 ·intro e
  have:((bW t.arity).map (tX t)).length=0:=congrArg List.length e
  rw [List.length_map] at this
  omega
def nM (x:aH):aV × Bool:=if x.groups.length=0 then (hZ,false) else nL x.name x.arity (lR x)
theorem aSo {x:aH} (h:bX x=true):nM x=(cW x,true):=by
 simp only [bX,Bool.and_eq_true,decide_eq_true_eq] at h
 have h2:=(aDk h.1).2
 rw [h.2] at h2
 rw [nM,if_neg (fun e=>h2 (List.eq_nil_of_length_eq_zero e))]
 have e:=aDj (aLH (pG h.1).2.2)
 rw [show (cW x).rows=lR x from rfl] at e
 rw [dR (by rw [e];exact h.1),e];rfl
theorem aOY (x:aH):((nM x).2&&decide (bD (nM x).1=x))=bX x:=by
 cases h:bX x with
 | true=>
   rw [aSo h]
   simp only [bX,Bool.and_eq_true,decide_eq_true_eq] at h
   simp [h.2]
 | false=>
   rw [nM]
   split
   ·rfl
   ·cases e:aO ⟨x.name,x.arity,cV (lR x)⟩ with
    | false=>rw [kA e];rfl
    | true=>
      rw [dR e]
      simp only [Bool.true_and]
      by_cases q:bD ⟨x.name,x.arity,cV (lR x)⟩=x
      ·exfalso
       have h3:=(aDk e).1
       rw [q] at h3
       have h4:cW x=⟨x.name,x.arity,cV (lR x)⟩:=by
        rw [cW]
        congr 1
       rw [bX,h4,e,q] at h
       simp at h
      ·simp [q]
theorem tY {x:aH} (h:bX x=true):aO (cW x)=true∧bD (cW x)=x:=by
 simpa only [bX,Bool.and_eq_true,decide_eq_true_eq] using h
theorem aGF {x:aH} (h:bX x=true):x.groups=(bW x.arity).map (tX (cW x)):=by
 obtain ⟨h1,h2⟩:=tY h
 rw [bY h1] at h2
 exact (congrArg aH.groups h2).symm
theorem aOZ {x:aH} (h:bX x=true):x.rowCount=((lR x).length:Nat):=by
 obtain ⟨h1,h2⟩:=tY h
 rw [bY h1] at h2
 exact (congrArg aH.rowCount h2).symm
theorem aAL {x:aH} (h:bX x=true):1≤x.arity∧x.arity≤3:=by
 have:=cN (tY h).1
 exact ⟨this.1,this.2.1⟩
theorem aJf {α:Type} {p:α→Bool} {l:List α} {k:Nat} {x:α} (h:l[k]? =some x) (ha:(l.take k).all (fun y=> !p y)=true) (hx:p x=true):l.find? p=some x:=by
 rw [List.find?_eq_some_iff_getElem]
 obtain ⟨hk,rfl⟩:=List.getElem?_eq_some_iff.1 h
 refine ⟨hx,k,hk,rfl,fun j hj=>?_⟩
 have:=List.all_eq_true.1 ha l[j] (List.mem_iff_getElem.2 ⟨j,by simp;omega,by simp⟩)
 exact this
theorem aEz {α:Type} {p:α→Bool} {l:List α} (ha:l.all (fun y=> !p y)=true):l.find? p=none:=by
 rw [List.find?_eq_none]
 intro x hx
 have:=List.all_eq_true.1 ha x hx
 simpa using this
def iB (l:List aV) (i:Nat):Bool:=Op.bytesLess (l.getD i hZ).name.toList (l.getD (i+1) hZ).name.toList
def gM (d:aS):Bool:=d.tables.all aO&&((List.range (d.tables.length - 1)).all (iB d.tables)&&decide ((d.tables.length:Int)≤6))
abbrev aDN (t:aS):Prop:=cT Tryz.prog 175 [.agg [.sl 167 3 (t.tables.map aR)]] (vB (gM t)) []
theorem aNY (t:aS):aDN t:=by
 refine aT bE aL Tryz.func175 (by kernel_rfl) (.len t.tables.length<| .loop Nat (Q1 Nat) [3,4,8,9,10,11,12,13,14,15,16,17,18,19,20,21,22,23,24,25,26,27,28,29,30,31,32] [400] (fun k=>[(8,vI (k:Int))]) (fun k=>[]) (fun k=>k≤t.tables.length∧(t.tables.take k).all aO=true∧(List.range (k - 1)).all (iB t.tables)=true) (fun k=>t.tables.length - k) (fun k=> .br (.elem _ aR t.tables (fun e11=> .call (vB (aO e11)) []<| .br (.fin []) (.lit<| .lit<| .br (.elem _ aR t.tables (fun e24=> .lit<| .lit<| .lit<| .lit<| .lit<| .lit<| .lit<| .lit<| .br (.fin []) (.back []))) (.back [])))) (.len t.tables.length<| .fin []))) (p:=(t.tables.map aR).length≤9223372036854775807→Lm aR t.tables∧((∃(k:Nat),(0:Int)=(k:Int)∧k≤t.tables.length∧(t.tables.take k).all aO=true∧(List.range (k - 1)).all (iB t.tables)=true)∧ ∀(k:Nat),(k≤t.tables.length∧(t.tables.take k).all aO=true∧(List.range (k - 1)).all (iB t.tables)=true)→((decide ((k:Int)<((t.tables.length:Nat):Int)))=true→0≤(k:Int)∧Em aR t.tables k fun e11=>rP e11∧(((!(aO e11))=true→(false)=(gM t)∧True)∧((!(aO e11))=false→((decide ((0:Int)<(k:Int)))=true→cC ((k:Int) - (1:Int))∧(0≤((k:Int) - (1:Int))∧Em aR t.tables (((k:Int) - (1:Int)).toNat) fun e24=>((!(Op.bytesLess e24.name.toList e11.name.toList))=true→(false)=(gM t)∧True)∧((!(Op.bytesLess e24.name.toList e11.name.toList))=false→cC ((k:Int)+(1:Int))∧ ∃(k' :Nat),((k:Int)+(1:Int))=(k' :Int)∧(k' ≤t.tables.length∧(t.tables.take k').all aO=true∧(List.range (k' - 1)).all (iB t.tables)=true)∧t.tables.length - k' <t.tables.length - k)))∧((decide ((0:Int)<(k:Int)))=false→cC ((k:Int)+(1:Int))∧ ∃(k' :Nat),((k:Int)+(1:Int))=(k' :Int)∧(k' ≤t.tables.length∧(t.tables.take k').all aO=true∧(List.range (k' - 1)).all (iB t.tables)=true)∧t.tables.length - k' <t.tables.length - k))))∧((decide ((k:Int)<((t.tables.length:Nat):Int)))=false→Lm aR t.tables∧(decide (((t.tables.length:Nat):Int)≤(6:Int)))=(gM t)∧True))) (by kernel_rfl) ?_
 intro n0
 simp only [List.length_map] at n0
 refine ⟨List.length_map _,⟨0,rfl,Nat.zero_le _,rfl,rfl⟩,fun k ⟨hk,ha,hs⟩=>?_⟩
 refine ⟨fun c0=>?_,fun c0=>?_⟩
 ·replace c0:=yq c0
  refine ⟨by omega,rfl,by omega,fun e11 h11=>?_⟩
  refine ⟨xY e11,fun g16=>?_,fun g16=>?_⟩
  ·replace g16:=nt g16
   refine ⟨?_,trivial⟩
   ·first | (rw [gM,bU h11 g16];rfl) | (rw [gM,hz];simp [*];done) | (rw [gM,hz];simp;done)
  ·replace g16:=nf g16
   refine ⟨fun g19=>?_,fun g19=>?_⟩
   ·replace g19:=yq g19
    refine ⟨⟨by omega,by omega⟩,by omega,rfl,by omega,fun e24 h24=>?_⟩
    have i1:t.tables[k - 1]? =some e24:=by rw [←h24];congr 1;omega
    refine ⟨fun c1=>?_,fun c1=>?_⟩
    ·replace c1:=nt c1
     have hp:iB t.tables (k - 1)=false:=by rw [iB,bC i1,show k - 1+1=k by omega,bC h11];simpa using c1
     have hz:(List.range (t.tables.length - 1)).all (iB t.tables)=false:=gH (by omega) hp
     refine ⟨?_,trivial⟩
     ·first | (rw [gM,bU h11 g16];rfl) | (rw [gM,hz];simp [*];done) | (rw [gM,hz];simp;done)
    ·replace c1:=nf c1
     have hp:iB t.tables (k - 1)=true:=by rw [iB,bC i1,show k - 1+1=k by omega,bC h11];simpa using c1
     have hs2:(List.range (k+1 - 1)).all (iB t.tables)=true:=by rw [show k+1 - 1=(k - 1)+1 by omega];exact kH hs hp
     refine ⟨⟨by omega,by omega⟩,?_⟩
     exact ⟨k+1,rfl,⟨by omega,cR h11 ha g16,hs2⟩,by omega⟩
   ·replace g19:=nq g19
    have hs2:(List.range (k+1 - 1)).all (iB t.tables)=true:=by rw [show k=0 by omega];rfl
    refine ⟨⟨by omega,by omega⟩,?_⟩
    exact ⟨k+1,rfl,⟨by omega,cR h11 ha g16,hs2⟩,by omega⟩
 ·replace c0:=nq c0
  have hall:=bB (by omega) ha
  have hz:(List.range (t.tables.length - 1)).all (iB t.tables)=true:=by rw [show t.tables.length - 1=k - 1 by omega,hs]
  refine ⟨List.length_map _,?_,trivial⟩
  ·first | (rw [gM,bU h11 g16];rfl) | (rw [gM,hz];simp [*];done) | (rw [gM,hz];simp;done)
abbrev aDO (t:aS):Prop:=cT Tryz.prog 192 [.agg [.sl 167 3 (t.tables.map aR)]] (vB (gM t)) []
theorem aNZ (t:aS):aDO t:=by
 refine aT bE aL Tryz.func192 (by kernel_rfl) (.loop Nat (Q1 Nat) [3,4,5,6,7,8,9,10,11,12,13,14,15,16,17,18,19,20,21,22,23,24,25,26,27,28,29,30,31,32,33,34,35,36,37] [] (fun k=>[(3,vI (k:Int))]) (fun k=>[]) (fun k=>k≤t.tables.length∧(t.tables.take k).all aO=true∧(List.range (k - 1)).all (iB t.tables)=true) (fun k=>t.tables.length - k) (fun k=> .len t.tables.length<| .br (.elem _ aR t.tables (fun e14=> .call (vB (aO e14)) []<| .br (.fin []) (.lit<| .lit<| .br (.elem _ aR t.tables (fun e26=> .elem _ aR t.tables (fun e32=> .lit<| .lit<| .lit<| .lit<| .lit<| .lit<| .br (.fin []) (.back [])))) (.back [])))) (.len t.tables.length<| .fin []))) (p:=(t.tables.map aR).length≤9223372036854775807→(∃(k:Nat),(0:Int)=(k:Int)∧k≤t.tables.length∧(t.tables.take k).all aO=true∧(List.range (k - 1)).all (iB t.tables)=true)∧ ∀(k:Nat),(k≤t.tables.length∧(t.tables.take k).all aO=true∧(List.range (k - 1)).all (iB t.tables)=true)→Lm aR t.tables∧(((decide ((k:Int)<((t.tables.length:Nat):Int)))=true→0≤(k:Int)∧Em aR t.tables k fun e14=>oT e14∧(((!(aO e14))=true→(false)=(gM t)∧True)∧((!(aO e14))=false→((decide ((0:Int)<(k:Int)))=true→cC ((k:Int) - (1:Int))∧(0≤((k:Int) - (1:Int))∧Em aR t.tables (((k:Int) - (1:Int)).toNat) fun e26=>0≤(k:Int)∧Em aR t.tables k fun e32=>((!(Op.bytesLess e26.name.toList e32.name.toList))=true→(false)=(gM t)∧True)∧((!(Op.bytesLess e26.name.toList e32.name.toList))=false→cC ((k:Int)+(1:Int))∧ ∃(k' :Nat),((k:Int)+(1:Int))=(k' :Int)∧(k' ≤t.tables.length∧(t.tables.take k').all aO=true∧(List.range (k' - 1)).all (iB t.tables)=true)∧t.tables.length - k' <t.tables.length - k)))∧((decide ((0:Int)<(k:Int)))=false→cC ((k:Int)+(1:Int))∧ ∃(k' :Nat),((k:Int)+(1:Int))=(k' :Int)∧(k' ≤t.tables.length∧(t.tables.take k').all aO=true∧(List.range (k' - 1)).all (iB t.tables)=true)∧t.tables.length - k' <t.tables.length - k))))∧((decide ((k:Int)<((t.tables.length:Nat):Int)))=false→Lm aR t.tables∧(decide (((t.tables.length:Nat):Int)≤(6:Int)))=(gM t)∧True))) (by kernel_rfl) ?_
 intro n0
 simp only [List.length_map] at n0
 refine ⟨⟨0,rfl,Nat.zero_le _,rfl,rfl⟩,fun k ⟨hk,ha,hs⟩=>?_⟩
 refine ⟨List.length_map _,fun c0=>?_,fun c0=>?_⟩
 ·replace c0:=yq c0
  refine ⟨by omega,rfl,by omega,fun e14 h14=>?_⟩
  refine ⟨xZ e14,fun g18=>?_,fun g18=>?_⟩
  ·replace g18:=nt g18
   refine ⟨?_,trivial⟩
   ·first | (rw [gM,bU h14 g18];rfl) | (rw [gM,hz];simp [*];done) | (rw [gM,hz];simp;done)
  ·replace g18:=nf g18
   refine ⟨fun g21=>?_,fun g21=>?_⟩
   ·replace g21:=yq g21
    refine ⟨⟨by omega,by omega⟩,by omega,rfl,by omega,fun e26 h26=>?_⟩
    have i1:t.tables[k - 1]? =some e26:=by rw [←h26];congr 1;omega
    refine ⟨by omega,rfl,by omega,fun e32 h32=>?_⟩
    refine ⟨fun c1=>?_,fun c1=>?_⟩
    ·replace c1:=nt c1
     have hp:iB t.tables (k - 1)=false:=by rw [iB,bC i1,show k - 1+1=k by omega,bC h32];simpa using c1
     have hz:(List.range (t.tables.length - 1)).all (iB t.tables)=false:=gH (by omega) hp
     refine ⟨?_,trivial⟩
     ·first | (rw [gM,bU h14 g18];rfl) | (rw [gM,hz];simp [*];done) | (rw [gM,hz];simp;done)
    ·replace c1:=nf c1
     have hp:iB t.tables (k - 1)=true:=by rw [iB,bC i1,show k - 1+1=k by omega,bC h32];simpa using c1
     have hs2:(List.range (k+1 - 1)).all (iB t.tables)=true:=by rw [show k+1 - 1=(k - 1)+1 by omega];exact kH hs hp
     refine ⟨⟨by omega,by omega⟩,?_⟩
     exact ⟨k+1,rfl,⟨by omega,cR h14 ha g18,hs2⟩,by omega⟩
   ·replace g21:=nq g21
    have hs2:(List.range (k+1 - 1)).all (iB t.tables)=true:=by rw [show k=0 by omega];rfl
    refine ⟨⟨by omega,by omega⟩,?_⟩
    exact ⟨k+1,rfl,⟨by omega,cR h14 ha g18,hs2⟩,by omega⟩
 ·replace c0:=nq c0
  have hall:=bB (by omega) ha
  have hz:(List.range (t.tables.length - 1)).all (iB t.tables)=true:=by rw [show t.tables.length - 1=k - 1 by omega,hs]
  refine ⟨List.length_map _,?_,trivial⟩
  ·first | (rw [gM,bU h14 g18];rfl) | (rw [gM,hz];simp [*];done) | (rw [gM,hz];simp;done)
end Go.Proofs.YtdfebigfnjfgpaaGreat
