/-
  Contracts and plain laws, joined: part 10.
-/
import Derived.Test.YtokkjaflmcjlhaaGreatQD8
import Derived.Test.YtokkjaflmcjlhaaGreatQD7
import Derived.Test.YtokkjaflmcjlhaaGreatQD5
import Derived.IntWalk
import Derived.Test.YtokkjaflmcjlhaaGreatQD3
import Derived.Shelf.Sort.Plain
import Derived.Shelf.Slices.In.SortNone
import Derived.Sort.OwnSortedInts
namespace Go.Proofs.YtokkjaflmcjlhaaGreat
open Go.ChangeShapes Go.WideShapes Go.ChangeAt Go.RowKit
set_option linter.unusedVariables false
set_option linter.unusedSimpArgs false
set_option maxRecDepth 100000
set_option maxHeartbeats 4000000
def fC (d:aT) (v:Int):bS × Bool:=if (fM d&&dY v 1 999)=true then (⟨v,d.tables.map bB⟩,true) else (aFT,false)
theorem cC {d:aT} {v:Int} (h:(fM d&&dY v 1 999)=true):fC d v=(⟨v,d.tables.map bB⟩,true):=by rw [fC,if_pos h]
theorem fP {d:aT} {v:Int} (h:(fM d&&dY v 1 999)=false):fC d v=(aFT,false):=by rw [fC,if_neg (by rw [h];decide)]
theorem aFg {d:aT} (h:fM d=true):d.tables.length≤6:=by
 simp only [fM,Bool.and_eq_true,decide_eq_true_eq] at h
 omega
abbrev aBC (d:aT) (v:Int):AV × List (Nat × Rs):=(.tup [.agg [vI (((fC d v).1).version),.own 0],vB ((fC d v).2)],[(0,.arr 121 4 true ((((fC d v).1).tables).map aA))])
abbrev aFh (d:aT) (v:Int):Prop:=cU Tryz.prog 76 [.agg [.sl 162 3 (d.tables.map aL)],.one (.int .i64 v)] (aBC d v).1 (aBC d v).2
theorem aPx (d:aT) (v:Int):aFh d v:=by
 refine aV bF aS Tryz.func76 (by kernel_rfl) (.call (vB (fM d)) []<| .br (.fin []) (.call (vB (dY v (1:Int) (999:Int))) []<| .lit<| .lit<| .br (.fin []) (.len d.tables.length<| .loop (Nat × (List aC)) (Q2 Nat (List aC)) [8,23,24,25,26,27,28,29,30,31,32,33,34] [600,800,3000,3100,3200,9000] (fun yy0=>[(23,vI (yy0.1:Int))]) (fun yy0=>[(600,some (.box 42 [vI v,.own 9000])),(9000,some (.arr 121 4 true (yy0.2.map aA)))]) (fun yy0=>yy0.1≤d.tables.length∧yy0.2=(d.tables.take yy0.1).map bB) (fun yy0=>d.tables.length - yy0.1) (fun yy0=> .br (.elem _ aL d.tables (fun e25=>bP (aAP e25)<| .appx aC aA yy0.2 (bB e25)<| .back [(600,600),(9000,3200)])) (.fin [(0,9000)]))))) (p:=(d.tables.map aL).length≤9223372036854775807→aDH d∧(((!(fM d))=true→(0:Int)=(((fC d v).1).version)∧(false)=((fC d v).2)∧[]=(((fC d v).1).tables).map aA∧True)∧((!(fM d))=false→fU v (1:Int) (999:Int)∧(((!(dY v (1:Int) (999:Int)))=true→(0:Int)=(((fC d v).1).version)∧(false)=((fC d v).2)∧[]=(((fC d v).1).tables).map aA∧True)∧((!(dY v (1:Int) (999:Int)))=false→Lm aL d.tables∧((∃(k:Nat) (out:List aC),(0:Int)=(k:Int)∧v=v∧[]=out.map aA∧k≤d.tables.length∧out=(d.tables.take k).map bB)∧ ∀(k:Nat) (out:List aC),(k≤d.tables.length∧out=(d.tables.take k).map bB)→((decide ((k:Int)<((d.tables.length:Nat):Int)))=true→0≤(k:Int)∧Em aL d.tables k fun e25=>aDF e25∧out.map aA=out.map aA∧((bB e25).name)=((bB e25).name)∧((bB e25).arity)=((bB e25).arity)∧((bB e25).rowCount)=((bB e25).rowCount)∧((bB e25).groups).map aB=((bB e25).groups).map aB∧(out.length+1)*56≤140737488355328∧cG ((k:Int)+(1:Int))∧ ∃(k' :Nat) (out' :List aC),((k:Int)+(1:Int))=(k' :Int)∧v=v∧(out++[(bB e25)]).map aA=out'.map aA∧(k' ≤d.tables.length∧out' =(d.tables.take k').map bB)∧d.tables.length - k' <d.tables.length - k)∧((decide ((k:Int)<((d.tables.length:Nat):Int)))=false→v=(((fC d v).1).version)∧(true)=((fC d v).2)∧out.map aA=(((fC d v).1).tables).map aA∧True))))))) (by kernel_rfl) ?_
 intro n0
 simp only [List.length_map] at n0
 refine ⟨aM9 d,fun g12=>?_,fun g12=>?_⟩
 ·replace g12:=nt g12
  have hbad:(fM d&&dY v 1 999)=false:=by simp_all
  refine ⟨?_,?_,?_,trivial⟩
  ·first | (rw [fP hbad]<;>rfl) | (rw [cC hok]<;>rfl) | (rw [cC hok,ho,List.take_of_length_le (by omega)])
  ·first | (rw [fP hbad]<;>rfl) | (rw [cC hok]<;>rfl) | (rw [cC hok,ho,List.take_of_length_le (by omega)])
  ·first | (rw [fP hbad]<;>rfl) | (rw [cC hok]<;>rfl) | (rw [cC hok,ho,List.take_of_length_le (by omega)])
 ·replace g12:=nf g12
  refine ⟨kE _ _ _,fun c0=>?_,fun c0=>?_⟩
  ·replace c0:=nt c0
   have hbad:(fM d&&dY v 1 999)=false:=by simp_all
   refine ⟨?_,?_,?_,trivial⟩
   ·first | (rw [fP hbad]<;>rfl) | (rw [cC hok]<;>rfl) | (rw [cC hok,ho,List.take_of_length_le (by omega)])
   ·first | (rw [fP hbad]<;>rfl) | (rw [cC hok]<;>rfl) | (rw [cC hok,ho,List.take_of_length_le (by omega)])
   ·first | (rw [fP hbad]<;>rfl) | (rw [cC hok]<;>rfl) | (rw [cC hok,ho,List.take_of_length_le (by omega)])
  ·replace c0:=nf c0
   have hok:(fM d&&dY v 1 999)=true:=by simp_all
   have h6:=aFg (by simp_all:fM d=true)
   refine ⟨List.length_map _,⟨0,([]:List aC),rfl,rfl,rfl,Nat.zero_le _,rfl⟩,fun k out ⟨hk,ho⟩=>?_⟩
   refine ⟨fun c1=>?_,fun c1=>?_⟩
   ·replace c1:=yq c1
    refine ⟨by omega,rfl,by omega,fun e25 h25=>?_⟩
    refine ⟨aIy e25,rfl,rfl,rfl,rfl,rfl,by first | omega | (simp [ho];omega),⟨by omega,by omega⟩,?_⟩
    exact ⟨k+1,_,rfl,rfl,rfl,⟨by omega,by rw [ho,cN h25,List.map_append];rfl⟩,by omega⟩
   ·replace c1:=nq c1
    refine ⟨?_,?_,?_,trivial⟩
    ·first | (rw [fP hbad]<;>rfl) | (rw [cC hok]<;>rfl) | (rw [cC hok,ho,List.take_of_length_le (by omega)])
    ·first | (rw [fP hbad]<;>rfl) | (rw [cC hok]<;>rfl) | (rw [cC hok,ho,List.take_of_length_le (by omega)])
    ·first | (rw [fP hbad]<;>rfl) | (rw [cC hok]<;>rfl) | (rw [cC hok,ho,List.take_of_length_le (by omega)])
abbrev aBD (d:aT) (v:Int):AV × List (Nat × Rs):=(.tup [.agg [vI (((fC d v).1).version),.own 0],vB ((fC d v).2)],[(0,.arr 121 4 true ((((fC d v).1).tables).map aA))])
abbrev aFi (d:aT) (v:Int):Prop:=cU Tryz.prog 66 [.agg [.sl 162 3 (d.tables.map aL)],.one (.int .i64 v)] (aBD d v).1 (aBD d v).2
theorem aPy (d:aT) (v:Int):aFi d v:=by
 refine aV bF aS Tryz.func66 (by kernel_rfl) (.call (vB (fM d)) []<| .br (.fin []) (.call (vB (dY v (1:Int) (999:Int))) []<| .lit<| .lit<| .br (.fin []) (.loop (Nat × (List aC)) (Q2 Nat (List aC)) [7,8,20,21,22,23,24,25,26,27,28,29,30,31,32,33,34,35,36,37,38] [600,800,3200,3600,3700,9000] (fun yy0=>[(7,vI (yy0.1:Int))]) (fun yy0=>[(600,some (.box 42 [vI v,.own 9000])),(9000,some (.arr 121 4 true (yy0.2.map aA)))]) (fun yy0=>yy0.1≤d.tables.length∧yy0.2=(d.tables.take yy0.1).map bB) (fun yy0=>d.tables.length - yy0.1) (fun yy0=> .len d.tables.length<| .br (.elem _ aL d.tables (fun e30=>bP (aAQ e30)<| .appx aC aA yy0.2 (bB e30)<| .back [(600,600),(9000,3700)])) (.fin [(0,9000)]))))) (p:=(d.tables.map aL).length≤9223372036854775807→aDI d∧(((!(fM d))=true→(0:Int)=(((fC d v).1).version)∧(false)=((fC d v).2)∧[]=(((fC d v).1).tables).map aA∧True)∧((!(fM d))=false→fB v (1:Int) (999:Int)∧(((!(dY v (1:Int) (999:Int)))=true→(0:Int)=(((fC d v).1).version)∧(false)=((fC d v).2)∧[]=(((fC d v).1).tables).map aA∧True)∧((!(dY v (1:Int) (999:Int)))=false→(∃(k:Nat) (out:List aC),(0:Int)=(k:Int)∧v=v∧[]=out.map aA∧k≤d.tables.length∧out=(d.tables.take k).map bB)∧ ∀(k:Nat) (out:List aC),(k≤d.tables.length∧out=(d.tables.take k).map bB)→Lm aL d.tables∧(((decide ((k:Int)<((d.tables.length:Nat):Int)))=true→0≤(k:Int)∧Em aL d.tables k fun e30=>aDG e30∧out.map aA=out.map aA∧((bB e30).name)=((bB e30).name)∧((bB e30).arity)=((bB e30).arity)∧((bB e30).rowCount)=((bB e30).rowCount)∧((bB e30).groups).map aB=((bB e30).groups).map aB∧(out.length+1)*56≤140737488355328∧cG ((k:Int)+(1:Int))∧ ∃(k' :Nat) (out' :List aC),((k:Int)+(1:Int))=(k' :Int)∧v=v∧(out++[(bB e30)]).map aA=out'.map aA∧(k' ≤d.tables.length∧out' =(d.tables.take k').map bB)∧d.tables.length - k' <d.tables.length - k)∧((decide ((k:Int)<((d.tables.length:Nat):Int)))=false→v=(((fC d v).1).version)∧(true)=((fC d v).2)∧out.map aA=(((fC d v).1).tables).map aA∧True))))))) (by kernel_rfl) ?_
 intro n0
 simp only [List.length_map] at n0
 refine ⟨aMa d,fun g12=>?_,fun g12=>?_⟩
 ·replace g12:=nt g12
  have hbad:(fM d&&dY v 1 999)=false:=by simp_all
  refine ⟨?_,?_,?_,trivial⟩
  ·first | (rw [fP hbad]<;>rfl) | (rw [cC hok]<;>rfl) | (rw [cC hok,ho,List.take_of_length_le (by omega)])
  ·first | (rw [fP hbad]<;>rfl) | (rw [cC hok]<;>rfl) | (rw [cC hok,ho,List.take_of_length_le (by omega)])
  ·first | (rw [fP hbad]<;>rfl) | (rw [cC hok]<;>rfl) | (rw [cC hok,ho,List.take_of_length_le (by omega)])
 ·replace g12:=nf g12
  refine ⟨iW _ _ _,fun c0=>?_,fun c0=>?_⟩
  ·replace c0:=nt c0
   have hbad:(fM d&&dY v 1 999)=false:=by simp_all
   refine ⟨?_,?_,?_,trivial⟩
   ·first | (rw [fP hbad]<;>rfl) | (rw [cC hok]<;>rfl) | (rw [cC hok,ho,List.take_of_length_le (by omega)])
   ·first | (rw [fP hbad]<;>rfl) | (rw [cC hok]<;>rfl) | (rw [cC hok,ho,List.take_of_length_le (by omega)])
   ·first | (rw [fP hbad]<;>rfl) | (rw [cC hok]<;>rfl) | (rw [cC hok,ho,List.take_of_length_le (by omega)])
  ·replace c0:=nf c0
   have hok:(fM d&&dY v 1 999)=true:=by simp_all
   have h6:=aFg (by simp_all:fM d=true)
   refine ⟨⟨0,([]:List aC),rfl,rfl,rfl,Nat.zero_le _,rfl⟩,fun k out ⟨hk,ho⟩=>?_⟩
   refine ⟨List.length_map _,fun c1=>?_,fun c1=>?_⟩
   ·replace c1:=yq c1
    refine ⟨by omega,rfl,by omega,fun e30 h30=>?_⟩
    refine ⟨aM7 e30,rfl,rfl,rfl,rfl,rfl,by first | omega | (simp [ho];omega),⟨by omega,by omega⟩,?_⟩
    exact ⟨k+1,_,rfl,rfl,rfl,⟨by omega,by rw [ho,cN h30,List.map_append];rfl⟩,by omega⟩
   ·replace c1:=nq c1
    refine ⟨?_,?_,?_,trivial⟩
    ·first | (rw [fP hbad]<;>rfl) | (rw [cC hok]<;>rfl) | (rw [cC hok,ho,List.take_of_length_le (by omega)])
    ·first | (rw [fP hbad]<;>rfl) | (rw [cC hok]<;>rfl) | (rw [cC hok,ho,List.take_of_length_le (by omega)])
    ·first | (rw [fP hbad]<;>rfl) | (rw [cC hok]<;>rfl) | (rw [cC hok,ho,List.take_of_length_le (by omega)])
theorem aFj {α:Type} {c:α→Nat} {m:Nat} {l:List α} (h: ∀x∈l,c x≤m):xB c l≤l.length+l.length*m:=by
 have h1:=aAw (ct:=c) (m:=m) (l:=l) h
 have h2:xB c l=l.length+bO c l:=rfl
 omega
theorem aNg (t:aR) (cols:List Int):cI (hZ t cols).1≤64∧(hZ t cols).2.length≤8:=by
 cases h:(aQ t&&dG (t.arity - 1) cols) with
 | false=>rw [nC h];exact ⟨by decide,by decide⟩
 | true=>
   have:=aIx (k:=(lB t cols).length) h
   rw [List.take_length,yQ] at this
   rw [eX h]
   exact ⟨this.2,by simp only [aPi,List.length_map,aPh];exact this.1⟩
theorem aJC {t:aR} (h:aQ t=true):t.name.size=1:=by
 simp only [aQ,dW,Bool.and_eq_true,decide_eq_true_eq] at h
 omega
theorem aDg (t:aR):bA (bB t)≤2000:=by
 cases h:aQ t with
 | false=>rw [eR h];decide
 | true=>
   have hT:=cD h
   have hn:=aJC h
   have hl:=yV (n:=t.arity) ⟨hT.1,hT.2.1⟩
   rw [bQ h]
   have h1:=aFj (c:=bH) (m:=75) (l:=(bN t.arity).map (xC t)) fun x hx=>by
    obtain ⟨c,hc,rfl⟩:=List.mem_map.1 hx
    obtain ⟨k,hk,hc⟩:=List.mem_iff_getElem.1 hc
    have h3:=aBA (List.getElem?_eq_some_iff.2 ⟨hk,hc⟩)
    have h4:=aNg t c
    have h5:bH (xC t c)=c.length+cI (hZ t c).1+(hZ t c).2.length:=rfl
    omega
   rw [List.length_map] at h1
   have h2:bA ⟨t.name,t.arity,(t.rows.length:Nat),(bN t.arity).map (xC t)⟩=t.name.size+xB bH ((bN t.arity).map (xC t)):=rfl
   omega
theorem aHz (d:aT) (v:Int):bL (fC d v).1≤20000:=by
 cases h:(fM d&&dY v 1 999) with
 | false=>rw [fP h];decide
 | true=>
   have h6:=aFg (by simp_all:fM d=true)
   rw [cC h]
   have h1:=aFj (c:=bA) (m:=2000) (l:=d.tables.map bB) fun x hx=>by
    obtain ⟨t,_,rfl⟩:=List.mem_map.1 hx
    exact aDg t
   rw [List.length_map] at h1
   have h2:bL ⟨v,d.tables.map bB⟩=xB bA (d.tables.map bB):=rfl
   show bL ⟨v,d.tables.map bB⟩≤20000
   omega
def dB {α:Type} (p:α→Bool) (l:List α):Int:=match l.findIdx? p with | some k=>(k:Int) | none=> -1
theorem aAR {α:Type} {p:α→Bool} {l:List α} {k:Nat} {x:α} (h:l[k]? =some x) (ha:(l.take k).all (fun y=> !p y)=true) (hx:p x=true):dB p l=(k:Int):=by
 obtain ⟨hk,rfl⟩:=List.getElem?_eq_some_iff.1 h
 have:l.findIdx? p=some k:=by
  rw [List.findIdx?_eq_some_iff_getElem]
  refine ⟨hk,hx,fun j hj=>?_⟩
  have:=List.all_eq_true.1 ha l[j] (List.mem_iff_getElem.2 ⟨j,by rw [List.length_take];omega,by rw [List.getElem_take]⟩)
  simpa using this
 rw [dB,this]
theorem uZ {α:Type} {p:α→Bool} {l:List α} (ha:l.all (fun y=> !p y)=true):dB p l= -1:=by
 have:l.findIdx? p=none:=by
  rw [List.findIdx?_eq_none_iff]
  intro x hx
  have:=List.all_eq_true.1 ha x hx
  simpa using this
 rw [dB,this]
theorem aPz {α:Type} {p:α→Bool} {l:List α} (h:0≤dB p l): ∃(k:Nat) (x:α),dB p l=(k:Int)∧l[k]? =some x∧p x=true∧k<l.length:=by
 unfold dB at*
 cases e:l.findIdx? p with
 | none=>rw [e] at h;exact absurd h (by decide)
 | some k=>
   rw [List.findIdx?_eq_some_iff_getElem] at e
   obtain ⟨hk,hx,_⟩:=e
   exact ⟨k,l[k],rfl,List.getElem?_eq_getElem hk,hx,hk⟩
theorem aRg {α:Type} (p:α→Bool) (l:List α): -1≤dB p l∧dB p l<(l.length:Int):=by
 by_cases h:0≤dB p l
 ·obtain ⟨k,x,h1,_,_,h4⟩:=aPz h
  omega
 ·unfold dB at*
  cases e:l.findIdx? p with
  | none=>simp only;omega
  | some k=>rw [e] at h;simp only at h;omega
abbrev aBE (t:aR):AV × List (Nat × Rs):=(.agg [.p none (.str t.name),vI t.arity,.own 0],[(0,.arr 32 1 true (t.rows.map aF))])
abbrev aFk (t:aR):Prop:=cU Tryz.prog 220 [.agg [.str t.name,.int .i64 t.arity,.sl 32 1 (t.rows.map aF)]] (aBE t).1 (aBE t).2
theorem aQA (t:aR) (hc:eQ t≤1048576):aFk t:=by
 refine aV bF aS Tryz.func220 (by kernel_rfl) (bP (aHt t.rows)<| .fin [(0,500)]) (p:=(t.rows.map aF).length≤9223372036854775807→aKE t.rows∧t.name=t.name∧t.arity=t.arity∧t.rows.map aF=t.rows.map aF∧True) (by kernel_rfl) ?_
 intro n0
 simp only [List.length_map] at n0
 have q1:eQ t=t.name.size+cI t.rows:=rfl
 have q2:=gA t.rows
 refine ⟨cpR _ (by omega),?_⟩
 exact ⟨rfl,rfl,rfl,trivial⟩
abbrev aBF (t:aR):AV × List (Nat × Rs):=(.agg [.p none (.str t.name),vI t.arity,.own 0],[(0,.arr 32 1 true (t.rows.map aF))])
abbrev aFl (t:aR):Prop:=cU Tryz.prog 205 [.agg [.str t.name,.int .i64 t.arity,.sl 32 1 (t.rows.map aF)]] (aBF t).1 (aBF t).2
theorem aQB (t:aR) (hc:eQ t≤1048576):aFl t:=by
 refine aV bF aS Tryz.func205 (by kernel_rfl) (.loop (Nat × (List (List Int))) (Q2 Nat (List (List Int))) [4,10,11,12,13,14,15,16,17,18,19,20,21,22,23,24,25,26,27,28] [300,1900,2500,2600,2700,9000] (fun yy0=>[(4,vI (yy0.1:Int))]) (fun yy0=>[(300,some (.box 162 [.p none (.str t.name),vI t.arity,.own 9000])),(9000,some (.arr 32 1 true (yy0.2.map aF)))]) (fun yy0=>yy0.1≤t.rows.length∧yy0.2=t.rows.take yy0.1) (fun yy0=>t.rows.length - yy0.1) (fun yy0=> .len t.rows.length<| .br (.elem _ aF t.rows (fun e23=> .app Int intD ([]:List Int) e23<| .appx (List Int) aF yy0.2 (([]:List Int)++e23)<| .back [(300,300),(9000,2700)])) (.fin [(0,9000)]))) (p:=(t.rows.map aF).length≤9223372036854775807→(∃(k:Nat) (out:List (List Int)),(0:Int)=(k:Int)∧t.name=t.name∧t.arity=t.arity∧[]=out.map aF∧k≤t.rows.length∧out=t.rows.take k)∧ ∀(k:Nat) (out:List (List Int)),(k≤t.rows.length∧out=t.rows.take k)→Lm aF t.rows∧(((decide ((k:Int)<((t.rows.length:Nat):Int)))=true→0≤(k:Int)∧Em aF t.rows k fun e23=>[]=([]:List Int).map intD∧e23.map intD=e23.map intD∧(∀x,eK (intD x)=true)∧(([]:List Int).length+e23.length)*8≤140737488355328∧out.map aF=out.map aF∧(([]:List Int)++e23).map intD=(([]:List Int)++e23).map intD∧(out.length+1)*24≤140737488355328∧cG ((k:Int)+(1:Int))∧ ∃(k' :Nat) (out' :List (List Int)),((k:Int)+(1:Int))=(k' :Int)∧t.name=t.name∧t.arity=t.arity∧(out++[([]:List Int)++e23]).map aF=out'.map aF∧(k' ≤t.rows.length∧out' =t.rows.take k')∧t.rows.length - k' <t.rows.length - k)∧((decide ((k:Int)<((t.rows.length:Nat):Int)))=false→t.name=t.name∧t.arity=t.arity∧out.map aF=t.rows.map aF∧True))) (by kernel_rfl) ?_
 intro n0
 simp only [List.length_map] at n0
 have q1:eQ t=t.name.size+cI t.rows:=rfl
 have q2:=gA t.rows
 refine ⟨⟨0,([]:List (List Int)),rfl,rfl,rfl,rfl,Nat.zero_le _,rfl⟩,fun k out ⟨hk,ho⟩=>?_⟩
 refine ⟨List.length_map _,fun c0=>?_,fun c0=>?_⟩
 ·replace c0:=yq c0
  refine ⟨by omega,rfl,by omega,fun e23 h23=>?_⟩
  have hp3:=aAN h23
  refine ⟨rfl,rfl,fun _=>rfl,by first | omega | (simp;omega) | (simp [ho];omega),?_⟩
  refine ⟨rfl,rfl,by first | omega | (simp;omega) | (simp [ho];omega),⟨by omega,by omega⟩,?_⟩
  exact ⟨k+1,_,rfl,rfl,rfl,rfl,⟨by omega,by rw [ho,cN h23];rfl⟩,by omega⟩
 ·replace c0:=nq c0
  refine ⟨rfl,rfl,?_,trivial⟩
  ·first | rfl | (rw [ho,List.take_of_length_le (by omega)])
abbrev isN (n:ByteArray):aR→Bool:=fun t=>t.name.toList==n.toList
abbrev iN (v:Int):Int→Bool:=fun y=>decide (v=y)
theorem lP {α:Type} {p:α→Bool} {l:List α}:(dB p l<0→l.find? p=none)∧(0≤dB p l→ ∃(k:Nat) (x:α),dB p l=(k:Int)∧l[k]? =some x∧l.find? p=some x):=by
 unfold dB
 cases e:l.findIdx? p with
 | none=>
   rw [List.findIdx?_eq_none_iff] at e
   refine ⟨fun _=>List.find?_eq_none.2 fun x hx=>by rw [e x hx];decide,fun h=>absurd h (by decide)⟩
 | some k=>
   rw [List.findIdx?_eq_some_iff_getElem] at e
   obtain ⟨hk,hx,hj⟩:=e
   refine ⟨fun h=>absurd h (by simp only;omega),fun _=>⟨k,l[k],rfl,List.getElem?_eq_getElem hk,?_⟩⟩
   rw [List.find?_eq_some_iff_getElem]
   exact ⟨hx,k,hk,rfl,fun j hjk=>by have:=hj j hjk;simpa using this⟩
theorem aFm {l:List Int} {v:Int}:decide (0≤dB (iN v) l)=decide (v∈l):=by
 apply Bool.eq_iff_iff.2
 rw [decide_eq_true_eq,decide_eq_true_eq]
 constructor
 ·intro h
  obtain ⟨k,x,_,hx,hf⟩:=lP.2 h
  have h1:=List.find?_some hf
  have:v=x:=by simpa [iN] using h1
  rw [this];exact List.mem_of_getElem? hx
 ·intro h
  rcases Int.lt_or_le (dB (iN v) l) 0 with q | q
  ·have:=lP.1 q
   rw [List.find?_eq_none] at this
   exact absurd (this v h) (by simp [iN])
  ·exact q
def aJ (d:aT) (n:ByteArray):aR × Bool:=if fM d=true then (match d.tables.find? (isN n) with | some t=>(t,true) | none=>(gB,false)) else (gB,false)
theorem aCD {d:aT} {n:ByteArray} (h:fM d=false∨d.tables.find? (isN n)=none):aJ d n=(gB,false):=by
 unfold aJ
 rcases h with h | h
 ·rw [if_neg (by rw [h];decide)]
 ·rw [h];split<;>rfl
theorem aIA {d:aT} {n:ByteArray} {t:aR} (h:fM d=true) (hf:d.tables.find? (isN n)=some t):aJ d n=(t,true):=by rw [aJ,if_pos h,hf]
theorem aQC {d:aT} (h:fM d=true):d.tables.all aQ=true:=by
 simp only [fM,Bool.and_eq_true] at h
 exact h.1
theorem nD {d:aT} {n:ByteArray} (h:(aJ d n).2=true):aQ (aJ d n).1=true∧fM d=true:=by
 unfold aJ at*
 split at h
 ·rename_i hd
  rw [if_pos hd]
  cases e:d.tables.find? (isN n) with
  | none=>rw [e] at h;cases h
  | some t=>exact ⟨List.all_eq_true.1 (aQC hd) t (List.mem_of_find?_eq_some e),hd⟩
 ·cases h
abbrev aQD (t:aR) (n:ByteArray):Prop:=cU Tryz.prog 224 [.agg [.str t.name,.int .i64 t.arity,.sl 32 1 (t.rows.map aF)],.ref [.str n]] (vB (isN n t)) []
theorem aUG (t:aR) (n:ByteArray):aQD t n:=by
 refine aV bF aS Tryz.func224 (by kernel_rfl) (.fin []) (p:=(t.rows.map aF).length≤9223372036854775807→(t.name.toList==n.toList)=(isN n t)∧True) (by kernel_rfl) ?_
 intro n0
 simp only [List.length_map] at n0
 refine ⟨?_,trivial⟩
 ·rfl
abbrev aQE (l:List aR) (n:ByteArray):Prop:=cU Tryz.prog 223 [.one (.sl 162 3 (l.map aL)),.fn 224 [[.str n]]] (vI (dB (isN n) l)) []
theorem aUH (l:List aR) (n:ByteArray):aQE l n:=by
 refine aV bF aS Tryz.func223 (by kernel_rfl) (.len l.length<| .loop Nat (Q1 Nat) [5,8,9,10,11,12,13,14,15,16,18] [] (fun k=>[(8,vI (k:Int))]) (fun k=>[]) (fun k=>k≤l.length∧(l.take k).all (fun y=> !isN n y)=true) (fun k=>l.length - k) (fun k=> .br (.elem _ aL l (fun e14=> .call (vB (isN n e14)) []<| .br (.fin []) (.back []))) (.fin []))) (p:=(l.map aL).length≤9223372036854775807→Lm aL l∧((∃(k:Nat),(0:Int)=(k:Int)∧k≤l.length∧(l.take k).all (fun y=> !isN n y)=true)∧ ∀(k:Nat),(k≤l.length∧(l.take k).all (fun y=> !isN n y)=true)→((decide ((k:Int)<((l.length:Nat):Int)))=true→0≤(k:Int)∧Em aL l k fun e14=>aQD e14 n∧(((isN n e14)=true→(k:Int)=(dB (isN n) l)∧True)∧((isN n e14)=false→cG ((k:Int)+(1:Int))∧ ∃(k' :Nat),((k:Int)+(1:Int))=(k' :Int)∧(k' ≤l.length∧(l.take k').all (fun y=> !isN n y)=true)∧l.length - k' <l.length - k)))∧((decide ((k:Int)<((l.length:Nat):Int)))=false→(-1:Int)=(dB (isN n) l)∧True))) (by kernel_rfl) ?_
 intro n0
 simp only [List.length_map] at n0
 refine ⟨List.length_map _,⟨0,rfl,Nat.zero_le _,rfl⟩,fun k ⟨hk,ha⟩=>?_⟩
 refine ⟨fun c0=>?_,fun c0=>?_⟩
 ·replace c0:=yq c0
  refine ⟨by omega,rfl,by omega,fun e14 h14=>?_⟩
  refine ⟨aUG _ _,fun c1=>?_,fun c1=>?_⟩
  ·have hE:=aAR (p:=isN n) h14 ha c1
   refine ⟨?_,trivial⟩
   ·rw [hE]
  ·refine ⟨⟨by omega,by omega⟩,?_⟩
   exact ⟨k+1,rfl,⟨by omega,cY h14 ha (by simp [c1])⟩,by omega⟩
 ·replace c0:=nq c0
  have hE:=uZ (p:=isN n) (bJ (by omega) ha)
  refine ⟨?_,trivial⟩
  ·rw [hE]
abbrev aFn (d:aT) (n:ByteArray):AV × List (Nat × Rs):=(.tup [.agg [.p none (.str (((aJ d n).1).name)),vI (((aJ d n).1).arity),.own 0],vB ((aJ d n).2)],[(0,.arr 32 1 true ((((aJ d n).1).rows).map aF))])
abbrev aL8 (d:aT) (n:ByteArray):Prop:=cU Tryz.prog 148 [.agg [.sl 162 3 (d.tables.map aL)],.one (.str n)] (aFn d n).1 (aFn d n).2
theorem rR (d:aT) (n:ByteArray) (hc:bD d≤1048576):aL8 d n:=by
 refine aV bF aS Tryz.func148 (by kernel_rfl) (.call (vI (dB (isN n) d.tables)) []<| .br (.fin []) (.call (vB (fM d)) []<| .lit<| .lit<| .br (.fin []) (.elem _ aL d.tables (fun e22=>bP (aBE e22)<| .fin [(0,2400)])))) (p:=(d.tables.map aL).length≤9223372036854775807→aQE d.tables n∧(((decide ((dB (isN n) d.tables)<(0:Int)))=true→ByteArray.empty=(((aJ d n).1).name)∧(0:Int)=(((aJ d n).1).arity)∧(false)=((aJ d n).2)∧[]=(((aJ d n).1).rows).map aF∧True)∧((decide ((dB (isN n) d.tables)<(0:Int)))=false→aDH d∧(((!(fM d))=true→ByteArray.empty=(((aJ d n).1).name)∧(0:Int)=(((aJ d n).1).arity)∧(false)=((aJ d n).2)∧[]=(((aJ d n).1).rows).map aF∧True)∧((!(fM d))=false→0≤(dB (isN n) d.tables)∧Em aL d.tables ((dB (isN n) d.tables).toNat) fun e22=>aFk e22∧e22.name=(((aJ d n).1).name)∧e22.arity=(((aJ d n).1).arity)∧(true)=((aJ d n).2)∧e22.rows.map aF=(((aJ d n).1).rows).map aF∧True))))) (by kernel_rfl) ?_
 intro n0
 simp only [List.length_map] at n0
 have q1:bD d=hJ d.tables:=rfl
 have hg:=aRg (isN n) d.tables
 refine ⟨aUH _ _,fun g13=>?_,fun g13=>?_⟩
 ·replace g13:=yq g13
  have hbad:aJ d n=(gB,false):=aCD (by first | (left;simpa using g15;done) | (left;simpa using c0;done) | (right;exact lP.1 (by omega)))
  refine ⟨?_,?_,?_,?_,trivial⟩
  ·first | (rw [hbad]<;>rfl) | (rw [hok]<;>rfl)
  ·first | (rw [hbad]<;>rfl) | (rw [hok]<;>rfl)
  ·first | (rw [hbad]<;>rfl) | (rw [hok]<;>rfl)
  ·first | (rw [hbad]<;>rfl) | (rw [hok]<;>rfl)
 ·replace g13:=nq g13
  refine ⟨aM9 d,fun c0=>?_,fun c0=>?_⟩
  ·replace c0:=nt c0
   have hbad:aJ d n=(gB,false):=aCD (by first | (left;simpa using g15;done) | (left;simpa using c0;done) | (right;exact lP.1 (by omega)))
   refine ⟨?_,?_,?_,?_,trivial⟩
   ·first | (rw [hbad]<;>rfl) | (rw [hok]<;>rfl)
   ·first | (rw [hbad]<;>rfl) | (rw [hok]<;>rfl)
   ·first | (rw [hbad]<;>rfl) | (rw [hok]<;>rfl)
   ·first | (rw [hbad]<;>rfl) | (rw [hok]<;>rfl)
  ·replace c0:=nf c0
   have hd:fM d=true:=by simpa using c0
   obtain ⟨k,y,hk,hy,hf⟩:=lP.2 (show 0≤dB (isN n) d.tables by omega)
   have hok:=aIA hd hf
   refine ⟨by omega,rfl,by omega,fun e22 h22=>?_⟩
   have hyx:y=e22:=by rw [hk] at h22;exact (aX (by simpa using h22) hy)
   have q2:=aAq h22
   rw [hyx] at hok
   refine ⟨aQA _ (by omega),?_,?_,?_,?_,trivial⟩
   ·first | (rw [hbad]<;>rfl) | (rw [hok]<;>rfl)
   ·first | (rw [hbad]<;>rfl) | (rw [hok]<;>rfl)
   ·first | (rw [hbad]<;>rfl) | (rw [hok]<;>rfl)
   ·first | (rw [hbad]<;>rfl) | (rw [hok]<;>rfl)
abbrev aFo (d:aT) (n:ByteArray):AV × List (Nat × Rs):=(.tup [.agg [.p none (.str (((aJ d n).1).name)),vI (((aJ d n).1).arity),.own 0],vB ((aJ d n).2)],[(0,.arr 32 1 true ((((aJ d n).1).rows).map aF))])
abbrev aL9 (d:aT) (n:ByteArray):Prop:=cU Tryz.prog 132 [.agg [.sl 162 3 (d.tables.map aL)],.one (.str n)] (aFo d n).1 (aFo d n).2
theorem rS (d:aT) (n:ByteArray) (hc:bD d≤1048576):aL9 d n:=by
 refine aV bF aS Tryz.func132 (by kernel_rfl) (.loop Nat (Q1 Nat) [6,7,8,9,10,11,12,13,14,15,16,17,18,19,20,21,22,23,24,25] [] (fun k=>[(6,vI (k:Int))]) (fun k=>[]) (fun k=>k≤d.tables.length∧(d.tables.take k).all (fun y=> !isN n y)=true) (fun k=>d.tables.length - k) (fun k=> .len d.tables.length<| .br (.call (vB (fM d)) []<| .lit<| .br (.elem _ aL d.tables (fun e21=> .br (.elem _ aL d.tables (fun e29=>bP (aBF e29)<| .fin [(0,3100)])) (.back []))) (.fin [])) (.fin []))) (p:=(d.tables.map aL).length≤9223372036854775807→(∃(k:Nat),(0:Int)=(k:Int)∧k≤d.tables.length∧(d.tables.take k).all (fun y=> !isN n y)=true)∧ ∀(k:Nat),(k≤d.tables.length∧(d.tables.take k).all (fun y=> !isN n y)=true)→Lm aL d.tables∧(((decide ((k:Int)<((d.tables.length:Nat):Int)))=true→aDI d∧(((fM d)=true→0≤(k:Int)∧Em aL d.tables k fun e21=>((e21.name.toList==n.toList)=true→0≤(k:Int)∧Em aL d.tables k fun e29=>aFl e29∧e29.name=(((aJ d n).1).name)∧e29.arity=(((aJ d n).1).arity)∧(true)=((aJ d n).2)∧e29.rows.map aF=(((aJ d n).1).rows).map aF∧True)∧((e21.name.toList==n.toList)=false→cG ((k:Int)+(1:Int))∧ ∃(k' :Nat),((k:Int)+(1:Int))=(k' :Int)∧(k' ≤d.tables.length∧(d.tables.take k').all (fun y=> !isN n y)=true)∧d.tables.length - k' <d.tables.length - k))∧((fM d)=false→ByteArray.empty=(((aJ d n).1).name)∧(0:Int)=(((aJ d n).1).arity)∧(false)=((aJ d n).2)∧[]=(((aJ d n).1).rows).map aF∧True)))∧((decide ((k:Int)<((d.tables.length:Nat):Int)))=false→ByteArray.empty=(((aJ d n).1).name)∧(0:Int)=(((aJ d n).1).arity)∧(false)=((aJ d n).2)∧[]=(((aJ d n).1).rows).map aF∧True))) (by kernel_rfl) ?_
 intro n0
 simp only [List.length_map] at n0
 have q1:bD d=hJ d.tables:=rfl
 refine ⟨⟨0,rfl,Nat.zero_le _,rfl⟩,fun k ⟨hk,ha⟩=>?_⟩
 refine ⟨List.length_map _,fun g12=>?_,fun g12=>?_⟩
 ·replace g12:=yq g12
  refine ⟨aMa d,fun c0=>?_,fun c0=>?_⟩
  ·refine ⟨by omega,rfl,by omega,fun e21 h21=>?_⟩
   try (obtain rfl:=(aX h21 h21).symm)
   have q2:=aAq h21
   refine ⟨fun c1=>?_,fun c1=>?_⟩
   ·have hok:=aIA (n:=n) c0 (aJB (p:=isN n) h21 ha c1)
    refine ⟨by omega,rfl,by omega,fun e29 h29=>?_⟩
    try (obtain rfl:=(aX h21 h29).symm)
    refine ⟨aQB _ (by omega),?_,?_,?_,?_,trivial⟩
    ·first | (rw [hbad]<;>rfl) | (rw [hok]<;>rfl)
    ·first | (rw [hbad]<;>rfl) | (rw [hok]<;>rfl)
    ·first | (rw [hbad]<;>rfl) | (rw [hok]<;>rfl)
    ·first | (rw [hbad]<;>rfl) | (rw [hok]<;>rfl)
   ·refine ⟨⟨by omega,by omega⟩,?_⟩
    exact ⟨k+1,rfl,⟨by omega,cY h21 ha (by simp [isN,c1])⟩,by omega⟩
  ·have hbad:aJ d n=(gB,false):=aCD (by first | (left;exact c0) | (right;exact aEZ (bJ (by omega) ha)))
   refine ⟨?_,?_,?_,?_,trivial⟩
   ·first | (rw [hbad]<;>rfl) | (rw [hok]<;>rfl)
   ·first | (rw [hbad]<;>rfl) | (rw [hok]<;>rfl)
   ·first | (rw [hbad]<;>rfl) | (rw [hok]<;>rfl)
   ·first | (rw [hbad]<;>rfl) | (rw [hok]<;>rfl)
 ·replace g12:=nq g12
  have hbad:aJ d n=(gB,false):=aCD (by first | (left;exact c0) | (right;exact aEZ (bJ (by omega) ha)))
  refine ⟨?_,?_,?_,?_,trivial⟩
  ·first | (rw [hbad]<;>rfl) | (rw [hok]<;>rfl)
  ·first | (rw [hbad]<;>rfl) | (rw [hok]<;>rfl)
  ·first | (rw [hbad]<;>rfl) | (rw [hok]<;>rfl)
  ·first | (rw [hbad]<;>rfl) | (rw [hok]<;>rfl)
abbrev aMb (l:List Int) (v:Int):Prop:=cU Tryz.prog 187 [.one (.sl 3 1 (l.map intD)),.one (.int .i64 v)] (vI (dB (iN v) l)) []
theorem ixI (l:List Int) (v:Int):aMb l v:=by
 refine aV bF aS Tryz.func187 (by kernel_rfl) (.len l.length<| .loop Nat (Q1 Nat) [5,8,9,10,11,12,13,14,15,16,18] [] (fun k=>[(8,vI (k:Int))]) (fun k=>[]) (fun k=>k≤l.length∧(l.take k).all (fun y=> !iN v y)=true) (fun k=>l.length - k) (fun k=> .br (.elem _ intD l (fun e14=> .br (.fin []) (.back []))) (.fin []))) (p:=(l.map intD).length≤9223372036854775807→Lm intD l∧((∃(k:Nat),(0:Int)=(k:Int)∧k≤l.length∧(l.take k).all (fun y=> !iN v y)=true)∧ ∀(k:Nat),(k≤l.length∧(l.take k).all (fun y=> !iN v y)=true)→((decide ((k:Int)<((l.length:Nat):Int)))=true→0≤(k:Int)∧Em intD l k fun e14=>((decide (v=e14))=true→(k:Int)=(dB (iN v) l)∧True)∧((decide (v=e14))=false→cG ((k:Int)+(1:Int))∧ ∃(k' :Nat),((k:Int)+(1:Int))=(k' :Int)∧(k' ≤l.length∧(l.take k').all (fun y=> !iN v y)=true)∧l.length - k' <l.length - k))∧((decide ((k:Int)<((l.length:Nat):Int)))=false→(-1:Int)=(dB (iN v) l)∧True))) (by kernel_rfl) ?_
 intro n0
 simp only [List.length_map] at n0
 refine ⟨List.length_map _,⟨0,rfl,Nat.zero_le _,rfl⟩,fun k ⟨hk,ha⟩=>?_⟩
 refine ⟨fun c0=>?_,fun c0=>?_⟩
 ·replace c0:=yq c0
  refine ⟨by omega,rfl,by omega,fun e14 h14=>?_⟩
  refine ⟨fun c1=>?_,fun c1=>?_⟩
  ·replace c1:=yq c1
   have hE:=aAR (p:=iN v) h14 ha (by simpa [iN] using c1)
   refine ⟨?_,trivial⟩
   ·rw [hE]
  ·replace c1:=nq c1
   refine ⟨⟨by omega,by omega⟩,?_⟩
   exact ⟨k+1,rfl,⟨by omega,cY h14 ha (by simpa [iN] using c1)⟩,by omega⟩
 ·replace c0:=nq c0
  have hE:=uZ (p:=iN v) (bJ (by omega) ha)
  refine ⟨?_,trivial⟩
  ·rw [hE]
abbrev aFp (l:List Int) (v:Int):Prop:=cU Tryz.prog 115 [.one (.sl 3 1 (l.map intD)),.one (.int .i64 v)] (vB (decide (v∈l))) []
theorem ctI (l:List Int) (v:Int):aFp l v:=by
 refine aV bF aS Tryz.func115 (by kernel_rfl) (.call (vI (dB (iN v) l)) []<| .fin []) (p:=(l.map intD).length≤9223372036854775807→aMb l v∧(decide ((0:Int)≤(dB (iN v) l)))=(decide (v∈l))∧True) (by kernel_rfl) ?_
 intro n0
 simp only [List.length_map] at n0
 refine ⟨ixI _ _,?_,trivial⟩
 ·exact aFm
abbrev aKZ (l:List Int) (v:Int):Prop:=cU Tryz.prog 170 [.one (.sl 3 1 (l.map intD)),.one (.int .i64 v)] (vB (decide (v∈l))) []
theorem hsI (l:List Int) (v:Int):aKZ l v:=by
 refine aV bF aS Tryz.func170 (by kernel_rfl) (.loop Nat (Q1 Nat) [5,6,7,8,9,10,11,12,13,14,15,16,17] [] (fun k=>[(5,vI (k:Int))]) (fun k=>[]) (fun k=>k≤l.length∧(l.take k).all (fun y=> !iN v y)=true) (fun k=>l.length - k) (fun k=> .len l.length<| .br (.elem _ intD l (fun e14=> .br (.fin []) (.back []))) (.fin []))) (p:=(l.map intD).length≤9223372036854775807→(∃(k:Nat),(0:Int)=(k:Int)∧k≤l.length∧(l.take k).all (fun y=> !iN v y)=true)∧ ∀(k:Nat),(k≤l.length∧(l.take k).all (fun y=> !iN v y)=true)→Lm intD l∧(((decide ((k:Int)<((l.length:Nat):Int)))=true→0≤(k:Int)∧Em intD l k fun e14=>((decide (e14=v))=true→(true)=(decide (v∈l))∧True)∧((decide (e14=v))=false→cG ((k:Int)+(1:Int))∧ ∃(k' :Nat),((k:Int)+(1:Int))=(k' :Int)∧(k' ≤l.length∧(l.take k').all (fun y=> !iN v y)=true)∧l.length - k' <l.length - k))∧((decide ((k:Int)<((l.length:Nat):Int)))=false→(false)=(decide (v∈l))∧True))) (by kernel_rfl) ?_
 intro n0
 simp only [List.length_map] at n0
 refine ⟨⟨0,rfl,Nat.zero_le _,rfl⟩,fun k ⟨hk,ha⟩=>?_⟩
 refine ⟨List.length_map _,fun c0=>?_,fun c0=>?_⟩
 ·replace c0:=yq c0
  refine ⟨by omega,rfl,by omega,fun e14 h14=>?_⟩
  refine ⟨fun c1=>?_,fun c1=>?_⟩
  ·replace c1:=yq c1
   have hE:decide (v∈l)=true:=by rw [←c1];exact decide_eq_true (List.mem_of_getElem? h14)
   refine ⟨?_,trivial⟩
   ·rw [hE]
  ·replace c1:=nq c1
   refine ⟨⟨by omega,by omega⟩,?_⟩
   exact ⟨k+1,rfl,⟨by omega,cY h14 ha (by simpa [iN] using fun q=>c1 (Eq.symm q))⟩,by omega⟩
 ·replace c0:=nq c0
  have hE:decide (v∈l)=false:=by rw [←aFm,uZ (p:=iN v) (bJ (by omega) ha)];rfl
  refine ⟨?_,trivial⟩
  ·rw [hE]
def eD (d:aT) (f:aM):Bool:=(aJ d f.name).2&&(dG ((aJ d f.name).1.arity - 1) f.src&&(dY f.dst 0 ((aJ d f.name).1.arity - 1)&& !decide (f.dst∈f.src)))
def aLa (rows:List (List Int)) (cols:List Int) (c:Int) (i k:Nat):Bool:=decide ((fJ (rows.getD i []) cols).1=(fJ (rows.getD k []) cols).1)&& !decide ((rows.getD i []).getD c.toNat 0=(rows.getD k []).getD c.toNat 0)
def kN (rows:List (List Int)) (cols:List Int) (c:Int) (k:Nat):Nat→List Int
 | 0=>[]
 | i+1=>if kN rows cols c k i= []∧aLa rows cols c i k=true then [(i:Int),(k:Int)] else kN rows cols c k i
def kY (rows:List (List Int)) (cols:List Int) (c:Int):Nat→List Int
 | 0=>[]
 | k+1=>if kY rows cols c k= [] then kN rows cols c k k else kY rows cols c k
def jI (d:aT) (f:aM):List Int:=if eD d f=true then kY (aJ d f.name).1.rows f.src f.dst (aJ d f.name).1.rows.length else []
theorem aCE {rows:List (List Int)} {cols:List Int} {c:Int} {k i:Nat} (h:kN rows cols c k i= []) (hb:aLa rows cols c i k=false):kN rows cols c k (i+1)= []:=by rw [kN,if_neg (by simp [hb]),h]
theorem aFq {rows:List (List Int)} {cols:List Int} {c:Int} {k i:Nat} (h: ¬kN rows cols c k i= []): ∀j,kN rows cols c k (i+j)=kN rows cols c k i
 | 0=>rfl
 | j+1=>by rw [Nat.add_succ,kN,aFq h j,if_neg (by simp [h])]
theorem aFr {rows:List (List Int)} {cols:List Int} {c:Int} {k:Nat} (h: ¬kY rows cols c k= []): ∀j,kY rows cols c (k+j)=kY rows cols c k
 | 0=>rfl
 | j+1=>by rw [Nat.add_succ,kY,aFr h j,if_neg h]
theorem aFs {rows:List (List Int)} {cols:List Int} {c:Int} {k i n:Nat} (hk:kY rows cols c k= []) (hi:kN rows cols c k i= []) (hb:aLa rows cols c i k=true) (hik:i<k) (hkn:k<n):kY rows cols c n= [(i:Int),(k:Int)]:=by
 have h1:kN rows cols c k (i+1)= [(i:Int),(k:Int)]:=by rw [kN,if_pos ⟨hi,hb⟩]
 have h2:kN rows cols c k k= [(i:Int),(k:Int)]:=by
  have:=aFq (rows:=rows) (cols:=cols) (c:=c) (k:=k) (i:=i+1) (by rw [h1];simp) (k - (i+1))
  rw [show i+1+(k - (i+1))=k by omega,h1] at this
  exact this
 have h3:kY rows cols c (k+1)= [(i:Int),(k:Int)]:=by rw [kY,if_pos hk,h2]
 have:=aFr (rows:=rows) (cols:=cols) (c:=c) (k:=k+1) (by rw [h3];simp) (n - (k+1))
 rw [show k+1+(n - (k+1))=n by omega,h3] at this
 exact this
theorem aFt {rows:List (List Int)} {cols:List Int} {c:Int} {k:Nat} (hk:kY rows cols c k= []) (hi:kN rows cols c k k= []):kY rows cols c (k+1)= []:=by rw [kY,if_pos hk,hi]
theorem aDh {d:aT} {f:aM} (h:eD d f=true):aQ (aJ d f.name).1=true∧0≤f.dst∧f.dst≤(aJ d f.name).1.arity - 1∧f.src.length≤3:=by
 simp only [eD,Bool.and_eq_true] at h
 obtain ⟨h1,h2,h3,_⟩:=h
 have hT:=(nD h1).1
 have ha:=cD hT
 have:=eJ h3
 exact ⟨hT,this.1,this.2,aF6 h2 (by omega)⟩
theorem aMc {rows:List (List Int)} {cols:List Int} {c:Int} {i k:Nat} {x y:List Int} (hx:rows[i]? =some x) (hy:rows[k]? =some y):aLa rows cols c i k=(decide ((fJ x cols).1=(fJ y cols).1)&& !decide (x.getD c.toNat 0=y.getD c.toNat 0)):=by
 rw [aLa,aZ hx,aZ hy]
def iK (d:aT) (f:aM):Bool:=eD d f&&decide (jI d f= [])
theorem pL {α:Type} [DecidableEq α] (l:List α):decide (((l.length:Nat):Int)=0)=decide (l= []):=by
 cases l with
 | nil=>rfl
 | cons a l=>simp;omega
abbrev vA (d:aT) (f:aM):Prop:=cU Tryz.prog 231 [.agg [.sl 162 3 (d.tables.map aL)],.agg [.str f.name,.sl 3 1 (f.src.map intD),.int .i64 f.dst]] (vB (eD d f)) []
theorem aFu (d:aT) (f:aM) (hc:bD d≤1048576):vA d f:=by
 refine aV bF aS Tryz.func231 (by kernel_rfl) (.call (.tup [.agg [.p none (.str (((aJ d f.name).1).name)),vI (((aJ d f.name).1).arity),.p none (.sl 32 1 ((((aJ d f.name).1).rows).map aF))],vB ((aJ d f.name).2)]) []<| .br (.call (vB (dG ((((aJ d f.name).1).arity) - 1) f.src)) []<| .lit<| .br (.raw<| .call (vB (dY f.dst (0:Int) (IntKind.i64.wrap ((((aJ d f.name).1).arity) - (1:Int))))) []<| .lit<| .br (.call (vB (decide (f.dst∈f.src))) []<| .fin []) (.fin [])) (.fin [])) (.fin [])) (p:=(d.tables.map aL).length≤9223372036854775807→(f.src.map intD).length≤9223372036854775807→cU Tryz.prog 148 [.agg [.sl 162 3 (d.tables.map aL)],.one (.str f.name)] (.tup [.agg [.p none (.str (((aJ d f.name).1).name)),vI (((aJ d f.name).1).arity),.p none (.sl 32 1 ((((aJ d f.name).1).rows).map aF))],vB ((aJ d f.name).2)]) []∧((((aJ d f.name).2)=true→yM f.src (((aJ d f.name).1).arity)∧(((dG ((((aJ d f.name).1).arity) - 1) f.src)=true→fU f.dst (0:Int) (IntKind.i64.wrap ((((aJ d f.name).1).arity) - (1:Int)))∧(((dY f.dst (0:Int) (IntKind.i64.wrap ((((aJ d f.name).1).arity) - (1:Int))))=true→aFp f.src f.dst∧(!(decide (f.dst∈f.src)))=(eD d f)∧True)∧((dY f.dst (0:Int) (IntKind.i64.wrap ((((aJ d f.name).1).arity) - (1:Int))))=false→(false)=(eD d f)∧True)))∧((dG ((((aJ d f.name).1).arity) - 1) f.src)=false→(false)=(eD d f)∧True)))∧(((aJ d f.name).2)=false→(false)=(eD d f)∧True))) (by kernel_rfl) ?_
 intro n0 n1
 simp only [List.length_map] at n0 n1
 refine ⟨jJ (rR _ f.name (by omega)) rfl,fun g15=>?_,fun g15=>?_⟩
 ·have hT:=(nD g15).1
  have hA:=cD hT
  have hw:IntKind.i64.wrap ((aJ d f.name).1.arity - 1)=(aJ d f.name).1.arity - 1:=IntWalk.i64_in _ ⟨by omega,by omega⟩
  try rw [hw]
  refine ⟨aHq _ _ (by omega),fun g22=>?_,fun g22=>?_⟩
  ·refine ⟨kE _ _ _,fun g30=>?_,fun g30=>?_⟩
   ·refine ⟨ctI _ _,?_,trivial⟩
    ·first | (simp [eD, *];done) | (simp [eD, *] at*;simp [*];done) | (simp_all [eD];done)
   ·refine ⟨?_,trivial⟩
    ·first | (simp [eD, *];done) | (simp [eD, *] at*;simp [*];done) | (simp_all [eD];done)
  ·refine ⟨?_,trivial⟩
   ·first | (simp [eD, *];done) | (simp [eD, *] at*;simp [*];done) | (simp_all [eD];done)
 ·refine ⟨?_,trivial⟩
  ·first | (simp [eD, *];done) | (simp [eD, *] at*;simp [*];done) | (simp_all [eD];done)
abbrev vC (d:aT) (f:aM):Prop:=cU Tryz.prog 212 [.agg [.sl 162 3 (d.tables.map aL)],.agg [.str f.name,.sl 3 1 (f.src.map intD),.int .i64 f.dst]] (vB (eD d f)) []
theorem aFv (d:aT) (f:aM) (hc:bD d≤1048576):vC d f:=by
 refine aV bF aS Tryz.func212 (by kernel_rfl) (.call (.tup [.agg [.p none (.str (((aJ d f.name).1).name)),vI (((aJ d f.name).1).arity),.p none (.sl 32 1 ((((aJ d f.name).1).rows).map aF))],vB ((aJ d f.name).2)]) []<| .br (.call (vB (aQ ((aJ d f.name).1)&&dG (((aJ d f.name).1).arity - 1) f.src)) []<| .lit<| .br (.raw<| .call (vB (dY f.dst (0:Int) (IntKind.i64.wrap ((((aJ d f.name).1).arity) - (1:Int))))) []<| .lit<| .br (.call (vB (decide (f.dst∈f.src))) []<| .fin []) (.fin [])) (.fin [])) (.fin [])) (p:=(d.tables.map aL).length≤9223372036854775807→(f.src.map intD).length≤9223372036854775807→cU Tryz.prog 132 [.agg [.sl 162 3 (d.tables.map aL)],.one (.str f.name)] (.tup [.agg [.p none (.str (((aJ d f.name).1).name)),vI (((aJ d f.name).1).arity),.p none (.sl 32 1 ((((aJ d f.name).1).rows).map aF))],vB ((aJ d f.name).2)]) []∧((((aJ d f.name).2)=true→yN ((aJ d f.name).1) f.src∧(((aQ ((aJ d f.name).1)&&dG (((aJ d f.name).1).arity - 1) f.src)=true→fB f.dst (0:Int) (IntKind.i64.wrap ((((aJ d f.name).1).arity) - (1:Int)))∧(((dY f.dst (0:Int) (IntKind.i64.wrap ((((aJ d f.name).1).arity) - (1:Int))))=true→aKZ f.src f.dst∧(!(decide (f.dst∈f.src)))=(eD d f)∧True)∧((dY f.dst (0:Int) (IntKind.i64.wrap ((((aJ d f.name).1).arity) - (1:Int))))=false→(false)=(eD d f)∧True)))∧((aQ ((aJ d f.name).1)&&dG (((aJ d f.name).1).arity - 1) f.src)=false→(false)=(eD d f)∧True)))∧(((aJ d f.name).2)=false→(false)=(eD d f)∧True))) (by kernel_rfl) ?_
 intro n0 n1
 simp only [List.length_map] at n0 n1
 refine ⟨jJ (rS _ f.name (by omega)) rfl,fun g15=>?_,fun g15=>?_⟩
 ·have hT:=(nD g15).1
  have hA:=cD hT
  have hw:IntKind.i64.wrap ((aJ d f.name).1.arity - 1)=(aJ d f.name).1.arity - 1:=IntWalk.i64_in _ ⟨by omega,by omega⟩
  try rw [hw]
  refine ⟨aHr ((aJ d f.name).1) _,fun g21=>?_,fun g21=>?_⟩
  ·refine ⟨iW _ _ _,fun g29=>?_,fun g29=>?_⟩
   ·refine ⟨hsI _ _,?_,trivial⟩
    ·first | (simp [eD, *];done) | (simp [eD, *] at*;simp [*];done) | (simp_all [eD];done)
   ·refine ⟨?_,trivial⟩
    ·first | (simp [eD, *];done) | (simp [eD, *] at*;simp [*];done) | (simp_all [eD];done)
  ·refine ⟨?_,trivial⟩
   ·first | (simp [eD, *];done) | (simp [eD, *] at*;simp [*];done) | (simp_all [eD];done)
 ·refine ⟨?_,trivial⟩
  ·first | (simp [eD, *];done) | (simp [eD, *] at*;simp [*];done) | (simp_all [eD];done)
end Go.Proofs.YtokkjaflmcjlhaaGreat
namespace Go.Proofs
open Go.Shelf
namespace YtokkjaflmcjlhaaGreat
def Tryz.lays189_ren : Go.Shelf.Ren := ⟨fun | 189 => 248 | 125 => 278 | 257 => 277 | 128 => 296 | 129 => 297 | 294 => 287 | 295 => 288 | 296 => 289 | 297 => 290 | 298 => 291 | 299 => 292 | 216 => 293 | 300 => 294 | 301 => 295 | 328 => 309 | 329 => 310 | 330 => 311 | 331 => 312 | 332 => 313 | 215 => 314 | 343 => 318 | n => n, fun | 28 => 32 | 3 => 3 | 46 => 247 | 0 => 0 | 51 => 264 | 53 => 266 | 4 => 4 | 183 => 256 | 182 => 255 | 131 => 261 | 5 => 5 | 9 => 9 | 218 => 274 | 222 => 278 | 228 => 283 | 229 => 284 | n => n, fun | n => n⟩
theorem Tryz.lays189 : Go.Proofs.Lays.n189 Tryz.prog Tryz.lays189_ren := {
  mixed := by kernel_rfl
  f125 := Tryz.func278.trans (congrArg some (by kernel_rfl))
  f128 := Tryz.func296.trans (congrArg some (by kernel_rfl))
  f129 := Tryz.func297.trans (congrArg some (by kernel_rfl))
  f189 := Tryz.func248.trans (congrArg some (by kernel_rfl))
  f215 := Tryz.func314.trans (congrArg some (by kernel_rfl))
  f216 := Tryz.func293.trans (congrArg some (by kernel_rfl))
  f257 := Tryz.func277.trans (congrArg some (by kernel_rfl))
  f294 := Tryz.func287.trans (congrArg some (by kernel_rfl))
  f295 := Tryz.func288.trans (congrArg some (by kernel_rfl))
  f296 := Tryz.func289.trans (congrArg some (by kernel_rfl))
  f297 := Tryz.func290.trans (congrArg some (by kernel_rfl))
  f298 := Tryz.func291.trans (congrArg some (by kernel_rfl))
  f299 := Tryz.func292.trans (congrArg some (by kernel_rfl))
  f300 := Tryz.func294.trans (congrArg some (by kernel_rfl))
  f301 := Tryz.func295.trans (congrArg some (by kernel_rfl))
  f328 := Tryz.func309.trans (congrArg some (by kernel_rfl))
  f329 := Tryz.func310.trans (congrArg some (by kernel_rfl))
  f330 := Tryz.func311.trans (congrArg some (by kernel_rfl))
  f331 := Tryz.func312.trans (congrArg some (by kernel_rfl))
  f332 := Tryz.func313.trans (congrArg some (by kernel_rfl))
  f343 := Tryz.func318.trans (congrArg some (by kernel_rfl))
  t0 := Tryz.underlying0
  a0 := Tryz.isAgg0
  z0 := Tryz.sizeOf0
  v0 := Tryz.zeroValue0
  t3 := Tryz.underlying3
  a3 := Tryz.isAgg3
  z3 := Tryz.sizeOf3
  v3 := Tryz.zeroValue3
  t4 := Tryz.underlying4
  a4 := Tryz.isAgg4
  z4 := Tryz.sizeOf4
  v4 := Tryz.zeroValue4
  t5 := Tryz.underlying5
  a5 := Tryz.isAgg5
  z5 := Tryz.sizeOf5
  v5 := Tryz.zeroValue5
  t9 := Tryz.underlying9
  a9 := Tryz.isAgg9
  z9 := Tryz.sizeOf9
  v9 := Tryz.zeroValue9
  t28 := Tryz.underlying32
  a28 := Tryz.isAgg32
  z28 := Tryz.sizeOf32
  v28 := Tryz.zeroValue32
  t46 := Tryz.underlying247
  a46 := Tryz.isAgg247
  z46 := Tryz.sizeOf247
  v46 := Tryz.zeroValue247
  t51 := Tryz.underlying264
  a51 := Tryz.isAgg264
  z51 := Tryz.sizeOf264
  v51 := Tryz.zeroValue264
  t53 := Tryz.underlying266
  a53 := Tryz.isAgg266
  z53 := Tryz.sizeOf266
  v53 := Tryz.zeroValue266
  t131 := Tryz.underlying261
  a131 := Tryz.isAgg261
  z131 := Tryz.sizeOf261
  v131 := Tryz.zeroValue261
  t182 := Tryz.underlying255
  a182 := Tryz.isAgg255
  z182 := Tryz.sizeOf255
  v182 := Tryz.zeroValue255
  t183 := Tryz.underlying256
  a183 := Tryz.isAgg256
  z183 := Tryz.sizeOf256
  v183 := Tryz.zeroValue256
  t218 := Tryz.underlying274
  a218 := Tryz.isAgg274
  z218 := Tryz.sizeOf274
  v218 := Tryz.zeroValue274
  t222 := Tryz.underlying278
  a222 := Tryz.isAgg278
  z222 := Tryz.sizeOf278
  v222 := Tryz.zeroValue278
  t228 := Tryz.underlying283
  a228 := Tryz.isAgg283
  z228 := Tryz.sizeOf283
  v228 := Tryz.zeroValue283
  t229 := Tryz.underlying284
  a229 := Tryz.isAgg284
  z229 := Tryz.sizeOf284
  v229 := Tryz.zeroValue284 }
end YtokkjaflmcjlhaaGreat
end Go.Proofs
namespace Go.Proofs.YtokkjaflmcjlhaaGreat
open Go.ChangeShapes Go.WideShapes Go.ChangeAt Go.RowKit
set_option linter.unusedVariables false
set_option linter.unusedSimpArgs false
theorem aDJ {w:World}: ∀{l:List Int} {css:List (List Value)} {Fs:List (List Nat)},cO w 1 (l.map intD) css Fs→css.flatten=l.map (Value.int .i64)∧Fs.flatten= []
 | [],css,Fs,h=>by
   simp only [List.map_nil] at h
   unfold cO at h
   rw [h.1,h.2];simp
 | n::l,css,Fs,h=>by
   simp only [List.map_cons] at h
   unfold cO at h
   obtain ⟨c,css',F,Fs',rfl,rfl,_,h1,h2⟩:=h
   obtain ⟨q1,q2⟩:=aDJ h2
   unfold intD dI at h1
   obtain ⟨v,cs',F1,F2,rfl,rfl,h3,h4⟩:=h1
   unfold dI at h4
   unfold rB at h3
   simp [q1,q2,h4.1,h4.2,h3.1,h3.2]
theorem vD (w:World): ∀(l:List Int),cO w 1 (l.map intD) (l.map fun n=>[Value.int .i64 n]) (l.map fun _=>[])
 | []=>by simp only [List.map_nil];unfold cO;exact ⟨rfl,rfl⟩
 | n::l=>by
   simp only [List.map_cons]
   unfold cO
   refine ⟨_,_,_,_,rfl,rfl,rfl,?_,vD w l⟩
   unfold intD dI
   refine ⟨_,_,[],[],rfl,rfl,?_,?_⟩
   ·unfold rB;exact ⟨rfl,rfl⟩
   ·unfold dI;exact ⟨rfl,rfl⟩
theorem aDK: ∀(m:List Int),(m.map fun n=>[Value.int .i64 n]).flatten=m.map (Value.int .i64)
 | []=>rfl
 | a::l=>by simp only [List.map_cons,List.flatten_cons,aDK l];rfl
theorem aNh {P:Program} {f:FuncId} {e:Nat} (l m:List Int) (hc:kL P f=true) (hm:m.length=l.length)
 (hn0:l= []→ ∀w,Calls P f #[.slice none 0 0] w (fun ex w' =>ex= .returned (.tuple #[])∧w' =w))
 (hs: ∀(blk cap:Nat) (w:World),Go.Sort.Holds (Value.int .i64) w blk 0 l.toArray→blk<w.heap.size→l.length≤cap→Calls P f #[.slice (some ⟨blk,0,none⟩) l.length cap] w (fun ex w' =>ex= .returned (.tuple #[])∧ ∃n os,w' =Go.Sort.grow (Go.Sort.putRow (Value.int .i64) (Go.Sort.ahead w n) blk 0 m.toArray) os)):
 lT P f [.own 0] [(0,.arr e 1 true (l.map intD))] (.tup []) [(0,.arr e 1 true (m.map intD))]:=by
 refine ⟨hc,by simp,fun A φ w vs hI hM=>?_⟩
 obtain ⟨pl,hp,css,Fs,q1,q2,q3,q4⟩:=hI.dom 0 _ rfl
 unfold aP at hM
 obtain ⟨v,us,e1,m1,hM⟩:=hM
 unfold aP at hM
 unfold aI at m1
 have hv:=m1 pl hp
 have ev:vs= #[pl.val]:=by apply Array.ext';rw [e1,hM,hv]
 rw [ev]
 obtain ⟨c1,c2⟩:=aDJ q4
 rw [c1,List.length_map] at q1
 have hge:=hI.ge 0 pl hp
 have hsub:pl.sub= []:=by rw [q3,c2]
 have hfoot: ∀b∈pl.F,aIf φ b:=fun b hb=>⟨0,pl,trivial,hp,hb⟩
 have hend: ∀(w' :World),lR pl.F w w' →w'.ownsRow 0 e 1 pl.val l.length (m.map (Value.int .i64))→
  ∃v K φ',Ending.returned (.tuple #[])= .returned v∧aNR A φ w [(0,.arr e 1 true (m.map intD))] K φ' w' ∧aI K φ' w' (.tup []) v:=by
  intro w' hon howns
  refine ⟨_,A,fun h=>if h=0 then some pl else none,rfl,⟨⟨hon.os,hon.tape,hon.output,hon.size,fun b hb hn=>hon.block b hb (fun hm=>hn (hfoot b hm))⟩,fun _ h=>h,fun b hb=>⟨Nat.lt_of_lt_of_le (hI.lt b hb) hon.size,.inl hb⟩,fun b hb h pl1 e' hm' =>?_,fun h r hr=>?_,fun h hr=>?_,fun h h' pl1 pl2 hne ea eb=>?_,fun h pl1 e' =>?_,fun h pl1 e' g hg=>?_,fun h pl1 pl0 e' e0=>?_⟩,?_⟩
  ·split at e'
   ·injection e' with e';subst e'
    exact hI.out b hb 0 pl hp hm'
   ·cases e'
  ·simp only [aY] at hr
   split at hr
   ·rename_i eh
    subst eh
    injection hr with hr
    subst hr
    refine ⟨pl,by simp,m.map fun n=>[Value.int .i64 n],m.map fun _=>[],?_,q2,?_,vD _ m⟩
    ·rw [aDK,List.length_map,hm];exact howns
    ·rw [hsub];simp
   ·cases hr
  ·simp only [aY] at hr
   split at hr
   ·cases hr
   ·rename_i eh;exact if_neg eh
  ·split at ea
   ·split at eb
    ·rename_i x y;exact absurd (x.trans y.symm) hne
    ·cases eb
   ·cases ea
  ·split at e'
   ·injection e' with e';subst e';exact hI.nodup 0 pl hp
   ·cases e'
  ·split at e'
   ·injection e' with e';subst e'
    exact ⟨.inr (hfoot g hg),Nat.lt_of_lt_of_le (hge g hg) hon.size⟩
   ·cases e'
  ·split at e'
   ·rename_i eh
    subst eh
    rw [hp] at e0
    injection e0 with e0;injection e' with e'
    subst e0;subst e'
    exact ⟨rfl,rfl⟩
   ·cases e'
  ·unfold aI
   exact ⟨#[],rfl,by unfold aP;rfl⟩
 rcases q1.2 with ⟨hvn,hz⟩ | ⟨g,cap,cur,hvv,hg0,hb,hn,hcap,hsz,htk⟩
 ·have hz' :l= []:=List.eq_nil_of_length_eq_zero hz
  rw [hvn]
  refine (hn0 hz' w).mono ?_
  rintro en w' ⟨rfl,rfl⟩
  have hm0:m= []:=List.eq_nil_of_length_eq_zero (by rw [hm,hz])
  refine hend w' (lR.refl _ _) ?_
  rw [hvn,hm0,hz]
  exact ⟨by simp,.inl ⟨rfl,rfl⟩⟩
 ·have hlt:g<w.heap.size:=(Array.getElem?_eq_some_iff.1 hb).1
  have hH:Go.Sort.Holds (Value.int .i64) w g 0 l.toArray:=holds_of_blockI hb (by rw [Nat.mul_one] at htk;exact htk)
  rw [hvv]
  refine (hs g cap w hH hlt hn).mono ?_
  rintro en w' ⟨rfl,n,os,rfl⟩
  have hgb:=grownBy_sortedI (w:=w) (g:=g) (n:=n) (os:=os) m.toArray
  have hown:=ownsRow_sortedI (n:=n) (os:=os) hm hg0 hb hn hcap hsz
  refine hend _ ⟨hgb.os,hgb.tape,hgb.output,hgb.size,fun k hk hne=>hgb.block k hk (fun e=>hne (by injection e with e;subst e;unfold Pl.F;rw [q2,hvv];simp [Value.ownBlock]))⟩ ?_
  rw [hvv];exact hown
def qD (l:List Int):List Int:=l.mergeSort fun x y=>decide (x≤y)
theorem aLb (l:List Int):(qD l).Perm l:=List.mergeSort_perm l _
theorem aAS (l:List Int):(qD l).length=l.length:=(aLb l).length_eq
theorem aNi (l:List Int) (hl:l.length<4611686018427387904):lT Tryz.prog 248 [.own 0] [(0,.arr 3 1 true (l.map intD))] (.tup []) [(0,.arr 3 1 true ((qD l).map intD))]:=
 aNh l (qD l) (by kernel_rfl) (aAS l)
  (fun h w=>Any.slices_Sort_int_none Tryz.lays189 none 0 w)
  (fun blk cap w hH hblk _=>Any.slices_Sort_int Tryz.lays189 blk 0 cap l w hH hblk hl)
end Go.Proofs.YtokkjaflmcjlhaaGreat
