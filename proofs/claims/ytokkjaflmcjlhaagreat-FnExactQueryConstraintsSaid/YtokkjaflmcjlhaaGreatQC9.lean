/-
  Contracts and plain laws, joined: part 10.
-/
import Derived.Test.YtokkjaflmcjlhaaGreatQC8
import Derived.Test.YtokkjaflmcjlhaaGreatQC7
import Derived.Test.YtokkjaflmcjlhaaGreatQC5
import Derived.IntWalk
import Derived.Test.YtokkjaflmcjlhaaGreatQC3
import Derived.Shelf.Sort.Plain
import Derived.Shelf.Slices.In.SortNone
import Derived.Sort.OwnSortedInts
namespace Go.Proofs.YtokkjaflmcjlhaaGreat
open Go.ChangeShapes Go.WideShapes Go.ChangeAt Go.RowKit
set_option linter.unusedVariables false
set_option linter.unusedSimpArgs false
set_option maxRecDepth 100000
set_option maxHeartbeats 4000000
def fA (d:aV) (v:Int):bS × Bool:=if (fJ d&&dP v 1 999)=true then (⟨v,d.tables.map bB⟩,true) else (aEU,false)
theorem cE {d:aV} {v:Int} (h:(fJ d&&dP v 1 999)=true):fA d v=(⟨v,d.tables.map bB⟩,true):=by rw [fA,if_pos h]
theorem fN {d:aV} {v:Int} (h:(fJ d&&dP v 1 999)=false):fA d v=(aEU,false):=by rw [fA,if_neg (by rw [h];decide)]
theorem aEf {d:aV} (h:fJ d=true):d.tables.length≤6:=by
 simp only [fJ,Bool.and_eq_true,decide_eq_true_eq] at h
 omega
abbrev aAQ (d:aV) (v:Int):AV × List (Nat × Rs):=(.tup [.agg [vI (((fA d v).1).version),.own 0],vB ((fA d v).2)],[(0,.arr 121 4 true ((((fA d v).1).tables).map aC))])
abbrev aEg (d:aV) (v:Int):Prop:=dG Tryz.prog 76 [.agg [.sl 162 3 (d.tables.map aP)],.one (.int .i64 v)] (aAQ d v).1 (aAQ d v).2
theorem aOO (d:aV) (v:Int):aEg d v:=by
 refine aY bK aU Tryz.func76 (by kernel_rfl) (.call (vB (fJ d)) []<| .br (.fin []) (.call (vB (dP v (1:Int) (999:Int))) []<| .lit<| .lit<| .br (.fin []) (.len d.tables.length<| .loop (Nat × (List aB)) (Q2 Nat (List aB)) [8,23,24,25,26,27,28,29,30,31,32,33,34] [600,800,3000,3100,3200,9000] (fun yy0=>[(23,vI (yy0.1:Int))]) (fun yy0=>[(600,some (.box 42 [vI v,.own 9000])),(9000,some (.arr 121 4 true (yy0.2.map aC)))]) (fun yy0=>yy0.1≤d.tables.length∧yy0.2=(d.tables.take yy0.1).map bB) (fun yy0=>d.tables.length - yy0.1) (fun yy0=> .br (.elem _ aP d.tables (fun e25=>cI (yS e25)<| .appx aB aC yy0.2 (bB e25)<| .back [(600,600),(9000,3200)])) (.fin [(0,9000)]))))) (p:=(d.tables.map aP).length≤9223372036854775807→aCL d∧(((!(fJ d))=true→(0:Int)=(((fA d v).1).version)∧(false)=((fA d v).2)∧[]=(((fA d v).1).tables).map aC∧True)∧((!(fJ d))=false→eY v (1:Int) (999:Int)∧(((!(dP v (1:Int) (999:Int)))=true→(0:Int)=(((fA d v).1).version)∧(false)=((fA d v).2)∧[]=(((fA d v).1).tables).map aC∧True)∧((!(dP v (1:Int) (999:Int)))=false→Lm aP d.tables∧((∃(k:Nat) (out:List aB),(0:Int)=(k:Int)∧v=v∧[]=out.map aC∧k≤d.tables.length∧out=(d.tables.take k).map bB)∧ ∀(k:Nat) (out:List aB),(k≤d.tables.length∧out=(d.tables.take k).map bB)→((decide ((k:Int)<((d.tables.length:Nat):Int)))=true→0≤(k:Int)∧Em aP d.tables k fun e25=>aCJ e25∧out.map aC=out.map aC∧((bB e25).name)=((bB e25).name)∧((bB e25).arity)=((bB e25).arity)∧((bB e25).rowCount)=((bB e25).rowCount)∧((bB e25).groups).map aA=((bB e25).groups).map aA∧(out.length+1)*56≤140737488355328∧dB ((k:Int)+(1:Int))∧ ∃(k' :Nat) (out' :List aB),((k:Int)+(1:Int))=(k' :Int)∧v=v∧(out++[(bB e25)]).map aC=out'.map aC∧(k' ≤d.tables.length∧out' =(d.tables.take k').map bB)∧d.tables.length - k' <d.tables.length - k)∧((decide ((k:Int)<((d.tables.length:Nat):Int)))=false→v=(((fA d v).1).version)∧(true)=((fA d v).2)∧out.map aC=(((fA d v).1).tables).map aC∧True))))))) (by kernel_rfl) ?_
 intro n0
 simp only [List.length_map] at n0
 refine ⟨aLI d,fun g12=>?_,fun g12=>?_⟩
 ·replace g12:=nt g12
  have hbad:(fJ d&&dP v 1 999)=false:=by simp_all
  refine ⟨?_,?_,?_,trivial⟩
  ·first | (rw [fN hbad]<;>rfl) | (rw [cE hok]<;>rfl) | (rw [cE hok,ho,List.take_of_length_le (by omega)])
  ·first | (rw [fN hbad]<;>rfl) | (rw [cE hok]<;>rfl) | (rw [cE hok,ho,List.take_of_length_le (by omega)])
  ·first | (rw [fN hbad]<;>rfl) | (rw [cE hok]<;>rfl) | (rw [cE hok,ho,List.take_of_length_le (by omega)])
 ·replace g12:=nf g12
  refine ⟨iJ _ _ _,fun c0=>?_,fun c0=>?_⟩
  ·replace c0:=nt c0
   have hbad:(fJ d&&dP v 1 999)=false:=by simp_all
   refine ⟨?_,?_,?_,trivial⟩
   ·first | (rw [fN hbad]<;>rfl) | (rw [cE hok]<;>rfl) | (rw [cE hok,ho,List.take_of_length_le (by omega)])
   ·first | (rw [fN hbad]<;>rfl) | (rw [cE hok]<;>rfl) | (rw [cE hok,ho,List.take_of_length_le (by omega)])
   ·first | (rw [fN hbad]<;>rfl) | (rw [cE hok]<;>rfl) | (rw [cE hok,ho,List.take_of_length_le (by omega)])
  ·replace c0:=nf c0
   have hok:(fJ d&&dP v 1 999)=true:=by simp_all
   have h6:=aEf (by simp_all:fJ d=true)
   refine ⟨List.length_map _,⟨0,([]:List aB),rfl,rfl,rfl,Nat.zero_le _,rfl⟩,fun k out ⟨hk,ho⟩=>?_⟩
   refine ⟨fun c1=>?_,fun c1=>?_⟩
   ·replace c1:=yq c1
    refine ⟨by omega,rfl,by omega,fun e25 h25=>?_⟩
    refine ⟨aHl e25,rfl,rfl,rfl,rfl,rfl,by first | omega | (simp [ho];omega),⟨by omega,by omega⟩,?_⟩
    exact ⟨k+1,_,rfl,rfl,rfl,⟨by omega,by rw [ho,cA h25,List.map_append];rfl⟩,by omega⟩
   ·replace c1:=nq c1
    refine ⟨?_,?_,?_,trivial⟩
    ·first | (rw [fN hbad]<;>rfl) | (rw [cE hok]<;>rfl) | (rw [cE hok,ho,List.take_of_length_le (by omega)])
    ·first | (rw [fN hbad]<;>rfl) | (rw [cE hok]<;>rfl) | (rw [cE hok,ho,List.take_of_length_le (by omega)])
    ·first | (rw [fN hbad]<;>rfl) | (rw [cE hok]<;>rfl) | (rw [cE hok,ho,List.take_of_length_le (by omega)])
abbrev aAR (d:aV) (v:Int):AV × List (Nat × Rs):=(.tup [.agg [vI (((fA d v).1).version),.own 0],vB ((fA d v).2)],[(0,.arr 121 4 true ((((fA d v).1).tables).map aC))])
abbrev aEh (d:aV) (v:Int):Prop:=dG Tryz.prog 66 [.agg [.sl 162 3 (d.tables.map aP)],.one (.int .i64 v)] (aAR d v).1 (aAR d v).2
theorem aOP (d:aV) (v:Int):aEh d v:=by
 refine aY bK aU Tryz.func66 (by kernel_rfl) (.call (vB (fJ d)) []<| .br (.fin []) (.call (vB (dP v (1:Int) (999:Int))) []<| .lit<| .lit<| .br (.fin []) (.loop (Nat × (List aB)) (Q2 Nat (List aB)) [7,8,20,21,22,23,24,25,26,27,28,29,30,31,32,33,34,35,36,37,38] [600,800,3200,3600,3700,9000] (fun yy0=>[(7,vI (yy0.1:Int))]) (fun yy0=>[(600,some (.box 42 [vI v,.own 9000])),(9000,some (.arr 121 4 true (yy0.2.map aC)))]) (fun yy0=>yy0.1≤d.tables.length∧yy0.2=(d.tables.take yy0.1).map bB) (fun yy0=>d.tables.length - yy0.1) (fun yy0=> .len d.tables.length<| .br (.elem _ aP d.tables (fun e30=>cI (yT e30)<| .appx aB aC yy0.2 (bB e30)<| .back [(600,600),(9000,3700)])) (.fin [(0,9000)]))))) (p:=(d.tables.map aP).length≤9223372036854775807→aCM d∧(((!(fJ d))=true→(0:Int)=(((fA d v).1).version)∧(false)=((fA d v).2)∧[]=(((fA d v).1).tables).map aC∧True)∧((!(fJ d))=false→eZ v (1:Int) (999:Int)∧(((!(dP v (1:Int) (999:Int)))=true→(0:Int)=(((fA d v).1).version)∧(false)=((fA d v).2)∧[]=(((fA d v).1).tables).map aC∧True)∧((!(dP v (1:Int) (999:Int)))=false→(∃(k:Nat) (out:List aB),(0:Int)=(k:Int)∧v=v∧[]=out.map aC∧k≤d.tables.length∧out=(d.tables.take k).map bB)∧ ∀(k:Nat) (out:List aB),(k≤d.tables.length∧out=(d.tables.take k).map bB)→Lm aP d.tables∧(((decide ((k:Int)<((d.tables.length:Nat):Int)))=true→0≤(k:Int)∧Em aP d.tables k fun e30=>aCK e30∧out.map aC=out.map aC∧((bB e30).name)=((bB e30).name)∧((bB e30).arity)=((bB e30).arity)∧((bB e30).rowCount)=((bB e30).rowCount)∧((bB e30).groups).map aA=((bB e30).groups).map aA∧(out.length+1)*56≤140737488355328∧dB ((k:Int)+(1:Int))∧ ∃(k' :Nat) (out' :List aB),((k:Int)+(1:Int))=(k' :Int)∧v=v∧(out++[(bB e30)]).map aC=out'.map aC∧(k' ≤d.tables.length∧out' =(d.tables.take k').map bB)∧d.tables.length - k' <d.tables.length - k)∧((decide ((k:Int)<((d.tables.length:Nat):Int)))=false→v=(((fA d v).1).version)∧(true)=((fA d v).2)∧out.map aC=(((fA d v).1).tables).map aC∧True))))))) (by kernel_rfl) ?_
 intro n0
 simp only [List.length_map] at n0
 refine ⟨aLJ d,fun g12=>?_,fun g12=>?_⟩
 ·replace g12:=nt g12
  have hbad:(fJ d&&dP v 1 999)=false:=by simp_all
  refine ⟨?_,?_,?_,trivial⟩
  ·first | (rw [fN hbad]<;>rfl) | (rw [cE hok]<;>rfl) | (rw [cE hok,ho,List.take_of_length_le (by omega)])
  ·first | (rw [fN hbad]<;>rfl) | (rw [cE hok]<;>rfl) | (rw [cE hok,ho,List.take_of_length_le (by omega)])
  ·first | (rw [fN hbad]<;>rfl) | (rw [cE hok]<;>rfl) | (rw [cE hok,ho,List.take_of_length_le (by omega)])
 ·replace g12:=nf g12
  refine ⟨iK _ _ _,fun c0=>?_,fun c0=>?_⟩
  ·replace c0:=nt c0
   have hbad:(fJ d&&dP v 1 999)=false:=by simp_all
   refine ⟨?_,?_,?_,trivial⟩
   ·first | (rw [fN hbad]<;>rfl) | (rw [cE hok]<;>rfl) | (rw [cE hok,ho,List.take_of_length_le (by omega)])
   ·first | (rw [fN hbad]<;>rfl) | (rw [cE hok]<;>rfl) | (rw [cE hok,ho,List.take_of_length_le (by omega)])
   ·first | (rw [fN hbad]<;>rfl) | (rw [cE hok]<;>rfl) | (rw [cE hok,ho,List.take_of_length_le (by omega)])
  ·replace c0:=nf c0
   have hok:(fJ d&&dP v 1 999)=true:=by simp_all
   have h6:=aEf (by simp_all:fJ d=true)
   refine ⟨⟨0,([]:List aB),rfl,rfl,rfl,Nat.zero_le _,rfl⟩,fun k out ⟨hk,ho⟩=>?_⟩
   refine ⟨List.length_map _,fun c1=>?_,fun c1=>?_⟩
   ·replace c1:=yq c1
    refine ⟨by omega,rfl,by omega,fun e30 h30=>?_⟩
    refine ⟨aLG e30,rfl,rfl,rfl,rfl,rfl,by first | omega | (simp [ho];omega),⟨by omega,by omega⟩,?_⟩
    exact ⟨k+1,_,rfl,rfl,rfl,⟨by omega,by rw [ho,cA h30,List.map_append];rfl⟩,by omega⟩
   ·replace c1:=nq c1
    refine ⟨?_,?_,?_,trivial⟩
    ·first | (rw [fN hbad]<;>rfl) | (rw [cE hok]<;>rfl) | (rw [cE hok,ho,List.take_of_length_le (by omega)])
    ·first | (rw [fN hbad]<;>rfl) | (rw [cE hok]<;>rfl) | (rw [cE hok,ho,List.take_of_length_le (by omega)])
    ·first | (rw [fN hbad]<;>rfl) | (rw [cE hok]<;>rfl) | (rw [cE hok,ho,List.take_of_length_le (by omega)])
theorem aEi {α:Type} {c:α→Nat} {m:Nat} {l:List α} (h: ∀x∈l,c x≤m):vK c l≤l.length+l.length*m:=by
 have h1:=aAJ (ct:=c) (m:=m) (l:=l) h
 have h2:vK c l=l.length+bN c l:=rfl
 omega
theorem aGy (t:aR) (cols:List Int):cM (dW t cols).1≤64∧(dW t cols).2.length≤8:=by
 cases h:(aT t&&dD (t.arity - 1) cols) with
 | false=>rw [lH h];exact ⟨by decide,by decide⟩
 | true=>
   have:=aHk (k:=(jP t cols).length) h
   rw [List.take_length,rQ] at this
   rw [eP h]
   exact ⟨this.2,by simp only [aIy,List.length_map,aKK];exact this.1⟩
theorem aHp {t:aR} (h:aT t=true):t.name.size=1:=by
 simp only [aT,dV,Bool.and_eq_true,decide_eq_true_eq] at h
 omega
theorem aCd (t:aR):aW (bB t)≤2000:=by
 cases h:aT t with
 | false=>rw [eQ h];decide
 | true=>
   have hT:=bZ h
   have hn:=aHp h
   have hl:=xA (n:=t.arity) ⟨hT.1,hT.2.1⟩
   rw [bQ h]
   have h1:=aEi (c:=bH) (m:=75) (l:=(bO t.arity).map (sU t)) fun x hx=>by
    obtain ⟨c,hc,rfl⟩:=List.mem_map.1 hx
    obtain ⟨k,hk,hc⟩:=List.mem_iff_getElem.1 hc
    have h3:=aAN (List.getElem?_eq_some_iff.2 ⟨hk,hc⟩)
    have h4:=aGy t c
    have h5:bH (sU t c)=c.length+cM (dW t c).1+(dW t c).2.length:=rfl
    omega
   rw [List.length_map] at h1
   have h2:aW ⟨t.name,t.arity,(t.rows.length:Nat),(bO t.arity).map (sU t)⟩=t.name.size+vK bH ((bO t.arity).map (sU t)):=rfl
   omega
theorem aGz (d:aV) (v:Int):bM (fA d v).1≤20000:=by
 cases h:(fJ d&&dP v 1 999) with
 | false=>rw [fN h];decide
 | true=>
   have h6:=aEf (by simp_all:fJ d=true)
   rw [cE h]
   have h1:=aEi (c:=aW) (m:=2000) (l:=d.tables.map bB) fun x hx=>by
    obtain ⟨t,_,rfl⟩:=List.mem_map.1 hx
    exact aCd t
   rw [List.length_map] at h1
   have h2:bM ⟨v,d.tables.map bB⟩=vK aW (d.tables.map bB):=rfl
   show bM ⟨v,d.tables.map bB⟩≤20000
   omega
def jR {α:Type} (p:α→Bool) (l:List α):Int:=match l.findIdx? p with | some k=>(k:Int) | none=> -1
theorem aD7 {α:Type} {p:α→Bool} {l:List α} {k:Nat} {x:α} (h:l[k]? =some x) (ha:(l.take k).all (fun y=> !p y)=true) (hx:p x=true):jR p l=(k:Int):=by
 obtain ⟨hk,rfl⟩:=List.getElem?_eq_some_iff.1 h
 have:l.findIdx? p=some k:=by
  rw [List.findIdx?_eq_some_iff_getElem]
  refine ⟨hk,hx,fun j hj=>?_⟩
  have:=List.all_eq_true.1 ha l[j] (List.mem_iff_getElem.2 ⟨j,by rw [List.length_take];omega,by rw [List.getElem_take]⟩)
  simpa using this
 rw [jR,this]
theorem aBS {α:Type} {p:α→Bool} {l:List α} (ha:l.all (fun y=> !p y)=true):jR p l= -1:=by
 have:l.findIdx? p=none:=by
  rw [List.findIdx?_eq_none_iff]
  intro x hx
  have:=List.all_eq_true.1 ha x hx
  simpa using this
 rw [jR,this]
theorem aOQ {α:Type} {p:α→Bool} {l:List α} (h:0≤jR p l): ∃(k:Nat) (x:α),jR p l=(k:Int)∧l[k]? =some x∧p x=true∧k<l.length:=by
 unfold jR at*
 cases e:l.findIdx? p with
 | none=>rw [e] at h;exact absurd h (by decide)
 | some k=>
   rw [List.findIdx?_eq_some_iff_getElem] at e
   obtain ⟨hk,hx,_⟩:=e
   exact ⟨k,l[k],rfl,List.getElem?_eq_getElem hk,hx,hk⟩
theorem aPu {α:Type} (p:α→Bool) (l:List α): -1≤jR p l∧jR p l<(l.length:Int):=by
 by_cases h:0≤jR p l
 ·obtain ⟨k,x,h1,_,_,h4⟩:=aOQ h
  omega
 ·unfold jR at*
  cases e:l.findIdx? p with
  | none=>simp only;omega
  | some k=>rw [e] at h;simp only at h;omega
abbrev aAS (t:aR):AV × List (Nat × Rs):=(.agg [.p none (.str t.name),vI t.arity,.own 0],[(0,.arr 32 1 true (t.rows.map aE))])
abbrev aEj (t:aR):Prop:=dG Tryz.prog 220 [.agg [.str t.name,.int .i64 t.arity,.sl 32 1 (t.rows.map aE)]] (aAS t).1 (aAS t).2
theorem aOR (t:aR) (hc:eN t≤1048576):aEj t:=by
 refine aY bK aU Tryz.func220 (by kernel_rfl) (cI (aGq t.rows)<| .fin [(0,500)]) (p:=(t.rows.map aE).length≤9223372036854775807→aIp t.rows∧t.name=t.name∧t.arity=t.arity∧t.rows.map aE=t.rows.map aE∧True) (by kernel_rfl) ?_
 intro n0
 simp only [List.length_map] at n0
 have q1:eN t=t.name.size+cM t.rows:=rfl
 have q2:=fL t.rows
 refine ⟨cpR _ (by omega),?_⟩
 exact ⟨rfl,rfl,rfl,trivial⟩
abbrev aAT (t:aR):AV × List (Nat × Rs):=(.agg [.p none (.str t.name),vI t.arity,.own 0],[(0,.arr 32 1 true (t.rows.map aE))])
abbrev aEk (t:aR):Prop:=dG Tryz.prog 205 [.agg [.str t.name,.int .i64 t.arity,.sl 32 1 (t.rows.map aE)]] (aAT t).1 (aAT t).2
theorem aOS (t:aR) (hc:eN t≤1048576):aEk t:=by
 refine aY bK aU Tryz.func205 (by kernel_rfl) (.loop (Nat × (List (List Int))) (Q2 Nat (List (List Int))) [4,10,11,12,13,14,15,16,17,18,19,20,21,22,23,24,25,26,27,28] [300,1900,2500,2600,2700,9000] (fun yy0=>[(4,vI (yy0.1:Int))]) (fun yy0=>[(300,some (.box 162 [.p none (.str t.name),vI t.arity,.own 9000])),(9000,some (.arr 32 1 true (yy0.2.map aE)))]) (fun yy0=>yy0.1≤t.rows.length∧yy0.2=t.rows.take yy0.1) (fun yy0=>t.rows.length - yy0.1) (fun yy0=> .len t.rows.length<| .br (.elem _ aE t.rows (fun e23=> .app Int intD ([]:List Int) e23<| .appx (List Int) aE yy0.2 (([]:List Int)++e23)<| .back [(300,300),(9000,2700)])) (.fin [(0,9000)]))) (p:=(t.rows.map aE).length≤9223372036854775807→(∃(k:Nat) (out:List (List Int)),(0:Int)=(k:Int)∧t.name=t.name∧t.arity=t.arity∧[]=out.map aE∧k≤t.rows.length∧out=t.rows.take k)∧ ∀(k:Nat) (out:List (List Int)),(k≤t.rows.length∧out=t.rows.take k)→Lm aE t.rows∧(((decide ((k:Int)<((t.rows.length:Nat):Int)))=true→0≤(k:Int)∧Em aE t.rows k fun e23=>[]=([]:List Int).map intD∧e23.map intD=e23.map intD∧(∀x,eC (intD x)=true)∧(([]:List Int).length+e23.length)*8≤140737488355328∧out.map aE=out.map aE∧(([]:List Int)++e23).map intD=(([]:List Int)++e23).map intD∧(out.length+1)*24≤140737488355328∧dB ((k:Int)+(1:Int))∧ ∃(k' :Nat) (out' :List (List Int)),((k:Int)+(1:Int))=(k' :Int)∧t.name=t.name∧t.arity=t.arity∧(out++[([]:List Int)++e23]).map aE=out'.map aE∧(k' ≤t.rows.length∧out' =t.rows.take k')∧t.rows.length - k' <t.rows.length - k)∧((decide ((k:Int)<((t.rows.length:Nat):Int)))=false→t.name=t.name∧t.arity=t.arity∧out.map aE=t.rows.map aE∧True))) (by kernel_rfl) ?_
 intro n0
 simp only [List.length_map] at n0
 have q1:eN t=t.name.size+cM t.rows:=rfl
 have q2:=fL t.rows
 refine ⟨⟨0,([]:List (List Int)),rfl,rfl,rfl,rfl,Nat.zero_le _,rfl⟩,fun k out ⟨hk,ho⟩=>?_⟩
 refine ⟨List.length_map _,fun c0=>?_,fun c0=>?_⟩
 ·replace c0:=yq c0
  refine ⟨by omega,rfl,by omega,fun e23 h23=>?_⟩
  have hp3:=yR h23
  refine ⟨rfl,rfl,fun _=>rfl,by first | omega | (simp;omega) | (simp [ho];omega),?_⟩
  refine ⟨rfl,rfl,by first | omega | (simp;omega) | (simp [ho];omega),⟨by omega,by omega⟩,?_⟩
  exact ⟨k+1,_,rfl,rfl,rfl,rfl,⟨by omega,by rw [ho,cA h23];rfl⟩,by omega⟩
 ·replace c0:=nq c0
  refine ⟨rfl,rfl,?_,trivial⟩
  ·first | rfl | (rw [ho,List.take_of_length_le (by omega)])
abbrev isN (n:ByteArray):aR→Bool:=fun t=>t.name.toList==n.toList
abbrev isI (v:Int):Int→Bool:=fun y=>decide (v=y)
theorem nG {α:Type} {p:α→Bool} {l:List α}:(jR p l<0→l.find? p=none)∧(0≤jR p l→ ∃(k:Nat) (x:α),jR p l=(k:Int)∧l[k]? =some x∧l.find? p=some x):=by
 unfold jR
 cases e:l.findIdx? p with
 | none=>
   rw [List.findIdx?_eq_none_iff] at e
   refine ⟨fun _=>List.find?_eq_none.2 fun x hx=>by rw [e x hx];decide,fun h=>absurd h (by decide)⟩
 | some k=>
   rw [List.findIdx?_eq_some_iff_getElem] at e
   obtain ⟨hk,hx,hj⟩:=e
   refine ⟨fun h=>absurd h (by simp only;omega),fun _=>⟨k,l[k],rfl,List.getElem?_eq_getElem hk,?_⟩⟩
   rw [List.find?_eq_some_iff_getElem]
   exact ⟨hx,k,hk,rfl,fun j hjk=>by have:=hj j hjk;simpa using this⟩
theorem aJM {l:List Int} {v:Int}:decide (0≤jR (isI v) l)=decide (v∈l):=by
 apply Bool.eq_iff_iff.2
 rw [decide_eq_true_eq,decide_eq_true_eq]
 constructor
 ·intro h
  obtain ⟨k,x,_,hx,hf⟩:=nG.2 h
  have h1:=List.find?_some hf
  have:v=x:=by simpa [isI] using h1
  rw [this];exact List.mem_of_getElem? hx
 ·intro h
  rcases Int.lt_or_le (jR (isI v) l) 0 with q | q
  ·have:=nG.1 q
   rw [List.find?_eq_none] at this
   exact absurd (this v h) (by simp [isI])
  ·exact q
def aI (d:aV) (n:ByteArray):aR × Bool:=if fJ d=true then (match d.tables.find? (isN n) with | some t=>(t,true) | none=>(fT,false)) else (fT,false)
theorem aBT {d:aV} {n:ByteArray} (h:fJ d=false∨d.tables.find? (isN n)=none):aI d n=(fT,false):=by
 unfold aI
 rcases h with h | h
 ·rw [if_neg (by rw [h];decide)]
 ·rw [h];split<;>rfl
theorem aHA {d:aV} {n:ByteArray} {t:aR} (h:fJ d=true) (hf:d.tables.find? (isN n)=some t):aI d n=(t,true):=by rw [aI,if_pos h,hf]
theorem aOT {d:aV} (h:fJ d=true):d.tables.all aT=true:=by
 simp only [fJ,Bool.and_eq_true] at h
 exact h.1
theorem mI {d:aV} {n:ByteArray} (h:(aI d n).2=true):aT (aI d n).1=true∧fJ d=true:=by
 unfold aI at*
 split at h
 ·rename_i hd
  rw [if_pos hd]
  cases e:d.tables.find? (isN n) with
  | none=>rw [e] at h;cases h
  | some t=>exact ⟨List.all_eq_true.1 (aOT hd) t (List.mem_of_find?_eq_some e),hd⟩
 ·cases h
abbrev aOU (t:aR) (n:ByteArray):Prop:=dG Tryz.prog 224 [.agg [.str t.name,.int .i64 t.arity,.sl 32 1 (t.rows.map aE)],.ref [.str n]] (vB (isN n t)) []
theorem aRw (t:aR) (n:ByteArray):aOU t n:=by
 refine aY bK aU Tryz.func224 (by kernel_rfl) (.fin []) (p:=(t.rows.map aE).length≤9223372036854775807→(t.name.toList==n.toList)=(isN n t)∧True) (by kernel_rfl) ?_
 intro n0
 simp only [List.length_map] at n0
 refine ⟨?_,trivial⟩
 ·rfl
abbrev aOV (l:List aR) (n:ByteArray):Prop:=dG Tryz.prog 223 [.one (.sl 162 3 (l.map aP)),.fn 224 [[.str n]]] (vI (jR (isN n) l)) []
theorem aRx (l:List aR) (n:ByteArray):aOV l n:=by
 refine aY bK aU Tryz.func223 (by kernel_rfl) (.len l.length<| .loop Nat (Q1 Nat) [5,8,9,10,11,12,13,14,15,16,18] [] (fun k=>[(8,vI (k:Int))]) (fun k=>[]) (fun k=>k≤l.length∧(l.take k).all (fun y=> !isN n y)=true) (fun k=>l.length - k) (fun k=> .br (.elem _ aP l (fun e14=> .call (vB (isN n e14)) []<| .br (.fin []) (.back []))) (.fin []))) (p:=(l.map aP).length≤9223372036854775807→Lm aP l∧((∃(k:Nat),(0:Int)=(k:Int)∧k≤l.length∧(l.take k).all (fun y=> !isN n y)=true)∧ ∀(k:Nat),(k≤l.length∧(l.take k).all (fun y=> !isN n y)=true)→((decide ((k:Int)<((l.length:Nat):Int)))=true→0≤(k:Int)∧Em aP l k fun e14=>aOU e14 n∧(((isN n e14)=true→(k:Int)=(jR (isN n) l)∧True)∧((isN n e14)=false→dB ((k:Int)+(1:Int))∧ ∃(k' :Nat),((k:Int)+(1:Int))=(k' :Int)∧(k' ≤l.length∧(l.take k').all (fun y=> !isN n y)=true)∧l.length - k' <l.length - k)))∧((decide ((k:Int)<((l.length:Nat):Int)))=false→(-1:Int)=(jR (isN n) l)∧True))) (by kernel_rfl) ?_
 intro n0
 simp only [List.length_map] at n0
 refine ⟨List.length_map _,⟨0,rfl,Nat.zero_le _,rfl⟩,fun k ⟨hk,ha⟩=>?_⟩
 refine ⟨fun c0=>?_,fun c0=>?_⟩
 ·replace c0:=yq c0
  refine ⟨by omega,rfl,by omega,fun e14 h14=>?_⟩
  refine ⟨aRw _ _,fun c1=>?_,fun c1=>?_⟩
  ·have hE:=aD7 (p:=isN n) h14 ha c1
   refine ⟨?_,trivial⟩
   ·rw [hE]
  ·refine ⟨⟨by omega,by omega⟩,?_⟩
   exact ⟨k+1,rfl,⟨by omega,dQ h14 ha (by simp [c1])⟩,by omega⟩
 ·replace c0:=nq c0
  have hE:=aBS (p:=isN n) (bU (by omega) ha)
  refine ⟨?_,trivial⟩
  ·rw [hE]
abbrev aEm (d:aV) (n:ByteArray):AV × List (Nat × Rs):=(.tup [.agg [.p none (.str (((aI d n).1).name)),vI (((aI d n).1).arity),.own 0],vB ((aI d n).2)],[(0,.arr 32 1 true ((((aI d n).1).rows).map aE))])
abbrev aKN (d:aV) (n:ByteArray):Prop:=dG Tryz.prog 148 [.agg [.sl 162 3 (d.tables.map aP)],.one (.str n)] (aEm d n).1 (aEm d n).2
theorem qO (d:aV) (n:ByteArray) (hc:bF d≤1048576):aKN d n:=by
 refine aY bK aU Tryz.func148 (by kernel_rfl) (.call (vI (jR (isN n) d.tables)) []<| .br (.fin []) (.call (vB (fJ d)) []<| .lit<| .lit<| .br (.fin []) (.elem _ aP d.tables (fun e22=>cI (aAS e22)<| .fin [(0,2400)])))) (p:=(d.tables.map aP).length≤9223372036854775807→aOV d.tables n∧(((decide ((jR (isN n) d.tables)<(0:Int)))=true→ByteArray.empty=(((aI d n).1).name)∧(0:Int)=(((aI d n).1).arity)∧(false)=((aI d n).2)∧[]=(((aI d n).1).rows).map aE∧True)∧((decide ((jR (isN n) d.tables)<(0:Int)))=false→aCL d∧(((!(fJ d))=true→ByteArray.empty=(((aI d n).1).name)∧(0:Int)=(((aI d n).1).arity)∧(false)=((aI d n).2)∧[]=(((aI d n).1).rows).map aE∧True)∧((!(fJ d))=false→0≤(jR (isN n) d.tables)∧Em aP d.tables ((jR (isN n) d.tables).toNat) fun e22=>aEj e22∧e22.name=(((aI d n).1).name)∧e22.arity=(((aI d n).1).arity)∧(true)=((aI d n).2)∧e22.rows.map aE=(((aI d n).1).rows).map aE∧True))))) (by kernel_rfl) ?_
 intro n0
 simp only [List.length_map] at n0
 have q1:bF d=gO d.tables:=rfl
 have hg:=aPu (isN n) d.tables
 refine ⟨aRx _ _,fun g13=>?_,fun g13=>?_⟩
 ·replace g13:=yq g13
  have hbad:aI d n=(fT,false):=aBT (by first | (left;simpa using g15;done) | (left;simpa using c0;done) | (right;exact nG.1 (by omega)))
  refine ⟨?_,?_,?_,?_,trivial⟩
  ·first | (rw [hbad]<;>rfl) | (rw [hok]<;>rfl)
  ·first | (rw [hbad]<;>rfl) | (rw [hok]<;>rfl)
  ·first | (rw [hbad]<;>rfl) | (rw [hok]<;>rfl)
  ·first | (rw [hbad]<;>rfl) | (rw [hok]<;>rfl)
 ·replace g13:=nq g13
  refine ⟨aLI d,fun c0=>?_,fun c0=>?_⟩
  ·replace c0:=nt c0
   have hbad:aI d n=(fT,false):=aBT (by first | (left;simpa using g15;done) | (left;simpa using c0;done) | (right;exact nG.1 (by omega)))
   refine ⟨?_,?_,?_,?_,trivial⟩
   ·first | (rw [hbad]<;>rfl) | (rw [hok]<;>rfl)
   ·first | (rw [hbad]<;>rfl) | (rw [hok]<;>rfl)
   ·first | (rw [hbad]<;>rfl) | (rw [hok]<;>rfl)
   ·first | (rw [hbad]<;>rfl) | (rw [hok]<;>rfl)
  ·replace c0:=nf c0
   have hd:fJ d=true:=by simpa using c0
   obtain ⟨k,y,hk,hy,hf⟩:=nG.2 (show 0≤jR (isN n) d.tables by omega)
   have hok:=aHA hd hf
   refine ⟨by omega,rfl,by omega,fun e22 h22=>?_⟩
   have hyx:y=e22:=by rw [hk] at h22;exact (bA (by simpa using h22) hy)
   have q2:=aAD h22
   rw [hyx] at hok
   refine ⟨aOR _ (by omega),?_,?_,?_,?_,trivial⟩
   ·first | (rw [hbad]<;>rfl) | (rw [hok]<;>rfl)
   ·first | (rw [hbad]<;>rfl) | (rw [hok]<;>rfl)
   ·first | (rw [hbad]<;>rfl) | (rw [hok]<;>rfl)
   ·first | (rw [hbad]<;>rfl) | (rw [hok]<;>rfl)
abbrev aEn (d:aV) (n:ByteArray):AV × List (Nat × Rs):=(.tup [.agg [.p none (.str (((aI d n).1).name)),vI (((aI d n).1).arity),.own 0],vB ((aI d n).2)],[(0,.arr 32 1 true ((((aI d n).1).rows).map aE))])
abbrev aKO (d:aV) (n:ByteArray):Prop:=dG Tryz.prog 132 [.agg [.sl 162 3 (d.tables.map aP)],.one (.str n)] (aEn d n).1 (aEn d n).2
theorem qP (d:aV) (n:ByteArray) (hc:bF d≤1048576):aKO d n:=by
 refine aY bK aU Tryz.func132 (by kernel_rfl) (.loop Nat (Q1 Nat) [6,7,8,9,10,11,12,13,14,15,16,17,18,19,20,21,22,23,24,25] [] (fun k=>[(6,vI (k:Int))]) (fun k=>[]) (fun k=>k≤d.tables.length∧(d.tables.take k).all (fun y=> !isN n y)=true) (fun k=>d.tables.length - k) (fun k=> .len d.tables.length<| .br (.call (vB (fJ d)) []<| .lit<| .br (.elem _ aP d.tables (fun e21=> .br (.elem _ aP d.tables (fun e29=>cI (aAT e29)<| .fin [(0,3100)])) (.back []))) (.fin [])) (.fin []))) (p:=(d.tables.map aP).length≤9223372036854775807→(∃(k:Nat),(0:Int)=(k:Int)∧k≤d.tables.length∧(d.tables.take k).all (fun y=> !isN n y)=true)∧ ∀(k:Nat),(k≤d.tables.length∧(d.tables.take k).all (fun y=> !isN n y)=true)→Lm aP d.tables∧(((decide ((k:Int)<((d.tables.length:Nat):Int)))=true→aCM d∧(((fJ d)=true→0≤(k:Int)∧Em aP d.tables k fun e21=>((e21.name.toList==n.toList)=true→0≤(k:Int)∧Em aP d.tables k fun e29=>aEk e29∧e29.name=(((aI d n).1).name)∧e29.arity=(((aI d n).1).arity)∧(true)=((aI d n).2)∧e29.rows.map aE=(((aI d n).1).rows).map aE∧True)∧((e21.name.toList==n.toList)=false→dB ((k:Int)+(1:Int))∧ ∃(k' :Nat),((k:Int)+(1:Int))=(k' :Int)∧(k' ≤d.tables.length∧(d.tables.take k').all (fun y=> !isN n y)=true)∧d.tables.length - k' <d.tables.length - k))∧((fJ d)=false→ByteArray.empty=(((aI d n).1).name)∧(0:Int)=(((aI d n).1).arity)∧(false)=((aI d n).2)∧[]=(((aI d n).1).rows).map aE∧True)))∧((decide ((k:Int)<((d.tables.length:Nat):Int)))=false→ByteArray.empty=(((aI d n).1).name)∧(0:Int)=(((aI d n).1).arity)∧(false)=((aI d n).2)∧[]=(((aI d n).1).rows).map aE∧True))) (by kernel_rfl) ?_
 intro n0
 simp only [List.length_map] at n0
 have q1:bF d=gO d.tables:=rfl
 refine ⟨⟨0,rfl,Nat.zero_le _,rfl⟩,fun k ⟨hk,ha⟩=>?_⟩
 refine ⟨List.length_map _,fun g12=>?_,fun g12=>?_⟩
 ·replace g12:=yq g12
  refine ⟨aLJ d,fun c0=>?_,fun c0=>?_⟩
  ·refine ⟨by omega,rfl,by omega,fun e21 h21=>?_⟩
   try (obtain rfl:=(bA h21 h21).symm)
   have q2:=aAD h21
   refine ⟨fun c1=>?_,fun c1=>?_⟩
   ·have hok:=aHA (n:=n) c0 (aHo (p:=isN n) h21 ha c1)
    refine ⟨by omega,rfl,by omega,fun e29 h29=>?_⟩
    try (obtain rfl:=(bA h21 h29).symm)
    refine ⟨aOS _ (by omega),?_,?_,?_,?_,trivial⟩
    ·first | (rw [hbad]<;>rfl) | (rw [hok]<;>rfl)
    ·first | (rw [hbad]<;>rfl) | (rw [hok]<;>rfl)
    ·first | (rw [hbad]<;>rfl) | (rw [hok]<;>rfl)
    ·first | (rw [hbad]<;>rfl) | (rw [hok]<;>rfl)
   ·refine ⟨⟨by omega,by omega⟩,?_⟩
    exact ⟨k+1,rfl,⟨by omega,dQ h21 ha (by simp [isN,c1])⟩,by omega⟩
  ·have hbad:aI d n=(fT,false):=aBT (by first | (left;exact c0) | (right;exact aD6 (bU (by omega) ha)))
   refine ⟨?_,?_,?_,?_,trivial⟩
   ·first | (rw [hbad]<;>rfl) | (rw [hok]<;>rfl)
   ·first | (rw [hbad]<;>rfl) | (rw [hok]<;>rfl)
   ·first | (rw [hbad]<;>rfl) | (rw [hok]<;>rfl)
   ·first | (rw [hbad]<;>rfl) | (rw [hok]<;>rfl)
 ·replace g12:=nq g12
  have hbad:aI d n=(fT,false):=aBT (by first | (left;exact c0) | (right;exact aD6 (bU (by omega) ha)))
  refine ⟨?_,?_,?_,?_,trivial⟩
  ·first | (rw [hbad]<;>rfl) | (rw [hok]<;>rfl)
  ·first | (rw [hbad]<;>rfl) | (rw [hok]<;>rfl)
  ·first | (rw [hbad]<;>rfl) | (rw [hok]<;>rfl)
  ·first | (rw [hbad]<;>rfl) | (rw [hok]<;>rfl)
abbrev aQI (l:List Int) (v:Int):Prop:=dG Tryz.prog 187 [.one (.sl 3 1 (l.map intD)),.one (.int .i64 v)] (vI (jR (isI v) l)) []
theorem ixI (l:List Int) (v:Int):aQI l v:=by
 refine aY bK aU Tryz.func187 (by kernel_rfl) (.len l.length<| .loop Nat (Q1 Nat) [5,8,9,10,11,12,13,14,15,16,18] [] (fun k=>[(8,vI (k:Int))]) (fun k=>[]) (fun k=>k≤l.length∧(l.take k).all (fun y=> !isI v y)=true) (fun k=>l.length - k) (fun k=> .br (.elem _ intD l (fun e14=> .br (.fin []) (.back []))) (.fin []))) (p:=(l.map intD).length≤9223372036854775807→Lm intD l∧((∃(k:Nat),(0:Int)=(k:Int)∧k≤l.length∧(l.take k).all (fun y=> !isI v y)=true)∧ ∀(k:Nat),(k≤l.length∧(l.take k).all (fun y=> !isI v y)=true)→((decide ((k:Int)<((l.length:Nat):Int)))=true→0≤(k:Int)∧Em intD l k fun e14=>((decide (v=e14))=true→(k:Int)=(jR (isI v) l)∧True)∧((decide (v=e14))=false→dB ((k:Int)+(1:Int))∧ ∃(k' :Nat),((k:Int)+(1:Int))=(k' :Int)∧(k' ≤l.length∧(l.take k').all (fun y=> !isI v y)=true)∧l.length - k' <l.length - k))∧((decide ((k:Int)<((l.length:Nat):Int)))=false→(-1:Int)=(jR (isI v) l)∧True))) (by kernel_rfl) ?_
 intro n0
 simp only [List.length_map] at n0
 refine ⟨List.length_map _,⟨0,rfl,Nat.zero_le _,rfl⟩,fun k ⟨hk,ha⟩=>?_⟩
 refine ⟨fun c0=>?_,fun c0=>?_⟩
 ·replace c0:=yq c0
  refine ⟨by omega,rfl,by omega,fun e14 h14=>?_⟩
  refine ⟨fun c1=>?_,fun c1=>?_⟩
  ·replace c1:=yq c1
   have hE:=aD7 (p:=isI v) h14 ha (by simpa [isI] using c1)
   refine ⟨?_,trivial⟩
   ·rw [hE]
  ·replace c1:=nq c1
   refine ⟨⟨by omega,by omega⟩,?_⟩
   exact ⟨k+1,rfl,⟨by omega,dQ h14 ha (by simpa [isI] using c1)⟩,by omega⟩
 ·replace c0:=nq c0
  have hE:=aBS (p:=isI v) (bU (by omega) ha)
  refine ⟨?_,trivial⟩
  ·rw [hE]
abbrev aLK (l:List Int) (v:Int):Prop:=dG Tryz.prog 115 [.one (.sl 3 1 (l.map intD)),.one (.int .i64 v)] (vB (decide (v∈l))) []
theorem ctI (l:List Int) (v:Int):aLK l v:=by
 refine aY bK aU Tryz.func115 (by kernel_rfl) (.call (vI (jR (isI v) l)) []<| .fin []) (p:=(l.map intD).length≤9223372036854775807→aQI l v∧(decide ((0:Int)≤(jR (isI v) l)))=(decide (v∈l))∧True) (by kernel_rfl) ?_
 intro n0
 simp only [List.length_map] at n0
 refine ⟨ixI _ _,?_,trivial⟩
 ·exact aJM
abbrev aOW (l:List Int) (v:Int):Prop:=dG Tryz.prog 170 [.one (.sl 3 1 (l.map intD)),.one (.int .i64 v)] (vB (decide (v∈l))) []
theorem hsI (l:List Int) (v:Int):aOW l v:=by
 refine aY bK aU Tryz.func170 (by kernel_rfl) (.loop Nat (Q1 Nat) [5,6,7,8,9,10,11,12,13,14,15,16,17] [] (fun k=>[(5,vI (k:Int))]) (fun k=>[]) (fun k=>k≤l.length∧(l.take k).all (fun y=> !isI v y)=true) (fun k=>l.length - k) (fun k=> .len l.length<| .br (.elem _ intD l (fun e14=> .br (.fin []) (.back []))) (.fin []))) (p:=(l.map intD).length≤9223372036854775807→(∃(k:Nat),(0:Int)=(k:Int)∧k≤l.length∧(l.take k).all (fun y=> !isI v y)=true)∧ ∀(k:Nat),(k≤l.length∧(l.take k).all (fun y=> !isI v y)=true)→Lm intD l∧(((decide ((k:Int)<((l.length:Nat):Int)))=true→0≤(k:Int)∧Em intD l k fun e14=>((decide (e14=v))=true→(true)=(decide (v∈l))∧True)∧((decide (e14=v))=false→dB ((k:Int)+(1:Int))∧ ∃(k' :Nat),((k:Int)+(1:Int))=(k' :Int)∧(k' ≤l.length∧(l.take k').all (fun y=> !isI v y)=true)∧l.length - k' <l.length - k))∧((decide ((k:Int)<((l.length:Nat):Int)))=false→(false)=(decide (v∈l))∧True))) (by kernel_rfl) ?_
 intro n0
 simp only [List.length_map] at n0
 refine ⟨⟨0,rfl,Nat.zero_le _,rfl⟩,fun k ⟨hk,ha⟩=>?_⟩
 refine ⟨List.length_map _,fun c0=>?_,fun c0=>?_⟩
 ·replace c0:=yq c0
  refine ⟨by omega,rfl,by omega,fun e14 h14=>?_⟩
  refine ⟨fun c1=>?_,fun c1=>?_⟩
  ·replace c1:=yq c1
   have hE:decide (v∈l)=true:=by rw [←c1];exact decide_eq_true (List.mem_of_getElem? h14)
   refine ⟨?_,trivial⟩
   ·rw [hE]
  ·replace c1:=nq c1
   refine ⟨⟨by omega,by omega⟩,?_⟩
   exact ⟨k+1,rfl,⟨by omega,dQ h14 ha (by simpa [isI] using fun q=>c1 (Eq.symm q))⟩,by omega⟩
 ·replace c0:=nq c0
  have hE:decide (v∈l)=false:=by rw [←aJM,aBS (p:=isI v) (bU (by omega) ha)];rfl
  refine ⟨?_,trivial⟩
  ·rw [hE]
def eA (d:aV) (f:aN):Bool:=(aI d f.name).2&&(dD ((aI d f.name).1.arity - 1) f.src&&(dP f.dst 0 ((aI d f.name).1.arity - 1)&& !decide (f.dst∈f.src)))
def aKP (rows:List (List Int)) (cols:List Int) (c:Int) (i k:Nat):Bool:=decide ((eO (rows.getD i []) cols).1=(eO (rows.getD k []) cols).1)&& !decide ((rows.getD i []).getD c.toNat 0=(rows.getD k []).getD c.toNat 0)
def jS (rows:List (List Int)) (cols:List Int) (c:Int) (k:Nat):Nat→List Int
 | 0=>[]
 | i+1=>if jS rows cols c k i= []∧aKP rows cols c i k=true then [(i:Int),(k:Int)] else jS rows cols c k i
def kE (rows:List (List Int)) (cols:List Int) (c:Int):Nat→List Int
 | 0=>[]
 | k+1=>if kE rows cols c k= [] then jS rows cols c k k else kE rows cols c k
def iV (d:aV) (f:aN):List Int:=if eA d f=true then kE (aI d f.name).1.rows f.src f.dst (aI d f.name).1.rows.length else []
theorem aBU {rows:List (List Int)} {cols:List Int} {c:Int} {k i:Nat} (h:jS rows cols c k i= []) (hb:aKP rows cols c i k=false):jS rows cols c k (i+1)= []:=by rw [jS,if_neg (by simp [hb]),h]
theorem aEo {rows:List (List Int)} {cols:List Int} {c:Int} {k i:Nat} (h: ¬jS rows cols c k i= []): ∀j,jS rows cols c k (i+j)=jS rows cols c k i
 | 0=>rfl
 | j+1=>by rw [Nat.add_succ,jS,aEo h j,if_neg (by simp [h])]
theorem aEp {rows:List (List Int)} {cols:List Int} {c:Int} {k:Nat} (h: ¬kE rows cols c k= []): ∀j,kE rows cols c (k+j)=kE rows cols c k
 | 0=>rfl
 | j+1=>by rw [Nat.add_succ,kE,aEp h j,if_neg h]
theorem aEq {rows:List (List Int)} {cols:List Int} {c:Int} {k i n:Nat} (hk:kE rows cols c k= []) (hi:jS rows cols c k i= []) (hb:aKP rows cols c i k=true) (hik:i<k) (hkn:k<n):kE rows cols c n= [(i:Int),(k:Int)]:=by
 have h1:jS rows cols c k (i+1)= [(i:Int),(k:Int)]:=by rw [jS,if_pos ⟨hi,hb⟩]
 have h2:jS rows cols c k k= [(i:Int),(k:Int)]:=by
  have:=aEo (rows:=rows) (cols:=cols) (c:=c) (k:=k) (i:=i+1) (by rw [h1];simp) (k - (i+1))
  rw [show i+1+(k - (i+1))=k by omega,h1] at this
  exact this
 have h3:kE rows cols c (k+1)= [(i:Int),(k:Int)]:=by rw [kE,if_pos hk,h2]
 have:=aEp (rows:=rows) (cols:=cols) (c:=c) (k:=k+1) (by rw [h3];simp) (n - (k+1))
 rw [show k+1+(n - (k+1))=n by omega,h3] at this
 exact this
theorem aEr {rows:List (List Int)} {cols:List Int} {c:Int} {k:Nat} (hk:kE rows cols c k= []) (hi:jS rows cols c k k= []):kE rows cols c (k+1)= []:=by rw [kE,if_pos hk,hi]
theorem aCe {d:aV} {f:aN} (h:eA d f=true):aT (aI d f.name).1=true∧0≤f.dst∧f.dst≤(aI d f.name).1.arity - 1∧f.src.length≤3:=by
 simp only [eA,Bool.and_eq_true] at h
 obtain ⟨h1,h2,h3,_⟩:=h
 have hT:=(mI h1).1
 have ha:=bZ hT
 have:=eL h3
 exact ⟨hT,this.1,this.2,aBL h2 (by omega)⟩
theorem aLL {rows:List (List Int)} {cols:List Int} {c:Int} {i k:Nat} {x y:List Int} (hx:rows[i]? =some x) (hy:rows[k]? =some y):aKP rows cols c i k=(decide ((eO x cols).1=(eO y cols).1)&& !decide (x.getD c.toNat 0=y.getD c.toNat 0)):=by
 rw [aKP,bD hx,bD hy]
def gY (d:aV) (f:aN):Bool:=eA d f&&decide (iV d f= [])
theorem oN {α:Type} [DecidableEq α] (l:List α):decide (((l.length:Nat):Int)=0)=decide (l= []):=by
 cases l with
 | nil=>rfl
 | cons a l=>simp;omega
abbrev tY (d:aV) (f:aN):Prop:=dG Tryz.prog 231 [.agg [.sl 162 3 (d.tables.map aP)],.agg [.str f.name,.sl 3 1 (f.src.map intD),.int .i64 f.dst]] (vB (eA d f)) []
theorem aEs (d:aV) (f:aN) (hc:bF d≤1048576):tY d f:=by
 refine aY bK aU Tryz.func231 (by kernel_rfl) (.call (.tup [.agg [.p none (.str (((aI d f.name).1).name)),vI (((aI d f.name).1).arity),.p none (.sl 32 1 ((((aI d f.name).1).rows).map aE))],vB ((aI d f.name).2)]) []<| .br (.call (vB (dD ((((aI d f.name).1).arity) - 1) f.src)) []<| .lit<| .br (.raw<| .call (vB (dP f.dst (0:Int) (IntKind.i64.wrap ((((aI d f.name).1).arity) - (1:Int))))) []<| .lit<| .br (.call (vB (decide (f.dst∈f.src))) []<| .fin []) (.fin [])) (.fin [])) (.fin [])) (p:=(d.tables.map aP).length≤9223372036854775807→(f.src.map intD).length≤9223372036854775807→dG Tryz.prog 148 [.agg [.sl 162 3 (d.tables.map aP)],.one (.str f.name)] (.tup [.agg [.p none (.str (((aI d f.name).1).name)),vI (((aI d f.name).1).arity),.p none (.sl 32 1 ((((aI d f.name).1).rows).map aE))],vB ((aI d f.name).2)]) []∧((((aI d f.name).2)=true→wS f.src (((aI d f.name).1).arity)∧(((dD ((((aI d f.name).1).arity) - 1) f.src)=true→eY f.dst (0:Int) (IntKind.i64.wrap ((((aI d f.name).1).arity) - (1:Int)))∧(((dP f.dst (0:Int) (IntKind.i64.wrap ((((aI d f.name).1).arity) - (1:Int))))=true→aLK f.src f.dst∧(!(decide (f.dst∈f.src)))=(eA d f)∧True)∧((dP f.dst (0:Int) (IntKind.i64.wrap ((((aI d f.name).1).arity) - (1:Int))))=false→(false)=(eA d f)∧True)))∧((dD ((((aI d f.name).1).arity) - 1) f.src)=false→(false)=(eA d f)∧True)))∧(((aI d f.name).2)=false→(false)=(eA d f)∧True))) (by kernel_rfl) ?_
 intro n0 n1
 simp only [List.length_map] at n0 n1
 refine ⟨iX (qO _ f.name (by omega)) rfl,fun g15=>?_,fun g15=>?_⟩
 ·have hT:=(mI g15).1
  have hA:=bZ hT
  have hw:IntKind.i64.wrap ((aI d f.name).1.arity - 1)=(aI d f.name).1.arity - 1:=IntWalk.i64_in _ ⟨by omega,by omega⟩
  try rw [hw]
  refine ⟨aGn _ _ (by omega),fun g22=>?_,fun g22=>?_⟩
  ·refine ⟨iJ _ _ _,fun g30=>?_,fun g30=>?_⟩
   ·refine ⟨ctI _ _,?_,trivial⟩
    ·first | (simp [eA, *];done) | (simp [eA, *] at*;simp [*];done) | (simp_all [eA];done)
   ·refine ⟨?_,trivial⟩
    ·first | (simp [eA, *];done) | (simp [eA, *] at*;simp [*];done) | (simp_all [eA];done)
  ·refine ⟨?_,trivial⟩
   ·first | (simp [eA, *];done) | (simp [eA, *] at*;simp [*];done) | (simp_all [eA];done)
 ·refine ⟨?_,trivial⟩
  ·first | (simp [eA, *];done) | (simp [eA, *] at*;simp [*];done) | (simp_all [eA];done)
abbrev tZ (d:aV) (f:aN):Prop:=dG Tryz.prog 212 [.agg [.sl 162 3 (d.tables.map aP)],.agg [.str f.name,.sl 3 1 (f.src.map intD),.int .i64 f.dst]] (vB (eA d f)) []
theorem aEt (d:aV) (f:aN) (hc:bF d≤1048576):tZ d f:=by
 refine aY bK aU Tryz.func212 (by kernel_rfl) (.call (.tup [.agg [.p none (.str (((aI d f.name).1).name)),vI (((aI d f.name).1).arity),.p none (.sl 32 1 ((((aI d f.name).1).rows).map aE))],vB ((aI d f.name).2)]) []<| .br (.call (vB (aT ((aI d f.name).1)&&dD (((aI d f.name).1).arity - 1) f.src)) []<| .lit<| .br (.raw<| .call (vB (dP f.dst (0:Int) (IntKind.i64.wrap ((((aI d f.name).1).arity) - (1:Int))))) []<| .lit<| .br (.call (vB (decide (f.dst∈f.src))) []<| .fin []) (.fin [])) (.fin [])) (.fin [])) (p:=(d.tables.map aP).length≤9223372036854775807→(f.src.map intD).length≤9223372036854775807→dG Tryz.prog 132 [.agg [.sl 162 3 (d.tables.map aP)],.one (.str f.name)] (.tup [.agg [.p none (.str (((aI d f.name).1).name)),vI (((aI d f.name).1).arity),.p none (.sl 32 1 ((((aI d f.name).1).rows).map aE))],vB ((aI d f.name).2)]) []∧((((aI d f.name).2)=true→wT ((aI d f.name).1) f.src∧(((aT ((aI d f.name).1)&&dD (((aI d f.name).1).arity - 1) f.src)=true→eZ f.dst (0:Int) (IntKind.i64.wrap ((((aI d f.name).1).arity) - (1:Int)))∧(((dP f.dst (0:Int) (IntKind.i64.wrap ((((aI d f.name).1).arity) - (1:Int))))=true→aOW f.src f.dst∧(!(decide (f.dst∈f.src)))=(eA d f)∧True)∧((dP f.dst (0:Int) (IntKind.i64.wrap ((((aI d f.name).1).arity) - (1:Int))))=false→(false)=(eA d f)∧True)))∧((aT ((aI d f.name).1)&&dD (((aI d f.name).1).arity - 1) f.src)=false→(false)=(eA d f)∧True)))∧(((aI d f.name).2)=false→(false)=(eA d f)∧True))) (by kernel_rfl) ?_
 intro n0 n1
 simp only [List.length_map] at n0 n1
 refine ⟨iX (qP _ f.name (by omega)) rfl,fun g15=>?_,fun g15=>?_⟩
 ·have hT:=(mI g15).1
  have hA:=bZ hT
  have hw:IntKind.i64.wrap ((aI d f.name).1.arity - 1)=(aI d f.name).1.arity - 1:=IntWalk.i64_in _ ⟨by omega,by omega⟩
  try rw [hw]
  refine ⟨aGo ((aI d f.name).1) _,fun g21=>?_,fun g21=>?_⟩
  ·refine ⟨iK _ _ _,fun g29=>?_,fun g29=>?_⟩
   ·refine ⟨hsI _ _,?_,trivial⟩
    ·first | (simp [eA, *];done) | (simp [eA, *] at*;simp [*];done) | (simp_all [eA];done)
   ·refine ⟨?_,trivial⟩
    ·first | (simp [eA, *];done) | (simp [eA, *] at*;simp [*];done) | (simp_all [eA];done)
  ·refine ⟨?_,trivial⟩
   ·first | (simp [eA, *];done) | (simp [eA, *] at*;simp [*];done) | (simp_all [eA];done)
 ·refine ⟨?_,trivial⟩
  ·first | (simp [eA, *];done) | (simp [eA, *] at*;simp [*];done) | (simp_all [eA];done)
end Go.Proofs.YtokkjaflmcjlhaaGreat
namespace Go.Proofs
open Go.Shelf
namespace YtokkjaflmcjlhaaGreat
def Tryz.lays189_ren : Go.Shelf.Ren := ⟨fun | 189 => 248 | 125 => 278 | 257 => 277 | 128 => 296 | 129 => 297 | 294 => 287 | 295 => 288 | 296 => 289 | 297 => 290 | 298 => 291 | 299 => 292 | 216 => 293 | 300 => 294 | 301 => 295 | 328 => 309 | 329 => 310 | 330 => 311 | 331 => 312 | 332 => 313 | 215 => 314 | 343 => 318 | n => n, fun | 28 => 32 | 3 => 3 | 46 => 247 | 0 => 0 | 51 => 264 | 53 => 266 | 4 => 4 | 183 => 256 | 182 => 255 | 131 => 261 | 5 => 5 | 9 => 9 | 218 => 274 | 222 => 278 | 228 => 283 | 229 => 284 | n => n, fun | n => n⟩
theorem Tryz.lays189 : Go.Proofs.Lays.n189 Tryz.prog Tryz.lays189_ren := {
  mixed := by kernel_rfl
  f125 := Tryz.func278.trans (congrArg some (by kernel_rfl))
  f128 := Tryz.func296.trans (congrArg some (by kernel_rfl))
  f129 := Tryz.func297.trans (congrArg some (by kernel_rfl))
  f189 := Tryz.func248.trans (congrArg some (by kernel_rfl))
  f215 := Tryz.func314.trans (congrArg some (by kernel_rfl))
  f216 := Tryz.func293.trans (congrArg some (by kernel_rfl))
  f257 := Tryz.func277.trans (congrArg some (by kernel_rfl))
  f294 := Tryz.func287.trans (congrArg some (by kernel_rfl))
  f295 := Tryz.func288.trans (congrArg some (by kernel_rfl))
  f296 := Tryz.func289.trans (congrArg some (by kernel_rfl))
  f297 := Tryz.func290.trans (congrArg some (by kernel_rfl))
  f298 := Tryz.func291.trans (congrArg some (by kernel_rfl))
  f299 := Tryz.func292.trans (congrArg some (by kernel_rfl))
  f300 := Tryz.func294.trans (congrArg some (by kernel_rfl))
  f301 := Tryz.func295.trans (congrArg some (by kernel_rfl))
  f328 := Tryz.func309.trans (congrArg some (by kernel_rfl))
  f329 := Tryz.func310.trans (congrArg some (by kernel_rfl))
  f330 := Tryz.func311.trans (congrArg some (by kernel_rfl))
  f331 := Tryz.func312.trans (congrArg some (by kernel_rfl))
  f332 := Tryz.func313.trans (congrArg some (by kernel_rfl))
  f343 := Tryz.func318.trans (congrArg some (by kernel_rfl))
  t0 := Tryz.underlying0
  a0 := Tryz.isAgg0
  z0 := Tryz.sizeOf0
  v0 := Tryz.zeroValue0
  t3 := Tryz.underlying3
  a3 := Tryz.isAgg3
  z3 := Tryz.sizeOf3
  v3 := Tryz.zeroValue3
  t4 := Tryz.underlying4
  a4 := Tryz.isAgg4
  z4 := Tryz.sizeOf4
  v4 := Tryz.zeroValue4
  t5 := Tryz.underlying5
  a5 := Tryz.isAgg5
  z5 := Tryz.sizeOf5
  v5 := Tryz.zeroValue5
  t9 := Tryz.underlying9
  a9 := Tryz.isAgg9
  z9 := Tryz.sizeOf9
  v9 := Tryz.zeroValue9
  t28 := Tryz.underlying32
  a28 := Tryz.isAgg32
  z28 := Tryz.sizeOf32
  v28 := Tryz.zeroValue32
  t46 := Tryz.underlying247
  a46 := Tryz.isAgg247
  z46 := Tryz.sizeOf247
  v46 := Tryz.zeroValue247
  t51 := Tryz.underlying264
  a51 := Tryz.isAgg264
  z51 := Tryz.sizeOf264
  v51 := Tryz.zeroValue264
  t53 := Tryz.underlying266
  a53 := Tryz.isAgg266
  z53 := Tryz.sizeOf266
  v53 := Tryz.zeroValue266
  t131 := Tryz.underlying261
  a131 := Tryz.isAgg261
  z131 := Tryz.sizeOf261
  v131 := Tryz.zeroValue261
  t182 := Tryz.underlying255
  a182 := Tryz.isAgg255
  z182 := Tryz.sizeOf255
  v182 := Tryz.zeroValue255
  t183 := Tryz.underlying256
  a183 := Tryz.isAgg256
  z183 := Tryz.sizeOf256
  v183 := Tryz.zeroValue256
  t218 := Tryz.underlying274
  a218 := Tryz.isAgg274
  z218 := Tryz.sizeOf274
  v218 := Tryz.zeroValue274
  t222 := Tryz.underlying278
  a222 := Tryz.isAgg278
  z222 := Tryz.sizeOf278
  v222 := Tryz.zeroValue278
  t228 := Tryz.underlying283
  a228 := Tryz.isAgg283
  z228 := Tryz.sizeOf283
  v228 := Tryz.zeroValue283
  t229 := Tryz.underlying284
  a229 := Tryz.isAgg284
  z229 := Tryz.sizeOf284
  v229 := Tryz.zeroValue284 }
end YtokkjaflmcjlhaaGreat
end Go.Proofs
namespace Go.Proofs.YtokkjaflmcjlhaaGreat
open Go.ChangeShapes Go.WideShapes Go.ChangeAt Go.RowKit
set_option linter.unusedVariables false
set_option linter.unusedSimpArgs false
theorem aCN {w:World}: ∀{l:List Int} {css:List (List Value)} {Fs:List (List Nat)},cR w 1 (l.map intD) css Fs→css.flatten=l.map (Value.int .i64)∧Fs.flatten= []
 | [],css,Fs,h=>by
   simp only [List.map_nil] at h
   unfold cR at h
   rw [h.1,h.2];simp
 | n::l,css,Fs,h=>by
   simp only [List.map_cons] at h
   unfold cR at h
   obtain ⟨c,css',F,Fs',rfl,rfl,_,h1,h2⟩:=h
   obtain ⟨q1,q2⟩:=aCN h2
   unfold intD dI at h1
   obtain ⟨v,cs',F1,F2,rfl,rfl,h3,h4⟩:=h1
   unfold dI at h4
   unfold pY at h3
   simp [q1,q2,h4.1,h4.2,h3.1,h3.2]
theorem uA (w:World): ∀(l:List Int),cR w 1 (l.map intD) (l.map fun n=>[Value.int .i64 n]) (l.map fun _=>[])
 | []=>by simp only [List.map_nil];unfold cR;exact ⟨rfl,rfl⟩
 | n::l=>by
   simp only [List.map_cons]
   unfold cR
   refine ⟨_,_,_,_,rfl,rfl,rfl,?_,uA w l⟩
   unfold intD dI
   refine ⟨_,_,[],[],rfl,rfl,?_,?_⟩
   ·unfold pY;exact ⟨rfl,rfl⟩
   ·unfold dI;exact ⟨rfl,rfl⟩
theorem aCO: ∀(m:List Int),(m.map fun n=>[Value.int .i64 n]).flatten=m.map (Value.int .i64)
 | []=>rfl
 | a::l=>by simp only [List.map_cons,List.flatten_cons,aCO l];rfl
theorem aHB {P:Program} {f:FuncId} {e:Nat} (l m:List Int) (hc:jL P f=true) (hm:m.length=l.length)
 (hn0:l= []→ ∀w,Calls P f #[.slice none 0 0] w (fun ex w' =>ex= .returned (.tuple #[])∧w' =w))
 (hs: ∀(blk cap:Nat) (w:World),Go.Sort.Holds (Value.int .i64) w blk 0 l.toArray→blk<w.heap.size→l.length≤cap→Calls P f #[.slice (some ⟨blk,0,none⟩) l.length cap] w (fun ex w' =>ex= .returned (.tuple #[])∧ ∃n os,w' =Go.Sort.grow (Go.Sort.putRow (Value.int .i64) (Go.Sort.ahead w n) blk 0 m.toArray) os)):
 lX P f [.own 0] [(0,.arr e 1 true (l.map intD))] (.tup []) [(0,.arr e 1 true (m.map intD))]:=by
 refine ⟨hc,by simp,fun A φ w vs hI hM=>?_⟩
 obtain ⟨pl,hp,css,Fs,q1,q2,q3,q4⟩:=hI.dom 0 _ rfl
 unfold aS at hM
 obtain ⟨v,us,e1,m1,hM⟩:=hM
 unfold aS at hM
 unfold aH at m1
 have hv:=m1 pl hp
 have ev:vs= #[pl.val]:=by apply Array.ext';rw [e1,hM,hv]
 rw [ev]
 obtain ⟨c1,c2⟩:=aCN q4
 rw [c1,List.length_map] at q1
 have hge:=hI.ge 0 pl hp
 have hsub:pl.sub= []:=by rw [q3,c2]
 have hfoot: ∀b∈pl.F,aH3 φ b:=fun b hb=>⟨0,pl,trivial,hp,hb⟩
 have hend: ∀(w' :World),kW pl.F w w' →w'.ownsRow 0 e 1 pl.val l.length (m.map (Value.int .i64))→
  ∃v K φ',Ending.returned (.tuple #[])= .returned v∧aLi A φ w [(0,.arr e 1 true (m.map intD))] K φ' w' ∧aH K φ' w' (.tup []) v:=by
  intro w' hon howns
  refine ⟨_,A,fun h=>if h=0 then some pl else none,rfl,⟨⟨hon.os,hon.tape,hon.output,hon.size,fun b hb hn=>hon.block b hb (fun hm=>hn (hfoot b hm))⟩,fun _ h=>h,fun b hb=>⟨Nat.lt_of_lt_of_le (hI.lt b hb) hon.size,.inl hb⟩,fun b hb h pl1 e' hm' =>?_,fun h r hr=>?_,fun h hr=>?_,fun h h' pl1 pl2 hne ea eb=>?_,fun h pl1 e' =>?_,fun h pl1 e' g hg=>?_,fun h pl1 pl0 e' e0=>?_⟩,?_⟩
  ·split at e'
   ·injection e' with e';subst e'
    exact hI.out b hb 0 pl hp hm'
   ·cases e'
  ·simp only [aZ] at hr
   split at hr
   ·rename_i eh
    subst eh
    injection hr with hr
    subst hr
    refine ⟨pl,by simp,m.map fun n=>[Value.int .i64 n],m.map fun _=>[],?_,q2,?_,uA _ m⟩
    ·rw [aCO,List.length_map,hm];exact howns
    ·rw [hsub];simp
   ·cases hr
  ·simp only [aZ] at hr
   split at hr
   ·cases hr
   ·rename_i eh;exact if_neg eh
  ·split at ea
   ·split at eb
    ·rename_i x y;exact absurd (x.trans y.symm) hne
    ·cases eb
   ·cases ea
  ·split at e'
   ·injection e' with e';subst e';exact hI.nodup 0 pl hp
   ·cases e'
  ·split at e'
   ·injection e' with e';subst e'
    exact ⟨.inr (hfoot g hg),Nat.lt_of_lt_of_le (hge g hg) hon.size⟩
   ·cases e'
  ·split at e'
   ·rename_i eh
    subst eh
    rw [hp] at e0
    injection e0 with e0;injection e' with e'
    subst e0;subst e'
    exact ⟨rfl,rfl⟩
   ·cases e'
  ·unfold aH
   exact ⟨#[],rfl,by unfold aS;rfl⟩
 rcases q1.2 with ⟨hvn,hz⟩ | ⟨g,cap,cur,hvv,hg0,hb,hn,hcap,hsz,htk⟩
 ·have hz' :l= []:=List.eq_nil_of_length_eq_zero hz
  rw [hvn]
  refine (hn0 hz' w).mono ?_
  rintro en w' ⟨rfl,rfl⟩
  have hm0:m= []:=List.eq_nil_of_length_eq_zero (by rw [hm,hz])
  refine hend w' (kW.refl _ _) ?_
  rw [hvn,hm0,hz]
  exact ⟨by simp,.inl ⟨rfl,rfl⟩⟩
 ·have hlt:g<w.heap.size:=(Array.getElem?_eq_some_iff.1 hb).1
  have hH:Go.Sort.Holds (Value.int .i64) w g 0 l.toArray:=holds_of_blockI hb (by rw [Nat.mul_one] at htk;exact htk)
  rw [hvv]
  refine (hs g cap w hH hlt hn).mono ?_
  rintro en w' ⟨rfl,n,os,rfl⟩
  have hgb:=grownBy_sortedI (w:=w) (g:=g) (n:=n) (os:=os) m.toArray
  have hown:=ownsRow_sortedI (n:=n) (os:=os) hm hg0 hb hn hcap hsz
  refine hend _ ⟨hgb.os,hgb.tape,hgb.output,hgb.size,fun k hk hne=>hgb.block k hk (fun e=>hne (by injection e with e;subst e;unfold Pl.F;rw [q2,hvv];simp [Value.ownBlock]))⟩ ?_
  rw [hvv];exact hown
def iW (l:List Int):List Int:=l.mergeSort fun x y=>decide (x≤y)
theorem aEu (l:List Int):(iW l).Perm l:=List.mergeSort_perm l _
theorem sW (l:List Int):(iW l).length=l.length:=(aEu l).length_eq
theorem aKQ (l:List Int):(iW l).Pairwise (· ≤ ·):=by
 have:=List.pairwise_mergeSort (le:=fun x y:Int=>decide (x≤y)) (fun a b c h1 h2=>by simp at*;omega) (fun a b=>by simp;omega) l
 exact this.imp (fun h=>by simpa using h)
theorem aHC (l:List Int) (hl:l.length<4611686018427387904):lX Tryz.prog 248 [.own 0] [(0,.arr 3 1 true (l.map intD))] (.tup []) [(0,.arr 3 1 true ((iW l).map intD))]:=
 aHB l (iW l) (by kernel_rfl) (sW l)
  (fun h w=>Any.slices_Sort_int_none Tryz.lays189 none 0 w)
  (fun blk cap w hH hblk _=>Any.slices_Sort_int Tryz.lays189 blk 0 cap l w hH hblk hl)
end Go.Proofs.YtokkjaflmcjlhaaGreat
