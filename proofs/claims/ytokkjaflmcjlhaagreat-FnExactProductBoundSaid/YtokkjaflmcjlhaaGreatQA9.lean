/-
  Contracts and plain laws, joined: part 10.
-/
import Derived.Test.YtokkjaflmcjlhaaGreatQA8
import Derived.Test.YtokkjaflmcjlhaaGreatQA7
import Derived.Test.YtokkjaflmcjlhaaGreatQA5
import Derived.IntWalk
import Derived.Test.YtokkjaflmcjlhaaGreatQA3
import Derived.Shelf.Sort.Plain
import Derived.Shelf.Slices.In.SortNone
import Derived.Sort.OwnSortedInts
namespace Go.Proofs.YtokkjaflmcjlhaaGreat
open Go.ChangeShapes Go.WideShapes Go.ChangeAt Go.RowKit
set_option linter.unusedVariables false
set_option linter.unusedSimpArgs false
set_option maxRecDepth 100000
set_option maxHeartbeats 4000000
def eO (d:aR) (v:Int):cA × Bool:=if (eU d&&dM v 1 999)=true then (⟨v,d.tables.map aX⟩,true) else (aDm,false)
theorem bX {d:aR} {v:Int} (h:(eU d&&dM v 1 999)=true):eO d v=(⟨v,d.tables.map aX⟩,true):=by rw [eO,if_pos h]
theorem eV {d:aR} {v:Int} (h:(eU d&&dM v 1 999)=false):eO d v=(aDm,false):=by rw [eO,if_neg (by rw [h];decide)]
theorem aEJ {d:aR} (h:eU d=true):d.tables.length≤6:=by
 simp only [eU,Bool.and_eq_true,decide_eq_true_eq] at h
 omega
abbrev zP (d:aR) (v:Int):AV × List (Nat × Rs):=(.tup [.agg [vI (((eO d v).1).version),.own 0],vB ((eO d v).2)],[(0,.arr 121 4 true ((((eO d v).1).tables).map aB))])
abbrev aEK (d:aR) (v:Int):Prop:=cO Tryz.prog 76 [.agg [.sl 162 3 (d.tables.map aO)],.one (.int .i64 v)] (zP d v).1 (zP d v).2
theorem aNs (d:aR) (v:Int):aEK d v:=by
 refine aT bF aQ Tryz.func76 (by kernel_rfl) (.call (vB (eU d)) []<| .br (.fin []) (.call (vB (dM v (1:Int) (999:Int))) []<| .lit<| .lit<| .br (.fin []) (.len d.tables.length<| .loop (Nat × (List aF)) (Q2 Nat (List aF)) [8,23,24,25,26,27,28,29,30,31,32,33,34] [600,800,3000,3100,3200,9000] (fun yy0=>[(23,vI (yy0.1:Int))]) (fun yy0=>[(600,some (.box 42 [vI v,.own 9000])),(9000,some (.arr 121 4 true (yy0.2.map aB)))]) (fun yy0=>yy0.1≤d.tables.length∧yy0.2=(d.tables.take yy0.1).map aX) (fun yy0=>d.tables.length - yy0.1) (fun yy0=> .br (.elem _ aO d.tables (fun e25=>bH (xU e25)<| .appx aF aB yy0.2 (aX e25)<| .back [(600,600),(9000,3200)])) (.fin [(0,9000)]))))) (p:=(d.tables.map aO).length≤9223372036854775807→aBg d∧(((!(eU d))=true→(0:Int)=(((eO d v).1).version)∧(false)=((eO d v).2)∧[]=(((eO d v).1).tables).map aB∧True)∧((!(eU d))=false→eD v (1:Int) (999:Int)∧(((!(dM v (1:Int) (999:Int)))=true→(0:Int)=(((eO d v).1).version)∧(false)=((eO d v).2)∧[]=(((eO d v).1).tables).map aB∧True)∧((!(dM v (1:Int) (999:Int)))=false→Lm aO d.tables∧((∃(k:Nat) (out:List aF),(0:Int)=(k:Int)∧v=v∧[]=out.map aB∧k≤d.tables.length∧out=(d.tables.take k).map aX)∧ ∀(k:Nat) (out:List aF),(k≤d.tables.length∧out=(d.tables.take k).map aX)→((decide ((k:Int)<((d.tables.length:Nat):Int)))=true→0≤(k:Int)∧Em aO d.tables k fun e25=>aBe e25∧out.map aB=out.map aB∧((aX e25).name)=((aX e25).name)∧((aX e25).arity)=((aX e25).arity)∧((aX e25).rowCount)=((aX e25).rowCount)∧((aX e25).groups).map aA=((aX e25).groups).map aA∧(out.length+1)*56≤140737488355328∧cL ((k:Int)+(1:Int))∧ ∃(k' :Nat) (out' :List aF),((k:Int)+(1:Int))=(k' :Int)∧v=v∧(out++[(aX e25)]).map aB=out'.map aB∧(k' ≤d.tables.length∧out' =(d.tables.take k').map aX)∧d.tables.length - k' <d.tables.length - k)∧((decide ((k:Int)<((d.tables.length:Nat):Int)))=false→v=(((eO d v).1).version)∧(true)=((eO d v).2)∧out.map aB=(((eO d v).1).tables).map aB∧True))))))) (by kernel_rfl) ?_
 intro n0
 simp only [List.length_map] at n0
 refine ⟨aKe d,fun g12=>?_,fun g12=>?_⟩
 ·replace g12:=nt g12
  have hbad:(eU d&&dM v 1 999)=false:=by simp_all
  refine ⟨?_,?_,?_,trivial⟩
  ·first | (rw [eV hbad]<;>rfl) | (rw [bX hok]<;>rfl) | (rw [bX hok,ho,List.take_of_length_le (by omega)])
  ·first | (rw [eV hbad]<;>rfl) | (rw [bX hok]<;>rfl) | (rw [bX hok,ho,List.take_of_length_le (by omega)])
  ·first | (rw [eV hbad]<;>rfl) | (rw [bX hok]<;>rfl) | (rw [bX hok,ho,List.take_of_length_le (by omega)])
 ·replace g12:=nf g12
  refine ⟨gB _ _ _,fun c0=>?_,fun c0=>?_⟩
  ·replace c0:=nt c0
   have hbad:(eU d&&dM v 1 999)=false:=by simp_all
   refine ⟨?_,?_,?_,trivial⟩
   ·first | (rw [eV hbad]<;>rfl) | (rw [bX hok]<;>rfl) | (rw [bX hok,ho,List.take_of_length_le (by omega)])
   ·first | (rw [eV hbad]<;>rfl) | (rw [bX hok]<;>rfl) | (rw [bX hok,ho,List.take_of_length_le (by omega)])
   ·first | (rw [eV hbad]<;>rfl) | (rw [bX hok]<;>rfl) | (rw [bX hok,ho,List.take_of_length_le (by omega)])
  ·replace c0:=nf c0
   have hok:(eU d&&dM v 1 999)=true:=by simp_all
   have h6:=aEJ (by simp_all:eU d=true)
   refine ⟨List.length_map _,⟨0,([]:List aF),rfl,rfl,rfl,Nat.zero_le _,rfl⟩,fun k out ⟨hk,ho⟩=>?_⟩
   refine ⟨fun c1=>?_,fun c1=>?_⟩
   ·replace c1:=yq c1
    refine ⟨by omega,rfl,by omega,fun e25 h25=>?_⟩
    refine ⟨aHI e25,rfl,rfl,rfl,rfl,rfl,by first | omega | (simp [ho];omega),⟨by omega,by omega⟩,?_⟩
    exact ⟨k+1,_,rfl,rfl,rfl,⟨by omega,by rw [ho,cI h25,List.map_append];rfl⟩,by omega⟩
   ·replace c1:=nq c1
    refine ⟨?_,?_,?_,trivial⟩
    ·first | (rw [eV hbad]<;>rfl) | (rw [bX hok]<;>rfl) | (rw [bX hok,ho,List.take_of_length_le (by omega)])
    ·first | (rw [eV hbad]<;>rfl) | (rw [bX hok]<;>rfl) | (rw [bX hok,ho,List.take_of_length_le (by omega)])
    ·first | (rw [eV hbad]<;>rfl) | (rw [bX hok]<;>rfl) | (rw [bX hok,ho,List.take_of_length_le (by omega)])
abbrev zQ (d:aR) (v:Int):AV × List (Nat × Rs):=(.tup [.agg [vI (((eO d v).1).version),.own 0],vB ((eO d v).2)],[(0,.arr 121 4 true ((((eO d v).1).tables).map aB))])
abbrev aEL (d:aR) (v:Int):Prop:=cO Tryz.prog 66 [.agg [.sl 162 3 (d.tables.map aO)],.one (.int .i64 v)] (zQ d v).1 (zQ d v).2
theorem aNt (d:aR) (v:Int):aEL d v:=by
 refine aT bF aQ Tryz.func66 (by kernel_rfl) (.call (vB (eU d)) []<| .br (.fin []) (.call (vB (dM v (1:Int) (999:Int))) []<| .lit<| .lit<| .br (.fin []) (.loop (Nat × (List aF)) (Q2 Nat (List aF)) [7,8,20,21,22,23,24,25,26,27,28,29,30,31,32,33,34,35,36,37,38] [600,800,3200,3600,3700,9000] (fun yy0=>[(7,vI (yy0.1:Int))]) (fun yy0=>[(600,some (.box 42 [vI v,.own 9000])),(9000,some (.arr 121 4 true (yy0.2.map aB)))]) (fun yy0=>yy0.1≤d.tables.length∧yy0.2=(d.tables.take yy0.1).map aX) (fun yy0=>d.tables.length - yy0.1) (fun yy0=> .len d.tables.length<| .br (.elem _ aO d.tables (fun e30=>bH (xV e30)<| .appx aF aB yy0.2 (aX e30)<| .back [(600,600),(9000,3700)])) (.fin [(0,9000)]))))) (p:=(d.tables.map aO).length≤9223372036854775807→aBh d∧(((!(eU d))=true→(0:Int)=(((eO d v).1).version)∧(false)=((eO d v).2)∧[]=(((eO d v).1).tables).map aB∧True)∧((!(eU d))=false→eL v (1:Int) (999:Int)∧(((!(dM v (1:Int) (999:Int)))=true→(0:Int)=(((eO d v).1).version)∧(false)=((eO d v).2)∧[]=(((eO d v).1).tables).map aB∧True)∧((!(dM v (1:Int) (999:Int)))=false→(∃(k:Nat) (out:List aF),(0:Int)=(k:Int)∧v=v∧[]=out.map aB∧k≤d.tables.length∧out=(d.tables.take k).map aX)∧ ∀(k:Nat) (out:List aF),(k≤d.tables.length∧out=(d.tables.take k).map aX)→Lm aO d.tables∧(((decide ((k:Int)<((d.tables.length:Nat):Int)))=true→0≤(k:Int)∧Em aO d.tables k fun e30=>aBf e30∧out.map aB=out.map aB∧((aX e30).name)=((aX e30).name)∧((aX e30).arity)=((aX e30).arity)∧((aX e30).rowCount)=((aX e30).rowCount)∧((aX e30).groups).map aA=((aX e30).groups).map aA∧(out.length+1)*56≤140737488355328∧cL ((k:Int)+(1:Int))∧ ∃(k' :Nat) (out' :List aF),((k:Int)+(1:Int))=(k' :Int)∧v=v∧(out++[(aX e30)]).map aB=out'.map aB∧(k' ≤d.tables.length∧out' =(d.tables.take k').map aX)∧d.tables.length - k' <d.tables.length - k)∧((decide ((k:Int)<((d.tables.length:Nat):Int)))=false→v=(((eO d v).1).version)∧(true)=((eO d v).2)∧out.map aB=(((eO d v).1).tables).map aB∧True))))))) (by kernel_rfl) ?_
 intro n0
 simp only [List.length_map] at n0
 refine ⟨aKf d,fun g12=>?_,fun g12=>?_⟩
 ·replace g12:=nt g12
  have hbad:(eU d&&dM v 1 999)=false:=by simp_all
  refine ⟨?_,?_,?_,trivial⟩
  ·first | (rw [eV hbad]<;>rfl) | (rw [bX hok]<;>rfl) | (rw [bX hok,ho,List.take_of_length_le (by omega)])
  ·first | (rw [eV hbad]<;>rfl) | (rw [bX hok]<;>rfl) | (rw [bX hok,ho,List.take_of_length_le (by omega)])
  ·first | (rw [eV hbad]<;>rfl) | (rw [bX hok]<;>rfl) | (rw [bX hok,ho,List.take_of_length_le (by omega)])
 ·replace g12:=nf g12
  refine ⟨gP _ _ _,fun c0=>?_,fun c0=>?_⟩
  ·replace c0:=nt c0
   have hbad:(eU d&&dM v 1 999)=false:=by simp_all
   refine ⟨?_,?_,?_,trivial⟩
   ·first | (rw [eV hbad]<;>rfl) | (rw [bX hok]<;>rfl) | (rw [bX hok,ho,List.take_of_length_le (by omega)])
   ·first | (rw [eV hbad]<;>rfl) | (rw [bX hok]<;>rfl) | (rw [bX hok,ho,List.take_of_length_le (by omega)])
   ·first | (rw [eV hbad]<;>rfl) | (rw [bX hok]<;>rfl) | (rw [bX hok,ho,List.take_of_length_le (by omega)])
  ·replace c0:=nf c0
   have hok:(eU d&&dM v 1 999)=true:=by simp_all
   have h6:=aEJ (by simp_all:eU d=true)
   refine ⟨⟨0,([]:List aF),rfl,rfl,rfl,Nat.zero_le _,rfl⟩,fun k out ⟨hk,ho⟩=>?_⟩
   refine ⟨List.length_map _,fun c1=>?_,fun c1=>?_⟩
   ·replace c1:=yq c1
    refine ⟨by omega,rfl,by omega,fun e30 h30=>?_⟩
    refine ⟨aKc e30,rfl,rfl,rfl,rfl,rfl,by first | omega | (simp [ho];omega),⟨by omega,by omega⟩,?_⟩
    exact ⟨k+1,_,rfl,rfl,rfl,⟨by omega,by rw [ho,cI h30,List.map_append];rfl⟩,by omega⟩
   ·replace c1:=nq c1
    refine ⟨?_,?_,?_,trivial⟩
    ·first | (rw [eV hbad]<;>rfl) | (rw [bX hok]<;>rfl) | (rw [bX hok,ho,List.take_of_length_le (by omega)])
    ·first | (rw [eV hbad]<;>rfl) | (rw [bX hok]<;>rfl) | (rw [bX hok,ho,List.take_of_length_le (by omega)])
    ·first | (rw [eV hbad]<;>rfl) | (rw [bX hok]<;>rfl) | (rw [bX hok,ho,List.take_of_length_le (by omega)])
theorem aEM {α:Type} {c:α→Nat} {m:Nat} {l:List α} (h: ∀x∈l,c x≤m):aAN c l≤l.length+l.length*m:=by
 have h1:=zI (ct:=c) (m:=m) (l:=l) h
 have h2:aAN c l=l.length+eX c l:=rfl
 omega
theorem xW (t:aS) (cols:List Int):cK (dG t cols).1≤64∧(dG t cols).2.length≤8:=by
 cases h:(aL t&&cQ (t.arity - 1) cols) with
 | false=>rw [jN h];exact ⟨by decide,by decide⟩
 | true=>
   have:=aHH (k:=(iO t cols).length) h
   rw [List.take_length,qG] at this
   rw [eB h]
   exact ⟨this.2,by simp only [aHF,List.length_map,aJe];exact this.1⟩
theorem aHM {t:aS} (h:aL t=true):t.name.size=1:=by
 simp only [aL,dR,Bool.and_eq_true,decide_eq_true_eq] at h
 omega
theorem aCN (t:aS):aZ (aX t)≤2000:=by
 cases h:aL t with
 | false=>rw [eH h];decide
 | true=>
   have hT:=bT h
   have hn:=aHM h
   have hl:=vY (n:=t.arity) ⟨hT.1,hT.2.1⟩
   rw [bJ h]
   have h1:=aEM (c:=bN) (m:=75) (l:=(bK t.arity).map (rJ t)) fun x hx=>by
    obtain ⟨c,hc,rfl⟩:=List.mem_map.1 hx
    obtain ⟨k,hk,hc⟩:=List.mem_iff_getElem.1 hc
    have h3:=zN (List.getElem?_eq_some_iff.2 ⟨hk,hc⟩)
    have h4:=xW t c
    have h5:bN (rJ t c)=c.length+cK (dG t c).1+(dG t c).2.length:=rfl
    omega
   rw [List.length_map] at h1
   have h2:aZ ⟨t.name,t.arity,(t.rows.length:Nat),(bK t.arity).map (rJ t)⟩=t.name.size+aAN bN ((bK t.arity).map (rJ t)):=rfl
   omega
theorem aGW (d:aR) (v:Int):bL (eO d v).1≤20000:=by
 cases h:(eU d&&dM v 1 999) with
 | false=>rw [eV h];decide
 | true=>
   have h6:=aEJ (by simp_all:eU d=true)
   rw [bX h]
   have h1:=aEM (c:=aZ) (m:=2000) (l:=d.tables.map aX) fun x hx=>by
    obtain ⟨t,_,rfl⟩:=List.mem_map.1 hx
    exact aCN t
   rw [List.length_map] at h1
   have h2:bL ⟨v,d.tables.map aX⟩=aAN aZ (d.tables.map aX):=rfl
   show bL ⟨v,d.tables.map aX⟩≤20000
   omega
def iT {α:Type} (p:α→Bool) (l:List α):Int:=match l.findIdx? p with | some k=>(k:Int) | none=> -1
theorem aDB {α:Type} {p:α→Bool} {l:List α} {k:Nat} {x:α} (h:l[k]? =some x) (ha:(l.take k).all (fun y=> !p y)=true) (hx:p x=true):iT p l=(k:Int):=by
 obtain ⟨hk,rfl⟩:=List.getElem?_eq_some_iff.1 h
 have:l.findIdx? p=some k:=by
  rw [List.findIdx?_eq_some_iff_getElem]
  refine ⟨hk,hx,fun j hj=>?_⟩
  have:=List.all_eq_true.1 ha l[j] (List.mem_iff_getElem.2 ⟨j,by rw [List.length_take];omega,by rw [List.getElem_take]⟩)
  simpa using this
 rw [iT,this]
theorem aAp {α:Type} {p:α→Bool} {l:List α} (ha:l.all (fun y=> !p y)=true):iT p l= -1:=by
 have:l.findIdx? p=none:=by
  rw [List.findIdx?_eq_none_iff]
  intro x hx
  have:=List.all_eq_true.1 ha x hx
  simpa using this
 rw [iT,this]
theorem aNu {α:Type} {p:α→Bool} {l:List α} (h:0≤iT p l): ∃(k:Nat) (x:α),iT p l=(k:Int)∧l[k]? =some x∧p x=true∧k<l.length:=by
 unfold iT at*
 cases e:l.findIdx? p with
 | none=>rw [e] at h;exact absurd h (by decide)
 | some k=>
   rw [List.findIdx?_eq_some_iff_getElem] at e
   obtain ⟨hk,hx,_⟩:=e
   exact ⟨k,l[k],rfl,List.getElem?_eq_getElem hk,hx,hk⟩
theorem aP5 {α:Type} (p:α→Bool) (l:List α): -1≤iT p l∧iT p l<(l.length:Int):=by
 by_cases h:0≤iT p l
 ·obtain ⟨k,x,h1,_,_,h4⟩:=aNu h
  omega
 ·unfold iT at*
  cases e:l.findIdx? p with
  | none=>simp only;omega
  | some k=>rw [e] at h;simp only at h;omega
abbrev zR (t:aS):AV × List (Nat × Rs):=(.agg [.p none (.str t.name),vI t.arity,.own 0],[(0,.arr 32 1 true (t.rows.map aC))])
abbrev aEN (t:aS):Prop:=cO Tryz.prog 220 [.agg [.str t.name,.int .i64 t.arity,.sl 32 1 (t.rows.map aC)]] (zR t).1 (zR t).2
theorem aNv (t:aS) (hc:fF t≤1048576):aEN t:=by
 refine aT bF aQ Tryz.func220 (by kernel_rfl) (bH (aGQ t.rows)<| .fin [(0,500)]) (p:=(t.rows.map aC).length≤9223372036854775807→aIO t.rows∧t.name=t.name∧t.arity=t.arity∧t.rows.map aC=t.rows.map aC∧True) (by kernel_rfl) ?_
 intro n0
 simp only [List.length_map] at n0
 have q1:fF t=t.name.size+cK t.rows:=rfl
 have q2:=fA t.rows
 refine ⟨cpR _ (by omega),?_⟩
 exact ⟨rfl,rfl,rfl,trivial⟩
abbrev zS (t:aS):AV × List (Nat × Rs):=(.agg [.p none (.str t.name),vI t.arity,.own 0],[(0,.arr 32 1 true (t.rows.map aC))])
abbrev aEO (t:aS):Prop:=cO Tryz.prog 205 [.agg [.str t.name,.int .i64 t.arity,.sl 32 1 (t.rows.map aC)]] (zS t).1 (zS t).2
theorem aNw (t:aS) (hc:fF t≤1048576):aEO t:=by
 refine aT bF aQ Tryz.func205 (by kernel_rfl) (.loop (Nat × (List (List Int))) (Q2 Nat (List (List Int))) [4,10,11,12,13,14,15,16,17,18,19,20,21,22,23,24,25,26,27,28] [300,1900,2500,2600,2700,9000] (fun yy0=>[(4,vI (yy0.1:Int))]) (fun yy0=>[(300,some (.box 162 [.p none (.str t.name),vI t.arity,.own 9000])),(9000,some (.arr 32 1 true (yy0.2.map aC)))]) (fun yy0=>yy0.1≤t.rows.length∧yy0.2=t.rows.take yy0.1) (fun yy0=>t.rows.length - yy0.1) (fun yy0=> .len t.rows.length<| .br (.elem _ aC t.rows (fun e23=> .app Int intD ([]:List Int) e23<| .appx (List Int) aC yy0.2 (([]:List Int)++e23)<| .back [(300,300),(9000,2700)])) (.fin [(0,9000)]))) (p:=(t.rows.map aC).length≤9223372036854775807→(∃(k:Nat) (out:List (List Int)),(0:Int)=(k:Int)∧t.name=t.name∧t.arity=t.arity∧[]=out.map aC∧k≤t.rows.length∧out=t.rows.take k)∧ ∀(k:Nat) (out:List (List Int)),(k≤t.rows.length∧out=t.rows.take k)→Lm aC t.rows∧(((decide ((k:Int)<((t.rows.length:Nat):Int)))=true→0≤(k:Int)∧Em aC t.rows k fun e23=>[]=([]:List Int).map intD∧e23.map intD=e23.map intD∧(∀x,eI (intD x)=true)∧(([]:List Int).length+e23.length)*8≤140737488355328∧out.map aC=out.map aC∧(([]:List Int)++e23).map intD=(([]:List Int)++e23).map intD∧(out.length+1)*24≤140737488355328∧cL ((k:Int)+(1:Int))∧ ∃(k' :Nat) (out' :List (List Int)),((k:Int)+(1:Int))=(k' :Int)∧t.name=t.name∧t.arity=t.arity∧(out++[([]:List Int)++e23]).map aC=out'.map aC∧(k' ≤t.rows.length∧out' =t.rows.take k')∧t.rows.length - k' <t.rows.length - k)∧((decide ((k:Int)<((t.rows.length:Nat):Int)))=false→t.name=t.name∧t.arity=t.arity∧out.map aC=t.rows.map aC∧True))) (by kernel_rfl) ?_
 intro n0
 simp only [List.length_map] at n0
 have q1:fF t=t.name.size+cK t.rows:=rfl
 have q2:=fA t.rows
 refine ⟨⟨0,([]:List (List Int)),rfl,rfl,rfl,rfl,Nat.zero_le _,rfl⟩,fun k out ⟨hk,ho⟩=>?_⟩
 refine ⟨List.length_map _,fun c0=>?_,fun c0=>?_⟩
 ·replace c0:=yq c0
  refine ⟨by omega,rfl,by omega,fun e23 h23=>?_⟩
  have hp3:=xS h23
  refine ⟨rfl,rfl,fun _=>rfl,by first | omega | (simp;omega) | (simp [ho];omega),?_⟩
  refine ⟨rfl,rfl,by first | omega | (simp;omega) | (simp [ho];omega),⟨by omega,by omega⟩,?_⟩
  exact ⟨k+1,_,rfl,rfl,rfl,rfl,⟨by omega,by rw [ho,cI h23];rfl⟩,by omega⟩
 ·replace c0:=nq c0
  refine ⟨rfl,rfl,?_,trivial⟩
  ·first | rfl | (rw [ho,List.take_of_length_le (by omega)])
abbrev xX (n:ByteArray):aS→Bool:=fun t=>t.name.toList==n.toList
abbrev isI (v:Int):Int→Bool:=fun y=>decide (v=y)
theorem mH {α:Type} {p:α→Bool} {l:List α}:(iT p l<0→l.find? p=none)∧(0≤iT p l→ ∃(k:Nat) (x:α),iT p l=(k:Int)∧l[k]? =some x∧l.find? p=some x):=by
 unfold iT
 cases e:l.findIdx? p with
 | none=>
   rw [List.findIdx?_eq_none_iff] at e
   refine ⟨fun _=>List.find?_eq_none.2 fun x hx=>by rw [e x hx];decide,fun h=>absurd h (by decide)⟩
 | some k=>
   rw [List.findIdx?_eq_some_iff_getElem] at e
   obtain ⟨hk,hx,hj⟩:=e
   refine ⟨fun h=>absurd h (by simp only;omega),fun _=>⟨k,l[k],rfl,List.getElem?_eq_getElem hk,?_⟩⟩
   rw [List.find?_eq_some_iff_getElem]
   exact ⟨hx,k,hk,rfl,fun j hjk=>by have:=hj j hjk;simpa using this⟩
theorem aI9 {l:List Int} {v:Int}:decide (0≤iT (isI v) l)=decide (v∈l):=by
 apply Bool.eq_iff_iff.2
 rw [decide_eq_true_eq,decide_eq_true_eq]
 constructor
 ·intro h
  obtain ⟨k,x,_,hx,hf⟩:=mH.2 h
  have h1:=List.find?_some hf
  have:v=x:=by simpa [isI] using h1
  rw [this];exact List.mem_of_getElem? hx
 ·intro h
  rcases Int.lt_or_le (iT (isI v) l) 0 with q | q
  ·have:=mH.1 q
   rw [List.find?_eq_none] at this
   exact absurd (this v h) (by simp [isI])
  ·exact q
def aE (d:aR) (n:ByteArray):aS × Bool:=if eU d=true then (match d.tables.find? (xX n) with | some t=>(t,true) | none=>(fI,false)) else (fI,false)
theorem wA {d:aR} {n:ByteArray} (h:eU d=false∨d.tables.find? (xX n)=none):aE d n=(fI,false):=by
 unfold aE
 rcases h with h | h
 ·rw [if_neg (by rw [h];decide)]
 ·rw [h];split<;>rfl
theorem aBi {d:aR} {n:ByteArray} {t:aS} (h:eU d=true) (hf:d.tables.find? (xX n)=some t):aE d n=(t,true):=by rw [aE,if_pos h,hf]
theorem aIa {d:aR} (h:eU d=true):d.tables.all aL=true:=by
 simp only [eU,Bool.and_eq_true] at h
 exact h.1
theorem kF {d:aR} {n:ByteArray} (h:(aE d n).2=true):aL (aE d n).1=true∧eU d=true:=by
 unfold aE at*
 split at h
 ·rename_i hd
  rw [if_pos hd]
  cases e:d.tables.find? (xX n) with
  | none=>rw [e] at h;cases h
  | some t=>exact ⟨List.all_eq_true.1 (aIa hd) t (List.mem_of_find?_eq_some e),hd⟩
 ·cases h
abbrev aNx (t:aS) (n:ByteArray):Prop:=cO Tryz.prog 224 [.agg [.str t.name,.int .i64 t.arity,.sl 32 1 (t.rows.map aC)],.ref [.str n]] (vB (xX n t)) []
theorem aRj (t:aS) (n:ByteArray):aNx t n:=by
 refine aT bF aQ Tryz.func224 (by kernel_rfl) (.fin []) (p:=(t.rows.map aC).length≤9223372036854775807→(t.name.toList==n.toList)=(xX n t)∧True) (by kernel_rfl) ?_
 intro n0
 simp only [List.length_map] at n0
 refine ⟨?_,trivial⟩
 ·rfl
abbrev aNy (l:List aS) (n:ByteArray):Prop:=cO Tryz.prog 223 [.one (.sl 162 3 (l.map aO)),.fn 224 [[.str n]]] (vI (iT (xX n) l)) []
theorem aRk (l:List aS) (n:ByteArray):aNy l n:=by
 refine aT bF aQ Tryz.func223 (by kernel_rfl) (.len l.length<| .loop Nat (Q1 Nat) [5,8,9,10,11,12,13,14,15,16,18] [] (fun k=>[(8,vI (k:Int))]) (fun k=>[]) (fun k=>k≤l.length∧(l.take k).all (fun y=> !xX n y)=true) (fun k=>l.length - k) (fun k=> .br (.elem _ aO l (fun e14=> .call (vB (xX n e14)) []<| .br (.fin []) (.back []))) (.fin []))) (p:=(l.map aO).length≤9223372036854775807→Lm aO l∧((∃(k:Nat),(0:Int)=(k:Int)∧k≤l.length∧(l.take k).all (fun y=> !xX n y)=true)∧ ∀(k:Nat),(k≤l.length∧(l.take k).all (fun y=> !xX n y)=true)→((decide ((k:Int)<((l.length:Nat):Int)))=true→0≤(k:Int)∧Em aO l k fun e14=>aNx e14 n∧(((xX n e14)=true→(k:Int)=(iT (xX n) l)∧True)∧((xX n e14)=false→cL ((k:Int)+(1:Int))∧ ∃(k' :Nat),((k:Int)+(1:Int))=(k' :Int)∧(k' ≤l.length∧(l.take k').all (fun y=> !xX n y)=true)∧l.length - k' <l.length - k)))∧((decide ((k:Int)<((l.length:Nat):Int)))=false→(-1:Int)=(iT (xX n) l)∧True))) (by kernel_rfl) ?_
 intro n0
 simp only [List.length_map] at n0
 refine ⟨List.length_map _,⟨0,rfl,Nat.zero_le _,rfl⟩,fun k ⟨hk,ha⟩=>?_⟩
 refine ⟨fun c0=>?_,fun c0=>?_⟩
 ·replace c0:=yq c0
  refine ⟨by omega,rfl,by omega,fun e14 h14=>?_⟩
  refine ⟨aRj _ _,fun c1=>?_,fun c1=>?_⟩
  ·have hE:=aDB (p:=xX n) h14 ha c1
   refine ⟨?_,trivial⟩
   ·rw [hE]
  ·refine ⟨⟨by omega,by omega⟩,?_⟩
   exact ⟨k+1,rfl,⟨by omega,dO h14 ha (by simp [c1])⟩,by omega⟩
 ·replace c0:=nq c0
  have hE:=aAp (p:=xX n) (bR (by omega) ha)
  refine ⟨?_,trivial⟩
  ·rw [hE]
abbrev aEQ (d:aR) (n:ByteArray):AV × List (Nat × Rs):=(.tup [.agg [.p none (.str (((aE d n).1).name)),vI (((aE d n).1).arity),.own 0],vB ((aE d n).2)],[(0,.arr 32 1 true ((((aE d n).1).rows).map aC))])
abbrev aJh (d:aR) (n:ByteArray):Prop:=cO Tryz.prog 148 [.agg [.sl 162 3 (d.tables.map aO)],.one (.str n)] (aEQ d n).1 (aEQ d n).2
theorem pG (d:aR) (n:ByteArray) (hc:bD d≤1048576):aJh d n:=by
 refine aT bF aQ Tryz.func148 (by kernel_rfl) (.call (vI (iT (xX n) d.tables)) []<| .br (.fin []) (.call (vB (eU d)) []<| .lit<| .lit<| .br (.fin []) (.elem _ aO d.tables (fun e22=>bH (zR e22)<| .fin [(0,2400)])))) (p:=(d.tables.map aO).length≤9223372036854775807→aNy d.tables n∧(((decide ((iT (xX n) d.tables)<(0:Int)))=true→ByteArray.empty=(((aE d n).1).name)∧(0:Int)=(((aE d n).1).arity)∧(false)=((aE d n).2)∧[]=(((aE d n).1).rows).map aC∧True)∧((decide ((iT (xX n) d.tables)<(0:Int)))=false→aBg d∧(((!(eU d))=true→ByteArray.empty=(((aE d n).1).name)∧(0:Int)=(((aE d n).1).arity)∧(false)=((aE d n).2)∧[]=(((aE d n).1).rows).map aC∧True)∧((!(eU d))=false→0≤(iT (xX n) d.tables)∧Em aO d.tables ((iT (xX n) d.tables).toNat) fun e22=>aEN e22∧e22.name=(((aE d n).1).name)∧e22.arity=(((aE d n).1).arity)∧(true)=((aE d n).2)∧e22.rows.map aC=(((aE d n).1).rows).map aC∧True))))) (by kernel_rfl) ?_
 intro n0
 simp only [List.length_map] at n0
 have q1:bD d=iN d.tables:=rfl
 have hg:=aP5 (xX n) d.tables
 refine ⟨aRk _ _,fun g13=>?_,fun g13=>?_⟩
 ·replace g13:=yq g13
  have hbad:aE d n=(fI,false):=wA (by first | (left;simpa using g15;done) | (left;simpa using c0;done) | (right;exact mH.1 (by omega)))
  refine ⟨?_,?_,?_,?_,trivial⟩
  ·first | (rw [hbad]<;>rfl) | (rw [hok]<;>rfl)
  ·first | (rw [hbad]<;>rfl) | (rw [hok]<;>rfl)
  ·first | (rw [hbad]<;>rfl) | (rw [hok]<;>rfl)
  ·first | (rw [hbad]<;>rfl) | (rw [hok]<;>rfl)
 ·replace g13:=nq g13
  refine ⟨aKe d,fun c0=>?_,fun c0=>?_⟩
  ·replace c0:=nt c0
   have hbad:aE d n=(fI,false):=wA (by first | (left;simpa using g15;done) | (left;simpa using c0;done) | (right;exact mH.1 (by omega)))
   refine ⟨?_,?_,?_,?_,trivial⟩
   ·first | (rw [hbad]<;>rfl) | (rw [hok]<;>rfl)
   ·first | (rw [hbad]<;>rfl) | (rw [hok]<;>rfl)
   ·first | (rw [hbad]<;>rfl) | (rw [hok]<;>rfl)
   ·first | (rw [hbad]<;>rfl) | (rw [hok]<;>rfl)
  ·replace c0:=nf c0
   have hd:eU d=true:=by simpa using c0
   obtain ⟨k,y,hk,hy,hf⟩:=mH.2 (show 0≤iT (xX n) d.tables by omega)
   have hok:=aBi hd hf
   refine ⟨by omega,rfl,by omega,fun e22 h22=>?_⟩
   have hyx:y=e22:=by rw [hk] at h22;exact (bA (by simpa using h22) hy)
   have q2:=zC h22
   rw [hyx] at hok
   refine ⟨aNv _ (by omega),?_,?_,?_,?_,trivial⟩
   ·first | (rw [hbad]<;>rfl) | (rw [hok]<;>rfl)
   ·first | (rw [hbad]<;>rfl) | (rw [hok]<;>rfl)
   ·first | (rw [hbad]<;>rfl) | (rw [hok]<;>rfl)
   ·first | (rw [hbad]<;>rfl) | (rw [hok]<;>rfl)
abbrev aER (d:aR) (n:ByteArray):AV × List (Nat × Rs):=(.tup [.agg [.p none (.str (((aE d n).1).name)),vI (((aE d n).1).arity),.own 0],vB ((aE d n).2)],[(0,.arr 32 1 true ((((aE d n).1).rows).map aC))])
abbrev aJi (d:aR) (n:ByteArray):Prop:=cO Tryz.prog 132 [.agg [.sl 162 3 (d.tables.map aO)],.one (.str n)] (aER d n).1 (aER d n).2
theorem pH (d:aR) (n:ByteArray) (hc:bD d≤1048576):aJi d n:=by
 refine aT bF aQ Tryz.func132 (by kernel_rfl) (.loop Nat (Q1 Nat) [6,7,8,9,10,11,12,13,14,15,16,17,18,19,20,21,22,23,24,25] [] (fun k=>[(6,vI (k:Int))]) (fun k=>[]) (fun k=>k≤d.tables.length∧(d.tables.take k).all (fun y=> !xX n y)=true) (fun k=>d.tables.length - k) (fun k=> .len d.tables.length<| .br (.call (vB (eU d)) []<| .lit<| .br (.elem _ aO d.tables (fun e21=> .br (.elem _ aO d.tables (fun e29=>bH (zS e29)<| .fin [(0,3100)])) (.back []))) (.fin [])) (.fin []))) (p:=(d.tables.map aO).length≤9223372036854775807→(∃(k:Nat),(0:Int)=(k:Int)∧k≤d.tables.length∧(d.tables.take k).all (fun y=> !xX n y)=true)∧ ∀(k:Nat),(k≤d.tables.length∧(d.tables.take k).all (fun y=> !xX n y)=true)→Lm aO d.tables∧(((decide ((k:Int)<((d.tables.length:Nat):Int)))=true→aBh d∧(((eU d)=true→0≤(k:Int)∧Em aO d.tables k fun e21=>((e21.name.toList==n.toList)=true→0≤(k:Int)∧Em aO d.tables k fun e29=>aEO e29∧e29.name=(((aE d n).1).name)∧e29.arity=(((aE d n).1).arity)∧(true)=((aE d n).2)∧e29.rows.map aC=(((aE d n).1).rows).map aC∧True)∧((e21.name.toList==n.toList)=false→cL ((k:Int)+(1:Int))∧ ∃(k' :Nat),((k:Int)+(1:Int))=(k' :Int)∧(k' ≤d.tables.length∧(d.tables.take k').all (fun y=> !xX n y)=true)∧d.tables.length - k' <d.tables.length - k))∧((eU d)=false→ByteArray.empty=(((aE d n).1).name)∧(0:Int)=(((aE d n).1).arity)∧(false)=((aE d n).2)∧[]=(((aE d n).1).rows).map aC∧True)))∧((decide ((k:Int)<((d.tables.length:Nat):Int)))=false→ByteArray.empty=(((aE d n).1).name)∧(0:Int)=(((aE d n).1).arity)∧(false)=((aE d n).2)∧[]=(((aE d n).1).rows).map aC∧True))) (by kernel_rfl) ?_
 intro n0
 simp only [List.length_map] at n0
 have q1:bD d=iN d.tables:=rfl
 refine ⟨⟨0,rfl,Nat.zero_le _,rfl⟩,fun k ⟨hk,ha⟩=>?_⟩
 refine ⟨List.length_map _,fun g12=>?_,fun g12=>?_⟩
 ·replace g12:=yq g12
  refine ⟨aKf d,fun c0=>?_,fun c0=>?_⟩
  ·refine ⟨by omega,rfl,by omega,fun e21 h21=>?_⟩
   try (obtain rfl:=(bA h21 h21).symm)
   have q2:=zC h21
   refine ⟨fun c1=>?_,fun c1=>?_⟩
   ·have hok:=aBi (n:=n) c0 (aHL (p:=xX n) h21 ha c1)
    refine ⟨by omega,rfl,by omega,fun e29 h29=>?_⟩
    try (obtain rfl:=(bA h21 h29).symm)
    refine ⟨aNw _ (by omega),?_,?_,?_,?_,trivial⟩
    ·first | (rw [hbad]<;>rfl) | (rw [hok]<;>rfl)
    ·first | (rw [hbad]<;>rfl) | (rw [hok]<;>rfl)
    ·first | (rw [hbad]<;>rfl) | (rw [hok]<;>rfl)
    ·first | (rw [hbad]<;>rfl) | (rw [hok]<;>rfl)
   ·refine ⟨⟨by omega,by omega⟩,?_⟩
    exact ⟨k+1,rfl,⟨by omega,dO h21 ha (by simp [xX,c1])⟩,by omega⟩
  ·have hbad:aE d n=(fI,false):=wA (by first | (left;exact c0) | (right;exact aDA (bR (by omega) ha)))
   refine ⟨?_,?_,?_,?_,trivial⟩
   ·first | (rw [hbad]<;>rfl) | (rw [hok]<;>rfl)
   ·first | (rw [hbad]<;>rfl) | (rw [hok]<;>rfl)
   ·first | (rw [hbad]<;>rfl) | (rw [hok]<;>rfl)
   ·first | (rw [hbad]<;>rfl) | (rw [hok]<;>rfl)
 ·replace g12:=nq g12
  have hbad:aE d n=(fI,false):=wA (by first | (left;exact c0) | (right;exact aDA (bR (by omega) ha)))
  refine ⟨?_,?_,?_,?_,trivial⟩
  ·first | (rw [hbad]<;>rfl) | (rw [hok]<;>rfl)
  ·first | (rw [hbad]<;>rfl) | (rw [hok]<;>rfl)
  ·first | (rw [hbad]<;>rfl) | (rw [hok]<;>rfl)
  ·first | (rw [hbad]<;>rfl) | (rw [hok]<;>rfl)
abbrev aPp (l:List Int) (v:Int):Prop:=cO Tryz.prog 187 [.one (.sl 3 1 (l.map intD)),.one (.int .i64 v)] (vI (iT (isI v) l)) []
theorem ixI (l:List Int) (v:Int):aPp l v:=by
 refine aT bF aQ Tryz.func187 (by kernel_rfl) (.len l.length<| .loop Nat (Q1 Nat) [5,8,9,10,11,12,13,14,15,16,18] [] (fun k=>[(8,vI (k:Int))]) (fun k=>[]) (fun k=>k≤l.length∧(l.take k).all (fun y=> !isI v y)=true) (fun k=>l.length - k) (fun k=> .br (.elem _ intD l (fun e14=> .br (.fin []) (.back []))) (.fin []))) (p:=(l.map intD).length≤9223372036854775807→Lm intD l∧((∃(k:Nat),(0:Int)=(k:Int)∧k≤l.length∧(l.take k).all (fun y=> !isI v y)=true)∧ ∀(k:Nat),(k≤l.length∧(l.take k).all (fun y=> !isI v y)=true)→((decide ((k:Int)<((l.length:Nat):Int)))=true→0≤(k:Int)∧Em intD l k fun e14=>((decide (v=e14))=true→(k:Int)=(iT (isI v) l)∧True)∧((decide (v=e14))=false→cL ((k:Int)+(1:Int))∧ ∃(k' :Nat),((k:Int)+(1:Int))=(k' :Int)∧(k' ≤l.length∧(l.take k').all (fun y=> !isI v y)=true)∧l.length - k' <l.length - k))∧((decide ((k:Int)<((l.length:Nat):Int)))=false→(-1:Int)=(iT (isI v) l)∧True))) (by kernel_rfl) ?_
 intro n0
 simp only [List.length_map] at n0
 refine ⟨List.length_map _,⟨0,rfl,Nat.zero_le _,rfl⟩,fun k ⟨hk,ha⟩=>?_⟩
 refine ⟨fun c0=>?_,fun c0=>?_⟩
 ·replace c0:=yq c0
  refine ⟨by omega,rfl,by omega,fun e14 h14=>?_⟩
  refine ⟨fun c1=>?_,fun c1=>?_⟩
  ·replace c1:=yq c1
   have hE:=aDB (p:=isI v) h14 ha (by simpa [isI] using c1)
   refine ⟨?_,trivial⟩
   ·rw [hE]
  ·replace c1:=nq c1
   refine ⟨⟨by omega,by omega⟩,?_⟩
   exact ⟨k+1,rfl,⟨by omega,dO h14 ha (by simpa [isI] using c1)⟩,by omega⟩
 ·replace c0:=nq c0
  have hE:=aAp (p:=isI v) (bR (by omega) ha)
  refine ⟨?_,trivial⟩
  ·rw [hE]
abbrev aES (l:List Int) (v:Int):Prop:=cO Tryz.prog 115 [.one (.sl 3 1 (l.map intD)),.one (.int .i64 v)] (vB (decide (v∈l))) []
theorem ctI (l:List Int) (v:Int):aES l v:=by
 refine aT bF aQ Tryz.func115 (by kernel_rfl) (.call (vI (iT (isI v) l)) []<| .fin []) (p:=(l.map intD).length≤9223372036854775807→aPp l v∧(decide ((0:Int)≤(iT (isI v) l)))=(decide (v∈l))∧True) (by kernel_rfl) ?_
 intro n0
 simp only [List.length_map] at n0
 refine ⟨ixI _ _,?_,trivial⟩
 ·exact aI9
abbrev aIb (l:List Int) (v:Int):Prop:=cO Tryz.prog 170 [.one (.sl 3 1 (l.map intD)),.one (.int .i64 v)] (vB (decide (v∈l))) []
theorem hsI (l:List Int) (v:Int):aIb l v:=by
 refine aT bF aQ Tryz.func170 (by kernel_rfl) (.loop Nat (Q1 Nat) [5,6,7,8,9,10,11,12,13,14,15,16,17] [] (fun k=>[(5,vI (k:Int))]) (fun k=>[]) (fun k=>k≤l.length∧(l.take k).all (fun y=> !isI v y)=true) (fun k=>l.length - k) (fun k=> .len l.length<| .br (.elem _ intD l (fun e14=> .br (.fin []) (.back []))) (.fin []))) (p:=(l.map intD).length≤9223372036854775807→(∃(k:Nat),(0:Int)=(k:Int)∧k≤l.length∧(l.take k).all (fun y=> !isI v y)=true)∧ ∀(k:Nat),(k≤l.length∧(l.take k).all (fun y=> !isI v y)=true)→Lm intD l∧(((decide ((k:Int)<((l.length:Nat):Int)))=true→0≤(k:Int)∧Em intD l k fun e14=>((decide (e14=v))=true→(true)=(decide (v∈l))∧True)∧((decide (e14=v))=false→cL ((k:Int)+(1:Int))∧ ∃(k' :Nat),((k:Int)+(1:Int))=(k' :Int)∧(k' ≤l.length∧(l.take k').all (fun y=> !isI v y)=true)∧l.length - k' <l.length - k))∧((decide ((k:Int)<((l.length:Nat):Int)))=false→(false)=(decide (v∈l))∧True))) (by kernel_rfl) ?_
 intro n0
 simp only [List.length_map] at n0
 refine ⟨⟨0,rfl,Nat.zero_le _,rfl⟩,fun k ⟨hk,ha⟩=>?_⟩
 refine ⟨List.length_map _,fun c0=>?_,fun c0=>?_⟩
 ·replace c0:=yq c0
  refine ⟨by omega,rfl,by omega,fun e14 h14=>?_⟩
  refine ⟨fun c1=>?_,fun c1=>?_⟩
  ·replace c1:=yq c1
   have hE:decide (v∈l)=true:=by rw [←c1];exact decide_eq_true (List.mem_of_getElem? h14)
   refine ⟨?_,trivial⟩
   ·rw [hE]
  ·replace c1:=nq c1
   refine ⟨⟨by omega,by omega⟩,?_⟩
   exact ⟨k+1,rfl,⟨by omega,dO h14 ha (by simpa [isI] using fun q=>c1 (Eq.symm q))⟩,by omega⟩
 ·replace c0:=nq c0
  have hE:decide (v∈l)=false:=by rw [←aI9,aAp (p:=isI v) (bR (by omega) ha)];rfl
  refine ⟨?_,trivial⟩
  ·rw [hE]
def dX (d:aR) (f:aW):Bool:=(aE d f.name).2&&(cQ ((aE d f.name).1.arity - 1) f.src&&(dM f.dst 0 ((aE d f.name).1.arity - 1)&& !decide (f.dst∈f.src)))
def aJj (rows:List (List Int)) (cols:List Int) (c:Int) (i k:Nat):Bool:=decide ((eT (rows.getD i []) cols).1=(eT (rows.getD k []) cols).1)&& !decide ((rows.getD i []).getD c.toNat 0=(rows.getD k []).getD c.toNat 0)
def iU (rows:List (List Int)) (cols:List Int) (c:Int) (k:Nat):Nat→List Int
 | 0=>[]
 | i+1=>if iU rows cols c k i= []∧aJj rows cols c i k=true then [(i:Int),(k:Int)] else iU rows cols c k i
def jE (rows:List (List Int)) (cols:List Int) (c:Int):Nat→List Int
 | 0=>[]
 | k+1=>if jE rows cols c k= [] then iU rows cols c k k else jE rows cols c k
def iD (d:aR) (f:aW):List Int:=if dX d f=true then jE (aE d f.name).1.rows f.src f.dst (aE d f.name).1.rows.length else []
theorem aAq {rows:List (List Int)} {cols:List Int} {c:Int} {k i:Nat} (h:iU rows cols c k i= []) (hb:aJj rows cols c i k=false):iU rows cols c k (i+1)= []:=by rw [iU,if_neg (by simp [hb]),h]
theorem aET {rows:List (List Int)} {cols:List Int} {c:Int} {k i:Nat} (h: ¬iU rows cols c k i= []): ∀j,iU rows cols c k (i+j)=iU rows cols c k i
 | 0=>rfl
 | j+1=>by rw [Nat.add_succ,iU,aET h j,if_neg (by simp [h])]
theorem aEU {rows:List (List Int)} {cols:List Int} {c:Int} {k:Nat} (h: ¬jE rows cols c k= []): ∀j,jE rows cols c (k+j)=jE rows cols c k
 | 0=>rfl
 | j+1=>by rw [Nat.add_succ,jE,aEU h j,if_neg h]
theorem aEV {rows:List (List Int)} {cols:List Int} {c:Int} {k i n:Nat} (hk:jE rows cols c k= []) (hi:iU rows cols c k i= []) (hb:aJj rows cols c i k=true) (hik:i<k) (hkn:k<n):jE rows cols c n= [(i:Int),(k:Int)]:=by
 have h1:iU rows cols c k (i+1)= [(i:Int),(k:Int)]:=by rw [iU,if_pos ⟨hi,hb⟩]
 have h2:iU rows cols c k k= [(i:Int),(k:Int)]:=by
  have:=aET (rows:=rows) (cols:=cols) (c:=c) (k:=k) (i:=i+1) (by rw [h1];simp) (k - (i+1))
  rw [show i+1+(k - (i+1))=k by omega,h1] at this
  exact this
 have h3:jE rows cols c (k+1)= [(i:Int),(k:Int)]:=by rw [jE,if_pos hk,h2]
 have:=aEU (rows:=rows) (cols:=cols) (c:=c) (k:=k+1) (by rw [h3];simp) (n - (k+1))
 rw [show k+1+(n - (k+1))=n by omega,h3] at this
 exact this
theorem aEW {rows:List (List Int)} {cols:List Int} {c:Int} {k:Nat} (hk:jE rows cols c k= []) (hi:iU rows cols c k k= []):jE rows cols c (k+1)= []:=by rw [jE,if_pos hk,hi]
theorem aCO {d:aR} {f:aW} (h:dX d f=true):aL (aE d f.name).1=true∧0≤f.dst∧f.dst≤(aE d f.name).1.arity - 1∧f.src.length≤3:=by
 simp only [dX,Bool.and_eq_true] at h
 obtain ⟨h1,h2,h3,_⟩:=h
 have hT:=(kF h1).1
 have ha:=bT hT
 have:=dP h3
 exact ⟨hT,this.1,this.2,aAh h2 (by omega)⟩
theorem aKg {rows:List (List Int)} {cols:List Int} {c:Int} {i k:Nat} {x y:List Int} (hx:rows[i]? =some x) (hy:rows[k]? =some y):aJj rows cols c i k=(decide ((eT x cols).1=(eT y cols).1)&& !decide (x.getD c.toNat 0=y.getD c.toNat 0)):=by
 rw [aJj,aP hx,aP hy]
def gL (d:aR) (f:aW):Bool:=dX d f&&decide (iD d f= [])
theorem nL {α:Type} [DecidableEq α] (l:List α):decide (((l.length:Nat):Int)=0)=decide (l= []):=by
 cases l with
 | nil=>rfl
 | cons a l=>simp;omega
abbrev sQ (d:aR) (f:aW):Prop:=cO Tryz.prog 231 [.agg [.sl 162 3 (d.tables.map aO)],.agg [.str f.name,.sl 3 1 (f.src.map intD),.int .i64 f.dst]] (vB (dX d f)) []
theorem aEX (d:aR) (f:aW) (hc:bD d≤1048576):sQ d f:=by
 refine aT bF aQ Tryz.func231 (by kernel_rfl) (.call (.tup [.agg [.p none (.str (((aE d f.name).1).name)),vI (((aE d f.name).1).arity),.p none (.sl 32 1 ((((aE d f.name).1).rows).map aC))],vB ((aE d f.name).2)]) []<| .br (.call (vB (cQ ((((aE d f.name).1).arity) - 1) f.src)) []<| .lit<| .br (.raw<| .call (vB (dM f.dst (0:Int) (IntKind.i64.wrap ((((aE d f.name).1).arity) - (1:Int))))) []<| .lit<| .br (.call (vB (decide (f.dst∈f.src))) []<| .fin []) (.fin [])) (.fin [])) (.fin [])) (p:=(d.tables.map aO).length≤9223372036854775807→(f.src.map intD).length≤9223372036854775807→cO Tryz.prog 148 [.agg [.sl 162 3 (d.tables.map aO)],.one (.str f.name)] (.tup [.agg [.p none (.str (((aE d f.name).1).name)),vI (((aE d f.name).1).arity),.p none (.sl 32 1 ((((aE d f.name).1).rows).map aC))],vB ((aE d f.name).2)]) []∧((((aE d f.name).2)=true→vR f.src (((aE d f.name).1).arity)∧(((cQ ((((aE d f.name).1).arity) - 1) f.src)=true→eD f.dst (0:Int) (IntKind.i64.wrap ((((aE d f.name).1).arity) - (1:Int)))∧(((dM f.dst (0:Int) (IntKind.i64.wrap ((((aE d f.name).1).arity) - (1:Int))))=true→aES f.src f.dst∧(!(decide (f.dst∈f.src)))=(dX d f)∧True)∧((dM f.dst (0:Int) (IntKind.i64.wrap ((((aE d f.name).1).arity) - (1:Int))))=false→(false)=(dX d f)∧True)))∧((cQ ((((aE d f.name).1).arity) - 1) f.src)=false→(false)=(dX d f)∧True)))∧(((aE d f.name).2)=false→(false)=(dX d f)∧True))) (by kernel_rfl) ?_
 intro n0 n1
 simp only [List.length_map] at n0 n1
 refine ⟨iF (pG _ f.name (by omega)) rfl,fun g15=>?_,fun g15=>?_⟩
 ·have hT:=(kF g15).1
  have hA:=bT hT
  have hw:IntKind.i64.wrap ((aE d f.name).1.arity - 1)=(aE d f.name).1.arity - 1:=IntWalk.i64_in _ ⟨by omega,by omega⟩
  try rw [hw]
  refine ⟨aGN _ _ (by omega),fun g22=>?_,fun g22=>?_⟩
  ·refine ⟨gB _ _ _,fun g30=>?_,fun g30=>?_⟩
   ·refine ⟨ctI _ _,?_,trivial⟩
    ·first | (simp [dX, *];done) | (simp [dX, *] at*;simp [*];done) | (simp_all [dX];done)
   ·refine ⟨?_,trivial⟩
    ·first | (simp [dX, *];done) | (simp [dX, *] at*;simp [*];done) | (simp_all [dX];done)
  ·refine ⟨?_,trivial⟩
   ·first | (simp [dX, *];done) | (simp [dX, *] at*;simp [*];done) | (simp_all [dX];done)
 ·refine ⟨?_,trivial⟩
  ·first | (simp [dX, *];done) | (simp [dX, *] at*;simp [*];done) | (simp_all [dX];done)
abbrev sR (d:aR) (f:aW):Prop:=cO Tryz.prog 212 [.agg [.sl 162 3 (d.tables.map aO)],.agg [.str f.name,.sl 3 1 (f.src.map intD),.int .i64 f.dst]] (vB (dX d f)) []
theorem aEY (d:aR) (f:aW) (hc:bD d≤1048576):sR d f:=by
 refine aT bF aQ Tryz.func212 (by kernel_rfl) (.call (.tup [.agg [.p none (.str (((aE d f.name).1).name)),vI (((aE d f.name).1).arity),.p none (.sl 32 1 ((((aE d f.name).1).rows).map aC))],vB ((aE d f.name).2)]) []<| .br (.call (vB (aL ((aE d f.name).1)&&cQ (((aE d f.name).1).arity - 1) f.src)) []<| .lit<| .br (.raw<| .call (vB (dM f.dst (0:Int) (IntKind.i64.wrap ((((aE d f.name).1).arity) - (1:Int))))) []<| .lit<| .br (.call (vB (decide (f.dst∈f.src))) []<| .fin []) (.fin [])) (.fin [])) (.fin [])) (p:=(d.tables.map aO).length≤9223372036854775807→(f.src.map intD).length≤9223372036854775807→cO Tryz.prog 132 [.agg [.sl 162 3 (d.tables.map aO)],.one (.str f.name)] (.tup [.agg [.p none (.str (((aE d f.name).1).name)),vI (((aE d f.name).1).arity),.p none (.sl 32 1 ((((aE d f.name).1).rows).map aC))],vB ((aE d f.name).2)]) []∧((((aE d f.name).2)=true→vS ((aE d f.name).1) f.src∧(((aL ((aE d f.name).1)&&cQ (((aE d f.name).1).arity - 1) f.src)=true→eL f.dst (0:Int) (IntKind.i64.wrap ((((aE d f.name).1).arity) - (1:Int)))∧(((dM f.dst (0:Int) (IntKind.i64.wrap ((((aE d f.name).1).arity) - (1:Int))))=true→aIb f.src f.dst∧(!(decide (f.dst∈f.src)))=(dX d f)∧True)∧((dM f.dst (0:Int) (IntKind.i64.wrap ((((aE d f.name).1).arity) - (1:Int))))=false→(false)=(dX d f)∧True)))∧((aL ((aE d f.name).1)&&cQ (((aE d f.name).1).arity - 1) f.src)=false→(false)=(dX d f)∧True)))∧(((aE d f.name).2)=false→(false)=(dX d f)∧True))) (by kernel_rfl) ?_
 intro n0 n1
 simp only [List.length_map] at n0 n1
 refine ⟨iF (pH _ f.name (by omega)) rfl,fun g15=>?_,fun g15=>?_⟩
 ·have hT:=(kF g15).1
  have hA:=bT hT
  have hw:IntKind.i64.wrap ((aE d f.name).1.arity - 1)=(aE d f.name).1.arity - 1:=IntWalk.i64_in _ ⟨by omega,by omega⟩
  try rw [hw]
  refine ⟨aGO ((aE d f.name).1) _,fun g21=>?_,fun g21=>?_⟩
  ·refine ⟨gP _ _ _,fun g29=>?_,fun g29=>?_⟩
   ·refine ⟨hsI _ _,?_,trivial⟩
    ·first | (simp [dX, *];done) | (simp [dX, *] at*;simp [*];done) | (simp_all [dX];done)
   ·refine ⟨?_,trivial⟩
    ·first | (simp [dX, *];done) | (simp [dX, *] at*;simp [*];done) | (simp_all [dX];done)
  ·refine ⟨?_,trivial⟩
   ·first | (simp [dX, *];done) | (simp [dX, *] at*;simp [*];done) | (simp_all [dX];done)
 ·refine ⟨?_,trivial⟩
  ·first | (simp [dX, *];done) | (simp [dX, *] at*;simp [*];done) | (simp_all [dX];done)
end Go.Proofs.YtokkjaflmcjlhaaGreat
namespace Go.Proofs
open Go.Shelf
namespace YtokkjaflmcjlhaaGreat
def Tryz.lays189_ren : Go.Shelf.Ren := ⟨fun | 189 => 248 | 125 => 278 | 257 => 277 | 128 => 296 | 129 => 297 | 294 => 287 | 295 => 288 | 296 => 289 | 297 => 290 | 298 => 291 | 299 => 292 | 216 => 293 | 300 => 294 | 301 => 295 | 328 => 309 | 329 => 310 | 330 => 311 | 331 => 312 | 332 => 313 | 215 => 314 | 343 => 318 | n => n, fun | 28 => 32 | 3 => 3 | 46 => 247 | 0 => 0 | 51 => 264 | 53 => 266 | 4 => 4 | 183 => 256 | 182 => 255 | 131 => 261 | 5 => 5 | 9 => 9 | 218 => 274 | 222 => 278 | 228 => 283 | 229 => 284 | n => n, fun | n => n⟩
theorem Tryz.lays189 : Go.Proofs.Lays.n189 Tryz.prog Tryz.lays189_ren := {
  mixed := by kernel_rfl
  f125 := Tryz.func278.trans (congrArg some (by kernel_rfl))
  f128 := Tryz.func296.trans (congrArg some (by kernel_rfl))
  f129 := Tryz.func297.trans (congrArg some (by kernel_rfl))
  f189 := Tryz.func248.trans (congrArg some (by kernel_rfl))
  f215 := Tryz.func314.trans (congrArg some (by kernel_rfl))
  f216 := Tryz.func293.trans (congrArg some (by kernel_rfl))
  f257 := Tryz.func277.trans (congrArg some (by kernel_rfl))
  f294 := Tryz.func287.trans (congrArg some (by kernel_rfl))
  f295 := Tryz.func288.trans (congrArg some (by kernel_rfl))
  f296 := Tryz.func289.trans (congrArg some (by kernel_rfl))
  f297 := Tryz.func290.trans (congrArg some (by kernel_rfl))
  f298 := Tryz.func291.trans (congrArg some (by kernel_rfl))
  f299 := Tryz.func292.trans (congrArg some (by kernel_rfl))
  f300 := Tryz.func294.trans (congrArg some (by kernel_rfl))
  f301 := Tryz.func295.trans (congrArg some (by kernel_rfl))
  f328 := Tryz.func309.trans (congrArg some (by kernel_rfl))
  f329 := Tryz.func310.trans (congrArg some (by kernel_rfl))
  f330 := Tryz.func311.trans (congrArg some (by kernel_rfl))
  f331 := Tryz.func312.trans (congrArg some (by kernel_rfl))
  f332 := Tryz.func313.trans (congrArg some (by kernel_rfl))
  f343 := Tryz.func318.trans (congrArg some (by kernel_rfl))
  t0 := Tryz.underlying0
  a0 := Tryz.isAgg0
  z0 := Tryz.sizeOf0
  v0 := Tryz.zeroValue0
  t3 := Tryz.underlying3
  a3 := Tryz.isAgg3
  z3 := Tryz.sizeOf3
  v3 := Tryz.zeroValue3
  t4 := Tryz.underlying4
  a4 := Tryz.isAgg4
  z4 := Tryz.sizeOf4
  v4 := Tryz.zeroValue4
  t5 := Tryz.underlying5
  a5 := Tryz.isAgg5
  z5 := Tryz.sizeOf5
  v5 := Tryz.zeroValue5
  t9 := Tryz.underlying9
  a9 := Tryz.isAgg9
  z9 := Tryz.sizeOf9
  v9 := Tryz.zeroValue9
  t28 := Tryz.underlying32
  a28 := Tryz.isAgg32
  z28 := Tryz.sizeOf32
  v28 := Tryz.zeroValue32
  t46 := Tryz.underlying247
  a46 := Tryz.isAgg247
  z46 := Tryz.sizeOf247
  v46 := Tryz.zeroValue247
  t51 := Tryz.underlying264
  a51 := Tryz.isAgg264
  z51 := Tryz.sizeOf264
  v51 := Tryz.zeroValue264
  t53 := Tryz.underlying266
  a53 := Tryz.isAgg266
  z53 := Tryz.sizeOf266
  v53 := Tryz.zeroValue266
  t131 := Tryz.underlying261
  a131 := Tryz.isAgg261
  z131 := Tryz.sizeOf261
  v131 := Tryz.zeroValue261
  t182 := Tryz.underlying255
  a182 := Tryz.isAgg255
  z182 := Tryz.sizeOf255
  v182 := Tryz.zeroValue255
  t183 := Tryz.underlying256
  a183 := Tryz.isAgg256
  z183 := Tryz.sizeOf256
  v183 := Tryz.zeroValue256
  t218 := Tryz.underlying274
  a218 := Tryz.isAgg274
  z218 := Tryz.sizeOf274
  v218 := Tryz.zeroValue274
  t222 := Tryz.underlying278
  a222 := Tryz.isAgg278
  z222 := Tryz.sizeOf278
  v222 := Tryz.zeroValue278
  t228 := Tryz.underlying283
  a228 := Tryz.isAgg283
  z228 := Tryz.sizeOf283
  v228 := Tryz.zeroValue283
  t229 := Tryz.underlying284
  a229 := Tryz.isAgg284
  z229 := Tryz.sizeOf284
  v229 := Tryz.zeroValue284 }
end YtokkjaflmcjlhaaGreat
end Go.Proofs
namespace Go.Proofs.YtokkjaflmcjlhaaGreat
open Go.ChangeShapes Go.WideShapes Go.ChangeAt Go.RowKit
set_option linter.unusedVariables false
set_option linter.unusedSimpArgs false
theorem aBj {w:World}: ∀{l:List Int} {css:List (List Value)} {Fs:List (List Nat)},cH w 1 (l.map intD) css Fs→css.flatten=l.map (Value.int .i64)∧Fs.flatten= []
 | [],css,Fs,h=>by
   simp only [List.map_nil] at h
   unfold cH at h
   rw [h.1,h.2];simp
 | n::l,css,Fs,h=>by
   simp only [List.map_cons] at h
   unfold cH at h
   obtain ⟨c,css',F,Fs',rfl,rfl,_,h1,h2⟩:=h
   obtain ⟨q1,q2⟩:=aBj h2
   unfold intD cX at h1
   obtain ⟨v,cs',F1,F2,rfl,rfl,h3,h4⟩:=h1
   unfold cX at h4
   unfold oO at h3
   simp [q1,q2,h4.1,h4.2,h3.1,h3.2]
theorem sS (w:World): ∀(l:List Int),cH w 1 (l.map intD) (l.map fun n=>[Value.int .i64 n]) (l.map fun _=>[])
 | []=>by simp only [List.map_nil];unfold cH;exact ⟨rfl,rfl⟩
 | n::l=>by
   simp only [List.map_cons]
   unfold cH
   refine ⟨_,_,_,_,rfl,rfl,rfl,?_,sS w l⟩
   unfold intD cX
   refine ⟨_,_,[],[],rfl,rfl,?_,?_⟩
   ·unfold oO;exact ⟨rfl,rfl⟩
   ·unfold cX;exact ⟨rfl,rfl⟩
theorem aBk: ∀(m:List Int),(m.map fun n=>[Value.int .i64 n]).flatten=m.map (Value.int .i64)
 | []=>rfl
 | a::l=>by simp only [List.map_cons,List.flatten_cons,aBk l];rfl
theorem aGX {P:Program} {f:FuncId} {e:Nat} (l m:List Int) (hc:jI P f=true) (hm:m.length=l.length)
 (hn0:l= []→ ∀w,Calls P f #[.slice none 0 0] w (fun ex w' =>ex= .returned (.tuple #[])∧w' =w))
 (hs: ∀(blk cap:Nat) (w:World),Go.Sort.Holds (Value.int .i64) w blk 0 l.toArray→blk<w.heap.size→l.length≤cap→Calls P f #[.slice (some ⟨blk,0,none⟩) l.length cap] w (fun ex w' =>ex= .returned (.tuple #[])∧ ∃n os,w' =Go.Sort.grow (Go.Sort.putRow (Value.int .i64) (Go.Sort.ahead w n) blk 0 m.toArray) os)):
 yX P f [.own 0] [(0,.arr e 1 true (l.map intD))] (.tup []) [(0,.arr e 1 true (m.map intD))]:=by
 refine ⟨hc,by simp,fun A φ w vs hI hM=>?_⟩
 obtain ⟨pl,hp,css,Fs,q1,q2,q3,q4⟩:=hI.dom 0 _ rfl
 unfold aM at hM
 obtain ⟨v,us,e1,m1,hM⟩:=hM
 unfold aM at hM
 unfold aD at m1
 have hv:=m1 pl hp
 have ev:vs= #[pl.val]:=by apply Array.ext';rw [e1,hM,hv]
 rw [ev]
 obtain ⟨c1,c2⟩:=aBj q4
 rw [c1,List.length_map] at q1
 have hge:=hI.ge 0 pl hp
 have hsub:pl.sub= []:=by rw [q3,c2]
 have hfoot: ∀b∈pl.F,aHy φ b:=fun b hb=>⟨0,pl,trivial,hp,hb⟩
 have hend: ∀(w' :World),jW pl.F w w' →w'.ownsRow 0 e 1 pl.val l.length (m.map (Value.int .i64))→
  ∃v K φ',Ending.returned (.tuple #[])= .returned v∧aNG A φ w [(0,.arr e 1 true (m.map intD))] K φ' w' ∧aD K φ' w' (.tup []) v:=by
  intro w' hon howns
  refine ⟨_,A,fun h=>if h=0 then some pl else none,rfl,⟨⟨hon.os,hon.tape,hon.output,hon.size,fun b hb hn=>hon.block b hb (fun hm=>hn (hfoot b hm))⟩,fun _ h=>h,fun b hb=>⟨Nat.lt_of_lt_of_le (hI.lt b hb) hon.size,.inl hb⟩,fun b hb h pl1 e' hm' =>?_,fun h r hr=>?_,fun h hr=>?_,fun h h' pl1 pl2 hne ea eb=>?_,fun h pl1 e' =>?_,fun h pl1 e' g hg=>?_,fun h pl1 pl0 e' e0=>?_⟩,?_⟩
  ·split at e'
   ·injection e' with e';subst e'
    exact hI.out b hb 0 pl hp hm'
   ·cases e'
  ·simp only [aY] at hr
   split at hr
   ·rename_i eh
    subst eh
    injection hr with hr
    subst hr
    refine ⟨pl,by simp,m.map fun n=>[Value.int .i64 n],m.map fun _=>[],?_,q2,?_,sS _ m⟩
    ·rw [aBk,List.length_map,hm];exact howns
    ·rw [hsub];simp
   ·cases hr
  ·simp only [aY] at hr
   split at hr
   ·cases hr
   ·rename_i eh;exact if_neg eh
  ·split at ea
   ·split at eb
    ·rename_i x y;exact absurd (x.trans y.symm) hne
    ·cases eb
   ·cases ea
  ·split at e'
   ·injection e' with e';subst e';exact hI.nodup 0 pl hp
   ·cases e'
  ·split at e'
   ·injection e' with e';subst e'
    exact ⟨.inr (hfoot g hg),Nat.lt_of_lt_of_le (hge g hg) hon.size⟩
   ·cases e'
  ·split at e'
   ·rename_i eh
    subst eh
    rw [hp] at e0
    injection e0 with e0;injection e' with e'
    subst e0;subst e'
    exact ⟨rfl,rfl⟩
   ·cases e'
  ·unfold aD
   exact ⟨#[],rfl,by unfold aM;rfl⟩
 rcases q1.2 with ⟨hvn,hz⟩ | ⟨g,cap,cur,hvv,hg0,hb,hn,hcap,hsz,htk⟩
 ·have hz' :l= []:=List.eq_nil_of_length_eq_zero hz
  rw [hvn]
  refine (hn0 hz' w).mono ?_
  rintro en w' ⟨rfl,rfl⟩
  have hm0:m= []:=List.eq_nil_of_length_eq_zero (by rw [hm,hz])
  refine hend w' (jW.refl _ _) ?_
  rw [hvn,hm0,hz]
  exact ⟨by simp,.inl ⟨rfl,rfl⟩⟩
 ·have hlt:g<w.heap.size:=(Array.getElem?_eq_some_iff.1 hb).1
  have hH:Go.Sort.Holds (Value.int .i64) w g 0 l.toArray:=holds_of_blockI hb (by rw [Nat.mul_one] at htk;exact htk)
  rw [hvv]
  refine (hs g cap w hH hlt hn).mono ?_
  rintro en w' ⟨rfl,n,os,rfl⟩
  have hgb:=grownBy_sortedI (w:=w) (g:=g) (n:=n) (os:=os) m.toArray
  have hown:=ownsRow_sortedI (n:=n) (os:=os) hm hg0 hb hn hcap hsz
  refine hend _ ⟨hgb.os,hgb.tape,hgb.output,hgb.size,fun k hk hne=>hgb.block k hk (fun e=>hne (by injection e with e;subst e;unfold Pl.F;rw [q2,hvv];simp [Value.ownBlock]))⟩ ?_
  rw [hvv];exact hown
def iE (l:List Int):List Int:=l.mergeSort fun x y=>decide (x≤y)
theorem aEZ (l:List Int):(iE l).Perm l:=List.mergeSort_perm l _
theorem rL (l:List Int):(iE l).length=l.length:=(aEZ l).length_eq
theorem aJk (l:List Int):(iE l).Pairwise (· ≤ ·):=by
 have:=List.pairwise_mergeSort (le:=fun x y:Int=>decide (x≤y)) (fun a b c h1 h2=>by simp at*;omega) (fun a b=>by simp;omega) l
 exact this.imp (fun h=>by simpa using h)
theorem aGY (l:List Int) (hl:l.length<4611686018427387904):yX Tryz.prog 248 [.own 0] [(0,.arr 3 1 true (l.map intD))] (.tup []) [(0,.arr 3 1 true ((iE l).map intD))]:=
 aGX l (iE l) (by kernel_rfl) (rL l)
  (fun h w=>Any.slices_Sort_int_none Tryz.lays189 none 0 w)
  (fun blk cap w hH hblk _=>Any.slices_Sort_int Tryz.lays189 blk 0 cap l w hH hblk hl)
end Go.Proofs.YtokkjaflmcjlhaaGreat
