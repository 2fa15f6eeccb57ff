/-
  Contracts and plain laws, joined: part 10.
-/
import Derived.Test.YtokkjaflmcjlhaaGreatQU8
import Derived.Test.YtokkjaflmcjlhaaGreatQU5
import Derived.Test.YtokkjaflmcjlhaaGreatQU7
import Derived.IntWalk
namespace Go.Proofs.YtokkjaflmcjlhaaGreat
open Go.ChangeShapes Go.WideShapes Go.ChangeAt Go.RowKit
set_option linter.unusedVariables false
set_option linter.unusedSimpArgs false
set_option maxRecDepth 100000
set_option maxHeartbeats 4000000
def eK (d:aP) (v:Int):cA × Bool:=if (eB d&&gG v 1 999)=true then (⟨v,d.tables.map bV⟩,true) else (aDc,false)
theorem cL {d:aP} {v:Int} (h:(eB d&&gG v 1 999)=true):eK d v=(⟨v,d.tables.map bV⟩,true):=by rw [eK,if_pos h]
theorem fH {d:aP} {v:Int} (h:(eB d&&gG v 1 999)=false):eK d v=(aDc,false):=by rw [eK,if_neg (by rw [h];decide)]
theorem wJ {d:aP} (h:eB d=true):d.tables.length≤6:=by
 simp only [eB,Bool.and_eq_true,decide_eq_true_eq] at h
 omega
abbrev tL (d:aP) (v:Int):AV × List (Nat × Rs):=(.tup [.agg [vI (((eK d v).1).version),.own 0],vB ((eK d v).2)],[(0,.arr 121 4 true ((((eK d v).1).tables).map aA))])
abbrev zT (d:aP) (v:Int):Prop:=dJ Tryz.prog 76 [.agg [.sl 162 3 (d.tables.map aD)],.one (.int .i64 v)] (tL d v).1 (tL d v).2
theorem aIE (d:aP) (v:Int):zT d v:=by
 refine aZ bR aT Tryz.func76 (by kernel_rfl) (.call (vB (eB d)) []<| .br (.fin []) (.call (vB (gG v (1:Int) (999:Int))) []<| .lit<| .lit<| .br (.fin []) (.len d.tables.length<| .loop (Nat × (List aG)) (Q2 Nat (List aG)) [8,23,24,25,26,27,28,29,30,31,32,33,34] [600,800,3000,3100,3200,9000] (fun yy0=>[(23,vI (yy0.1:Int))]) (fun yy0=>[(600,some (.box 42 [vI v,.own 9000])),(9000,some (.arr 121 4 true (yy0.2.map aA)))]) (fun yy0=>yy0.1≤d.tables.length∧yy0.2=(d.tables.take yy0.1).map bV) (fun yy0=>d.tables.length - yy0.1) (fun yy0=> .br (.elem _ aD d.tables (fun e25=>bG (aBl e25)<| .appx aG aA yy0.2 (bV e25)<| .back [(600,600),(9000,3200)])) (.fin [(0,9000)]))))) (p:=(d.tables.map aD).length≤9223372036854775807→xZ d∧(((!(eB d))=true→(0:Int)=(((eK d v).1).version)∧(false)=((eK d v).2)∧[]=(((eK d v).1).tables).map aA∧True)∧((!(eB d))=false→jV v (1:Int) (999:Int)∧(((!(gG v (1:Int) (999:Int)))=true→(0:Int)=(((eK d v).1).version)∧(false)=((eK d v).2)∧[]=(((eK d v).1).tables).map aA∧True)∧((!(gG v (1:Int) (999:Int)))=false→Lm aD d.tables∧((∃(k:Nat) (out:List aG),(0:Int)=(k:Int)∧v=v∧[]=out.map aA∧k≤d.tables.length∧out=(d.tables.take k).map bV)∧ ∀(k:Nat) (out:List aG),(k≤d.tables.length∧out=(d.tables.take k).map bV)→((decide ((k:Int)<((d.tables.length:Nat):Int)))=true→0≤(k:Int)∧Em aD d.tables k fun e25=>aFr e25∧out.map aA=out.map aA∧((bV e25).name)=((bV e25).name)∧((bV e25).arity)=((bV e25).arity)∧((bV e25).rowCount)=((bV e25).rowCount)∧((bV e25).groups).map aC=((bV e25).groups).map aC∧(out.length+1)*56≤140737488355328∧dO ((k:Int)+(1:Int))∧ ∃(k' :Nat) (out' :List aG),((k:Int)+(1:Int))=(k' :Int)∧v=v∧(out++[(bV e25)]).map aA=out'.map aA∧(k' ≤d.tables.length∧out' =(d.tables.take k').map bV)∧d.tables.length - k' <d.tables.length - k)∧((decide ((k:Int)<((d.tables.length:Nat):Int)))=false→v=(((eK d v).1).version)∧(true)=((eK d v).2)∧out.map aA=(((eK d v).1).tables).map aA∧True))))))) (by kernel_rfl) ?_
 intro n0
 simp only [List.length_map] at n0
 refine ⟨aGe d,fun g12=>?_,fun g12=>?_⟩
 ·replace g12:=nt g12
  have hbad:(eB d&&gG v 1 999)=false:=by simp_all
  refine ⟨?_,?_,?_,trivial⟩
  ·first | (rw [fH hbad]<;>rfl) | (rw [cL hok]<;>rfl) | (rw [cL hok,ho,List.take_of_length_le (by omega)])
  ·first | (rw [fH hbad]<;>rfl) | (rw [cL hok]<;>rfl) | (rw [cL hok,ho,List.take_of_length_le (by omega)])
  ·first | (rw [fH hbad]<;>rfl) | (rw [cL hok]<;>rfl) | (rw [cL hok,ho,List.take_of_length_le (by omega)])
 ·replace g12:=nf g12
  refine ⟨pE _ _ _,fun c0=>?_,fun c0=>?_⟩
  ·replace c0:=nt c0
   have hbad:(eB d&&gG v 1 999)=false:=by simp_all
   refine ⟨?_,?_,?_,trivial⟩
   ·first | (rw [fH hbad]<;>rfl) | (rw [cL hok]<;>rfl) | (rw [cL hok,ho,List.take_of_length_le (by omega)])
   ·first | (rw [fH hbad]<;>rfl) | (rw [cL hok]<;>rfl) | (rw [cL hok,ho,List.take_of_length_le (by omega)])
   ·first | (rw [fH hbad]<;>rfl) | (rw [cL hok]<;>rfl) | (rw [cL hok,ho,List.take_of_length_le (by omega)])
  ·replace c0:=nf c0
   have hok:(eB d&&gG v 1 999)=true:=by simp_all
   have h6:=wJ (by simp_all:eB d=true)
   refine ⟨List.length_map _,⟨0,([]:List aG),rfl,rfl,rfl,Nat.zero_le _,rfl⟩,fun k out ⟨hk,ho⟩=>?_⟩
   refine ⟨fun c1=>?_,fun c1=>?_⟩
   ·replace c1:=yq c1
    refine ⟨by omega,rfl,by omega,fun e25 h25=>?_⟩
    refine ⟨aOL e25,rfl,rfl,rfl,rfl,rfl,by first | omega | (simp [ho];omega),⟨by omega,by omega⟩,?_⟩
    exact ⟨k+1,_,rfl,rfl,rfl,⟨by omega,by rw [ho,cU h25,List.map_append];rfl⟩,by omega⟩
   ·replace c1:=nq c1
    refine ⟨?_,?_,?_,trivial⟩
    ·first | (rw [fH hbad]<;>rfl) | (rw [cL hok]<;>rfl) | (rw [cL hok,ho,List.take_of_length_le (by omega)])
    ·first | (rw [fH hbad]<;>rfl) | (rw [cL hok]<;>rfl) | (rw [cL hok,ho,List.take_of_length_le (by omega)])
    ·first | (rw [fH hbad]<;>rfl) | (rw [cL hok]<;>rfl) | (rw [cL hok,ho,List.take_of_length_le (by omega)])
abbrev tM (d:aP) (v:Int):AV × List (Nat × Rs):=(.tup [.agg [vI (((eK d v).1).version),.own 0],vB ((eK d v).2)],[(0,.arr 121 4 true ((((eK d v).1).tables).map aA))])
abbrev zU (d:aP) (v:Int):Prop:=dJ Tryz.prog 66 [.agg [.sl 162 3 (d.tables.map aD)],.one (.int .i64 v)] (tM d v).1 (tM d v).2
theorem aIF (d:aP) (v:Int):zU d v:=by
 refine aZ bR aT Tryz.func66 (by kernel_rfl) (.call (vB (eB d)) []<| .br (.fin []) (.call (vB (gG v (1:Int) (999:Int))) []<| .lit<| .lit<| .br (.fin []) (.loop (Nat × (List aG)) (Q2 Nat (List aG)) [7,8,20,21,22,23,24,25,26,27,28,29,30,31,32,33,34,35,36,37,38] [600,800,3200,3600,3700,9000] (fun yy0=>[(7,vI (yy0.1:Int))]) (fun yy0=>[(600,some (.box 42 [vI v,.own 9000])),(9000,some (.arr 121 4 true (yy0.2.map aA)))]) (fun yy0=>yy0.1≤d.tables.length∧yy0.2=(d.tables.take yy0.1).map bV) (fun yy0=>d.tables.length - yy0.1) (fun yy0=> .len d.tables.length<| .br (.elem _ aD d.tables (fun e30=>bG (aBm e30)<| .appx aG aA yy0.2 (bV e30)<| .back [(600,600),(9000,3700)])) (.fin [(0,9000)]))))) (p:=(d.tables.map aD).length≤9223372036854775807→pK d∧(((!(eB d))=true→(0:Int)=(((eK d v).1).version)∧(false)=((eK d v).2)∧[]=(((eK d v).1).tables).map aA∧True)∧((!(eB d))=false→jW v (1:Int) (999:Int)∧(((!(gG v (1:Int) (999:Int)))=true→(0:Int)=(((eK d v).1).version)∧(false)=((eK d v).2)∧[]=(((eK d v).1).tables).map aA∧True)∧((!(gG v (1:Int) (999:Int)))=false→(∃(k:Nat) (out:List aG),(0:Int)=(k:Int)∧v=v∧[]=out.map aA∧k≤d.tables.length∧out=(d.tables.take k).map bV)∧ ∀(k:Nat) (out:List aG),(k≤d.tables.length∧out=(d.tables.take k).map bV)→Lm aD d.tables∧(((decide ((k:Int)<((d.tables.length:Nat):Int)))=true→0≤(k:Int)∧Em aD d.tables k fun e30=>aFs e30∧out.map aA=out.map aA∧((bV e30).name)=((bV e30).name)∧((bV e30).arity)=((bV e30).arity)∧((bV e30).rowCount)=((bV e30).rowCount)∧((bV e30).groups).map aC=((bV e30).groups).map aC∧(out.length+1)*56≤140737488355328∧dO ((k:Int)+(1:Int))∧ ∃(k' :Nat) (out' :List aG),((k:Int)+(1:Int))=(k' :Int)∧v=v∧(out++[(bV e30)]).map aA=out'.map aA∧(k' ≤d.tables.length∧out' =(d.tables.take k').map bV)∧d.tables.length - k' <d.tables.length - k)∧((decide ((k:Int)<((d.tables.length:Nat):Int)))=false→v=(((eK d v).1).version)∧(true)=((eK d v).2)∧out.map aA=(((eK d v).1).tables).map aA∧True))))))) (by kernel_rfl) ?_
 intro n0
 simp only [List.length_map] at n0
 refine ⟨aAm d,fun g12=>?_,fun g12=>?_⟩
 ·replace g12:=nt g12
  have hbad:(eB d&&gG v 1 999)=false:=by simp_all
  refine ⟨?_,?_,?_,trivial⟩
  ·first | (rw [fH hbad]<;>rfl) | (rw [cL hok]<;>rfl) | (rw [cL hok,ho,List.take_of_length_le (by omega)])
  ·first | (rw [fH hbad]<;>rfl) | (rw [cL hok]<;>rfl) | (rw [cL hok,ho,List.take_of_length_le (by omega)])
  ·first | (rw [fH hbad]<;>rfl) | (rw [cL hok]<;>rfl) | (rw [cL hok,ho,List.take_of_length_le (by omega)])
 ·replace g12:=nf g12
  refine ⟨pF _ _ _,fun c0=>?_,fun c0=>?_⟩
  ·replace c0:=nt c0
   have hbad:(eB d&&gG v 1 999)=false:=by simp_all
   refine ⟨?_,?_,?_,trivial⟩
   ·first | (rw [fH hbad]<;>rfl) | (rw [cL hok]<;>rfl) | (rw [cL hok,ho,List.take_of_length_le (by omega)])
   ·first | (rw [fH hbad]<;>rfl) | (rw [cL hok]<;>rfl) | (rw [cL hok,ho,List.take_of_length_le (by omega)])
   ·first | (rw [fH hbad]<;>rfl) | (rw [cL hok]<;>rfl) | (rw [cL hok,ho,List.take_of_length_le (by omega)])
  ·replace c0:=nf c0
   have hok:(eB d&&gG v 1 999)=true:=by simp_all
   have h6:=wJ (by simp_all:eB d=true)
   refine ⟨⟨0,([]:List aG),rfl,rfl,rfl,Nat.zero_le _,rfl⟩,fun k out ⟨hk,ho⟩=>?_⟩
   refine ⟨List.length_map _,fun c1=>?_,fun c1=>?_⟩
   ·replace c1:=yq c1
    refine ⟨by omega,rfl,by omega,fun e30 h30=>?_⟩
    refine ⟨aOM e30,rfl,rfl,rfl,rfl,rfl,by first | omega | (simp [ho];omega),⟨by omega,by omega⟩,?_⟩
    exact ⟨k+1,_,rfl,rfl,rfl,⟨by omega,by rw [ho,cU h30,List.map_append];rfl⟩,by omega⟩
   ·replace c1:=nq c1
    refine ⟨?_,?_,?_,trivial⟩
    ·first | (rw [fH hbad]<;>rfl) | (rw [cL hok]<;>rfl) | (rw [cL hok,ho,List.take_of_length_le (by omega)])
    ·first | (rw [fH hbad]<;>rfl) | (rw [cL hok]<;>rfl) | (rw [cL hok,ho,List.take_of_length_le (by omega)])
    ·first | (rw [fH hbad]<;>rfl) | (rw [cL hok]<;>rfl) | (rw [cL hok,ho,List.take_of_length_le (by omega)])
theorem qI {α:Type} {c:α→Nat} {m:Nat} {l:List α} (h: ∀x∈l,c x≤m):rO c l≤l.length+l.length*m:=by
 have h1:=zM (ct:=c) (m:=m) (l:=l) h
 have h2:rO c l=l.length+bB c l:=rfl
 omega
theorem aKx (t:aN) (cols:List Int):cP (gS t cols).1≤64∧(gS t cols).2.length≤8:=by
 cases h:(aS t&&dN (t.arity - 1) cols) with
 | false=>rw [mI h];exact ⟨by decide,by decide⟩
 | true=>
   have:=aGo (k:=(kV t cols).length) h
   rw [List.take_length,wC] at this
   rw [fB h]
   exact ⟨this.2,by simp only [aMj,List.length_map,aMi];exact this.1⟩
theorem tN {t:aN} (h:aS t=true):t.name.size=1:=by
 simp only [aS,eP,Bool.and_eq_true,decide_eq_true_eq] at h
 omega
theorem aIG (t:aN):bC (bV t)≤2000:=by
 cases h:aS t with
 | false=>rw [eQ h];decide
 | true=>
   have hT:=cD h
   have hn:=tN h
   have hl:=wH (n:=t.arity) ⟨hT.1,hT.2.1⟩
   rw [bW h]
   have h1:=qI (c:=bD) (m:=75) (l:=(cB t.arity).map (aAu t)) fun x hx=>by
    obtain ⟨c,hc,rfl⟩:=List.mem_map.1 hx
    obtain ⟨k,hk,hc⟩:=List.mem_iff_getElem.1 hc
    have h3:=zS (List.getElem?_eq_some_iff.2 ⟨hk,hc⟩)
    have h4:=aKx t c
    have h5:bD (aAu t c)=c.length+cP (gS t c).1+(gS t c).2.length:=rfl
    omega
   rw [List.length_map] at h1
   have h2:bC ⟨t.name,t.arity,(t.rows.length:Nat),(cB t.arity).map (aAu t)⟩=t.name.size+rO bD ((cB t.arity).map (aAu t)):=rfl
   omega
theorem aBn (d:aP) (v:Int):bK (eK d v).1≤20000:=by
 cases h:(eB d&&gG v 1 999) with
 | false=>rw [fH h];decide
 | true=>
   have h6:=wJ (by simp_all:eB d=true)
   rw [cL h]
   have h1:=qI (c:=bC) (m:=2000) (l:=d.tables.map bV) fun x hx=>by
    obtain ⟨t,_,rfl⟩:=List.mem_map.1 hx
    exact aIG t
   rw [List.length_map] at h1
   have h2:bK ⟨v,d.tables.map bV⟩=rO bC (d.tables.map bV):=rfl
   show bK ⟨v,d.tables.map bV⟩≤20000
   omega
def fD {α:Type} (p:α→Bool) (l:List α):Int:=match l.findIdx? p with | some k=>(k:Int) | none=> -1
theorem aCu {α:Type} {p:α→Bool} {l:List α} {k:Nat} {x:α} (h:l[k]? =some x) (ha:(l.take k).all (fun y=> !p y)=true) (hx:p x=true):fD p l=(k:Int):=by
 obtain ⟨hk,rfl⟩:=List.getElem?_eq_some_iff.1 h
 have:l.findIdx? p=some k:=by
  rw [List.findIdx?_eq_some_iff_getElem]
  refine ⟨hk,hx,fun j hj=>?_⟩
  have:=List.all_eq_true.1 ha l[j] (List.mem_iff_getElem.2 ⟨j,by rw [List.length_take];omega,by rw [List.getElem_take]⟩)
  simpa using this
 rw [fD,this]
theorem yD {α:Type} {p:α→Bool} {l:List α} (ha:l.all (fun y=> !p y)=true):fD p l= -1:=by
 have:l.findIdx? p=none:=by
  rw [List.findIdx?_eq_none_iff]
  intro x hx
  have:=List.all_eq_true.1 ha x hx
  simpa using this
 rw [fD,this]
theorem aIH {α:Type} {p:α→Bool} {l:List α} (h:0≤fD p l): ∃(k:Nat) (x:α),fD p l=(k:Int)∧l[k]? =some x∧p x=true∧k<l.length:=by
 unfold fD at*
 cases e:l.findIdx? p with
 | none=>rw [e] at h;exact absurd h (by decide)
 | some k=>
   rw [List.findIdx?_eq_some_iff_getElem] at e
   obtain ⟨hk,hx,_⟩:=e
   exact ⟨k,l[k],rfl,List.getElem?_eq_getElem hk,hx,hk⟩
theorem aKF {α:Type} (p:α→Bool) (l:List α): -1≤fD p l∧fD p l<(l.length:Int):=by
 by_cases h:0≤fD p l
 ·obtain ⟨k,x,h1,_,_,h4⟩:=aIH h
  omega
 ·unfold fD at*
  cases e:l.findIdx? p with
  | none=>simp only;omega
  | some k=>rw [e] at h;simp only at h;omega
abbrev lJ (row:List Int):List Int→Bool:=fun x=>decide (x=row)
abbrev aFt (x:List Int) (row:List Int):Prop:=dJ Tryz.prog 266 [.one (.sl 3 1 (x.map intD)),.ref [.sl 3 1 (row.map intD)]] (vB (decide (x=row))) []
theorem aOO (x row:List Int):aFt x row:=by
 refine aZ bR aT Tryz.func266 (by kernel_rfl) (.call (vB (decide (x=row))) []<| .fin []) (p:=(x.map intD).length≤9223372036854775807→(row.map intD).length≤9223372036854775807→nB x row∧(decide (x=row))=(decide (x=row))∧True) (by kernel_rfl) ?_
 intro n0 n1
 simp only [List.length_map] at n0 n1
 refine ⟨xY _ _,?_,trivial⟩
 ·rfl
abbrev aFu (l:List (List Int)) (row:List Int):Prop:=dJ Tryz.prog 265 [.one (.sl 32 1 (l.map aF)),.fn 266 [[.sl 3 1 (row.map intD)]]] (vI (fD (lJ row) l)) []
theorem aOP (l:List (List Int)) (row:List Int):aFu l row:=by
 refine aZ bR aT Tryz.func265 (by kernel_rfl) (.len l.length<| .loop Nat (Q1 Nat) [5,8,9,10,11,12,13,14,15,16,18] [] (fun k=>[(8,vI (k:Int))]) (fun k=>[]) (fun k=>k≤l.length∧(l.take k).all (fun y=> !lJ row y)=true) (fun k=>l.length - k) (fun k=> .br (.elem _ aF l (fun e14=> .call (vB (decide (e14=row))) []<| .br (.fin []) (.back []))) (.fin []))) (p:=(l.map aF).length≤9223372036854775807→Lm aF l∧((∃(k:Nat),(0:Int)=(k:Int)∧k≤l.length∧(l.take k).all (fun y=> !lJ row y)=true)∧ ∀(k:Nat),(k≤l.length∧(l.take k).all (fun y=> !lJ row y)=true)→((decide ((k:Int)<((l.length:Nat):Int)))=true→0≤(k:Int)∧Em aF l k fun e14=>aFt e14 row∧(((decide (e14=row))=true→(k:Int)=(fD (lJ row) l)∧True)∧((decide (e14=row))=false→dO ((k:Int)+(1:Int))∧ ∃(k' :Nat),((k:Int)+(1:Int))=(k' :Int)∧(k' ≤l.length∧(l.take k').all (fun y=> !lJ row y)=true)∧l.length - k' <l.length - k)))∧((decide ((k:Int)<((l.length:Nat):Int)))=false→(-1:Int)=(fD (lJ row) l)∧True))) (by kernel_rfl) ?_
 intro n0
 simp only [List.length_map] at n0
 refine ⟨List.length_map _,⟨0,rfl,Nat.zero_le _,rfl⟩,fun k ⟨hk,ha⟩=>?_⟩
 refine ⟨fun c0=>?_,fun c0=>?_⟩
 ·replace c0:=yq c0
  refine ⟨by omega,rfl,by omega,fun e14 h14=>?_⟩
  refine ⟨aOO _ _,fun c1=>?_,fun c1=>?_⟩
  ·replace c1:=yq c1
   have hE:=aCu (p:=lJ row) h14 ha (by simpa [lJ] using c1)
   refine ⟨?_,trivial⟩
   ·rw [hE]
  ·replace c1:=nq c1
   refine ⟨⟨by omega,by omega⟩,?_⟩
   exact ⟨k+1,rfl,⟨by omega,eZ h14 ha (by simpa [lJ] using c1)⟩,by omega⟩
 ·replace c0:=nq c0
  have hE:=yD (p:=lJ row) (cZ (by omega) ha)
  refine ⟨?_,trivial⟩
  ·rw [hE]
abbrev aAv (t:aN) (row:List Int):Prop:=dJ Tryz.prog 227 [.agg [.str t.name,.int .i64 t.arity,.sl 32 1 (t.rows.map aF)],.one (.sl 3 1 (row.map intD))] (vI (fD (lJ row) t.rows)) []
theorem aJG (t:aN) (row:List Int):aAv t row:=by
 refine aZ bR aT Tryz.func227 (by kernel_rfl) (.call (vI (fD (lJ row) t.rows)) []<| .fin []) (p:=(t.rows.map aF).length≤9223372036854775807→(row.map intD).length≤9223372036854775807→aFu t.rows row∧(fD (lJ row) t.rows)=(fD (lJ row) t.rows)∧True) (by kernel_rfl) ?_
 intro n0 n1
 simp only [List.length_map] at n0 n1
 refine ⟨aOP _ _,?_⟩
 exact ⟨rfl,trivial⟩
def gI (t:aN) (row:List Int):Bool:=aS t&&decide (0≤fD (lJ row) t.rows)
def fW (t:aN) (row:List Int):Bool:=aS t&&(fE t.arity row&&(decide (fD (lJ row) t.rows<0)&&decide ((t.rows.length:Int)<8)))
def eV (t:aN) (row:List Int):aN × Bool:=if fW t row=true then (⟨t.name,t.arity,kP row t.rows⟩,true) else (t,false)
def hZ (t:aN) (row:List Int):aN × Bool:=if gI t row=true then (⟨t.name,t.arity,t.rows.eraseIdx (fD (lJ row) t.rows).toNat⟩,true) else (t,false)
theorem bM {t:aN} {row:List Int} (h:fW t row=true):eV t row=(⟨t.name,t.arity,kP row t.rows⟩,true):=by rw [eV,if_pos h]
theorem dL {t:aN} {row:List Int} (h:fW t row=false):eV t row=(t,false):=by rw [eV,if_neg (by rw [h];decide)]
theorem eL {t:aN} {row:List Int} (h:gI t row=true):hZ t row=(⟨t.name,t.arity,t.rows.eraseIdx (fD (lJ row) t.rows).toNat⟩,true):=by rw [hZ,if_pos h]
theorem iU {t:aN} {row:List Int} (h:gI t row=false):hZ t row=(t,false):=by rw [hZ,if_neg (by rw [h];decide)]
theorem zV {t:aN} {row:List Int} (h:gI t row=true):aS t=true∧0≤fD (lJ row) t.rows:=by
 simpa only [gI,Bool.and_eq_true,decide_eq_true_eq] using h
theorem aCN {t:aN} {row:List Int} (h:fW t row=true):aS t=true∧fE t.arity row=true∧fD (lJ row) t.rows<0∧(t.rows.length:Int)<8:=by
 simpa only [fW,Bool.and_eq_true,decide_eq_true_eq] using h
theorem aDx {t:aN} (h:aS t=true):cP t.rows≤32:=by
 have hT:=cD h
 have:=tJ (l:=t.rows) (m:=3) fun r hr=>by have:=nR h hr;omega
 omega
theorem lC {t:aN} (h:aS t=true):dF t≤64:=by
 have h1:=aDx h
 have h2:=tN h
 have h3:dF t=t.name.size+cP t.rows:=rfl
 omega
theorem aII (l:List (List Int)) (r:List Int):cP (l++[r])=cP l+1+r.length:=by
 induction l with
 | nil=>rw [List.nil_append,wI]
 | cons a l ih=>rw [List.cons_append,wI,wI,ih];omega
theorem aKy {t:aN} {row:List Int} (h:fW t row=true):cP (t.rows++[row])≤64:=by
 obtain ⟨h1,h2,_,_⟩:=aCN h
 have hT:=cD h1
 have h3:=aDx h1
 simp only [fE,Bool.and_eq_true,decide_eq_true_eq] at h2
 rw [aII]
 omega
theorem aMv {t:aN} {row:List Int} (h:aS t=true):fK (dH (t.rows++[row]))=kP row t.rows:=by
 rw [←wC,aAs,aID (aIC (nQ h).2.2)]
theorem aIJ: ∀{l:List (List Int)} {k:Nat} {row:List Int},Asc l→l[k]? =some row→l.filter (fun x=> !lJ row x)=l.eraseIdx k
 | [],k,row,_,hk=>by simp at hk
 | a::l,0,row,ha,hk=>by
   simp at hk
   subst hk
   rw [List.eraseIdx_cons_zero,List.filter_cons_of_neg (by simp [lJ])]
   refine List.filter_eq_self.2 fun y hy=>?_
   have:=(List.pairwise_cons.1 ha).1 y hy
   have hne: ¬y=a:=fun e=>by rw [e,pL] at this;omega
   simp [lJ,hne]
 | a::l,k+1,row,ha,hk=>by
   have hk' :l[k]? =some row:=by simpa using hk
   have:=(List.pairwise_cons.1 ha).1 row (List.mem_of_getElem? hk')
   have hne: ¬a=row:=fun e=>by rw [e,pL] at this;omega
   rw [List.eraseIdx_cons_succ,List.filter_cons_of_pos (by simp [lJ,hne]),aIJ (List.pairwise_cons.1 ha).2 hk']
theorem aMw {t:aN} {row:List Int} (h:gI t row=true):t.rows.filter (fun x=> !lJ row x)=t.rows.eraseIdx (fD (lJ row) t.rows).toNat:=by
 obtain ⟨h1,h2⟩:=zV h
 obtain ⟨k,x,e,hx,hp,_⟩:=aIH h2
 have hxr:x=row:=by simpa [lJ] using hp
 subst hxr
 rw [e,Int.toNat_natCast]
 exact aIJ (aIC (nQ h1).2.2) hx
abbrev aDy (t:aN) (row:List Int):Prop:=dJ Tryz.prog 229 [.agg [.str t.name,.int .i64 t.arity,.sl 32 1 (t.rows.map aF)],.one (.sl 3 1 (row.map intD))] (vB (gI t row)) []
theorem aMx (t:aN) (row:List Int):aDy t row:=by
 refine aZ bR aT Tryz.func229 (by kernel_rfl) (.call (vB (aS t)) []<| .br (.call (vI (fD (lJ row) t.rows)) []<| .fin []) (.fin [])) (p:=(t.rows.map aF).length≤9223372036854775807→(row.map intD).length≤9223372036854775807→lN t∧(((aS t)=true→aAv t row∧(decide ((0:Int)≤(fD (lJ row) t.rows)))=(gI t row)∧True)∧((aS t)=false→(false)=(gI t row)∧True))) (by kernel_rfl) ?_
 intro n0 n1
 simp only [List.length_map] at n0 n1
 refine ⟨sH t,fun g7=>?_,fun g7=>?_⟩
 ·refine ⟨aJG _ _,?_,trivial⟩
  ·first | (simp [gI, *];done) | (simp [gI,g7];done)
 ·refine ⟨?_,trivial⟩
  ·first | (simp [gI, *];done) | (simp [gI,g7];done)
abbrev zW (t:aN) (row:List Int):Prop:=dJ Tryz.prog 209 [.agg [.str t.name,.int .i64 t.arity,.sl 32 1 (t.rows.map aF)],.one (.sl 3 1 (row.map intD))] (vB (gI t row)) []
theorem aIK (t:aN) (row:List Int):zW t row:=by
 refine aZ bR aT Tryz.func209 (by kernel_rfl) (.loop Nat (Q1 Nat) [5,6,7,8,9,10,11,12,13,14,15,16,17,18,19,20,21,22,23,24] [] (fun k=>[(5,vI (k:Int))]) (fun k=>[]) (fun k=>k≤t.rows.length∧(t.rows.take k).all (fun y=> !lJ row y)=true) (fun k=>t.rows.length - k) (fun k=> .len t.rows.length<| .br (.call (vB (aS t)) []<| .lit<| .br (.elem _ aF t.rows (fun e20=> .call (vI (cC e20 row)) []<| .br (.fin []) (.back []))) (.fin [])) (.fin []))) (p:=(t.rows.map aF).length≤9223372036854775807→(row.map intD).length≤9223372036854775807→(∃(k:Nat),(0:Int)=(k:Int)∧k≤t.rows.length∧(t.rows.take k).all (fun y=> !lJ row y)=true)∧ ∀(k:Nat),(k≤t.rows.length∧(t.rows.take k).all (fun y=> !lJ row y)=true)→Lm aF t.rows∧(((decide ((k:Int)<((t.rows.length:Nat):Int)))=true→lO t∧(((aS t)=true→0≤(k:Int)∧Em aF t.rows k fun e20=>fA e20 row∧(((decide ((cC e20 row)=(0:Int)))=true→(true)=(gI t row)∧True)∧((decide ((cC e20 row)=(0:Int)))=false→dO ((k:Int)+(1:Int))∧ ∃(k' :Nat),((k:Int)+(1:Int))=(k' :Int)∧(k' ≤t.rows.length∧(t.rows.take k').all (fun y=> !lJ row y)=true)∧t.rows.length - k' <t.rows.length - k)))∧((aS t)=false→(false)=(gI t row)∧True)))∧((decide ((k:Int)<((t.rows.length:Nat):Int)))=false→(false)=(gI t row)∧True))) (by kernel_rfl) ?_
 intro n0 n1
 simp only [List.length_map] at n0 n1
 refine ⟨⟨0,rfl,Nat.zero_le _,rfl⟩,fun k ⟨hk,ha⟩=>?_⟩
 refine ⟨List.length_map _,fun g11=>?_,fun g11=>?_⟩
 ·replace g11:=yq g11
  refine ⟨sI t,fun c0=>?_,fun c0=>?_⟩
  ·refine ⟨by omega,rfl,by omega,fun e20 h20=>?_⟩
   refine ⟨gH _ _,fun c1=>?_,fun c1=>?_⟩
   ·replace c1:=yq c1
    have hE:=aCu (p:=lJ row) h20 ha (by simpa [lJ] using eD.1 c1)
    refine ⟨?_,trivial⟩
    ·first | (rw [hE];done) | (rw [gI,hE,c0];simp)
   ·replace c1:=nq c1
    refine ⟨⟨by omega,by omega⟩,?_⟩
    exact ⟨k+1,rfl,⟨by omega,eZ h20 ha (by simpa [lJ] using fun q=>c1 (eD.2 q))⟩,by omega⟩
  ·have hE:gI t row=false:=by first | (rw [gI,yD (cZ (by omega) ha)];simp;done) | (rw [gI,c0];rfl)
   refine ⟨?_,trivial⟩
   ·first | (rw [hE];done) | (rw [gI,hE,c0];simp)
 ·replace g11:=nq g11
  have hE:gI t row=false:=by first | (rw [gI,yD (cZ (by omega) ha)];simp;done) | (rw [gI,c0];rfl)
  refine ⟨?_,trivial⟩
  ·first | (rw [hE];done) | (rw [gI,hE,c0];simp)
abbrev yG (n:ByteArray):aN→Bool:=fun t=>t.name.toList==n.toList
abbrev isI (v:Int):Int→Bool:=fun y=>decide (v=y)
theorem sN {α:Type} {p:α→Bool} {l:List α}:(fD p l<0→l.find? p=none)∧(0≤fD p l→ ∃(k:Nat) (x:α),fD p l=(k:Int)∧l[k]? =some x∧l.find? p=some x):=by
 unfold fD
 cases e:l.findIdx? p with
 | none=>
   rw [List.findIdx?_eq_none_iff] at e
   refine ⟨fun _=>List.find?_eq_none.2 fun x hx=>by rw [e x hx];decide,fun h=>absurd h (by decide)⟩
 | some k=>
   rw [List.findIdx?_eq_some_iff_getElem] at e
   obtain ⟨hk,hx,hj⟩:=e
   refine ⟨fun h=>absurd h (by simp only;omega),fun _=>⟨k,l[k],rfl,List.getElem?_eq_getElem hk,?_⟩⟩
   rw [List.find?_eq_some_iff_getElem]
   exact ⟨hx,k,hk,rfl,fun j hjk=>by have:=hj j hjk;simpa using this⟩
theorem aIL {l:List Int} {v:Int}:decide (0≤fD (isI v) l)=decide (v∈l):=by
 apply Bool.eq_iff_iff.2
 rw [decide_eq_true_eq,decide_eq_true_eq]
 constructor
 ·intro h
  obtain ⟨k,x,_,hx,hf⟩:=sN.2 h
  have h1:=List.find?_some hf
  have:v=x:=by simpa [isI] using h1
  rw [this];exact List.mem_of_getElem? hx
 ·intro h
  rcases Int.lt_or_le (fD (isI v) l) 0 with q | q
  ·have:=sN.1 q
   rw [List.find?_eq_none] at this
   exact absurd (this v h) (by simp [isI])
  ·exact q
def aM (d:aP) (n:ByteArray):aN × Bool:=if eB d=true then (match d.tables.find? (yG n) with | some t=>(t,true) | none=>(fJ,false)) else (fJ,false)
theorem aAw {d:aP} {n:ByteArray} (h:eB d=false∨d.tables.find? (yG n)=none):aM d n=(fJ,false):=by
 unfold aM
 rcases h with h | h
 ·rw [if_neg (by rw [h];decide)]
 ·rw [h];split<;>rfl
theorem aFv {d:aP} {n:ByteArray} {t:aN} (h:eB d=true) (hf:d.tables.find? (yG n)=some t):aM d n=(t,true):=by rw [aM,if_pos h,hf]
theorem aEA {d:aP} (h:eB d=true):d.tables.all aS=true:=by
 simp only [eB,Bool.and_eq_true] at h
 exact h.1
theorem jN {d:aP} {n:ByteArray} (h:(aM d n).2=true):aS (aM d n).1=true∧eB d=true:=by
 unfold aM at*
 split at h
 ·rename_i hd
  rw [if_pos hd]
  cases e:d.tables.find? (yG n) with
  | none=>rw [e] at h;cases h
  | some t=>exact ⟨List.all_eq_true.1 (aEA hd) t (List.mem_of_find?_eq_some e),hd⟩
 ·cases h
abbrev aMy (t:aN) (n:ByteArray):Prop:=dJ Tryz.prog 224 [.agg [.str t.name,.int .i64 t.arity,.sl 32 1 (t.rows.map aF)],.ref [.str n]] (vB (yG n t)) []
theorem aQJ (t:aN) (n:ByteArray):aMy t n:=by
 refine aZ bR aT Tryz.func224 (by kernel_rfl) (.fin []) (p:=(t.rows.map aF).length≤9223372036854775807→(t.name.toList==n.toList)=(yG n t)∧True) (by kernel_rfl) ?_
 intro n0
 simp only [List.length_map] at n0
 refine ⟨?_,trivial⟩
 ·rfl
abbrev aMz (l:List aN) (n:ByteArray):Prop:=dJ Tryz.prog 223 [.one (.sl 162 3 (l.map aD)),.fn 224 [[.str n]]] (vI (fD (yG n) l)) []
theorem aQK (l:List aN) (n:ByteArray):aMz l n:=by
 refine aZ bR aT Tryz.func223 (by kernel_rfl) (.len l.length<| .loop Nat (Q1 Nat) [5,8,9,10,11,12,13,14,15,16,18] [] (fun k=>[(8,vI (k:Int))]) (fun k=>[]) (fun k=>k≤l.length∧(l.take k).all (fun y=> !yG n y)=true) (fun k=>l.length - k) (fun k=> .br (.elem _ aD l (fun e14=> .call (vB (yG n e14)) []<| .br (.fin []) (.back []))) (.fin []))) (p:=(l.map aD).length≤9223372036854775807→Lm aD l∧((∃(k:Nat),(0:Int)=(k:Int)∧k≤l.length∧(l.take k).all (fun y=> !yG n y)=true)∧ ∀(k:Nat),(k≤l.length∧(l.take k).all (fun y=> !yG n y)=true)→((decide ((k:Int)<((l.length:Nat):Int)))=true→0≤(k:Int)∧Em aD l k fun e14=>aMy e14 n∧(((yG n e14)=true→(k:Int)=(fD (yG n) l)∧True)∧((yG n e14)=false→dO ((k:Int)+(1:Int))∧ ∃(k' :Nat),((k:Int)+(1:Int))=(k' :Int)∧(k' ≤l.length∧(l.take k').all (fun y=> !yG n y)=true)∧l.length - k' <l.length - k)))∧((decide ((k:Int)<((l.length:Nat):Int)))=false→(-1:Int)=(fD (yG n) l)∧True))) (by kernel_rfl) ?_
 intro n0
 simp only [List.length_map] at n0
 refine ⟨List.length_map _,⟨0,rfl,Nat.zero_le _,rfl⟩,fun k ⟨hk,ha⟩=>?_⟩
 refine ⟨fun c0=>?_,fun c0=>?_⟩
 ·replace c0:=yq c0
  refine ⟨by omega,rfl,by omega,fun e14 h14=>?_⟩
  refine ⟨aQJ _ _,fun c1=>?_,fun c1=>?_⟩
  ·have hE:=aCu (p:=yG n) h14 ha c1
   refine ⟨?_,trivial⟩
   ·rw [hE]
  ·refine ⟨⟨by omega,by omega⟩,?_⟩
   exact ⟨k+1,rfl,⟨by omega,eZ h14 ha (by simp [c1])⟩,by omega⟩
 ·replace c0:=nq c0
  have hE:=yD (p:=yG n) (cZ (by omega) ha)
  refine ⟨?_,trivial⟩
  ·rw [hE]
abbrev zX (d:aP) (n:ByteArray):AV × List (Nat × Rs):=(.tup [.agg [.p none (.str (((aM d n).1).name)),vI (((aM d n).1).arity),.own 0],vB ((aM d n).2)],[(0,.arr 32 1 true ((((aM d n).1).rows).map aF))])
abbrev aEB (d:aP) (n:ByteArray):Prop:=dJ Tryz.prog 148 [.agg [.sl 162 3 (d.tables.map aD)],.one (.str n)] (zX d n).1 (zX d n).2
theorem qJ (d:aP) (n:ByteArray) (hc:aW d≤1048576):aEB d n:=by
 refine aZ bR aT Tryz.func148 (by kernel_rfl) (.call (vI (fD (yG n) d.tables)) []<| .br (.fin []) (.call (vB (eB d)) []<| .lit<| .lit<| .br (.fin []) (.elem _ aD d.tables (fun e22=>bG (gX e22)<| .fin [(0,2400)])))) (p:=(d.tables.map aD).length≤9223372036854775807→aMz d.tables n∧(((decide ((fD (yG n) d.tables)<(0:Int)))=true→ByteArray.empty=(((aM d n).1).name)∧(0:Int)=(((aM d n).1).arity)∧(false)=((aM d n).2)∧[]=(((aM d n).1).rows).map aF∧True)∧((decide ((fD (yG n) d.tables)<(0:Int)))=false→xZ d∧(((!(eB d))=true→ByteArray.empty=(((aM d n).1).name)∧(0:Int)=(((aM d n).1).arity)∧(false)=((aM d n).2)∧[]=(((aM d n).1).rows).map aF∧True)∧((!(eB d))=false→0≤(fD (yG n) d.tables)∧Em aD d.tables ((fD (yG n) d.tables).toNat) fun e22=>iP e22∧e22.name=(((aM d n).1).name)∧e22.arity=(((aM d n).1).arity)∧(true)=((aM d n).2)∧e22.rows.map aF=(((aM d n).1).rows).map aF∧True))))) (by kernel_rfl) ?_
 intro n0
 simp only [List.length_map] at n0
 have q1:aW d=eW d.tables:=rfl
 have hg:=aKF (yG n) d.tables
 refine ⟨aQK _ _,fun g13=>?_,fun g13=>?_⟩
 ·replace g13:=yq g13
  have hbad:aM d n=(fJ,false):=aAw (by first | (left;simpa using g15;done) | (left;simpa using c0;done) | (right;exact sN.1 (by omega)))
  refine ⟨?_,?_,?_,?_,trivial⟩
  ·first | (rw [hbad]<;>rfl) | (rw [hok]<;>rfl)
  ·first | (rw [hbad]<;>rfl) | (rw [hok]<;>rfl)
  ·first | (rw [hbad]<;>rfl) | (rw [hok]<;>rfl)
  ·first | (rw [hbad]<;>rfl) | (rw [hok]<;>rfl)
 ·replace g13:=nq g13
  refine ⟨aGe d,fun c0=>?_,fun c0=>?_⟩
  ·replace c0:=nt c0
   have hbad:aM d n=(fJ,false):=aAw (by first | (left;simpa using g15;done) | (left;simpa using c0;done) | (right;exact sN.1 (by omega)))
   refine ⟨?_,?_,?_,?_,trivial⟩
   ·first | (rw [hbad]<;>rfl) | (rw [hok]<;>rfl)
   ·first | (rw [hbad]<;>rfl) | (rw [hok]<;>rfl)
   ·first | (rw [hbad]<;>rfl) | (rw [hok]<;>rfl)
   ·first | (rw [hbad]<;>rfl) | (rw [hok]<;>rfl)
  ·replace c0:=nf c0
   have hd:eB d=true:=by simpa using c0
   obtain ⟨k,y,hk,hy,hf⟩:=sN.2 (show 0≤fD (yG n) d.tables by omega)
   have hok:=aFv hd hf
   refine ⟨by omega,rfl,by omega,fun e22 h22=>?_⟩
   have hyx:y=e22:=by rw [hk] at h22;exact (aV (by simpa using h22) hy)
   have q2:=jG h22
   rw [hyx] at hok
   refine ⟨mJ _ (by omega),?_,?_,?_,?_,trivial⟩
   ·first | (rw [hbad]<;>rfl) | (rw [hok]<;>rfl)
   ·first | (rw [hbad]<;>rfl) | (rw [hok]<;>rfl)
   ·first | (rw [hbad]<;>rfl) | (rw [hok]<;>rfl)
   ·first | (rw [hbad]<;>rfl) | (rw [hok]<;>rfl)
abbrev zY (d:aP) (n:ByteArray):AV × List (Nat × Rs):=(.tup [.agg [.p none (.str (((aM d n).1).name)),vI (((aM d n).1).arity),.own 0],vB ((aM d n).2)],[(0,.arr 32 1 true ((((aM d n).1).rows).map aF))])
abbrev aEC (d:aP) (n:ByteArray):Prop:=dJ Tryz.prog 132 [.agg [.sl 162 3 (d.tables.map aD)],.one (.str n)] (zY d n).1 (zY d n).2
theorem qK (d:aP) (n:ByteArray) (hc:aW d≤1048576):aEC d n:=by
 refine aZ bR aT Tryz.func132 (by kernel_rfl) (.loop Nat (Q1 Nat) [6,7,8,9,10,11,12,13,14,15,16,17,18,19,20,21,22,23,24,25] [] (fun k=>[(6,vI (k:Int))]) (fun k=>[]) (fun k=>k≤d.tables.length∧(d.tables.take k).all (fun y=> !yG n y)=true) (fun k=>d.tables.length - k) (fun k=> .len d.tables.length<| .br (.call (vB (eB d)) []<| .lit<| .br (.elem _ aD d.tables (fun e21=> .br (.elem _ aD d.tables (fun e29=>bG (gY e29)<| .fin [(0,3100)])) (.back []))) (.fin [])) (.fin []))) (p:=(d.tables.map aD).length≤9223372036854775807→(∃(k:Nat),(0:Int)=(k:Int)∧k≤d.tables.length∧(d.tables.take k).all (fun y=> !yG n y)=true)∧ ∀(k:Nat),(k≤d.tables.length∧(d.tables.take k).all (fun y=> !yG n y)=true)→Lm aD d.tables∧(((decide ((k:Int)<((d.tables.length:Nat):Int)))=true→pK d∧(((eB d)=true→0≤(k:Int)∧Em aD d.tables k fun e21=>((e21.name.toList==n.toList)=true→0≤(k:Int)∧Em aD d.tables k fun e29=>iQ e29∧e29.name=(((aM d n).1).name)∧e29.arity=(((aM d n).1).arity)∧(true)=((aM d n).2)∧e29.rows.map aF=(((aM d n).1).rows).map aF∧True)∧((e21.name.toList==n.toList)=false→dO ((k:Int)+(1:Int))∧ ∃(k' :Nat),((k:Int)+(1:Int))=(k' :Int)∧(k' ≤d.tables.length∧(d.tables.take k').all (fun y=> !yG n y)=true)∧d.tables.length - k' <d.tables.length - k))∧((eB d)=false→ByteArray.empty=(((aM d n).1).name)∧(0:Int)=(((aM d n).1).arity)∧(false)=((aM d n).2)∧[]=(((aM d n).1).rows).map aF∧True)))∧((decide ((k:Int)<((d.tables.length:Nat):Int)))=false→ByteArray.empty=(((aM d n).1).name)∧(0:Int)=(((aM d n).1).arity)∧(false)=((aM d n).2)∧[]=(((aM d n).1).rows).map aF∧True))) (by kernel_rfl) ?_
 intro n0
 simp only [List.length_map] at n0
 have q1:aW d=eW d.tables:=rfl
 refine ⟨⟨0,rfl,Nat.zero_le _,rfl⟩,fun k ⟨hk,ha⟩=>?_⟩
 refine ⟨List.length_map _,fun g12=>?_,fun g12=>?_⟩
 ·replace g12:=yq g12
  refine ⟨aAm d,fun c0=>?_,fun c0=>?_⟩
  ·refine ⟨by omega,rfl,by omega,fun e21 h21=>?_⟩
   try (obtain rfl:=(aV h21 h21).symm)
   have q2:=jG h21
   refine ⟨fun c1=>?_,fun c1=>?_⟩
   ·have hok:=aFv (n:=n) c0 (aON (p:=yG n) h21 ha c1)
    refine ⟨by omega,rfl,by omega,fun e29 h29=>?_⟩
    try (obtain rfl:=(aV h21 h29).symm)
    refine ⟨mK _ (by omega),?_,?_,?_,?_,trivial⟩
    ·first | (rw [hbad]<;>rfl) | (rw [hok]<;>rfl)
    ·first | (rw [hbad]<;>rfl) | (rw [hok]<;>rfl)
    ·first | (rw [hbad]<;>rfl) | (rw [hok]<;>rfl)
    ·first | (rw [hbad]<;>rfl) | (rw [hok]<;>rfl)
   ·refine ⟨⟨by omega,by omega⟩,?_⟩
    exact ⟨k+1,rfl,⟨by omega,eZ h21 ha (by simp [yG,c1])⟩,by omega⟩
  ·have hbad:aM d n=(fJ,false):=aAw (by first | (left;exact c0) | (right;exact aKE (cZ (by omega) ha)))
   refine ⟨?_,?_,?_,?_,trivial⟩
   ·first | (rw [hbad]<;>rfl) | (rw [hok]<;>rfl)
   ·first | (rw [hbad]<;>rfl) | (rw [hok]<;>rfl)
   ·first | (rw [hbad]<;>rfl) | (rw [hok]<;>rfl)
   ·first | (rw [hbad]<;>rfl) | (rw [hok]<;>rfl)
 ·replace g12:=nq g12
  have hbad:aM d n=(fJ,false):=aAw (by first | (left;exact c0) | (right;exact aKE (cZ (by omega) ha)))
  refine ⟨?_,?_,?_,?_,trivial⟩
  ·first | (rw [hbad]<;>rfl) | (rw [hok]<;>rfl)
  ·first | (rw [hbad]<;>rfl) | (rw [hok]<;>rfl)
  ·first | (rw [hbad]<;>rfl) | (rw [hok]<;>rfl)
  ·first | (rw [hbad]<;>rfl) | (rw [hok]<;>rfl)
abbrev aO0 (l:List Int) (v:Int):Prop:=dJ Tryz.prog 187 [.one (.sl 3 1 (l.map intD)),.one (.int .i64 v)] (vI (fD (isI v) l)) []
theorem ixI (l:List Int) (v:Int):aO0 l v:=by
 refine aZ bR aT Tryz.func187 (by kernel_rfl) (.len l.length<| .loop Nat (Q1 Nat) [5,8,9,10,11,12,13,14,15,16,18] [] (fun k=>[(8,vI (k:Int))]) (fun k=>[]) (fun k=>k≤l.length∧(l.take k).all (fun y=> !isI v y)=true) (fun k=>l.length - k) (fun k=> .br (.elem _ intD l (fun e14=> .br (.fin []) (.back []))) (.fin []))) (p:=(l.map intD).length≤9223372036854775807→Lm intD l∧((∃(k:Nat),(0:Int)=(k:Int)∧k≤l.length∧(l.take k).all (fun y=> !isI v y)=true)∧ ∀(k:Nat),(k≤l.length∧(l.take k).all (fun y=> !isI v y)=true)→((decide ((k:Int)<((l.length:Nat):Int)))=true→0≤(k:Int)∧Em intD l k fun e14=>((decide (v=e14))=true→(k:Int)=(fD (isI v) l)∧True)∧((decide (v=e14))=false→dO ((k:Int)+(1:Int))∧ ∃(k' :Nat),((k:Int)+(1:Int))=(k' :Int)∧(k' ≤l.length∧(l.take k').all (fun y=> !isI v y)=true)∧l.length - k' <l.length - k))∧((decide ((k:Int)<((l.length:Nat):Int)))=false→(-1:Int)=(fD (isI v) l)∧True))) (by kernel_rfl) ?_
 intro n0
 simp only [List.length_map] at n0
 refine ⟨List.length_map _,⟨0,rfl,Nat.zero_le _,rfl⟩,fun k ⟨hk,ha⟩=>?_⟩
 refine ⟨fun c0=>?_,fun c0=>?_⟩
 ·replace c0:=yq c0
  refine ⟨by omega,rfl,by omega,fun e14 h14=>?_⟩
  refine ⟨fun c1=>?_,fun c1=>?_⟩
  ·replace c1:=yq c1
   have hE:=aCu (p:=isI v) h14 ha (by simpa [isI] using c1)
   refine ⟨?_,trivial⟩
   ·rw [hE]
  ·replace c1:=nq c1
   refine ⟨⟨by omega,by omega⟩,?_⟩
   exact ⟨k+1,rfl,⟨by omega,eZ h14 ha (by simpa [isI] using c1)⟩,by omega⟩
 ·replace c0:=nq c0
  have hE:=yD (p:=isI v) (cZ (by omega) ha)
  refine ⟨?_,trivial⟩
  ·rw [hE]
abbrev aNA (l:List Int) (v:Int):Prop:=dJ Tryz.prog 115 [.one (.sl 3 1 (l.map intD)),.one (.int .i64 v)] (vB (decide (v∈l))) []
theorem ctI (l:List Int) (v:Int):aNA l v:=by
 refine aZ bR aT Tryz.func115 (by kernel_rfl) (.call (vI (fD (isI v) l)) []<| .fin []) (p:=(l.map intD).length≤9223372036854775807→aO0 l v∧(decide ((0:Int)≤(fD (isI v) l)))=(decide (v∈l))∧True) (by kernel_rfl) ?_
 intro n0
 simp only [List.length_map] at n0
 refine ⟨ixI _ _,?_,trivial⟩
 ·exact aIL
abbrev aO1 (l:List Int) (v:Int):Prop:=dJ Tryz.prog 170 [.one (.sl 3 1 (l.map intD)),.one (.int .i64 v)] (vB (decide (v∈l))) []
theorem hsI (l:List Int) (v:Int):aO1 l v:=by
 refine aZ bR aT Tryz.func170 (by kernel_rfl) (.loop Nat (Q1 Nat) [5,6,7,8,9,10,11,12,13,14,15,16,17] [] (fun k=>[(5,vI (k:Int))]) (fun k=>[]) (fun k=>k≤l.length∧(l.take k).all (fun y=> !isI v y)=true) (fun k=>l.length - k) (fun k=> .len l.length<| .br (.elem _ intD l (fun e14=> .br (.fin []) (.back []))) (.fin []))) (p:=(l.map intD).length≤9223372036854775807→(∃(k:Nat),(0:Int)=(k:Int)∧k≤l.length∧(l.take k).all (fun y=> !isI v y)=true)∧ ∀(k:Nat),(k≤l.length∧(l.take k).all (fun y=> !isI v y)=true)→Lm intD l∧(((decide ((k:Int)<((l.length:Nat):Int)))=true→0≤(k:Int)∧Em intD l k fun e14=>((decide (e14=v))=true→(true)=(decide (v∈l))∧True)∧((decide (e14=v))=false→dO ((k:Int)+(1:Int))∧ ∃(k' :Nat),((k:Int)+(1:Int))=(k' :Int)∧(k' ≤l.length∧(l.take k').all (fun y=> !isI v y)=true)∧l.length - k' <l.length - k))∧((decide ((k:Int)<((l.length:Nat):Int)))=false→(false)=(decide (v∈l))∧True))) (by kernel_rfl) ?_
 intro n0
 simp only [List.length_map] at n0
 refine ⟨⟨0,rfl,Nat.zero_le _,rfl⟩,fun k ⟨hk,ha⟩=>?_⟩
 refine ⟨List.length_map _,fun c0=>?_,fun c0=>?_⟩
 ·replace c0:=yq c0
  refine ⟨by omega,rfl,by omega,fun e14 h14=>?_⟩
  refine ⟨fun c1=>?_,fun c1=>?_⟩
  ·replace c1:=yq c1
   have hE:decide (v∈l)=true:=by rw [←c1];exact decide_eq_true (List.mem_of_getElem? h14)
   refine ⟨?_,trivial⟩
   ·rw [hE]
  ·replace c1:=nq c1
   refine ⟨⟨by omega,by omega⟩,?_⟩
   exact ⟨k+1,rfl,⟨by omega,eZ h14 ha (by simpa [isI] using fun q=>c1 (Eq.symm q))⟩,by omega⟩
 ·replace c0:=nq c0
  have hE:decide (v∈l)=false:=by rw [←aIL,yD (p:=isI v) (cZ (by omega) ha)];rfl
  refine ⟨?_,trivial⟩
  ·rw [hE]
def eC (d:aP) (f:aJ):Bool:=(aM d f.name).2&&(dN ((aM d f.name).1.arity - 1) f.src&&(gG f.dst 0 ((aM d f.name).1.arity - 1)&& !decide (f.dst∈f.src)))
def aJH (rows:List (List Int)) (cols:List Int) (c:Int) (i k:Nat):Bool:=decide ((fM (rows.getD i []) cols).1=(fM (rows.getD k []) cols).1)&& !decide ((rows.getD i []).getD c.toNat 0=(rows.getD k []).getD c.toNat 0)
def jO (rows:List (List Int)) (cols:List Int) (c:Int) (k:Nat):Nat→List Int
 | 0=>[]
 | i+1=>if jO rows cols c k i= []∧aJH rows cols c i k=true then [(i:Int),(k:Int)] else jO rows cols c k i
def kA (rows:List (List Int)) (cols:List Int) (c:Int):Nat→List Int
 | 0=>[]
 | k+1=>if kA rows cols c k= [] then jO rows cols c k k else kA rows cols c k
def iT (d:aP) (f:aJ):List Int:=if eC d f=true then kA (aM d f.name).1.rows f.src f.dst (aM d f.name).1.rows.length else []
theorem aAx {rows:List (List Int)} {cols:List Int} {c:Int} {k i:Nat} (h:jO rows cols c k i= []) (hb:aJH rows cols c i k=false):jO rows cols c k (i+1)= []:=by rw [jO,if_neg (by simp [hb]),h]
theorem aED {rows:List (List Int)} {cols:List Int} {c:Int} {k i:Nat} (h: ¬jO rows cols c k i= []): ∀j,jO rows cols c k (i+j)=jO rows cols c k i
 | 0=>rfl
 | j+1=>by rw [Nat.add_succ,jO,aED h j,if_neg (by simp [h])]
theorem aEE {rows:List (List Int)} {cols:List Int} {c:Int} {k:Nat} (h: ¬kA rows cols c k= []): ∀j,kA rows cols c (k+j)=kA rows cols c k
 | 0=>rfl
 | j+1=>by rw [Nat.add_succ,kA,aEE h j,if_neg h]
theorem aEF {rows:List (List Int)} {cols:List Int} {c:Int} {k i n:Nat} (hk:kA rows cols c k= []) (hi:jO rows cols c k i= []) (hb:aJH rows cols c i k=true) (hik:i<k) (hkn:k<n):kA rows cols c n= [(i:Int),(k:Int)]:=by
 have h1:jO rows cols c k (i+1)= [(i:Int),(k:Int)]:=by rw [jO,if_pos ⟨hi,hb⟩]
 have h2:jO rows cols c k k= [(i:Int),(k:Int)]:=by
  have:=aED (rows:=rows) (cols:=cols) (c:=c) (k:=k) (i:=i+1) (by rw [h1];simp) (k - (i+1))
  rw [show i+1+(k - (i+1))=k by omega,h1] at this
  exact this
 have h3:kA rows cols c (k+1)= [(i:Int),(k:Int)]:=by rw [kA,if_pos hk,h2]
 have:=aEE (rows:=rows) (cols:=cols) (c:=c) (k:=k+1) (by rw [h3];simp) (n - (k+1))
 rw [show k+1+(n - (k+1))=n by omega,h3] at this
 exact this
theorem aEG {rows:List (List Int)} {cols:List Int} {c:Int} {k:Nat} (hk:kA rows cols c k= []) (hi:jO rows cols c k k= []):kA rows cols c (k+1)= []:=by rw [kA,if_pos hk,hi]
theorem aCO {d:aP} {f:aJ} (h:eC d f=true):aS (aM d f.name).1=true∧0≤f.dst∧f.dst≤(aM d f.name).1.arity - 1∧f.src.length≤3:=by
 simp only [eC,Bool.and_eq_true] at h
 obtain ⟨h1,h2,h3,_⟩:=h
 have hT:=(jN h1).1
 have ha:=cD hT
 have:=kW h3
 exact ⟨hT,this.1,this.2,aAr h2 (by omega)⟩
theorem aKG {rows:List (List Int)} {cols:List Int} {c:Int} {i k:Nat} {x y:List Int} (hx:rows[i]? =some x) (hy:rows[k]? =some y):aJH rows cols c i k=(decide ((fM x cols).1=(fM y cols).1)&& !decide (x.getD c.toNat 0=y.getD c.toNat 0)):=by
 rw [aJH,cM hx,cM hy]
def gL (d:aP) (f:aJ):Bool:=eC d f&&decide (iT d f= [])
theorem oI {α:Type} [DecidableEq α] (l:List α):decide (((l.length:Nat):Int)=0)=decide (l= []):=by
 cases l with
 | nil=>rfl
 | cons a l=>simp;omega
abbrev tO (d:aP) (f:aJ):Prop:=dJ Tryz.prog 231 [.agg [.sl 162 3 (d.tables.map aD)],.agg [.str f.name,.sl 3 1 (f.src.map intD),.int .i64 f.dst]] (vB (eC d f)) []
theorem aEH (d:aP) (f:aJ) (hc:aW d≤1048576):tO d f:=by
 refine aZ bR aT Tryz.func231 (by kernel_rfl) (.call (.tup [.agg [.p none (.str (((aM d f.name).1).name)),vI (((aM d f.name).1).arity),.p none (.sl 32 1 ((((aM d f.name).1).rows).map aF))],vB ((aM d f.name).2)]) []<| .br (.call (vB (dN ((((aM d f.name).1).arity) - 1) f.src)) []<| .lit<| .br (.raw<| .call (vB (gG f.dst (0:Int) (IntKind.i64.wrap ((((aM d f.name).1).arity) - (1:Int))))) []<| .lit<| .br (.call (vB (decide (f.dst∈f.src))) []<| .fin []) (.fin [])) (.fin [])) (.fin [])) (p:=(d.tables.map aD).length≤9223372036854775807→(f.src.map intD).length≤9223372036854775807→dJ Tryz.prog 148 [.agg [.sl 162 3 (d.tables.map aD)],.one (.str f.name)] (.tup [.agg [.p none (.str (((aM d f.name).1).name)),vI (((aM d f.name).1).arity),.p none (.sl 32 1 ((((aM d f.name).1).rows).map aF))],vB ((aM d f.name).2)]) []∧((((aM d f.name).2)=true→vY f.src (((aM d f.name).1).arity)∧(((dN ((((aM d f.name).1).arity) - 1) f.src)=true→jV f.dst (0:Int) (IntKind.i64.wrap ((((aM d f.name).1).arity) - (1:Int)))∧(((gG f.dst (0:Int) (IntKind.i64.wrap ((((aM d f.name).1).arity) - (1:Int))))=true→aNA f.src f.dst∧(!(decide (f.dst∈f.src)))=(eC d f)∧True)∧((gG f.dst (0:Int) (IntKind.i64.wrap ((((aM d f.name).1).arity) - (1:Int))))=false→(false)=(eC d f)∧True)))∧((dN ((((aM d f.name).1).arity) - 1) f.src)=false→(false)=(eC d f)∧True)))∧(((aM d f.name).2)=false→(false)=(eC d f)∧True))) (by kernel_rfl) ?_
 intro n0 n1
 simp only [List.length_map] at n0 n1
 refine ⟨lE (qJ _ f.name (by omega)) rfl,fun g15=>?_,fun g15=>?_⟩
 ·have hT:=(jN g15).1
  have hA:=cD hT
  have hw:IntKind.i64.wrap ((aM d f.name).1.arity - 1)=(aM d f.name).1.arity - 1:=IntWalk.i64_in _ ⟨by omega,by omega⟩
  try rw [hw]
  refine ⟨aFk _ _ (by omega),fun g22=>?_,fun g22=>?_⟩
  ·refine ⟨pE _ _ _,fun g30=>?_,fun g30=>?_⟩
   ·refine ⟨ctI _ _,?_,trivial⟩
    ·first | (simp [eC, *];done) | (simp [eC, *] at*;simp [*];done) | (simp_all [eC];done)
   ·refine ⟨?_,trivial⟩
    ·first | (simp [eC, *];done) | (simp [eC, *] at*;simp [*];done) | (simp_all [eC];done)
  ·refine ⟨?_,trivial⟩
   ·first | (simp [eC, *];done) | (simp [eC, *] at*;simp [*];done) | (simp_all [eC];done)
 ·refine ⟨?_,trivial⟩
  ·first | (simp [eC, *];done) | (simp [eC, *] at*;simp [*];done) | (simp_all [eC];done)
abbrev tP (d:aP) (f:aJ):Prop:=dJ Tryz.prog 212 [.agg [.sl 162 3 (d.tables.map aD)],.agg [.str f.name,.sl 3 1 (f.src.map intD),.int .i64 f.dst]] (vB (eC d f)) []
theorem aEI (d:aP) (f:aJ) (hc:aW d≤1048576):tP d f:=by
 refine aZ bR aT Tryz.func212 (by kernel_rfl) (.call (.tup [.agg [.p none (.str (((aM d f.name).1).name)),vI (((aM d f.name).1).arity),.p none (.sl 32 1 ((((aM d f.name).1).rows).map aF))],vB ((aM d f.name).2)]) []<| .br (.call (vB (aS ((aM d f.name).1)&&dN (((aM d f.name).1).arity - 1) f.src)) []<| .lit<| .br (.raw<| .call (vB (gG f.dst (0:Int) (IntKind.i64.wrap ((((aM d f.name).1).arity) - (1:Int))))) []<| .lit<| .br (.call (vB (decide (f.dst∈f.src))) []<| .fin []) (.fin [])) (.fin [])) (.fin [])) (p:=(d.tables.map aD).length≤9223372036854775807→(f.src.map intD).length≤9223372036854775807→dJ Tryz.prog 132 [.agg [.sl 162 3 (d.tables.map aD)],.one (.str f.name)] (.tup [.agg [.p none (.str (((aM d f.name).1).name)),vI (((aM d f.name).1).arity),.p none (.sl 32 1 ((((aM d f.name).1).rows).map aF))],vB ((aM d f.name).2)]) []∧((((aM d f.name).2)=true→vZ ((aM d f.name).1) f.src∧(((aS ((aM d f.name).1)&&dN (((aM d f.name).1).arity - 1) f.src)=true→jW f.dst (0:Int) (IntKind.i64.wrap ((((aM d f.name).1).arity) - (1:Int)))∧(((gG f.dst (0:Int) (IntKind.i64.wrap ((((aM d f.name).1).arity) - (1:Int))))=true→aO1 f.src f.dst∧(!(decide (f.dst∈f.src)))=(eC d f)∧True)∧((gG f.dst (0:Int) (IntKind.i64.wrap ((((aM d f.name).1).arity) - (1:Int))))=false→(false)=(eC d f)∧True)))∧((aS ((aM d f.name).1)&&dN (((aM d f.name).1).arity - 1) f.src)=false→(false)=(eC d f)∧True)))∧(((aM d f.name).2)=false→(false)=(eC d f)∧True))) (by kernel_rfl) ?_
 intro n0 n1
 simp only [List.length_map] at n0 n1
 refine ⟨lE (qK _ f.name (by omega)) rfl,fun g15=>?_,fun g15=>?_⟩
 ·have hT:=(jN g15).1
  have hA:=cD hT
  have hw:IntKind.i64.wrap ((aM d f.name).1.arity - 1)=(aM d f.name).1.arity - 1:=IntWalk.i64_in _ ⟨by omega,by omega⟩
  try rw [hw]
  refine ⟨aFl ((aM d f.name).1) _,fun g21=>?_,fun g21=>?_⟩
  ·refine ⟨pF _ _ _,fun g29=>?_,fun g29=>?_⟩
   ·refine ⟨hsI _ _,?_,trivial⟩
    ·first | (simp [eC, *];done) | (simp [eC, *] at*;simp [*];done) | (simp_all [eC];done)
   ·refine ⟨?_,trivial⟩
    ·first | (simp [eC, *];done) | (simp [eC, *] at*;simp [*];done) | (simp_all [eC];done)
  ·refine ⟨?_,trivial⟩
   ·first | (simp [eC, *];done) | (simp [eC, *] at*;simp [*];done) | (simp_all [eC];done)
 ·refine ⟨?_,trivial⟩
  ·first | (simp [eC, *];done) | (simp [eC, *] at*;simp [*];done) | (simp_all [eC];done)
end Go.Proofs.YtokkjaflmcjlhaaGreat
