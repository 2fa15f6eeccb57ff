/-
  Contracts and plain laws, joined: part 10.
-/
import Derived.Test.YtdfebigfnjfgpaaGreatQP8
import Derived.Test.YtdfebigfnjfgpaaGreatQP7
import Derived.Test.YtdfebigfnjfgpaaGreatQP5
import Derived.IntWalk
import Derived.Test.YtdfebigfnjfgpaaGreatQP3
import Derived.Shelf.Sort.Plain
import Derived.Shelf.Slices.In.SortNone
import Derived.Sort.OwnSortedInts
namespace Go.Proofs.YtdfebigfnjfgpaaGreat
open Go.ChangeShapes Go.WideShapes Go.ChangeAt Go.RowKit
set_option linter.unusedVariables false
set_option linter.unusedSimpArgs false
set_option maxRecDepth 100000
set_option maxHeartbeats 4000000
def fW (d:aV) (v:Int):cD × Bool:=if (gI d&&dW v 1 999)=true then (⟨v,d.tables.map bF⟩,true) else (aGW,false)
theorem cQ {d:aV} {v:Int} (h:(gI d&&dW v 1 999)=true):fW d v=(⟨v,d.tables.map bF⟩,true):=by rw [fW,if_pos h]
theorem gM {d:aV} {v:Int} (h:(gI d&&dW v 1 999)=false):fW d v=(aGW,false):=by rw [fW,if_neg (by rw [h];decide)]
theorem aGh {d:aV} (h:gI d=true):d.tables.length≤6:=by
 simp only [gI,Bool.and_eq_true,decide_eq_true_eq] at h
 omega
abbrev aBl (d:aV) (v:Int):AV × List (Nat × Rs):=(.tup [.agg [vI (((fW d v).1).version),.own 0],vB ((fW d v).2)],[(0,.arr 161 4 true ((((fW d v).1).tables).map aD))])
abbrev aGi (d:aV) (v:Int):Prop:=cX Tryz.prog 146 [.agg [.sl 167 3 (d.tables.map aP)],.one (.int .i64 v)] (aBl d v).1 (aBl d v).2
theorem aR7 (d:aV) (v:Int):aGi d v:=by
 refine aX bG aR Tryz.func146 (by kernel_rfl) (.call (vB (gI d)) []<| .br (.fin []) (.call (vB (dW v (1:Int) (999:Int))) []<| .lit<| .lit<| .br (.fin []) (.len d.tables.length<| .loop (Nat × (List aB)) (Q2 Nat (List aB)) [8,23,24,25,26,27,28,29,30,31,32,33,34] [600,800,3000,3100,3200,9000] (fun yy0=>[(23,vI (yy0.1:Int))]) (fun yy0=>[(600,some (.box 46 [vI v,.own 9000])),(9000,some (.arr 161 4 true (yy0.2.map aD)))]) (fun yy0=>yy0.1≤d.tables.length∧yy0.2=(d.tables.take yy0.1).map bF) (fun yy0=>d.tables.length - yy0.1) (fun yy0=> .br (.elem _ aP d.tables (fun e25=>cB (aAm e25)<| .appx aB aD yy0.2 (bF e25)<| .back [(600,600),(9000,3200)])) (.fin [(0,9000)]))))) (p:=(d.tables.map aP).length≤9223372036854775807→aDr d∧(((!(gI d))=true→(0:Int)=(((fW d v).1).version)∧(false)=((fW d v).2)∧[]=(((fW d v).1).tables).map aD∧True)∧((!(gI d))=false→fN v (1:Int) (999:Int)∧(((!(dW v (1:Int) (999:Int)))=true→(0:Int)=(((fW d v).1).version)∧(false)=((fW d v).2)∧[]=(((fW d v).1).tables).map aD∧True)∧((!(dW v (1:Int) (999:Int)))=false→Lm aP d.tables∧((∃(k:Nat) (out:List aB),(0:Int)=(k:Int)∧v=v∧[]=out.map aD∧k≤d.tables.length∧out=(d.tables.take k).map bF)∧ ∀(k:Nat) (out:List aB),(k≤d.tables.length∧out=(d.tables.take k).map bF)→((decide ((k:Int)<((d.tables.length:Nat):Int)))=true→0≤(k:Int)∧Em aP d.tables k fun e25=>aDp e25∧out.map aD=out.map aD∧((bF e25).name)=((bF e25).name)∧((bF e25).arity)=((bF e25).arity)∧((bF e25).rowCount)=((bF e25).rowCount)∧((bF e25).groups).map aA=((bF e25).groups).map aA∧(out.length+1)*56≤140737488355328∧cC ((k:Int)+(1:Int))∧ ∃(k' :Nat) (out' :List aB),((k:Int)+(1:Int))=(k' :Int)∧v=v∧(out++[(bF e25)]).map aD=out'.map aD∧(k' ≤d.tables.length∧out' =(d.tables.take k').map bF)∧d.tables.length - k' <d.tables.length - k)∧((decide ((k:Int)<((d.tables.length:Nat):Int)))=false→v=(((fW d v).1).version)∧(true)=((fW d v).2)∧out.map aD=(((fW d v).1).tables).map aD∧True))))))) (by kernel_rfl) ?_
 intro n0
 simp only [List.length_map] at n0
 refine ⟨aOM d,fun g12=>?_,fun g12=>?_⟩
 ·replace g12:=nt g12
  have hbad:(gI d&&dW v 1 999)=false:=by simp_all
  refine ⟨?_,?_,?_,trivial⟩
  ·first | (rw [gM hbad]<;>rfl) | (rw [cQ hok]<;>rfl) | (rw [cQ hok,ho,List.take_of_length_le (by omega)])
  ·first | (rw [gM hbad]<;>rfl) | (rw [cQ hok]<;>rfl) | (rw [cQ hok,ho,List.take_of_length_le (by omega)])
  ·first | (rw [gM hbad]<;>rfl) | (rw [cQ hok]<;>rfl) | (rw [cQ hok,ho,List.take_of_length_le (by omega)])
 ·replace g12:=nf g12
  refine ⟨jG _ _ _,fun c0=>?_,fun c0=>?_⟩
  ·replace c0:=nt c0
   have hbad:(gI d&&dW v 1 999)=false:=by simp_all
   refine ⟨?_,?_,?_,trivial⟩
   ·first | (rw [gM hbad]<;>rfl) | (rw [cQ hok]<;>rfl) | (rw [cQ hok,ho,List.take_of_length_le (by omega)])
   ·first | (rw [gM hbad]<;>rfl) | (rw [cQ hok]<;>rfl) | (rw [cQ hok,ho,List.take_of_length_le (by omega)])
   ·first | (rw [gM hbad]<;>rfl) | (rw [cQ hok]<;>rfl) | (rw [cQ hok,ho,List.take_of_length_le (by omega)])
  ·replace c0:=nf c0
   have hok:(gI d&&dW v 1 999)=true:=by simp_all
   have h6:=aGh (by simp_all:gI d=true)
   refine ⟨List.length_map _,⟨0,([]:List aB),rfl,rfl,rfl,Nat.zero_le _,rfl⟩,fun k out ⟨hk,ho⟩=>?_⟩
   refine ⟨fun c1=>?_,fun c1=>?_⟩
   ·replace c1:=yq c1
    refine ⟨by omega,rfl,by omega,fun e25 h25=>?_⟩
    refine ⟨aKY e25,rfl,rfl,rfl,rfl,rfl,by first | omega | (simp [ho];omega),⟨by omega,by omega⟩,?_⟩
    exact ⟨k+1,_,rfl,rfl,rfl,⟨by omega,by rw [ho,bP h25,List.map_append];rfl⟩,by omega⟩
   ·replace c1:=nq c1
    refine ⟨?_,?_,?_,trivial⟩
    ·first | (rw [gM hbad]<;>rfl) | (rw [cQ hok]<;>rfl) | (rw [cQ hok,ho,List.take_of_length_le (by omega)])
    ·first | (rw [gM hbad]<;>rfl) | (rw [cQ hok]<;>rfl) | (rw [cQ hok,ho,List.take_of_length_le (by omega)])
    ·first | (rw [gM hbad]<;>rfl) | (rw [cQ hok]<;>rfl) | (rw [cQ hok,ho,List.take_of_length_le (by omega)])
abbrev aBm (d:aV) (v:Int):AV × List (Nat × Rs):=(.tup [.agg [vI (((fW d v).1).version),.own 0],vB ((fW d v).2)],[(0,.arr 161 4 true ((((fW d v).1).tables).map aD))])
abbrev aGj (d:aV) (v:Int):Prop:=cX Tryz.prog 165 [.agg [.sl 167 3 (d.tables.map aP)],.one (.int .i64 v)] (aBm d v).1 (aBm d v).2
theorem aR8 (d:aV) (v:Int):aGj d v:=by
 refine aX bG aR Tryz.func165 (by kernel_rfl) (.call (vB (gI d)) []<| .br (.fin []) (.call (vB (dW v (1:Int) (999:Int))) []<| .lit<| .lit<| .br (.fin []) (.loop (Nat × (List aB)) (Q2 Nat (List aB)) [7,8,20,21,22,23,24,25,26,27,28,29,30,31,32,33,34,35,36,37,38] [600,800,3200,3600,3700,9000] (fun yy0=>[(7,vI (yy0.1:Int))]) (fun yy0=>[(600,some (.box 46 [vI v,.own 9000])),(9000,some (.arr 161 4 true (yy0.2.map aD)))]) (fun yy0=>yy0.1≤d.tables.length∧yy0.2=(d.tables.take yy0.1).map bF) (fun yy0=>d.tables.length - yy0.1) (fun yy0=> .len d.tables.length<| .br (.elem _ aP d.tables (fun e30=>cB (aAn e30)<| .appx aB aD yy0.2 (bF e30)<| .back [(600,600),(9000,3700)])) (.fin [(0,9000)]))))) (p:=(d.tables.map aP).length≤9223372036854775807→aDs d∧(((!(gI d))=true→(0:Int)=(((fW d v).1).version)∧(false)=((fW d v).2)∧[]=(((fW d v).1).tables).map aD∧True)∧((!(gI d))=false→fO v (1:Int) (999:Int)∧(((!(dW v (1:Int) (999:Int)))=true→(0:Int)=(((fW d v).1).version)∧(false)=((fW d v).2)∧[]=(((fW d v).1).tables).map aD∧True)∧((!(dW v (1:Int) (999:Int)))=false→(∃(k:Nat) (out:List aB),(0:Int)=(k:Int)∧v=v∧[]=out.map aD∧k≤d.tables.length∧out=(d.tables.take k).map bF)∧ ∀(k:Nat) (out:List aB),(k≤d.tables.length∧out=(d.tables.take k).map bF)→Lm aP d.tables∧(((decide ((k:Int)<((d.tables.length:Nat):Int)))=true→0≤(k:Int)∧Em aP d.tables k fun e30=>aDq e30∧out.map aD=out.map aD∧((bF e30).name)=((bF e30).name)∧((bF e30).arity)=((bF e30).arity)∧((bF e30).rowCount)=((bF e30).rowCount)∧((bF e30).groups).map aA=((bF e30).groups).map aA∧(out.length+1)*56≤140737488355328∧cC ((k:Int)+(1:Int))∧ ∃(k' :Nat) (out' :List aB),((k:Int)+(1:Int))=(k' :Int)∧v=v∧(out++[(bF e30)]).map aD=out'.map aD∧(k' ≤d.tables.length∧out' =(d.tables.take k').map bF)∧d.tables.length - k' <d.tables.length - k)∧((decide ((k:Int)<((d.tables.length:Nat):Int)))=false→v=(((fW d v).1).version)∧(true)=((fW d v).2)∧out.map aD=(((fW d v).1).tables).map aD∧True))))))) (by kernel_rfl) ?_
 intro n0
 simp only [List.length_map] at n0
 refine ⟨aON d,fun g12=>?_,fun g12=>?_⟩
 ·replace g12:=nt g12
  have hbad:(gI d&&dW v 1 999)=false:=by simp_all
  refine ⟨?_,?_,?_,trivial⟩
  ·first | (rw [gM hbad]<;>rfl) | (rw [cQ hok]<;>rfl) | (rw [cQ hok,ho,List.take_of_length_le (by omega)])
  ·first | (rw [gM hbad]<;>rfl) | (rw [cQ hok]<;>rfl) | (rw [cQ hok,ho,List.take_of_length_le (by omega)])
  ·first | (rw [gM hbad]<;>rfl) | (rw [cQ hok]<;>rfl) | (rw [cQ hok,ho,List.take_of_length_le (by omega)])
 ·replace g12:=nf g12
  refine ⟨jH _ _ _,fun c0=>?_,fun c0=>?_⟩
  ·replace c0:=nt c0
   have hbad:(gI d&&dW v 1 999)=false:=by simp_all
   refine ⟨?_,?_,?_,trivial⟩
   ·first | (rw [gM hbad]<;>rfl) | (rw [cQ hok]<;>rfl) | (rw [cQ hok,ho,List.take_of_length_le (by omega)])
   ·first | (rw [gM hbad]<;>rfl) | (rw [cQ hok]<;>rfl) | (rw [cQ hok,ho,List.take_of_length_le (by omega)])
   ·first | (rw [gM hbad]<;>rfl) | (rw [cQ hok]<;>rfl) | (rw [cQ hok,ho,List.take_of_length_le (by omega)])
  ·replace c0:=nf c0
   have hok:(gI d&&dW v 1 999)=true:=by simp_all
   have h6:=aGh (by simp_all:gI d=true)
   refine ⟨⟨0,([]:List aB),rfl,rfl,rfl,Nat.zero_le _,rfl⟩,fun k out ⟨hk,ho⟩=>?_⟩
   refine ⟨List.length_map _,fun c1=>?_,fun c1=>?_⟩
   ·replace c1:=yq c1
    refine ⟨by omega,rfl,by omega,fun e30 h30=>?_⟩
    refine ⟨aOK e30,rfl,rfl,rfl,rfl,rfl,by first | omega | (simp [ho];omega),⟨by omega,by omega⟩,?_⟩
    exact ⟨k+1,_,rfl,rfl,rfl,⟨by omega,by rw [ho,bP h30,List.map_append];rfl⟩,by omega⟩
   ·replace c1:=nq c1
    refine ⟨?_,?_,?_,trivial⟩
    ·first | (rw [gM hbad]<;>rfl) | (rw [cQ hok]<;>rfl) | (rw [cQ hok,ho,List.take_of_length_le (by omega)])
    ·first | (rw [gM hbad]<;>rfl) | (rw [cQ hok]<;>rfl) | (rw [cQ hok,ho,List.take_of_length_le (by omega)])
    ·first | (rw [gM hbad]<;>rfl) | (rw [cQ hok]<;>rfl) | (rw [cQ hok,ho,List.take_of_length_le (by omega)])
theorem aGk {α:Type} {c:α→Nat} {m:Nat} {l:List α} (h: ∀x∈l,c x≤m):yB c l≤l.length+l.length*m:=by
 have h1:=aBe (ct:=c) (m:=m) (l:=l) h
 have h2:yB c l=l.length+bR c l:=rfl
 omega
theorem aJ2 (t:aS) (cols:List Int):cM (eK t cols).1≤64∧(eK t cols).2.length≤8:=by
 cases h:(aU t&&dN (t.arity - 1) cols) with
 | false=>rw [mW h];exact ⟨by decide,by decide⟩
 | true=>
   have:=aKX (k:=(lG t cols).length) h
   rw [List.take_length,tW] at this
   rw [fG h]
   exact ⟨this.2,by simp only [aLh,List.length_map,aND];exact this.1⟩
theorem aK2 {t:aS} (h:aU t=true):t.name.size=1:=by
 simp only [aU,eJ,Bool.and_eq_true,decide_eq_true_eq] at h
 omega
theorem aEX (t:aS):bA (bF t)≤2000:=by
 cases h:aU t with
 | false=>rw [fH h];decide
 | true=>
   have hT:=cN h
   have hn:=aK2 h
   have hl:=zT (n:=t.arity) ⟨hT.1,hT.2.1⟩
   rw [bX h]
   have h1:=aGk (c:=bN) (m:=75) (l:=(bV t.arity).map (vE t)) fun x hx=>by
    obtain ⟨c,hc,rfl⟩:=List.mem_map.1 hx
    obtain ⟨k,hk,hc⟩:=List.mem_iff_getElem.1 hc
    have h3:=aBi (List.getElem?_eq_some_iff.2 ⟨hk,hc⟩)
    have h4:=aJ2 t c
    have h5:bN (vE t c)=c.length+cM (eK t c).1+(eK t c).2.length:=rfl
    omega
   rw [List.length_map] at h1
   have h2:bA ⟨t.name,t.arity,(t.rows.length:Nat),(bV t.arity).map (vE t)⟩=t.name.size+yB bN ((bV t.arity).map (vE t)):=rfl
   omega
theorem aJ3 (d:aV) (v:Int):bO (fW d v).1≤20000:=by
 cases h:(gI d&&dW v 1 999) with
 | false=>rw [gM h];decide
 | true=>
   have h6:=aGh (by simp_all:gI d=true)
   rw [cQ h]
   have h1:=aGk (c:=bA) (m:=2000) (l:=d.tables.map bF) fun x hx=>by
    obtain ⟨t,_,rfl⟩:=List.mem_map.1 hx
    exact aEX t
   rw [List.length_map] at h1
   have h2:bO ⟨v,d.tables.map bF⟩=yB bA (d.tables.map bF):=rfl
   show bO ⟨v,d.tables.map bF⟩≤20000
   omega
def lH {α:Type} (p:α→Bool) (l:List α):Int:=match l.findIdx? p with | some k=>(k:Int) | none=> -1
theorem aF9 {α:Type} {p:α→Bool} {l:List α} {k:Nat} {x:α} (h:l[k]? =some x) (ha:(l.take k).all (fun y=> !p y)=true) (hx:p x=true):lH p l=(k:Int):=by
 obtain ⟨hk,rfl⟩:=List.getElem?_eq_some_iff.1 h
 have:l.findIdx? p=some k:=by
  rw [List.findIdx?_eq_some_iff_getElem]
  refine ⟨hk,hx,fun j hj=>?_⟩
  have:=List.all_eq_true.1 ha l[j] (List.mem_iff_getElem.2 ⟨j,by rw [List.length_take];omega,by rw [List.getElem_take]⟩)
  simpa using this
 rw [lH,this]
theorem aCs {α:Type} {p:α→Bool} {l:List α} (ha:l.all (fun y=> !p y)=true):lH p l= -1:=by
 have:l.findIdx? p=none:=by
  rw [List.findIdx?_eq_none_iff]
  intro x hx
  have:=List.all_eq_true.1 ha x hx
  simpa using this
 rw [lH,this]
theorem aR9 {α:Type} {p:α→Bool} {l:List α} (h:0≤lH p l): ∃(k:Nat) (x:α),lH p l=(k:Int)∧l[k]? =some x∧p x=true∧k<l.length:=by
 unfold lH at*
 cases e:l.findIdx? p with
 | none=>rw [e] at h;exact absurd h (by decide)
 | some k=>
   rw [List.findIdx?_eq_some_iff_getElem] at e
   obtain ⟨hk,hx,_⟩:=e
   exact ⟨k,l[k],rfl,List.getElem?_eq_getElem hk,hx,hk⟩
theorem aT6 {α:Type} (p:α→Bool) (l:List α): -1≤lH p l∧lH p l<(l.length:Int):=by
 by_cases h:0≤lH p l
 ·obtain ⟨k,x,h1,_,_,h4⟩:=aR9 h
  omega
 ·unfold lH at*
  cases e:l.findIdx? p with
  | none=>simp only;omega
  | some k=>rw [e] at h;simp only at h;omega
abbrev aBn (t:aS):AV × List (Nat × Rs):=(.agg [.p none (.str t.name),vI t.arity,.own 0],[(0,.arr 39 1 true (t.rows.map aC))])
abbrev aGl (t:aS):Prop:=cX Tryz.prog 185 [.agg [.str t.name,.int .i64 t.arity,.sl 39 1 (t.rows.map aC)]] (aBn t).1 (aBn t).2
theorem aRa (t:aS) (hc:fE t≤1048576):aGl t:=by
 refine aX bG aR Tryz.func185 (by kernel_rfl) (cB (aJU t.rows)<| .fin [(0,500)]) (p:=(t.rows.map aC).length≤9223372036854775807→aL8 t.rows∧t.name=t.name∧t.arity=t.arity∧t.rows.map aC=t.rows.map aC∧True) (by kernel_rfl) ?_
 intro n0
 simp only [List.length_map] at n0
 have q1:fE t=t.name.size+cM t.rows:=rfl
 have q2:=fD t.rows
 refine ⟨cpR _ (by omega),?_⟩
 exact ⟨rfl,rfl,rfl,trivial⟩
abbrev aBo (t:aS):AV × List (Nat × Rs):=(.agg [.p none (.str t.name),vI t.arity,.own 0],[(0,.arr 39 1 true (t.rows.map aC))])
abbrev aGm (t:aS):Prop:=cX Tryz.prog 195 [.agg [.str t.name,.int .i64 t.arity,.sl 39 1 (t.rows.map aC)]] (aBo t).1 (aBo t).2
theorem aRb (t:aS) (hc:fE t≤1048576):aGm t:=by
 refine aX bG aR Tryz.func195 (by kernel_rfl) (.loop (Nat × (List (List Int))) (Q2 Nat (List (List Int))) [4,10,11,12,13,14,15,16,17,18,19,20,21,22,23,24,25,26,27,28] [300,1900,2500,2600,2700,9000] (fun yy0=>[(4,vI (yy0.1:Int))]) (fun yy0=>[(300,some (.box 167 [.p none (.str t.name),vI t.arity,.own 9000])),(9000,some (.arr 39 1 true (yy0.2.map aC)))]) (fun yy0=>yy0.1≤t.rows.length∧yy0.2=t.rows.take yy0.1) (fun yy0=>t.rows.length - yy0.1) (fun yy0=> .len t.rows.length<| .br (.elem _ aC t.rows (fun e23=> .app Int intD ([]:List Int) e23<| .appx (List Int) aC yy0.2 (([]:List Int)++e23)<| .back [(300,300),(9000,2700)])) (.fin [(0,9000)]))) (p:=(t.rows.map aC).length≤9223372036854775807→(∃(k:Nat) (out:List (List Int)),(0:Int)=(k:Int)∧t.name=t.name∧t.arity=t.arity∧[]=out.map aC∧k≤t.rows.length∧out=t.rows.take k)∧ ∀(k:Nat) (out:List (List Int)),(k≤t.rows.length∧out=t.rows.take k)→Lm aC t.rows∧(((decide ((k:Int)<((t.rows.length:Nat):Int)))=true→0≤(k:Int)∧Em aC t.rows k fun e23=>[]=([]:List Int).map intD∧e23.map intD=e23.map intD∧(∀x,dT (intD x)=true)∧(([]:List Int).length+e23.length)*8≤140737488355328∧out.map aC=out.map aC∧(([]:List Int)++e23).map intD=(([]:List Int)++e23).map intD∧(out.length+1)*24≤140737488355328∧cC ((k:Int)+(1:Int))∧ ∃(k' :Nat) (out' :List (List Int)),((k:Int)+(1:Int))=(k' :Int)∧t.name=t.name∧t.arity=t.arity∧(out++[([]:List Int)++e23]).map aC=out'.map aC∧(k' ≤t.rows.length∧out' =t.rows.take k')∧t.rows.length - k' <t.rows.length - k)∧((decide ((k:Int)<((t.rows.length:Nat):Int)))=false→t.name=t.name∧t.arity=t.arity∧out.map aC=t.rows.map aC∧True))) (by kernel_rfl) ?_
 intro n0
 simp only [List.length_map] at n0
 have q1:fE t=t.name.size+cM t.rows:=rfl
 have q2:=fD t.rows
 refine ⟨⟨0,([]:List (List Int)),rfl,rfl,rfl,rfl,Nat.zero_le _,rfl⟩,fun k out ⟨hk,ho⟩=>?_⟩
 refine ⟨List.length_map _,fun c0=>?_,fun c0=>?_⟩
 ·replace c0:=yq c0
  refine ⟨by omega,rfl,by omega,fun e23 h23=>?_⟩
  have hp3:=aAl h23
  refine ⟨rfl,rfl,fun _=>rfl,by first | omega | (simp;omega) | (simp [ho];omega),?_⟩
  refine ⟨rfl,rfl,by first | omega | (simp;omega) | (simp [ho];omega),⟨by omega,by omega⟩,?_⟩
  exact ⟨k+1,_,rfl,rfl,rfl,rfl,⟨by omega,by rw [ho,bP h23];rfl⟩,by omega⟩
 ·replace c0:=nq c0
  refine ⟨rfl,rfl,?_,trivial⟩
  ·first | rfl | (rw [ho,List.take_of_length_le (by omega)])
abbrev isN (n:ByteArray):aS→Bool:=fun t=>t.name.toList==n.toList
abbrev isI (v:Int):Int→Bool:=fun y=>decide (v=y)
theorem pG {α:Type} {p:α→Bool} {l:List α}:(lH p l<0→l.find? p=none)∧(0≤lH p l→ ∃(k:Nat) (x:α),lH p l=(k:Int)∧l[k]? =some x∧l.find? p=some x):=by
 unfold lH
 cases e:l.findIdx? p with
 | none=>
   rw [List.findIdx?_eq_none_iff] at e
   refine ⟨fun _=>List.find?_eq_none.2 fun x hx=>by rw [e x hx];decide,fun h=>absurd h (by decide)⟩
 | some k=>
   rw [List.findIdx?_eq_some_iff_getElem] at e
   obtain ⟨hk,hx,hj⟩:=e
   refine ⟨fun h=>absurd h (by simp only;omega),fun _=>⟨k,l[k],rfl,List.getElem?_eq_getElem hk,?_⟩⟩
   rw [List.find?_eq_some_iff_getElem]
   exact ⟨hx,k,hk,rfl,fun j hjk=>by have:=hj j hjk;simpa using this⟩
theorem aLv {l:List Int} {v:Int}:decide (0≤lH (isI v) l)=decide (v∈l):=by
 apply Bool.eq_iff_iff.2
 rw [decide_eq_true_eq,decide_eq_true_eq]
 constructor
 ·intro h
  obtain ⟨k,x,_,hx,hf⟩:=pG.2 h
  have h1:=List.find?_some hf
  have:v=x:=by simpa [isI] using h1
  rw [this];exact List.mem_of_getElem? hx
 ·intro h
  rcases Int.lt_or_le (lH (isI v) l) 0 with q | q
  ·have:=pG.1 q
   rw [List.find?_eq_none] at this
   exact absurd (this v h) (by simp [isI])
  ·exact q
def aI (d:aV) (n:ByteArray):aS × Bool:=if gI d=true then (match d.tables.find? (isN n) with | some t=>(t,true) | none=>(gV,false)) else (gV,false)
theorem aCt {d:aV} {n:ByteArray} (h:gI d=false∨d.tables.find? (isN n)=none):aI d n=(gV,false):=by
 unfold aI
 rcases h with h | h
 ·rw [if_neg (by rw [h];decide)]
 ·rw [h];split<;>rfl
theorem aJ4 {d:aV} {n:ByteArray} {t:aS} (h:gI d=true) (hf:d.tables.find? (isN n)=some t):aI d n=(t,true):=by rw [aI,if_pos h,hf]
theorem aRc {d:aV} (h:gI d=true):d.tables.all aU=true:=by
 simp only [gI,Bool.and_eq_true] at h
 exact h.1
theorem oF {d:aV} {n:ByteArray} (h:(aI d n).2=true):aU (aI d n).1=true∧gI d=true:=by
 unfold aI at*
 split at h
 ·rename_i hd
  rw [if_pos hd]
  cases e:d.tables.find? (isN n) with
  | none=>rw [e] at h;cases h
  | some t=>exact ⟨List.all_eq_true.1 (aRc hd) t (List.mem_of_find?_eq_some e),hd⟩
 ·cases h
abbrev aRd (t:aS) (n:ByteArray):Prop:=cX Tryz.prog 184 [.agg [.str t.name,.int .i64 t.arity,.sl 39 1 (t.rows.map aC)],.ref [.str n]] (vB (isN n t)) []
theorem aVk (t:aS) (n:ByteArray):aRd t n:=by
 refine aX bG aR Tryz.func184 (by kernel_rfl) (.fin []) (p:=(t.rows.map aC).length≤9223372036854775807→(t.name.toList==n.toList)=(isN n t)∧True) (by kernel_rfl) ?_
 intro n0
 simp only [List.length_map] at n0
 refine ⟨?_,trivial⟩
 ·rfl
abbrev aRe (l:List aS) (n:ByteArray):Prop:=cX Tryz.prog 183 [.one (.sl 167 3 (l.map aP)),.fn 184 [[.str n]]] (vI (lH (isN n) l)) []
theorem aVl (l:List aS) (n:ByteArray):aRe l n:=by
 refine aX bG aR Tryz.func183 (by kernel_rfl) (.len l.length<| .loop Nat (Q1 Nat) [5,8,9,10,11,12,13,14,15,16,18] [] (fun k=>[(8,vI (k:Int))]) (fun k=>[]) (fun k=>k≤l.length∧(l.take k).all (fun y=> !isN n y)=true) (fun k=>l.length - k) (fun k=> .br (.elem _ aP l (fun e14=> .call (vB (isN n e14)) []<| .br (.fin []) (.back []))) (.fin []))) (p:=(l.map aP).length≤9223372036854775807→Lm aP l∧((∃(k:Nat),(0:Int)=(k:Int)∧k≤l.length∧(l.take k).all (fun y=> !isN n y)=true)∧ ∀(k:Nat),(k≤l.length∧(l.take k).all (fun y=> !isN n y)=true)→((decide ((k:Int)<((l.length:Nat):Int)))=true→0≤(k:Int)∧Em aP l k fun e14=>aRd e14 n∧(((isN n e14)=true→(k:Int)=(lH (isN n) l)∧True)∧((isN n e14)=false→cC ((k:Int)+(1:Int))∧ ∃(k' :Nat),((k:Int)+(1:Int))=(k' :Int)∧(k' ≤l.length∧(l.take k').all (fun y=> !isN n y)=true)∧l.length - k' <l.length - k)))∧((decide ((k:Int)<((l.length:Nat):Int)))=false→(-1:Int)=(lH (isN n) l)∧True))) (by kernel_rfl) ?_
 intro n0
 simp only [List.length_map] at n0
 refine ⟨List.length_map _,⟨0,rfl,Nat.zero_le _,rfl⟩,fun k ⟨hk,ha⟩=>?_⟩
 refine ⟨fun c0=>?_,fun c0=>?_⟩
 ·replace c0:=yq c0
  refine ⟨by omega,rfl,by omega,fun e14 h14=>?_⟩
  refine ⟨aVk _ _,fun c1=>?_,fun c1=>?_⟩
  ·have hE:=aF9 (p:=isN n) h14 ha c1
   refine ⟨?_,trivial⟩
   ·rw [hE]
  ·refine ⟨⟨by omega,by omega⟩,?_⟩
   exact ⟨k+1,rfl,⟨by omega,cS h14 ha (by simp [c1])⟩,by omega⟩
 ·replace c0:=nq c0
  have hE:=aCs (p:=isN n) (bE (by omega) ha)
  refine ⟨?_,trivial⟩
  ·rw [hE]
abbrev aGo (d:aV) (n:ByteArray):AV × List (Nat × Rs):=(.tup [.agg [.p none (.str (((aI d n).1).name)),vI (((aI d n).1).arity),.own 0],vB ((aI d n).2)],[(0,.arr 39 1 true ((((aI d n).1).rows).map aC))])
abbrev aNG (d:aV) (n:ByteArray):Prop:=cX Tryz.prog 150 [.agg [.sl 167 3 (d.tables.map aP)],.one (.str n)] (aGo d n).1 (aGo d n).2
theorem sR (d:aV) (n:ByteArray) (hc:bH d≤1048576):aNG d n:=by
 refine aX bG aR Tryz.func150 (by kernel_rfl) (.call (vI (lH (isN n) d.tables)) []<| .br (.fin []) (.call (vB (gI d)) []<| .lit<| .lit<| .br (.fin []) (.elem _ aP d.tables (fun e22=>cB (aBn e22)<| .fin [(0,2400)])))) (p:=(d.tables.map aP).length≤9223372036854775807→aRe d.tables n∧(((decide ((lH (isN n) d.tables)<(0:Int)))=true→ByteArray.empty=(((aI d n).1).name)∧(0:Int)=(((aI d n).1).arity)∧(false)=((aI d n).2)∧[]=(((aI d n).1).rows).map aC∧True)∧((decide ((lH (isN n) d.tables)<(0:Int)))=false→aDr d∧(((!(gI d))=true→ByteArray.empty=(((aI d n).1).name)∧(0:Int)=(((aI d n).1).arity)∧(false)=((aI d n).2)∧[]=(((aI d n).1).rows).map aC∧True)∧((!(gI d))=false→0≤(lH (isN n) d.tables)∧Em aP d.tables ((lH (isN n) d.tables).toNat) fun e22=>aGl e22∧e22.name=(((aI d n).1).name)∧e22.arity=(((aI d n).1).arity)∧(true)=((aI d n).2)∧e22.rows.map aC=(((aI d n).1).rows).map aC∧True))))) (by kernel_rfl) ?_
 intro n0
 simp only [List.length_map] at n0
 have q1:bH d=iQ d.tables:=rfl
 have hg:=aT6 (isN n) d.tables
 refine ⟨aVl _ _,fun g13=>?_,fun g13=>?_⟩
 ·replace g13:=yq g13
  have hbad:aI d n=(gV,false):=aCt (by first | (left;simpa using g15;done) | (left;simpa using c0;done) | (right;exact pG.1 (by omega)))
  refine ⟨?_,?_,?_,?_,trivial⟩
  ·first | (rw [hbad]<;>rfl) | (rw [hok]<;>rfl)
  ·first | (rw [hbad]<;>rfl) | (rw [hok]<;>rfl)
  ·first | (rw [hbad]<;>rfl) | (rw [hok]<;>rfl)
  ·first | (rw [hbad]<;>rfl) | (rw [hok]<;>rfl)
 ·replace g13:=nq g13
  refine ⟨aOM d,fun c0=>?_,fun c0=>?_⟩
  ·replace c0:=nt c0
   have hbad:aI d n=(gV,false):=aCt (by first | (left;simpa using g15;done) | (left;simpa using c0;done) | (right;exact pG.1 (by omega)))
   refine ⟨?_,?_,?_,?_,trivial⟩
   ·first | (rw [hbad]<;>rfl) | (rw [hok]<;>rfl)
   ·first | (rw [hbad]<;>rfl) | (rw [hok]<;>rfl)
   ·first | (rw [hbad]<;>rfl) | (rw [hok]<;>rfl)
   ·first | (rw [hbad]<;>rfl) | (rw [hok]<;>rfl)
  ·replace c0:=nf c0
   have hd:gI d=true:=by simpa using c0
   obtain ⟨k,y,hk,hy,hf⟩:=pG.2 (show 0≤lH (isN n) d.tables by omega)
   have hok:=aJ4 hd hf
   refine ⟨by omega,rfl,by omega,fun e22 h22=>?_⟩
   have hyx:y=e22:=by rw [hk] at h22;exact (aY (by simpa using h22) hy)
   have q2:=aB8 h22
   rw [hyx] at hok
   refine ⟨aRa _ (by omega),?_,?_,?_,?_,trivial⟩
   ·first | (rw [hbad]<;>rfl) | (rw [hok]<;>rfl)
   ·first | (rw [hbad]<;>rfl) | (rw [hok]<;>rfl)
   ·first | (rw [hbad]<;>rfl) | (rw [hok]<;>rfl)
   ·first | (rw [hbad]<;>rfl) | (rw [hok]<;>rfl)
abbrev aGp (d:aV) (n:ByteArray):AV × List (Nat × Rs):=(.tup [.agg [.p none (.str (((aI d n).1).name)),vI (((aI d n).1).arity),.own 0],vB ((aI d n).2)],[(0,.arr 39 1 true ((((aI d n).1).rows).map aC))])
abbrev aNH (d:aV) (n:ByteArray):Prop:=cX Tryz.prog 168 [.agg [.sl 167 3 (d.tables.map aP)],.one (.str n)] (aGp d n).1 (aGp d n).2
theorem sS (d:aV) (n:ByteArray) (hc:bH d≤1048576):aNH d n:=by
 refine aX bG aR Tryz.func168 (by kernel_rfl) (.loop Nat (Q1 Nat) [6,7,8,9,10,11,12,13,14,15,16,17,18,19,20,21,22,23,24,25] [] (fun k=>[(6,vI (k:Int))]) (fun k=>[]) (fun k=>k≤d.tables.length∧(d.tables.take k).all (fun y=> !isN n y)=true) (fun k=>d.tables.length - k) (fun k=> .len d.tables.length<| .br (.call (vB (gI d)) []<| .lit<| .br (.elem _ aP d.tables (fun e21=> .br (.elem _ aP d.tables (fun e29=>cB (aBo e29)<| .fin [(0,3100)])) (.back []))) (.fin [])) (.fin []))) (p:=(d.tables.map aP).length≤9223372036854775807→(∃(k:Nat),(0:Int)=(k:Int)∧k≤d.tables.length∧(d.tables.take k).all (fun y=> !isN n y)=true)∧ ∀(k:Nat),(k≤d.tables.length∧(d.tables.take k).all (fun y=> !isN n y)=true)→Lm aP d.tables∧(((decide ((k:Int)<((d.tables.length:Nat):Int)))=true→aDs d∧(((gI d)=true→0≤(k:Int)∧Em aP d.tables k fun e21=>((e21.name.toList==n.toList)=true→0≤(k:Int)∧Em aP d.tables k fun e29=>aGm e29∧e29.name=(((aI d n).1).name)∧e29.arity=(((aI d n).1).arity)∧(true)=((aI d n).2)∧e29.rows.map aC=(((aI d n).1).rows).map aC∧True)∧((e21.name.toList==n.toList)=false→cC ((k:Int)+(1:Int))∧ ∃(k' :Nat),((k:Int)+(1:Int))=(k' :Int)∧(k' ≤d.tables.length∧(d.tables.take k').all (fun y=> !isN n y)=true)∧d.tables.length - k' <d.tables.length - k))∧((gI d)=false→ByteArray.empty=(((aI d n).1).name)∧(0:Int)=(((aI d n).1).arity)∧(false)=((aI d n).2)∧[]=(((aI d n).1).rows).map aC∧True)))∧((decide ((k:Int)<((d.tables.length:Nat):Int)))=false→ByteArray.empty=(((aI d n).1).name)∧(0:Int)=(((aI d n).1).arity)∧(false)=((aI d n).2)∧[]=(((aI d n).1).rows).map aC∧True))) (by kernel_rfl) ?_
 intro n0
 simp only [List.length_map] at n0
 have q1:bH d=iQ d.tables:=rfl
 refine ⟨⟨0,rfl,Nat.zero_le _,rfl⟩,fun k ⟨hk,ha⟩=>?_⟩
 refine ⟨List.length_map _,fun g12=>?_,fun g12=>?_⟩
 ·replace g12:=yq g12
  refine ⟨aON d,fun c0=>?_,fun c0=>?_⟩
  ·refine ⟨by omega,rfl,by omega,fun e21 h21=>?_⟩
   try (obtain rfl:=(aY h21 h21).symm)
   have q2:=aB8 h21
   refine ⟨fun c1=>?_,fun c1=>?_⟩
   ·have hok:=aJ4 (n:=n) c0 (aK1 (p:=isN n) h21 ha c1)
    refine ⟨by omega,rfl,by omega,fun e29 h29=>?_⟩
    try (obtain rfl:=(aY h21 h29).symm)
    refine ⟨aRb _ (by omega),?_,?_,?_,?_,trivial⟩
    ·first | (rw [hbad]<;>rfl) | (rw [hok]<;>rfl)
    ·first | (rw [hbad]<;>rfl) | (rw [hok]<;>rfl)
    ·first | (rw [hbad]<;>rfl) | (rw [hok]<;>rfl)
    ·first | (rw [hbad]<;>rfl) | (rw [hok]<;>rfl)
   ·refine ⟨⟨by omega,by omega⟩,?_⟩
    exact ⟨k+1,rfl,⟨by omega,cS h21 ha (by simp [isN,c1])⟩,by omega⟩
  ·have hbad:aI d n=(gV,false):=aCt (by first | (left;exact c0) | (right;exact aF8 (bE (by omega) ha)))
   refine ⟨?_,?_,?_,?_,trivial⟩
   ·first | (rw [hbad]<;>rfl) | (rw [hok]<;>rfl)
   ·first | (rw [hbad]<;>rfl) | (rw [hok]<;>rfl)
   ·first | (rw [hbad]<;>rfl) | (rw [hok]<;>rfl)
   ·first | (rw [hbad]<;>rfl) | (rw [hok]<;>rfl)
 ·replace g12:=nq g12
  have hbad:aI d n=(gV,false):=aCt (by first | (left;exact c0) | (right;exact aF8 (bE (by omega) ha)))
  refine ⟨?_,?_,?_,?_,trivial⟩
  ·first | (rw [hbad]<;>rfl) | (rw [hok]<;>rfl)
  ·first | (rw [hbad]<;>rfl) | (rw [hok]<;>rfl)
  ·first | (rw [hbad]<;>rfl) | (rw [hok]<;>rfl)
  ·first | (rw [hbad]<;>rfl) | (rw [hok]<;>rfl)
abbrev aTq (l:List Int) (v:Int):Prop:=cX Tryz.prog 190 [.one (.sl 3 1 (l.map intD)),.one (.int .i64 v)] (vI (lH (isI v) l)) []
theorem ixI (l:List Int) (v:Int):aTq l v:=by
 refine aX bG aR Tryz.func190 (by kernel_rfl) (.len l.length<| .loop Nat (Q1 Nat) [5,8,9,10,11,12,13,14,15,16,18] [] (fun k=>[(8,vI (k:Int))]) (fun k=>[]) (fun k=>k≤l.length∧(l.take k).all (fun y=> !isI v y)=true) (fun k=>l.length - k) (fun k=> .br (.elem _ intD l (fun e14=> .br (.fin []) (.back []))) (.fin []))) (p:=(l.map intD).length≤9223372036854775807→Lm intD l∧((∃(k:Nat),(0:Int)=(k:Int)∧k≤l.length∧(l.take k).all (fun y=> !isI v y)=true)∧ ∀(k:Nat),(k≤l.length∧(l.take k).all (fun y=> !isI v y)=true)→((decide ((k:Int)<((l.length:Nat):Int)))=true→0≤(k:Int)∧Em intD l k fun e14=>((decide (v=e14))=true→(k:Int)=(lH (isI v) l)∧True)∧((decide (v=e14))=false→cC ((k:Int)+(1:Int))∧ ∃(k' :Nat),((k:Int)+(1:Int))=(k' :Int)∧(k' ≤l.length∧(l.take k').all (fun y=> !isI v y)=true)∧l.length - k' <l.length - k))∧((decide ((k:Int)<((l.length:Nat):Int)))=false→(-1:Int)=(lH (isI v) l)∧True))) (by kernel_rfl) ?_
 intro n0
 simp only [List.length_map] at n0
 refine ⟨List.length_map _,⟨0,rfl,Nat.zero_le _,rfl⟩,fun k ⟨hk,ha⟩=>?_⟩
 refine ⟨fun c0=>?_,fun c0=>?_⟩
 ·replace c0:=yq c0
  refine ⟨by omega,rfl,by omega,fun e14 h14=>?_⟩
  refine ⟨fun c1=>?_,fun c1=>?_⟩
  ·replace c1:=yq c1
   have hE:=aF9 (p:=isI v) h14 ha (by simpa [isI] using c1)
   refine ⟨?_,trivial⟩
   ·rw [hE]
  ·replace c1:=nq c1
   refine ⟨⟨by omega,by omega⟩,?_⟩
   exact ⟨k+1,rfl,⟨by omega,cS h14 ha (by simpa [isI] using c1)⟩,by omega⟩
 ·replace c0:=nq c0
  have hE:=aCs (p:=isI v) (bE (by omega) ha)
  refine ⟨?_,trivial⟩
  ·rw [hE]
abbrev aLw (l:List Int) (v:Int):Prop:=cX Tryz.prog 158 [.one (.sl 3 1 (l.map intD)),.one (.int .i64 v)] (vB (decide (v∈l))) []
theorem ctI (l:List Int) (v:Int):aLw l v:=by
 refine aX bG aR Tryz.func158 (by kernel_rfl) (.call (vI (lH (isI v) l)) []<| .fin []) (p:=(l.map intD).length≤9223372036854775807→aTq l v∧(decide ((0:Int)≤(lH (isI v) l)))=(decide (v∈l))∧True) (by kernel_rfl) ?_
 intro n0
 simp only [List.length_map] at n0
 refine ⟨ixI _ _,?_,trivial⟩
 ·exact aLv
abbrev aRf (l:List Int) (v:Int):Prop:=cX Tryz.prog 143 [.one (.sl 3 1 (l.map intD)),.one (.int .i64 v)] (vB (decide (v∈l))) []
theorem hsI (l:List Int) (v:Int):aRf l v:=by
 refine aX bG aR Tryz.func143 (by kernel_rfl) (.loop Nat (Q1 Nat) [5,6,7,8,9,10,11,12,13,14,15,16,17] [] (fun k=>[(5,vI (k:Int))]) (fun k=>[]) (fun k=>k≤l.length∧(l.take k).all (fun y=> !isI v y)=true) (fun k=>l.length - k) (fun k=> .len l.length<| .br (.elem _ intD l (fun e14=> .br (.fin []) (.back []))) (.fin []))) (p:=(l.map intD).length≤9223372036854775807→(∃(k:Nat),(0:Int)=(k:Int)∧k≤l.length∧(l.take k).all (fun y=> !isI v y)=true)∧ ∀(k:Nat),(k≤l.length∧(l.take k).all (fun y=> !isI v y)=true)→Lm intD l∧(((decide ((k:Int)<((l.length:Nat):Int)))=true→0≤(k:Int)∧Em intD l k fun e14=>((decide (e14=v))=true→(true)=(decide (v∈l))∧True)∧((decide (e14=v))=false→cC ((k:Int)+(1:Int))∧ ∃(k' :Nat),((k:Int)+(1:Int))=(k' :Int)∧(k' ≤l.length∧(l.take k').all (fun y=> !isI v y)=true)∧l.length - k' <l.length - k))∧((decide ((k:Int)<((l.length:Nat):Int)))=false→(false)=(decide (v∈l))∧True))) (by kernel_rfl) ?_
 intro n0
 simp only [List.length_map] at n0
 refine ⟨⟨0,rfl,Nat.zero_le _,rfl⟩,fun k ⟨hk,ha⟩=>?_⟩
 refine ⟨List.length_map _,fun c0=>?_,fun c0=>?_⟩
 ·replace c0:=yq c0
  refine ⟨by omega,rfl,by omega,fun e14 h14=>?_⟩
  refine ⟨fun c1=>?_,fun c1=>?_⟩
  ·replace c1:=yq c1
   have hE:decide (v∈l)=true:=by rw [←c1];exact decide_eq_true (List.mem_of_getElem? h14)
   refine ⟨?_,trivial⟩
   ·rw [hE]
  ·replace c1:=nq c1
   refine ⟨⟨by omega,by omega⟩,?_⟩
   exact ⟨k+1,rfl,⟨by omega,cS h14 ha (by simpa [isI] using fun q=>c1 (Eq.symm q))⟩,by omega⟩
 ·replace c0:=nq c0
  have hE:decide (v∈l)=false:=by rw [←aLv,aCs (p:=isI v) (bE (by omega) ha)];rfl
  refine ⟨?_,trivial⟩
  ·rw [hE]
def eQ (d:aV) (f:aN):Bool:=(aI d f.name).2&&(dN ((aI d f.name).1.arity - 1) f.src&&(dW f.dst 0 ((aI d f.name).1.arity - 1)&& !decide (f.dst∈f.src)))
def aNI (rows:List (List Int)) (cols:List Int) (c:Int) (i k:Nat):Bool:=decide ((fF (rows.getD i []) cols).1=(fF (rows.getD k []) cols).1)&& !decide ((rows.getD i []).getD c.toNat 0=(rows.getD k []).getD c.toNat 0)
def lI (rows:List (List Int)) (cols:List Int) (c:Int) (k:Nat):Nat→List Int
 | 0=>[]
 | i+1=>if lI rows cols c k i= []∧aNI rows cols c i k=true then [(i:Int),(k:Int)] else lI rows cols c k i
def lT (rows:List (List Int)) (cols:List Int) (c:Int):Nat→List Int
 | 0=>[]
 | k+1=>if lT rows cols c k= [] then lI rows cols c k k else lT rows cols c k
def kG (d:aV) (f:aN):List Int:=if eQ d f=true then lT (aI d f.name).1.rows f.src f.dst (aI d f.name).1.rows.length else []
theorem aCu {rows:List (List Int)} {cols:List Int} {c:Int} {k i:Nat} (h:lI rows cols c k i= []) (hb:aNI rows cols c i k=false):lI rows cols c k (i+1)= []:=by rw [lI,if_neg (by simp [hb]),h]
theorem aGq {rows:List (List Int)} {cols:List Int} {c:Int} {k i:Nat} (h: ¬lI rows cols c k i= []): ∀j,lI rows cols c k (i+j)=lI rows cols c k i
 | 0=>rfl
 | j+1=>by rw [Nat.add_succ,lI,aGq h j,if_neg (by simp [h])]
theorem aGr {rows:List (List Int)} {cols:List Int} {c:Int} {k:Nat} (h: ¬lT rows cols c k= []): ∀j,lT rows cols c (k+j)=lT rows cols c k
 | 0=>rfl
 | j+1=>by rw [Nat.add_succ,lT,aGr h j,if_neg h]
theorem aGs {rows:List (List Int)} {cols:List Int} {c:Int} {k i n:Nat} (hk:lT rows cols c k= []) (hi:lI rows cols c k i= []) (hb:aNI rows cols c i k=true) (hik:i<k) (hkn:k<n):lT rows cols c n= [(i:Int),(k:Int)]:=by
 have h1:lI rows cols c k (i+1)= [(i:Int),(k:Int)]:=by rw [lI,if_pos ⟨hi,hb⟩]
 have h2:lI rows cols c k k= [(i:Int),(k:Int)]:=by
  have:=aGq (rows:=rows) (cols:=cols) (c:=c) (k:=k) (i:=i+1) (by rw [h1];simp) (k - (i+1))
  rw [show i+1+(k - (i+1))=k by omega,h1] at this
  exact this
 have h3:lT rows cols c (k+1)= [(i:Int),(k:Int)]:=by rw [lT,if_pos hk,h2]
 have:=aGr (rows:=rows) (cols:=cols) (c:=c) (k:=k+1) (by rw [h3];simp) (n - (k+1))
 rw [show k+1+(n - (k+1))=n by omega,h3] at this
 exact this
theorem aGt {rows:List (List Int)} {cols:List Int} {c:Int} {k:Nat} (hk:lT rows cols c k= []) (hi:lI rows cols c k k= []):lT rows cols c (k+1)= []:=by rw [lT,if_pos hk,hi]
theorem aEY {d:aV} {f:aN} (h:eQ d f=true):aU (aI d f.name).1=true∧0≤f.dst∧f.dst≤(aI d f.name).1.arity - 1∧f.src.length≤3:=by
 simp only [eQ,Bool.and_eq_true] at h
 obtain ⟨h1,h2,h3,_⟩:=h
 have hT:=(oF h1).1
 have ha:=cN hT
 have:=eY h3
 exact ⟨hT,this.1,this.2,aCl h2 (by omega)⟩
theorem aOO {rows:List (List Int)} {cols:List Int} {c:Int} {i k:Nat} {x y:List Int} (hx:rows[i]? =some x) (hy:rows[k]? =some y):aNI rows cols c i k=(decide ((fF x cols).1=(fF y cols).1)&& !decide (x.getD c.toNat 0=y.getD c.toNat 0)):=by
 rw [aNI,bD hx,bD hy]
def jD (d:aV) (f:aN):Bool:=eQ d f&&decide (kG d f= [])
theorem qN {α:Type} [DecidableEq α] (l:List α):decide (((l.length:Nat):Int)=0)=decide (l= []):=by
 cases l with
 | nil=>rfl
 | cons a l=>simp;omega
abbrev wK (d:aV) (f:aN):Prop:=cX Tryz.prog 207 [.agg [.sl 167 3 (d.tables.map aP)],.agg [.str f.name,.sl 3 1 (f.src.map intD),.int .i64 f.dst]] (vB (eQ d f)) []
theorem aGu (d:aV) (f:aN) (hc:bH d≤1048576):wK d f:=by
 refine aX bG aR Tryz.func207 (by kernel_rfl) (.call (.tup [.agg [.p none (.str (((aI d f.name).1).name)),vI (((aI d f.name).1).arity),.p none (.sl 39 1 ((((aI d f.name).1).rows).map aC))],vB ((aI d f.name).2)]) []<| .br (.call (vB (dN ((((aI d f.name).1).arity) - 1) f.src)) []<| .lit<| .br (.raw<| .call (vB (dW f.dst (0:Int) (IntKind.i64.wrap ((((aI d f.name).1).arity) - (1:Int))))) []<| .lit<| .br (.call (vB (decide (f.dst∈f.src))) []<| .fin []) (.fin [])) (.fin [])) (.fin [])) (p:=(d.tables.map aP).length≤9223372036854775807→(f.src.map intD).length≤9223372036854775807→cX Tryz.prog 150 [.agg [.sl 167 3 (d.tables.map aP)],.one (.str f.name)] (.tup [.agg [.p none (.str (((aI d f.name).1).name)),vI (((aI d f.name).1).arity),.p none (.sl 39 1 ((((aI d f.name).1).rows).map aC))],vB ((aI d f.name).2)]) []∧((((aI d f.name).2)=true→zL f.src (((aI d f.name).1).arity)∧(((dN ((((aI d f.name).1).arity) - 1) f.src)=true→fN f.dst (0:Int) (IntKind.i64.wrap ((((aI d f.name).1).arity) - (1:Int)))∧(((dW f.dst (0:Int) (IntKind.i64.wrap ((((aI d f.name).1).arity) - (1:Int))))=true→aLw f.src f.dst∧(!(decide (f.dst∈f.src)))=(eQ d f)∧True)∧((dW f.dst (0:Int) (IntKind.i64.wrap ((((aI d f.name).1).arity) - (1:Int))))=false→(false)=(eQ d f)∧True)))∧((dN ((((aI d f.name).1).arity) - 1) f.src)=false→(false)=(eQ d f)∧True)))∧(((aI d f.name).2)=false→(false)=(eQ d f)∧True))) (by kernel_rfl) ?_
 intro n0 n1
 simp only [List.length_map] at n0 n1
 refine ⟨kJ (sR _ f.name (by omega)) rfl,fun g15=>?_,fun g15=>?_⟩
 ·have hT:=(oF g15).1
  have hA:=cN hT
  have hw:IntKind.i64.wrap ((aI d f.name).1.arity - 1)=(aI d f.name).1.arity - 1:=IntWalk.i64_in _ ⟨by omega,by omega⟩
  try rw [hw]
  refine ⟨aJR _ _ (by omega),fun g22=>?_,fun g22=>?_⟩
  ·refine ⟨jG _ _ _,fun g30=>?_,fun g30=>?_⟩
   ·refine ⟨ctI _ _,?_,trivial⟩
    ·first | (simp [eQ, *];done) | (simp [eQ, *] at*;simp [*];done) | (simp_all [eQ];done)
   ·refine ⟨?_,trivial⟩
    ·first | (simp [eQ, *];done) | (simp [eQ, *] at*;simp [*];done) | (simp_all [eQ];done)
  ·refine ⟨?_,trivial⟩
   ·first | (simp [eQ, *];done) | (simp [eQ, *] at*;simp [*];done) | (simp_all [eQ];done)
 ·refine ⟨?_,trivial⟩
  ·first | (simp [eQ, *];done) | (simp [eQ, *] at*;simp [*];done) | (simp_all [eQ];done)
abbrev wL (d:aV) (f:aN):Prop:=cX Tryz.prog 213 [.agg [.sl 167 3 (d.tables.map aP)],.agg [.str f.name,.sl 3 1 (f.src.map intD),.int .i64 f.dst]] (vB (eQ d f)) []
theorem aGv (d:aV) (f:aN) (hc:bH d≤1048576):wL d f:=by
 refine aX bG aR Tryz.func213 (by kernel_rfl) (.call (.tup [.agg [.p none (.str (((aI d f.name).1).name)),vI (((aI d f.name).1).arity),.p none (.sl 39 1 ((((aI d f.name).1).rows).map aC))],vB ((aI d f.name).2)]) []<| .br (.call (vB (aU ((aI d f.name).1)&&dN (((aI d f.name).1).arity - 1) f.src)) []<| .lit<| .br (.raw<| .call (vB (dW f.dst (0:Int) (IntKind.i64.wrap ((((aI d f.name).1).arity) - (1:Int))))) []<| .lit<| .br (.call (vB (decide (f.dst∈f.src))) []<| .fin []) (.fin [])) (.fin [])) (.fin [])) (p:=(d.tables.map aP).length≤9223372036854775807→(f.src.map intD).length≤9223372036854775807→cX Tryz.prog 168 [.agg [.sl 167 3 (d.tables.map aP)],.one (.str f.name)] (.tup [.agg [.p none (.str (((aI d f.name).1).name)),vI (((aI d f.name).1).arity),.p none (.sl 39 1 ((((aI d f.name).1).rows).map aC))],vB ((aI d f.name).2)]) []∧((((aI d f.name).2)=true→zM ((aI d f.name).1) f.src∧(((aU ((aI d f.name).1)&&dN (((aI d f.name).1).arity - 1) f.src)=true→fO f.dst (0:Int) (IntKind.i64.wrap ((((aI d f.name).1).arity) - (1:Int)))∧(((dW f.dst (0:Int) (IntKind.i64.wrap ((((aI d f.name).1).arity) - (1:Int))))=true→aRf f.src f.dst∧(!(decide (f.dst∈f.src)))=(eQ d f)∧True)∧((dW f.dst (0:Int) (IntKind.i64.wrap ((((aI d f.name).1).arity) - (1:Int))))=false→(false)=(eQ d f)∧True)))∧((aU ((aI d f.name).1)&&dN (((aI d f.name).1).arity - 1) f.src)=false→(false)=(eQ d f)∧True)))∧(((aI d f.name).2)=false→(false)=(eQ d f)∧True))) (by kernel_rfl) ?_
 intro n0 n1
 simp only [List.length_map] at n0 n1
 refine ⟨kJ (sS _ f.name (by omega)) rfl,fun g15=>?_,fun g15=>?_⟩
 ·have hT:=(oF g15).1
  have hA:=cN hT
  have hw:IntKind.i64.wrap ((aI d f.name).1.arity - 1)=(aI d f.name).1.arity - 1:=IntWalk.i64_in _ ⟨by omega,by omega⟩
  try rw [hw]
  refine ⟨aJS ((aI d f.name).1) _,fun g21=>?_,fun g21=>?_⟩
  ·refine ⟨jH _ _ _,fun g29=>?_,fun g29=>?_⟩
   ·refine ⟨hsI _ _,?_,trivial⟩
    ·first | (simp [eQ, *];done) | (simp [eQ, *] at*;simp [*];done) | (simp_all [eQ];done)
   ·refine ⟨?_,trivial⟩
    ·first | (simp [eQ, *];done) | (simp [eQ, *] at*;simp [*];done) | (simp_all [eQ];done)
  ·refine ⟨?_,trivial⟩
   ·first | (simp [eQ, *];done) | (simp [eQ, *] at*;simp [*];done) | (simp_all [eQ];done)
 ·refine ⟨?_,trivial⟩
  ·first | (simp [eQ, *];done) | (simp [eQ, *] at*;simp [*];done) | (simp_all [eQ];done)
end Go.Proofs.YtdfebigfnjfgpaaGreat
namespace Go.Proofs
open Go.Shelf
namespace YtdfebigfnjfgpaaGreat
def Tryz.lays189_ren : Go.Shelf.Ren := ⟨fun | 189 => 228 | 125 => 238 | 257 => 237 | 128 => 250 | 129 => 251 | 294 => 241 | 295 => 242 | 296 => 243 | 297 => 244 | 298 => 245 | 299 => 246 | 216 => 247 | 300 => 248 | 301 => 249 | 328 => 261 | 329 => 262 | 330 => 263 | 331 => 264 | 332 => 265 | 215 => 266 | 343 => 270 | n => n, fun | 28 => 39 | 3 => 3 | 46 => 239 | 0 => 0 | 51 => 251 | 53 => 253 | 4 => 4 | 183 => 243 | 182 => 242 | 131 => 248 | 5 => 5 | 9 => 9 | 218 => 259 | 222 => 263 | 228 => 268 | 229 => 269 | n => n, fun | n => n⟩
theorem Tryz.lays189 : Go.Proofs.Lays.n189 Tryz.prog Tryz.lays189_ren := {
  mixed := by kernel_rfl
  f125 := Tryz.func238.trans (congrArg some (by kernel_rfl))
  f128 := Tryz.func250.trans (congrArg some (by kernel_rfl))
  f129 := Tryz.func251.trans (congrArg some (by kernel_rfl))
  f189 := Tryz.func228.trans (congrArg some (by kernel_rfl))
  f215 := Tryz.func266.trans (congrArg some (by kernel_rfl))
  f216 := Tryz.func247.trans (congrArg some (by kernel_rfl))
  f257 := Tryz.func237.trans (congrArg some (by kernel_rfl))
  f294 := Tryz.func241.trans (congrArg some (by kernel_rfl))
  f295 := Tryz.func242.trans (congrArg some (by kernel_rfl))
  f296 := Tryz.func243.trans (congrArg some (by kernel_rfl))
  f297 := Tryz.func244.trans (congrArg some (by kernel_rfl))
  f298 := Tryz.func245.trans (congrArg some (by kernel_rfl))
  f299 := Tryz.func246.trans (congrArg some (by kernel_rfl))
  f300 := Tryz.func248.trans (congrArg some (by kernel_rfl))
  f301 := Tryz.func249.trans (congrArg some (by kernel_rfl))
  f328 := Tryz.func261.trans (congrArg some (by kernel_rfl))
  f329 := Tryz.func262.trans (congrArg some (by kernel_rfl))
  f330 := Tryz.func263.trans (congrArg some (by kernel_rfl))
  f331 := Tryz.func264.trans (congrArg some (by kernel_rfl))
  f332 := Tryz.func265.trans (congrArg some (by kernel_rfl))
  f343 := Tryz.func270.trans (congrArg some (by kernel_rfl))
  t0 := Tryz.underlying0
  a0 := Tryz.isAgg0
  z0 := Tryz.sizeOf0
  v0 := Tryz.zeroValue0
  t3 := Tryz.underlying3
  a3 := Tryz.isAgg3
  z3 := Tryz.sizeOf3
  v3 := Tryz.zeroValue3
  t4 := Tryz.underlying4
  a4 := Tryz.isAgg4
  z4 := Tryz.sizeOf4
  v4 := Tryz.zeroValue4
  t5 := Tryz.underlying5
  a5 := Tryz.isAgg5
  z5 := Tryz.sizeOf5
  v5 := Tryz.zeroValue5
  t9 := Tryz.underlying9
  a9 := Tryz.isAgg9
  z9 := Tryz.sizeOf9
  v9 := Tryz.zeroValue9
  t28 := Tryz.underlying39
  a28 := Tryz.isAgg39
  z28 := Tryz.sizeOf39
  v28 := Tryz.zeroValue39
  t46 := Tryz.underlying239
  a46 := Tryz.isAgg239
  z46 := Tryz.sizeOf239
  v46 := Tryz.zeroValue239
  t51 := Tryz.underlying251
  a51 := Tryz.isAgg251
  z51 := Tryz.sizeOf251
  v51 := Tryz.zeroValue251
  t53 := Tryz.underlying253
  a53 := Tryz.isAgg253
  z53 := Tryz.sizeOf253
  v53 := Tryz.zeroValue253
  t131 := Tryz.underlying248
  a131 := Tryz.isAgg248
  z131 := Tryz.sizeOf248
  v131 := Tryz.zeroValue248
  t182 := Tryz.underlying242
  a182 := Tryz.isAgg242
  z182 := Tryz.sizeOf242
  v182 := Tryz.zeroValue242
  t183 := Tryz.underlying243
  a183 := Tryz.isAgg243
  z183 := Tryz.sizeOf243
  v183 := Tryz.zeroValue243
  t218 := Tryz.underlying259
  a218 := Tryz.isAgg259
  z218 := Tryz.sizeOf259
  v218 := Tryz.zeroValue259
  t222 := Tryz.underlying263
  a222 := Tryz.isAgg263
  z222 := Tryz.sizeOf263
  v222 := Tryz.zeroValue263
  t228 := Tryz.underlying268
  a228 := Tryz.isAgg268
  z228 := Tryz.sizeOf268
  v228 := Tryz.zeroValue268
  t229 := Tryz.underlying269
  a229 := Tryz.isAgg269
  z229 := Tryz.sizeOf269
  v229 := Tryz.zeroValue269 }
end YtdfebigfnjfgpaaGreat
end Go.Proofs
namespace Go.Proofs.YtdfebigfnjfgpaaGreat
open Go.ChangeShapes Go.WideShapes Go.ChangeAt Go.RowKit
set_option linter.unusedVariables false
set_option linter.unusedSimpArgs false
theorem aDt {w:World}: ∀{l:List Int} {css:List (List Value)} {Fs:List (List Nat)},dE w 1 (l.map intD) css Fs→css.flatten=l.map (Value.int .i64)∧Fs.flatten= []
 | [],css,Fs,h=>by
   simp only [List.map_nil] at h
   unfold dE at h
   rw [h.1,h.2];simp
 | n::l,css,Fs,h=>by
   simp only [List.map_cons] at h
   unfold dE at h
   obtain ⟨c,css',F,Fs',rfl,rfl,_,h1,h2⟩:=h
   obtain ⟨q1,q2⟩:=aDt h2
   unfold intD dR at h1
   obtain ⟨v,cs',F1,F2,rfl,rfl,h3,h4⟩:=h1
   unfold dR at h4
   unfold sA at h3
   simp [q1,q2,h4.1,h4.2,h3.1,h3.2]
theorem wM (w:World): ∀(l:List Int),dE w 1 (l.map intD) (l.map fun n=>[Value.int .i64 n]) (l.map fun _=>[])
 | []=>by simp only [List.map_nil];unfold dE;exact ⟨rfl,rfl⟩
 | n::l=>by
   simp only [List.map_cons]
   unfold dE
   refine ⟨_,_,_,_,rfl,rfl,rfl,?_,wM w l⟩
   unfold intD dR
   refine ⟨_,_,[],[],rfl,rfl,?_,?_⟩
   ·unfold sA;exact ⟨rfl,rfl⟩
   ·unfold dR;exact ⟨rfl,rfl⟩
theorem aDu: ∀(m:List Int),(m.map fun n=>[Value.int .i64 n]).flatten=m.map (Value.int .i64)
 | []=>rfl
 | a::l=>by simp only [List.map_cons,List.flatten_cons,aDu l];rfl
theorem aJ5 {P:Program} {f:FuncId} {e:Nat} (l m:List Int) (hc:lC P f=true) (hm:m.length=l.length)
 (hn0:l= []→ ∀w,Calls P f #[.slice none 0 0] w (fun ex w' =>ex= .returned (.tuple #[])∧w' =w))
 (hs: ∀(blk cap:Nat) (w:World),Go.Sort.Holds (Value.int .i64) w blk 0 l.toArray→blk<w.heap.size→l.length≤cap→Calls P f #[.slice (some ⟨blk,0,none⟩) l.length cap] w (fun ex w' =>ex= .returned (.tuple #[])∧ ∃n os,w' =Go.Sort.grow (Go.Sort.putRow (Value.int .i64) (Go.Sort.ahead w n) blk 0 m.toArray) os)):
 nA P f [.own 0] [(0,.arr e 1 true (l.map intD))] (.tup []) [(0,.arr e 1 true (m.map intD))]:=by
 refine ⟨hc,by simp,fun A φ w vs hI hM=>?_⟩
 obtain ⟨pl,hp,css,Fs,q1,q2,q3,q4⟩:=hI.dom 0 _ rfl
 unfold aT at hM
 obtain ⟨v,us,e1,m1,hM⟩:=hM
 unfold aT at hM
 unfold aH at m1
 have hv:=m1 pl hp
 have ev:vs= #[pl.val]:=by apply Array.ext';rw [e1,hM,hv]
 rw [ev]
 obtain ⟨c1,c2⟩:=aDt q4
 rw [c1,List.length_map] at q1
 have hge:=hI.ge 0 pl hp
 have hsub:pl.sub= []:=by rw [q3,c2]
 have hfoot: ∀b∈pl.F,aKG φ b:=fun b hb=>⟨0,pl,trivial,hp,hb⟩
 have hend: ∀(w' :World),mN pl.F w w' →w'.ownsRow 0 e 1 pl.val l.length (m.map (Value.int .i64))→
  ∃v K φ',Ending.returned (.tuple #[])= .returned v∧aOq A φ w [(0,.arr e 1 true (m.map intD))] K φ' w' ∧aH K φ' w' (.tup []) v:=by
  intro w' hon howns
  refine ⟨_,A,fun h=>if h=0 then some pl else none,rfl,⟨⟨hon.os,hon.tape,hon.output,hon.size,fun b hb hn=>hon.block b hb (fun hm=>hn (hfoot b hm))⟩,fun _ h=>h,fun b hb=>⟨Nat.lt_of_lt_of_le (hI.lt b hb) hon.size,.inl hb⟩,fun b hb h pl1 e' hm' =>?_,fun h r hr=>?_,fun h hr=>?_,fun h h' pl1 pl2 hne ea eb=>?_,fun h pl1 e' =>?_,fun h pl1 e' g hg=>?_,fun h pl1 pl0 e' e0=>?_⟩,?_⟩
  ·split at e'
   ·injection e' with e';subst e'
    exact hI.out b hb 0 pl hp hm'
   ·cases e'
  ·simp only [bC] at hr
   split at hr
   ·rename_i eh
    subst eh
    injection hr with hr
    subst hr
    refine ⟨pl,by simp,m.map fun n=>[Value.int .i64 n],m.map fun _=>[],?_,q2,?_,wM _ m⟩
    ·rw [aDu,List.length_map,hm];exact howns
    ·rw [hsub];simp
   ·cases hr
  ·simp only [bC] at hr
   split at hr
   ·cases hr
   ·rename_i eh;exact if_neg eh
  ·split at ea
   ·split at eb
    ·rename_i x y;exact absurd (x.trans y.symm) hne
    ·cases eb
   ·cases ea
  ·split at e'
   ·injection e' with e';subst e';exact hI.nodup 0 pl hp
   ·cases e'
  ·split at e'
   ·injection e' with e';subst e'
    exact ⟨.inr (hfoot g hg),Nat.lt_of_lt_of_le (hge g hg) hon.size⟩
   ·cases e'
  ·split at e'
   ·rename_i eh
    subst eh
    rw [hp] at e0
    injection e0 with e0;injection e' with e'
    subst e0;subst e'
    exact ⟨rfl,rfl⟩
   ·cases e'
  ·unfold aH
   exact ⟨#[],rfl,by unfold aT;rfl⟩
 rcases q1.2 with ⟨hvn,hz⟩ | ⟨g,cap,cur,hvv,hg0,hb,hn,hcap,hsz,htk⟩
 ·have hz' :l= []:=List.eq_nil_of_length_eq_zero hz
  rw [hvn]
  refine (hn0 hz' w).mono ?_
  rintro en w' ⟨rfl,rfl⟩
  have hm0:m= []:=List.eq_nil_of_length_eq_zero (by rw [hm,hz])
  refine hend w' (mN.refl _ _) ?_
  rw [hvn,hm0,hz]
  exact ⟨by simp,.inl ⟨rfl,rfl⟩⟩
 ·have hlt:g<w.heap.size:=(Array.getElem?_eq_some_iff.1 hb).1
  have hH:Go.Sort.Holds (Value.int .i64) w g 0 l.toArray:=holds_of_blockI hb (by rw [Nat.mul_one] at htk;exact htk)
  rw [hvv]
  refine (hs g cap w hH hlt hn).mono ?_
  rintro en w' ⟨rfl,n,os,rfl⟩
  have hgb:=grownBy_sortedI (w:=w) (g:=g) (n:=n) (os:=os) m.toArray
  have hown:=ownsRow_sortedI (n:=n) (os:=os) hm hg0 hb hn hcap hsz
  refine hend _ ⟨hgb.os,hgb.tape,hgb.output,hgb.size,fun k hk hne=>hgb.block k hk (fun e=>hne (by injection e with e;subst e;unfold Pl.F;rw [q2,hvv];simp [Value.ownBlock]))⟩ ?_
  rw [hvv];exact hown
def kH (l:List Int):List Int:=l.mergeSort fun x y=>decide (x≤y)
theorem aGw (l:List Int):(kH l).Perm l:=List.mergeSort_perm l _
theorem vG (l:List Int):(kH l).length=l.length:=(aGw l).length_eq
theorem aNJ (l:List Int):(kH l).Pairwise (· ≤ ·):=by
 have:=List.pairwise_mergeSort (le:=fun x y:Int=>decide (x≤y)) (fun a b c h1 h2=>by simp at*;omega) (fun a b=>by simp;omega) l
 exact this.imp (fun h=>by simpa using h)
theorem aJ6 (l:List Int) (hl:l.length<4611686018427387904):nA Tryz.prog 228 [.own 0] [(0,.arr 3 1 true (l.map intD))] (.tup []) [(0,.arr 3 1 true ((kH l).map intD))]:=
 aJ5 l (kH l) (by kernel_rfl) (vG l)
  (fun h w=>Any.slices_Sort_int_none Tryz.lays189 none 0 w)
  (fun blk cap w hH hblk _=>Any.slices_Sort_int Tryz.lays189 blk 0 cap l w hH hblk hl)
end Go.Proofs.YtdfebigfnjfgpaaGreat
