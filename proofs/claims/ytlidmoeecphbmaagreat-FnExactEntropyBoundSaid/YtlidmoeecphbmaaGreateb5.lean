/-
  Contracts and plain laws, joined: part 6.
-/
import Derived.Test.YtlidmoeecphbmaaGreateb3
import Derived.Test.YtlidmoeecphbmaaGreateb4
import Derived.IntWalk
import Derived.Shelf.Lay
import Derived.Shelf.Sort.Plain
import Derived.Shelf.Slices.In.SortNone
import Derived.Sort.OwnSortedInts
import Derived.Shelf.SlicesE.Compact
import Derived.Ground.SlgnProg
import Derived.Shelf.SlicesE.Reverse
namespace Go.Proofs.YtlidmoeecphbmaaGreat
open Go.ChangeShapes Go.WideShapes Go.ChangeAt Go.RowKit
set_option linter.unusedVariables false
set_option linter.unusedSimpArgs false
set_option maxRecDepth 100000
set_option maxHeartbeats 4000000
def gK (l:List bA)(i:Nat):Bool:=Op.bytesLess (l.getD i gH).name.toList (l.getD (i+1) gH).name.toList
def jG (d:aV):Bool:=d.tables.all aX&&((List.range (d.tables.length - 1)).all (gK d.tables)&&decide ((d.tables.length:Int)≤6))
abbrev aD3 (t:aV):Prop:=cH Tryz.prog 137 [.agg [.sl 142 3 (t.tables.map aT)]] (vB (jG t)) []
theorem aPn (t:aV):aD3 t:=by
 refine aW bH aO Tryz.func137 (by kernel_rfl) (.len t.tables.length<| .loop Nat (Q1 Nat) ([3,4]++rg 8 25) [400] (fun k=>[(8,vI (k:Int))]) (fun k=>[]) (fun k=>k≤t.tables.length∧(t.tables.take k).all aX=true∧(List.range (k - 1)).all (gK t.tables)=true) (fun k=>t.tables.length - k) (fun k=> .br (.elem _ aT t.tables (fun e11=> .call (vB (aX e11)) []<| .br (.fin []) (.lit<| .lit<| .br (.elem _ aT t.tables (fun e24=> .lit<| .lit<| .lit<| .lit<| .lit<| .lit<| .lit<| .lit<| .br (.fin []) (.back []))) (.back [])))) (.len t.tables.length<| .fin []))) (p:=(t.tables.map aT).length≤9223372036854775807→Lm aT t.tables∧((∃(k:Nat),0=(k:Int)∧k≤t.tables.length∧(t.tables.take k).all aX=true∧(List.range (k - 1)).all (gK t.tables)=true)∧ ∀(k:Nat),(k≤t.tables.length∧(t.tables.take k).all aX=true∧(List.range (k - 1)).all (gK t.tables)=true)→Br ((k:Int)<(t.tables.length:Int)) (0≤(k:Int)∧Em aT t.tables k fun e11=>rG e11∧Nr (aX e11) ((false)=(jG t)∧True) (Br (0<(k:Int)) (bO ((k:Int) - 1)∧0≤((k:Int) - 1)∧Em aT t.tables (((k:Int) - 1).toNat) fun e24=>Nr (Op.bytesLess e24.name.toList e11.name.toList) ((false)=(jG t)∧True) (bO ((k:Int)+1)∧ ∃(k' :Nat),((k:Int)+1)=(k' :Int)∧(k' ≤t.tables.length∧(t.tables.take k').all aX=true∧(List.range (k' - 1)).all (gK t.tables)=true)∧t.tables.length - k' <t.tables.length - k)) (bO ((k:Int)+1)∧ ∃(k' :Nat),((k:Int)+1)=(k' :Int)∧(k' ≤t.tables.length∧(t.tables.take k').all aX=true∧(List.range (k' - 1)).all (gK t.tables)=true)∧t.tables.length - k' <t.tables.length - k))) (Lm aT t.tables∧(decide ((t.tables.length:Int)≤6))=(jG t)∧True))) (by kernel_rfl) ?_
 intro n0
 simp only[List.length_map] at n0
 refine⟨List.length_map _,⟨0,rfl,Nat.zero_le _,rfl,rfl⟩,fun k ⟨hk,ha,hs⟩=>?_⟩
 refine dd (fun c0=>?_) fun c0=>?_
 ·refine⟨by omega,rfl,by omega,fun e11 h11=>?_⟩
  refine⟨yE e11,dm (fun g16=>?_) fun g16=>?_⟩
  ·refine⟨?_,trivial⟩
   ·(rw[jG,eO h11 g16];rfl)
  ·refine dd (fun g19=>?_) fun g19=>?_
   ·refine⟨⟨by omega,by omega⟩,by omega,rfl,by omega,fun e24 h24=>?_⟩
    have i1:t.tables[k - 1]? =some e24:=by rw[←h24];congr 1;omega
    refine dm (fun c1=>?_) fun c1=>?_
    ·have hp:gK t.tables (k - 1)=false:=by rw[gK,bQ i1,show k - 1+1=k by omega,bQ h11];simpa using c1
     have hz:(List.range (t.tables.length - 1)).all (gK t.tables)=false:=iA (by omega) hp
     refine⟨?_,trivial⟩
     ·(rw[jG,hz];simp[*];done)
    ·have hp:gK t.tables (k - 1)=true:=by rw[gK,bQ i1,show k - 1+1=k by omega,bQ h11];simpa using c1
     have hs2:(List.range (k+1 - 1)).all (gK t.tables)=true:=by rw[show k+1 - 1=(k - 1)+1 by omega];exact jN hs hp
     refine⟨⟨by omega,by omega⟩,?_⟩
     exact⟨k+1,rfl,⟨by omega,cL h11 ha g16,hs2⟩,by omega⟩
   ·have hs2:(List.range (k+1 - 1)).all (gK t.tables)=true:=by rw[show k=0 by omega];rfl
    refine⟨⟨by omega,by omega⟩,?_⟩
    exact⟨k+1,rfl,⟨by omega,cL h11 ha g16,hs2⟩,by omega⟩
 ·have hall:=dC (by omega) ha
  have hz:(List.range (t.tables.length - 1)).all (gK t.tables)=true:=by rw[show t.tables.length - 1=k - 1 by omega,hs]
  refine⟨List.length_map _,?_,trivial⟩
  ·(rw[jG,hz];simp[*];done)
abbrev aD4 (t:aV):Prop:=cH Tryz.prog 177 [.agg [.sl 142 3 (t.tables.map aT)]] (vB (jG t)) []
theorem aPo (t:aV):aD4 t:=by
 refine aW bH aO Tryz.func177 (by kernel_rfl) (.loop Nat (Q1 Nat) (rg 3 35) [] (fun k=>[(3,vI (k:Int))]) (fun k=>[]) (fun k=>k≤t.tables.length∧(t.tables.take k).all aX=true∧(List.range (k - 1)).all (gK t.tables)=true) (fun k=>t.tables.length - k) (fun k=> .len t.tables.length<| .br (.elem _ aT t.tables (fun e14=> .call (vB (aX e14)) []<| .br (.fin []) (.lit<| .lit<| .br (.elem _ aT t.tables (fun e26=> .elem _ aT t.tables (fun e32=> .lit<| .lit<| .lit<| .lit<| .lit<| .lit<| .br (.fin []) (.back [])))) (.back [])))) (.len t.tables.length<| .fin []))) (p:=(t.tables.map aT).length≤9223372036854775807→(∃(k:Nat),0=(k:Int)∧k≤t.tables.length∧(t.tables.take k).all aX=true∧(List.range (k - 1)).all (gK t.tables)=true)∧ ∀(k:Nat),(k≤t.tables.length∧(t.tables.take k).all aX=true∧(List.range (k - 1)).all (gK t.tables)=true)→Lm aT t.tables∧Br ((k:Int)<(t.tables.length:Int)) (0≤(k:Int)∧Em aT t.tables k fun e14=>oI e14∧Nr (aX e14) ((false)=(jG t)∧True) (Br (0<(k:Int)) (bO ((k:Int) - 1)∧0≤((k:Int) - 1)∧Em aT t.tables (((k:Int) - 1).toNat) fun e26=>0≤(k:Int)∧Em aT t.tables k fun e32=>Nr (Op.bytesLess e26.name.toList e32.name.toList) ((false)=(jG t)∧True) (bO ((k:Int)+1)∧ ∃(k' :Nat),((k:Int)+1)=(k' :Int)∧(k' ≤t.tables.length∧(t.tables.take k').all aX=true∧(List.range (k' - 1)).all (gK t.tables)=true)∧t.tables.length - k' <t.tables.length - k)) (bO ((k:Int)+1)∧ ∃(k' :Nat),((k:Int)+1)=(k' :Int)∧(k' ≤t.tables.length∧(t.tables.take k').all aX=true∧(List.range (k' - 1)).all (gK t.tables)=true)∧t.tables.length - k' <t.tables.length - k))) (Lm aT t.tables∧(decide ((t.tables.length:Int)≤6))=(jG t)∧True)) (by kernel_rfl) ?_
 intro n0
 simp only[List.length_map] at n0
 refine⟨⟨0,rfl,Nat.zero_le _,rfl,rfl⟩,fun k ⟨hk,ha,hs⟩=>?_⟩
 refine⟨List.length_map _,dd (fun c0=>?_) fun c0=>?_⟩
 ·refine⟨by omega,rfl,by omega,fun e14 h14=>?_⟩
  refine⟨yF e14,dm (fun g18=>?_) fun g18=>?_⟩
  ·refine⟨?_,trivial⟩
   ·(rw[jG,eO h14 g18];rfl)
  ·refine dd (fun g21=>?_) fun g21=>?_
   ·refine⟨⟨by omega,by omega⟩,by omega,rfl,by omega,fun e26 h26=>?_⟩
    have i1:t.tables[k - 1]? =some e26:=by rw[←h26];congr 1;omega
    refine⟨by omega,rfl,by omega,fun e32 h32=>?_⟩
    refine dm (fun c1=>?_) fun c1=>?_
    ·have hp:gK t.tables (k - 1)=false:=by rw[gK,bQ i1,show k - 1+1=k by omega,bQ h32];simpa using c1
     have hz:(List.range (t.tables.length - 1)).all (gK t.tables)=false:=iA (by omega) hp
     refine⟨?_,trivial⟩
     ·(rw[jG,hz];simp[*];done)
    ·have hp:gK t.tables (k - 1)=true:=by rw[gK,bQ i1,show k - 1+1=k by omega,bQ h32];simpa using c1
     have hs2:(List.range (k+1 - 1)).all (gK t.tables)=true:=by rw[show k+1 - 1=(k - 1)+1 by omega];exact jN hs hp
     refine⟨⟨by omega,by omega⟩,?_⟩
     exact⟨k+1,rfl,⟨by omega,cL h14 ha g18,hs2⟩,by omega⟩
   ·have hs2:(List.range (k+1 - 1)).all (gK t.tables)=true:=by rw[show k=0 by omega];rfl
    refine⟨⟨by omega,by omega⟩,?_⟩
    exact⟨k+1,rfl,⟨by omega,cL h14 ha g18,hs2⟩,by omega⟩
 ·have hall:=dC (by omega) ha
  have hz:(List.range (t.tables.length - 1)).all (gK t.tables)=true:=by rw[show t.tables.length - 1=k - 1 by omega,hs]
  refine⟨List.length_map _,?_,trivial⟩
  ·(rw[jG,hz];simp[*];done)
def fT (d:aV)(v:Int):cJ × Bool:=if (jG d&&eI v 1 999)=true then (⟨v,d.tables.map bK⟩,true) else (aGP,false)
theorem tU {d:aV}{v:Int}(h:(jG d&&eI v 1 999)=true):fT d v=(⟨v,d.tables.map bK⟩,true):=by rw[fT,if_pos h]
theorem yO {d:aV}{v:Int}(h:(jG d&&eI v 1 999)=false):fT d v=(aGP,false):=by rw[fT,if_neg (by rw[h];decide)]
theorem aGd {d:aV}(h:jG d=true):d.tables.length≤6:=by
 simp only[jG,Bool.and_eq_true,decide_eq_true_eq] at h
 omega
abbrev aBV (d:aV)(v:Int):AV × List (Nat × Rs):=(.tup [.agg [vI ((fT d v).1.version),.own 0],vB ((fT d v).2)],[(0,.arr 88 4 true ((fT d v).1.tables.map aG))])
abbrev aGe (d:aV)(v:Int):Prop:=cH Tryz.prog 131 [.agg [.sl 142 3 (d.tables.map aT)],.one (.int .i64 v)] (aBV d v).1 (aBV d v).2
theorem aTf (d:aV)(v:Int):aGe d v:=by
 refine aW bH aO Tryz.func131 (by kernel_rfl) (.call (vB (jG d)) []<| .br (.fin []) (.call (vB (eI v (1:Int) (999:Int))) []<| .lit<| .lit<| .br (.fin []) (.len d.tables.length<| .loop (Nat × (List aM)) (Q2 Nat (List aM)) ([8]++rg 23 12) [600,800,3000,3100,3200,9000] (fun yy0=>[(23,vI (yy0.1:Int))]) (fun yy0=>[(600,some (.box 46 [vI v,.own 9000])),(9000,some (.arr 88 4 true (yy0.2.map aG)))]) (fun yy0=>yy0.1≤d.tables.length∧yy0.2=(d.tables.take yy0.1).map bK) (fun yy0=>d.tables.length - yy0.1) (fun yy0=> .br (.elem _ aT d.tables (fun e25=>bL (aA2 e25)<| .appx aM aG yy0.2 (bK e25)<| .back [(600,600),(9000,3200)])) (.fin [(0,9000)]))))) (p:=(d.tables.map aT).length≤9223372036854775807→aD3 d∧Nr (jG d) (0=((fT d v).1.version)∧(false)=((fT d v).2)∧[]=(fT d v).1.tables.map aG∧True) (eW v (1:Int) (999:Int)∧Nr (eI v (1:Int) (999:Int)) (0=((fT d v).1.version)∧(false)=((fT d v).2)∧[]=(fT d v).1.tables.map aG∧True) (Lm aT d.tables∧((∃(k:Nat) (out:List aM),0=(k:Int)∧v=v∧[]=out.map aG∧k≤d.tables.length∧out=(d.tables.take k).map bK)∧ ∀(k:Nat) (out:List aM),(k≤d.tables.length∧out=(d.tables.take k).map bK)→Br ((k:Int)<(d.tables.length:Int)) (0≤(k:Int)∧Em aT d.tables k fun e25=>aD1 e25∧out.map aG=out.map aG∧((bK e25).name)=((bK e25).name)∧((bK e25).arity)=((bK e25).arity)∧((bK e25).rowCount)=((bK e25).rowCount)∧(bK e25).groups.map aD=(bK e25).groups.map aD∧(out.length+1)*56≤140737488355328∧bO ((k:Int)+1)∧ ∃(k' :Nat) (out' :List aM),((k:Int)+1)=(k' :Int)∧v=v∧(out++[(bK e25)]).map aG=out'.map aG∧(k' ≤d.tables.length∧out' =(d.tables.take k').map bK)∧d.tables.length - k' <d.tables.length - k) (v=((fT d v).1.version)∧(true)=((fT d v).2)∧out.map aG=(fT d v).1.tables.map aG∧True))))) (by kernel_rfl) ?_
 intro n0
 simp only[List.length_map] at n0
 refine⟨aPn d,dm (fun g12=>?_) fun g12=>?_⟩
 ·have hbad:(jG d&&eI v 1 999)=false:=by simp_all
  refine⟨?_,?_,?_,trivial⟩<;>((rw[yO hbad]<;>rfl))
 ·refine⟨iV _ _ _,dm (fun c0=>?_) fun c0=>?_⟩
  ·have hbad:(jG d&&eI v 1 999)=false:=by simp_all
   refine⟨?_,?_,?_,trivial⟩<;>((rw[yO hbad]<;>rfl))
  ·have hok:(jG d&&eI v 1 999)=true:=by simp_all
   have h6:=aGd (by simp_all:jG d=true)
   refine⟨List.length_map _,⟨0,([]:List aM),rfl,rfl,rfl,Nat.zero_le _,rfl⟩,fun k out ⟨hk,ho⟩=>?_⟩
   refine dd (fun c1=>?_) fun c1=>?_
   ·refine⟨by omega,rfl,by omega,fun e25 h25=>?_⟩
    refine⟨aLE e25,rfl,rfl,rfl,rfl,rfl,by (simp[ho];omega),⟨by omega,by omega⟩,?_⟩
    exact⟨k+1,_,rfl,rfl,rfl,⟨by omega,by rw[ho,bU h25,List.map_append];rfl⟩,by omega⟩
   ·refine⟨?_,?_,?_,trivial⟩<;>(first|(rw[tU hok]<;>rfl)|(rw[tU hok,ho,List.take_of_length_le (by omega)]))
abbrev aBW (d:aV)(v:Int):AV × List (Nat × Rs):=(.tup [.agg [vI ((fT d v).1.version),.own 0],vB ((fT d v).2)],[(0,.arr 88 4 true ((fT d v).1.tables.map aG))])
abbrev aGf (d:aV)(v:Int):Prop:=cH Tryz.prog 122 [.agg [.sl 142 3 (d.tables.map aT)],.one (.int .i64 v)] (aBW d v).1 (aBW d v).2
theorem aTg (d:aV)(v:Int):aGf d v:=by
 refine aW bH aO Tryz.func122 (by kernel_rfl) (.call (vB (jG d)) []<| .br (.fin []) (.call (vB (eI v (1:Int) (999:Int))) []<| .lit<| .lit<| .br (.fin []) (.loop (Nat × (List aM)) (Q2 Nat (List aM)) ([7,8]++rg 20 19) [600,800,3200,3600,3700,9000] (fun yy0=>[(7,vI (yy0.1:Int))]) (fun yy0=>[(600,some (.box 46 [vI v,.own 9000])),(9000,some (.arr 88 4 true (yy0.2.map aG)))]) (fun yy0=>yy0.1≤d.tables.length∧yy0.2=(d.tables.take yy0.1).map bK) (fun yy0=>d.tables.length - yy0.1) (fun yy0=> .len d.tables.length<| .br (.elem _ aT d.tables (fun e30=>bL (aA3 e30)<| .appx aM aG yy0.2 (bK e30)<| .back [(600,600),(9000,3700)])) (.fin [(0,9000)]))))) (p:=(d.tables.map aT).length≤9223372036854775807→aD4 d∧Nr (jG d) (0=((fT d v).1.version)∧(false)=((fT d v).2)∧[]=(fT d v).1.tables.map aG∧True) (eX v (1:Int) (999:Int)∧Nr (eI v (1:Int) (999:Int)) (0=((fT d v).1.version)∧(false)=((fT d v).2)∧[]=(fT d v).1.tables.map aG∧True) ((∃(k:Nat) (out:List aM),0=(k:Int)∧v=v∧[]=out.map aG∧k≤d.tables.length∧out=(d.tables.take k).map bK)∧ ∀(k:Nat) (out:List aM),(k≤d.tables.length∧out=(d.tables.take k).map bK)→Lm aT d.tables∧Br ((k:Int)<(d.tables.length:Int)) (0≤(k:Int)∧Em aT d.tables k fun e30=>aD2 e30∧out.map aG=out.map aG∧((bK e30).name)=((bK e30).name)∧((bK e30).arity)=((bK e30).arity)∧((bK e30).rowCount)=((bK e30).rowCount)∧(bK e30).groups.map aD=(bK e30).groups.map aD∧(out.length+1)*56≤140737488355328∧bO ((k:Int)+1)∧ ∃(k' :Nat) (out' :List aM),((k:Int)+1)=(k' :Int)∧v=v∧(out++[(bK e30)]).map aG=out'.map aG∧(k' ≤d.tables.length∧out' =(d.tables.take k').map bK)∧d.tables.length - k' <d.tables.length - k) (v=((fT d v).1.version)∧(true)=((fT d v).2)∧out.map aG=(fT d v).1.tables.map aG∧True)))) (by kernel_rfl) ?_
 intro n0
 simp only[List.length_map] at n0
 refine⟨aPo d,dm (fun g12=>?_) fun g12=>?_⟩
 ·have hbad:(jG d&&eI v 1 999)=false:=by simp_all
  refine⟨?_,?_,?_,trivial⟩<;>((rw[yO hbad]<;>rfl))
 ·refine⟨iW _ _ _,dm (fun c0=>?_) fun c0=>?_⟩
  ·have hbad:(jG d&&eI v 1 999)=false:=by simp_all
   refine⟨?_,?_,?_,trivial⟩<;>((rw[yO hbad]<;>rfl))
  ·have hok:(jG d&&eI v 1 999)=true:=by simp_all
   have h6:=aGd (by simp_all:jG d=true)
   refine⟨⟨0,([]:List aM),rfl,rfl,rfl,Nat.zero_le _,rfl⟩,fun k out ⟨hk,ho⟩=>?_⟩
   refine⟨List.length_map _,dd (fun c1=>?_) fun c1=>?_⟩
   ·refine⟨by omega,rfl,by omega,fun e30 h30=>?_⟩
    refine⟨aPl e30,rfl,rfl,rfl,rfl,rfl,by (simp[ho];omega),⟨by omega,by omega⟩,?_⟩
    exact⟨k+1,_,rfl,rfl,rfl,⟨by omega,by rw[ho,bU h30,List.map_append];rfl⟩,by omega⟩
   ·refine⟨?_,?_,?_,trivial⟩<;>(first|(rw[tU hok]<;>rfl)|(rw[tU hok,ho,List.take_of_length_le (by omega)]))
theorem aGg {α:Type}{c:α→Nat}{m:Nat}{l:List α}(h: ∀x∈l,c x≤m):aCB c l≤l.length+l.length*m:=by
 have h1:=aBN (ct:=c) (m:=m) (l:=l) h
 have h2:aCB c l=l.length+fE c l:=rfl
 omega
theorem aJm (t:bA)(cols:List Int):cT (eA t cols).1≤64∧(eA t cols).2.length≤8:=by
 cases h:(aX t&&dW (t.arity - 1) cols) with
 | false=>rw[aC6 h];exact⟨by decide,by decide⟩
 | true=>
   have:=aLD (k:=(kN t cols).length) h
   rw[List.take_length,sM] at this
   rw[rK h]
   exact⟨this.2,by simp only[aM9,List.length_map,aOY];exact this.1⟩
theorem aLK {t:bA}(h:aX t=true):t.name.size=1:=by
 simp only[aX,gJ,Bool.and_eq_true,decide_eq_true_eq] at h
 omega
theorem aEG (t:bA):bI (bK t)≤2000:=by
 cases h:aX t with
 | false=>rw[aBR h];decide
 | true=>
   have hT:=cE h
   have hn:=aLK h
   have hl:=yN (n:=t.arity) ⟨hT.1,hT.2.1⟩
   rw[kD h]
   have h1:=aGg (c:=cA) (m:=75) (l:=(bY t.arity).map (tR t)) fun x hx=>by
    obtain⟨c,hc,rfl⟩:=List.mem_map.1 hx
    obtain⟨k,hk,hc⟩:=List.mem_iff_getElem.1 hc
    have h3:=aBS (List.getElem?_eq_some_iff.2 ⟨hk,hc⟩)
    have h4:=aJm t c
    have h5:cA (tR t c)=c.length+cT (eA t c).1+(eA t c).2.length:=rfl
    omega
   rw[List.length_map] at h1
   have h2:bI ⟨t.name,t.arity,(t.rows.length:Nat),(bY t.arity).map (tR t)⟩=t.name.size+aCB cA ((bY t.arity).map (tR t)):=rfl
   omega
theorem aJn (d:aV)(v:Int):bX (fT d v).1≤20000:=by
 cases h:(jG d&&eI v 1 999) with
 | false=>rw[yO h];decide
 | true=>
   have h6:=aGd (by simp_all:jG d=true)
   rw[tU h]
   have h1:=aGg (c:=bI) (m:=2000) (l:=d.tables.map bK) fun x hx=>by
    obtain⟨t,_,rfl⟩:=List.mem_map.1 hx
    exact aEG t
   rw[List.length_map] at h1
   have h2:bX ⟨v,d.tables.map bK⟩=aCB bI (d.tables.map bK):=rfl
   show bX ⟨v,d.tables.map bK⟩≤20000
   omega
def kY {α:Type}(p:α→Bool)(l:List α):Int:=match l.findIdx? p with | some k=>(k:Int) | none=> -1
theorem aLL {α:Type}{p:α→Bool}{l:List α}{k:Nat}{x:α}(h:l[k]? =some x)(ha:(l.take k).all (fun y=> !p y)=true)(hx:p x=true):kY p l=(k:Int):=by
 obtain⟨hk,rfl⟩:=List.getElem?_eq_some_iff.1 h
 have:l.findIdx? p=some k:=by
  rw[List.findIdx?_eq_some_iff_getElem]
  refine⟨hk,hx,fun j hj=>?_⟩
  have:=List.all_eq_true.1 ha l[j] (List.mem_iff_getElem.2 ⟨j,by rw[List.length_take];omega,by rw[List.getElem_take]⟩)
  simpa using this
 rw[kY,this]
theorem aFU {α:Type}{p:α→Bool}{l:List α}(ha:l.all (fun y=> !p y)=true):kY p l= -1:=by
 have:l.findIdx? p=none:=by
  rw[List.findIdx?_eq_none_iff]
  intro x hx
  have:=List.all_eq_true.1 ha x hx
  simpa using this
 rw[kY,this]
theorem aTh {α:Type}{p:α→Bool}{l:List α}(h:0≤kY p l): ∃(k:Nat) (x:α),kY p l=(k:Int)∧l[k]? =some x∧p x=true∧k<l.length:=by
 unfold kY at*
 cases e:l.findIdx? p with
 | none=>rw[e] at h;exact absurd h (by decide)
 | some k=>
   rw[List.findIdx?_eq_some_iff_getElem] at e
   obtain⟨hk,hx,_⟩:=e
   exact⟨k,l[k],rfl,List.getElem?_eq_getElem hk,hx,hk⟩
theorem aWK {α:Type}(p:α→Bool)(l:List α): -1≤kY p l∧kY p l<(l.length:Int):=by
 by_cases h:0≤kY p l
 ·obtain⟨k,x,h1,_,_,h4⟩:=aTh h
  omega
 ·unfold kY at*
  cases e:l.findIdx? p with
  | none=>simp only;omega
  | some k=>rw[e] at h;simp only at h;omega
abbrev aBX (t:bA):AV × List (Nat × Rs):=(.agg [.p none (.str t.name),vI t.arity,.own 0],[(0,.arr 91 1 true (t.rows.map aC))])
abbrev aGh (t:bA):Prop:=cH Tryz.prog 138 [.agg [.str t.name,.int .i64 t.arity,.sl 91 1 (t.rows.map aC)]] (aBX t).1 (aBX t).2
theorem aTi (t:bA)(hc:gG t≤1048576):aGh t:=by
 refine aW bH aO Tryz.func138 (by kernel_rfl) (bL (aJe t.rows)<| .fin [(0,500)]) (p:=(t.rows.map aC).length≤9223372036854775807→aM0 t.rows∧t.name=t.name∧t.arity=t.arity∧t.rows.map aC=t.rows.map aC∧True) (by kernel_rfl) ?_
 intro n0
 simp only[List.length_map] at n0
 have q1:gG t=t.name.size+cT t.rows:=rfl
 have q2:=fJ t.rows
 refine⟨cpR _ (by omega),?_⟩
 exact⟨rfl,rfl,rfl,trivial⟩
abbrev aBY (t:bA):AV × List (Nat × Rs):=(.agg [.p none (.str t.name),vI t.arity,.own 0],[(0,.arr 91 1 true (t.rows.map aC))])
abbrev aGi (t:bA):Prop:=cH Tryz.prog 184 [.agg [.str t.name,.int .i64 t.arity,.sl 91 1 (t.rows.map aC)]] (aBY t).1 (aBY t).2
theorem aTj (t:bA)(hc:gG t≤1048576):aGi t:=by
 refine aW bH aO Tryz.func184 (by kernel_rfl) (.loop (Nat × (List (List Int))) (Q2 Nat (List (List Int))) ([4]++rg 10 19) [300,1900,2500,2600,2700,9000] (fun yy0=>[(4,vI (yy0.1:Int))]) (fun yy0=>[(300,some (.box 142 [.p none (.str t.name),vI t.arity,.own 9000])),(9000,some (.arr 91 1 true (yy0.2.map aC)))]) (fun yy0=>yy0.1≤t.rows.length∧yy0.2=t.rows.take yy0.1) (fun yy0=>t.rows.length - yy0.1) (fun yy0=> .len t.rows.length<| .br (.elem _ aC t.rows (fun e23=> .app Int intD ([]:List Int) e23<| .appx (List Int) aC yy0.2 (([]:List Int)++e23)<| .back [(300,300),(9000,2700)])) (.fin [(0,9000)]))) (p:=(t.rows.map aC).length≤9223372036854775807→(∃(k:Nat) (out:List (List Int)),0=(k:Int)∧t.name=t.name∧t.arity=t.arity∧[]=out.map aC∧k≤t.rows.length∧out=t.rows.take k)∧ ∀(k:Nat) (out:List (List Int)),(k≤t.rows.length∧out=t.rows.take k)→Lm aC t.rows∧Br ((k:Int)<(t.rows.length:Int)) (0≤(k:Int)∧Em aC t.rows k fun e23=>[]=([]:List Int).map intD∧e23.map intD=e23.map intD∧(∀x,bW (intD x)=true)∧(([]:List Int).length+e23.length)*8≤140737488355328∧out.map aC=out.map aC∧(([]:List Int)++e23).map intD=(([]:List Int)++e23).map intD∧(out.length+1)*24≤140737488355328∧bO ((k:Int)+1)∧ ∃(k' :Nat) (out' :List (List Int)),((k:Int)+1)=(k' :Int)∧t.name=t.name∧t.arity=t.arity∧(out++[([]:List Int)++e23]).map aC=out'.map aC∧(k' ≤t.rows.length∧out' =t.rows.take k')∧t.rows.length - k' <t.rows.length - k) (t.name=t.name∧t.arity=t.arity∧out.map aC=t.rows.map aC∧True)) (by kernel_rfl) ?_
 intro n0
 simp only[List.length_map] at n0
 have q1:gG t=t.name.size+cT t.rows:=rfl
 have q2:=fJ t.rows
 refine⟨⟨0,([]:List (List Int)),rfl,rfl,rfl,rfl,Nat.zero_le _,rfl⟩,fun k out ⟨hk,ho⟩=>?_⟩
 refine⟨List.length_map _,dd (fun c0=>?_) fun c0=>?_⟩
 ·refine⟨by omega,rfl,by omega,fun e23 h23=>?_⟩
  have hp3:=aA1 h23
  refine⟨rfl,rfl,fun _=>rfl,by (simp;omega),?_⟩
  refine⟨rfl,rfl,by (simp[ho];omega),⟨by omega,by omega⟩,?_⟩
  exact⟨k+1,_,rfl,rfl,rfl,rfl,⟨by omega,by rw[ho,bU h23];rfl⟩,by omega⟩
 ·refine⟨rfl,rfl,?_,trivial⟩
  ·(rw[ho,List.take_of_length_le (by omega)])
abbrev isN (n:ByteArray):bA→Bool:=fun t=>t.name.toList==n.toList
abbrev isI (v:Int):Int→Bool:=fun y=>decide (v=y)
theorem qP {α:Type}{p:α→Bool}{l:List α}:(kY p l<0→l.find? p=none)∧(0≤kY p l→ ∃(k:Nat) (x:α),kY p l=(k:Int)∧l[k]? =some x∧l.find? p=some x):=by
 unfold kY
 cases e:l.findIdx? p with
 | none=>
   rw[List.findIdx?_eq_none_iff] at e
   refine⟨fun _=>List.find?_eq_none.2 fun x hx=>by rw[e x hx];decide,fun h=>absurd h (by decide)⟩
 | some k=>
   rw[List.findIdx?_eq_some_iff_getElem] at e
   obtain⟨hk,hx,hj⟩:=e
   refine⟨fun h=>absurd h (by simp only;omega),fun _=>⟨k,l[k],rfl,List.getElem?_eq_getElem hk,?_⟩⟩
   rw[List.find?_eq_some_iff_getElem]
   exact⟨hx,k,hk,rfl,fun j hjk=>by have:=hj j hjk;simpa using this⟩
theorem aMn {l:List Int}{v:Int}:decide (0≤kY (isI v) l)=decide (v∈l):=by
 apply Bool.eq_iff_iff.2
 rw[decide_eq_true_eq,decide_eq_true_eq]
 constructor
 ·intro h
  obtain⟨k,x,_,hx,hf⟩:=qP.2 h
  have h1:=List.find?_some hf
  have:v=x:=by simpa [isI] using h1
  rw[this];exact List.mem_of_getElem? hx
 ·intro h
  rcases Int.lt_or_le (kY (isI v) l) 0 with q | q
  ·have:=qP.1 q
   rw[List.find?_eq_none] at this
   exact absurd (this v h) (by simp[isI])
  ·exact q
def aL (d:aV)(n:ByteArray):bA × Bool:=if jG d=true then (match d.tables.find? (isN n) with | some t=>(t,true) | none=>(gH,false)) else (gH,false)
theorem aCf {d:aV}{n:ByteArray}(h:jG d=false∨d.tables.find? (isN n)=none):aL d n=(gH,false):=by
 unfold aL
 rcases h with h | h
 ·rw[if_neg (by rw[h];decide)]
 ·rw[h];split<;>rfl
theorem aJo {d:aV}{n:ByteArray}{t:bA}(h:jG d=true)(hf:d.tables.find? (isN n)=some t):aL d n=(t,true):=by rw[aL,if_pos h,hf]
theorem aTk {d:aV}(h:jG d=true):d.tables.all aX=true:=by
 simp only[jG,Bool.and_eq_true] at h
 exact h.1
theorem nM {d:aV}{n:ByteArray}(h:(aL d n).2=true):aX (aL d n).1=true∧jG d=true:=by
 unfold aL at*
 split at h
 ·rename_i hd
  rw[if_pos hd]
  cases e:d.tables.find? (isN n) with
  | none=>rw[e] at h;cases h
  | some t=>exact⟨List.all_eq_true.1 (aTk hd) t (List.mem_of_find?_eq_some e),hd⟩
 ·cases h
abbrev aTl (t:bA)(n:ByteArray):Prop:=cH Tryz.prog 136 [.agg [.str t.name,.int .i64 t.arity,.sl 91 1 (t.rows.map aC)],.ref [.str n]] (vB (isN n t)) []
theorem aYt (t:bA)(n:ByteArray):aTl t n:=by
 refine aW bH aO Tryz.func136 (by kernel_rfl) (.fin []) (p:=(t.rows.map aC).length≤9223372036854775807→(t.name.toList==n.toList)=(isN n t)∧True) (by kernel_rfl) ?_
 intro n0
 simp only[List.length_map] at n0
 refine⟨?_,trivial⟩
 ·rfl
abbrev aTm (l:List bA)(n:ByteArray):Prop:=cH Tryz.prog 135 [.one (.sl 142 3 (l.map aT)),.fn 136 [[.str n]]] (vI (kY (isN n) l)) []
theorem aYu (l:List bA)(n:ByteArray):aTm l n:=by
 refine aW bH aO Tryz.func135 (by kernel_rfl) (.len l.length<| .loop Nat (Q1 Nat) ([5]++rg 8 9++[18]) [] (fun k=>[(8,vI (k:Int))]) (fun k=>[]) (fun k=>k≤l.length∧(l.take k).all (fun y=> !isN n y)=true) (fun k=>l.length - k) (fun k=> .br (.elem _ aT l (fun e14=> .call (vB (isN n e14)) []<| .br (.fin []) (.back []))) (.fin []))) (p:=(l.map aT).length≤9223372036854775807→Lm aT l∧((∃(k:Nat),0=(k:Int)∧k≤l.length∧(l.take k).all (fun y=> !isN n y)=true)∧ ∀(k:Nat),(k≤l.length∧(l.take k).all (fun y=> !isN n y)=true)→Br ((k:Int)<(l.length:Int)) (0≤(k:Int)∧Em aT l k fun e14=>aTl e14 n∧Bb (isN n e14) ((k:Int)=(kY (isN n) l)∧True) (bO ((k:Int)+1)∧ ∃(k' :Nat),((k:Int)+1)=(k' :Int)∧(k' ≤l.length∧(l.take k').all (fun y=> !isN n y)=true)∧l.length - k' <l.length - k)) ((-1:Int)=(kY (isN n) l)∧True))) (by kernel_rfl) ?_
 intro n0
 simp only[List.length_map] at n0
 refine⟨List.length_map _,⟨0,rfl,Nat.zero_le _,rfl⟩,fun k ⟨hk,ha⟩=>?_⟩
 refine dd (fun c0=>?_) fun c0=>?_
 ·refine⟨by omega,rfl,by omega,fun e14 h14=>?_⟩
  refine⟨aYt _ _,db (fun c1=>?_) fun c1=>?_⟩
  ·have hE:=aLL (p:=isN n) h14 ha c1
   refine⟨?_,trivial⟩
   ·rw[hE]
  ·refine⟨⟨by omega,by omega⟩,?_⟩
   exact⟨k+1,rfl,⟨by omega,cL h14 ha (by simp[c1])⟩,by omega⟩
 ·have hE:=aFU (p:=isN n) (dC (by omega) ha)
  refine⟨?_,trivial⟩
  ·rw[hE]
abbrev aGk (d:aV)(n:ByteArray):AV × List (Nat × Rs):=(.tup [.agg [.p none (.str ((aL d n).1.name)),vI ((aL d n).1.arity),.own 0],vB ((aL d n).2)],[(0,.arr 91 1 true ((aL d n).1.rows.map aC))])
abbrev aO2 (d:aV)(n:ByteArray):Prop:=cH Tryz.prog 86 [.agg [.sl 142 3 (d.tables.map aT)],.one (.str n)] (aGk d n).1 (aGk d n).2
theorem rM (d:aV)(n:ByteArray)(hc:bR d≤1048576):aO2 d n:=by
 refine aW bH aO Tryz.func86 (by kernel_rfl) (.call (vI (kY (isN n) d.tables)) []<| .br (.fin []) (.call (vB (jG d)) []<| .lit<| .lit<| .br (.fin []) (.elem _ aT d.tables (fun e22=>bL (aBX e22)<| .fin [(0,2400)])))) (p:=(d.tables.map aT).length≤9223372036854775807→aTm d.tables n∧Br ((kY (isN n) d.tables)<0) (ByteArray.empty=((aL d n).1.name)∧0=((aL d n).1.arity)∧(false)=((aL d n).2)∧[]=(aL d n).1.rows.map aC∧True) (aD3 d∧Nr (jG d) (ByteArray.empty=((aL d n).1.name)∧0=((aL d n).1.arity)∧(false)=((aL d n).2)∧[]=(aL d n).1.rows.map aC∧True) (0≤(kY (isN n) d.tables)∧Em aT d.tables ((kY (isN n) d.tables).toNat) fun e22=>aGh e22∧e22.name=((aL d n).1.name)∧e22.arity=((aL d n).1.arity)∧(true)=((aL d n).2)∧e22.rows.map aC=(aL d n).1.rows.map aC∧True))) (by kernel_rfl) ?_
 intro n0
 simp only[List.length_map] at n0
 have q1:bR d=lB d.tables:=rfl
 have hg:=aWK (isN n) d.tables
 refine⟨aYu _ _,dd (fun g13=>?_) fun g13=>?_⟩
 ·have hbad:aL d n=(gH,false):=aCf (by (right;exact qP.1 (by omega)))
  refine⟨?_,?_,?_,?_,trivial⟩<;>((rw[hbad]<;>rfl))
 ·refine⟨aPn d,dm (fun c0=>?_) fun c0=>?_⟩
  ·have hbad:aL d n=(gH,false):=aCf (by (left;simpa using c0;done))
   refine⟨?_,?_,?_,?_,trivial⟩<;>((rw[hbad]<;>rfl))
  ·have hd:jG d=true:=by simpa using c0
   obtain⟨k,y,hk,hy,hf⟩:=qP.2 (show 0≤kY (isN n) d.tables by omega)
   have hok:=aJo hd hf
   refine⟨by omega,rfl,by omega,fun e22 h22=>?_⟩
   have hyx:y=e22:=by rw[hk] at h22;exact(aZ (by simpa using h22) hy)
   have q2:=aBI h22
   rw[hyx] at hok
   refine⟨aTi _ (by omega),?_,?_,?_,?_,trivial⟩<;>((rw[hok]<;>rfl))
abbrev aGl (d:aV)(n:ByteArray):AV × List (Nat × Rs):=(.tup [.agg [.p none (.str ((aL d n).1.name)),vI ((aL d n).1.arity),.own 0],vB ((aL d n).2)],[(0,.arr 91 1 true ((aL d n).1.rows.map aC))])
abbrev aO3 (d:aV)(n:ByteArray):Prop:=cH Tryz.prog 126 [.agg [.sl 142 3 (d.tables.map aT)],.one (.str n)] (aGl d n).1 (aGl d n).2
theorem rN (d:aV)(n:ByteArray)(hc:bR d≤1048576):aO3 d n:=by
 refine aW bH aO Tryz.func126 (by kernel_rfl) (.loop Nat (Q1 Nat) (rg 6 20) [] (fun k=>[(6,vI (k:Int))]) (fun k=>[]) (fun k=>k≤d.tables.length∧(d.tables.take k).all (fun y=> !isN n y)=true) (fun k=>d.tables.length - k) (fun k=> .len d.tables.length<| .br (.call (vB (jG d)) []<| .lit<| .br (.elem _ aT d.tables (fun e21=> .br (.elem _ aT d.tables (fun e29=>bL (aBY e29)<| .fin [(0,3100)])) (.back []))) (.fin [])) (.fin []))) (p:=(d.tables.map aT).length≤9223372036854775807→(∃(k:Nat),0=(k:Int)∧k≤d.tables.length∧(d.tables.take k).all (fun y=> !isN n y)=true)∧ ∀(k:Nat),(k≤d.tables.length∧(d.tables.take k).all (fun y=> !isN n y)=true)→Lm aT d.tables∧Br ((k:Int)<(d.tables.length:Int)) (aD4 d∧Bb (jG d) (0≤(k:Int)∧Em aT d.tables k fun e21=>Bb (e21.name.toList==n.toList) (0≤(k:Int)∧Em aT d.tables k fun e29=>aGi e29∧e29.name=((aL d n).1.name)∧e29.arity=((aL d n).1.arity)∧(true)=((aL d n).2)∧e29.rows.map aC=(aL d n).1.rows.map aC∧True) (bO ((k:Int)+1)∧ ∃(k' :Nat),((k:Int)+1)=(k' :Int)∧(k' ≤d.tables.length∧(d.tables.take k').all (fun y=> !isN n y)=true)∧d.tables.length - k' <d.tables.length - k)) (ByteArray.empty=((aL d n).1.name)∧0=((aL d n).1.arity)∧(false)=((aL d n).2)∧[]=(aL d n).1.rows.map aC∧True)) (ByteArray.empty=((aL d n).1.name)∧0=((aL d n).1.arity)∧(false)=((aL d n).2)∧[]=(aL d n).1.rows.map aC∧True)) (by kernel_rfl) ?_
 intro n0
 simp only[List.length_map] at n0
 have q1:bR d=lB d.tables:=rfl
 refine⟨⟨0,rfl,Nat.zero_le _,rfl⟩,fun k ⟨hk,ha⟩=>?_⟩
 refine⟨List.length_map _,dd (fun g12=>?_) fun g12=>?_⟩
 ·refine⟨aPo d,db (fun c0=>?_) fun c0=>?_⟩
  ·refine⟨by omega,rfl,by omega,fun e21 h21=>?_⟩
   try (obtain rfl:=(aZ h21 h21).symm)
   have q2:=aBI h21
   refine db (fun c1=>?_) fun c1=>?_
   ·have hok:=aJo (n:=n) c0 (aLI (p:=isN n) h21 ha c1)
    refine⟨by omega,rfl,by omega,fun e29 h29=>?_⟩
    try (obtain rfl:=(aZ h21 h29).symm)
    refine⟨aTj _ (by omega),?_,?_,?_,?_,trivial⟩<;>((rw[hok]<;>rfl))
   ·refine⟨⟨by omega,by omega⟩,?_⟩
    exact⟨k+1,rfl,⟨by omega,cL h21 ha (by simp[isN,c1])⟩,by omega⟩
  ·have hbad:aL d n=(gH,false):=aCf (by (left;exact c0))
   refine⟨?_,?_,?_,?_,trivial⟩<;>((rw[hbad]<;>rfl))
 ·have hbad:aL d n=(gH,false):=aCf (by (right;exact aLJ (dC (by omega) ha)))
  refine⟨?_,?_,?_,?_,trivial⟩<;>((rw[hbad]<;>rfl))
abbrev aWp (l:List Int)(v:Int):Prop:=cH Tryz.prog 235 [.one (.sl 3 1 (l.map intD)),.one (.int .i64 v)] (vI (kY (isI v) l)) []
theorem ixI (l:List Int)(v:Int):aWp l v:=by
 refine aW bH aO Tryz.func235 (by kernel_rfl) (.len l.length<| .loop Nat (Q1 Nat) ([5]++rg 8 9++[18]) [] (fun k=>[(8,vI (k:Int))]) (fun k=>[]) (fun k=>k≤l.length∧(l.take k).all (fun y=> !isI v y)=true) (fun k=>l.length - k) (fun k=> .br (.elem _ intD l (fun e14=> .br (.fin []) (.back []))) (.fin []))) (p:=(l.map intD).length≤9223372036854775807→Lm intD l∧((∃(k:Nat),0=(k:Int)∧k≤l.length∧(l.take k).all (fun y=> !isI v y)=true)∧ ∀(k:Nat),(k≤l.length∧(l.take k).all (fun y=> !isI v y)=true)→Br ((k:Int)<(l.length:Int)) (0≤(k:Int)∧Em intD l k fun e14=>Br (v=e14) ((k:Int)=(kY (isI v) l)∧True) (bO ((k:Int)+1)∧ ∃(k' :Nat),((k:Int)+1)=(k' :Int)∧(k' ≤l.length∧(l.take k').all (fun y=> !isI v y)=true)∧l.length - k' <l.length - k)) ((-1:Int)=(kY (isI v) l)∧True))) (by kernel_rfl) ?_
 intro n0
 simp only[List.length_map] at n0
 refine⟨List.length_map _,⟨0,rfl,Nat.zero_le _,rfl⟩,fun k ⟨hk,ha⟩=>?_⟩
 refine dd (fun c0=>?_) fun c0=>?_
 ·refine⟨by omega,rfl,by omega,fun e14 h14=>?_⟩
  refine dd (fun c1=>?_) fun c1=>?_
  ·have hE:=aLL (p:=isI v) h14 ha (by simpa [isI] using c1)
   refine⟨?_,trivial⟩
   ·rw[hE]
  ·refine⟨⟨by omega,by omega⟩,?_⟩
   exact⟨k+1,rfl,⟨by omega,cL h14 ha (by simpa [isI] using c1)⟩,by omega⟩
 ·have hE:=aFU (p:=isI v) (dC (by omega) ha)
  refine⟨?_,trivial⟩
  ·rw[hE]
abbrev aMo (l:List Int)(v:Int):Prop:=cH Tryz.prog 192 [.one (.sl 3 1 (l.map intD)),.one (.int .i64 v)] (vB (decide (v∈l))) []
theorem ctI (l:List Int)(v:Int):aMo l v:=by
 refine aW bH aO Tryz.func192 (by kernel_rfl) (.call (vI (kY (isI v) l)) []<| .fin []) (p:=(l.map intD).length≤9223372036854775807→aWp l v∧(decide (0≤(kY (isI v) l)))=(decide (v∈l))∧True) (by kernel_rfl) ?_
 intro n0
 simp only[List.length_map] at n0
 refine⟨ixI _ _,?_,trivial⟩
 ·exact aMn
abbrev aTn (l:List Int)(v:Int):Prop:=cH Tryz.prog 183 [.one (.sl 3 1 (l.map intD)),.one (.int .i64 v)] (vB (decide (v∈l))) []
theorem hsI (l:List Int)(v:Int):aTn l v:=by
 refine aW bH aO Tryz.func183 (by kernel_rfl) (.loop Nat (Q1 Nat) (rg 5 13) [] (fun k=>[(5,vI (k:Int))]) (fun k=>[]) (fun k=>k≤l.length∧(l.take k).all (fun y=> !isI v y)=true) (fun k=>l.length - k) (fun k=> .len l.length<| .br (.elem _ intD l (fun e14=> .br (.fin []) (.back []))) (.fin []))) (p:=(l.map intD).length≤9223372036854775807→(∃(k:Nat),0=(k:Int)∧k≤l.length∧(l.take k).all (fun y=> !isI v y)=true)∧ ∀(k:Nat),(k≤l.length∧(l.take k).all (fun y=> !isI v y)=true)→Lm intD l∧Br ((k:Int)<(l.length:Int)) (0≤(k:Int)∧Em intD l k fun e14=>Br (e14=v) ((true)=(decide (v∈l))∧True) (bO ((k:Int)+1)∧ ∃(k' :Nat),((k:Int)+1)=(k' :Int)∧(k' ≤l.length∧(l.take k').all (fun y=> !isI v y)=true)∧l.length - k' <l.length - k)) ((false)=(decide (v∈l))∧True)) (by kernel_rfl) ?_
 intro n0
 simp only[List.length_map] at n0
 refine⟨⟨0,rfl,Nat.zero_le _,rfl⟩,fun k ⟨hk,ha⟩=>?_⟩
 refine⟨List.length_map _,dd (fun c0=>?_) fun c0=>?_⟩
 ·refine⟨by omega,rfl,by omega,fun e14 h14=>?_⟩
  refine dd (fun c1=>?_) fun c1=>?_
  ·have hE:decide (v∈l)=true:=by rw[←c1];exact decide_eq_true (List.mem_of_getElem? h14)
   refine⟨?_,trivial⟩
   ·rw[hE]
  ·refine⟨⟨by omega,by omega⟩,?_⟩
   exact⟨k+1,rfl,⟨by omega,cL h14 ha (by simpa [isI] using fun q=>c1 (Eq.symm q))⟩,by omega⟩
 ·have hE:decide (v∈l)=false:=by rw[←aMn,aFU (p:=isI v) (dC (by omega) ha)];rfl
  refine⟨?_,trivial⟩
  ·rw[hE]
def iJ (d:aV)(f:bD):Bool:=(aL d f.name).2&&(dW ((aL d f.name).1.arity - 1) f.src&&(eI f.dst 0 ((aL d f.name).1.arity - 1)&& !decide (f.dst∈f.src)))
def aO4 (rows:List (List Int))(cols:List Int)(c:Int)(i k:Nat):Bool:=decide ((fH (rows.getD i []) cols).1=(fH (rows.getD k []) cols).1)&& !decide ((rows.getD i []).getD c.toNat 0=(rows.getD k []).getD c.toNat 0)
def kO (rows:List (List Int))(cols:List Int)(c:Int)(k:Nat):Nat→List Int
 | 0=>[]
 | i+1=>if kO rows cols c k i= []∧aO4 rows cols c i k=true then [(i:Int),(k:Int)] else kO rows cols c k i
def lD (rows:List (List Int))(cols:List Int)(c:Int):Nat→List Int
 | 0=>[]
 | k+1=>if lD rows cols c k= [] then kO rows cols c k k else lD rows cols c k
def kE (d:aV)(f:bD):List Int:=if iJ d f=true then lD (aL d f.name).1.rows f.src f.dst (aL d f.name).1.rows.length else []
theorem aCg {rows:List (List Int)}{cols:List Int}{c:Int}{k i:Nat}(h:kO rows cols c k i= [])(hb:aO4 rows cols c i k=false):kO rows cols c k (i+1)= []:=by rw[kO,if_neg (by simp[hb]),h]
theorem aGm {rows:List (List Int)}{cols:List Int}{c:Int}{k i:Nat}(h: ¬kO rows cols c k i= []): ∀j,kO rows cols c k (i+j)=kO rows cols c k i
 | 0=>rfl
 | j+1=>by rw[Nat.add_succ,kO,aGm h j,if_neg (by simp[h])]
theorem aGn {rows:List (List Int)}{cols:List Int}{c:Int}{k:Nat}(h: ¬lD rows cols c k= []): ∀j,lD rows cols c (k+j)=lD rows cols c k
 | 0=>rfl
 | j+1=>by rw[Nat.add_succ,lD,aGn h j,if_neg h]
theorem aGo {rows:List (List Int)}{cols:List Int}{c:Int}{k i n:Nat}(hk:lD rows cols c k= [])(hi:kO rows cols c k i= [])(hb:aO4 rows cols c i k=true)(hik:i<k)(hkn:k<n):lD rows cols c n= [(i:Int),(k:Int)]:=by
 have h1:kO rows cols c k (i+1)= [(i:Int),(k:Int)]:=by rw[kO,if_pos ⟨hi,hb⟩]
 have h2:kO rows cols c k k= [(i:Int),(k:Int)]:=by
  have:=aGm (rows:=rows) (cols:=cols) (c:=c) (k:=k) (i:=i+1) (by rw[h1];simp) (k - (i+1))
  rw[show i+1+(k - (i+1))=k by omega,h1] at this
  exact this
 have h3:lD rows cols c (k+1)= [(i:Int),(k:Int)]:=by rw[lD,if_pos hk,h2]
 have:=aGn (rows:=rows) (cols:=cols) (c:=c) (k:=k+1) (by rw[h3];simp) (n - (k+1))
 rw[show k+1+(n - (k+1))=n by omega,h3] at this
 exact this
theorem aGp {rows:List (List Int)}{cols:List Int}{c:Int}{k:Nat}(hk:lD rows cols c k= [])(hi:kO rows cols c k k= []):lD rows cols c (k+1)= []:=by rw[lD,if_pos hk,hi]
theorem aEH {d:aV}{f:bD}(h:iJ d f=true):aX (aL d f.name).1=true∧0≤f.dst∧f.dst≤(aL d f.name).1.arity - 1∧f.src.length≤3:=by
 simp only[iJ,Bool.and_eq_true] at h
 obtain⟨h1,h2,h3,_⟩:=h
 have hT:=(nM h1).1
 have ha:=cE hT
 have:=eG h3
 exact⟨hT,this.1,this.2,aC7 h2 (by omega)⟩
theorem aPp {rows:List (List Int)}{cols:List Int}{c:Int}{i k:Nat}{x y:List Int}(hx:rows[i]? =some x)(hy:rows[k]? =some y):aO4 rows cols c i k=(decide ((fH x cols).1=(fH y cols).1)&& !decide (x.getD c.toNat 0=y.getD c.toNat 0)):=by
 rw[aO4,bQ hx,bQ hy]
def kP (d:aV)(f:bD):Bool:=iJ d f&&decide (kE d f= [])
theorem aMp {α:Type}[DecidableEq α](l:List α):decide ((l.length:Int)=0)=decide (l= []):=by
 cases l with
 | nil=>rfl
 | cons a l=>simp;omega
abbrev vA (d:aV)(f:bD):Prop:=cH Tryz.prog 231 [.agg [.sl 142 3 (d.tables.map aT)],.agg [.str f.name,.sl 3 1 (f.src.map intD),.int .i64 f.dst]] (vB (iJ d f)) []
theorem aGq (d:aV)(f:bD)(hc:bR d≤1048576):vA d f:=by
 refine aW bH aO Tryz.func231 (by kernel_rfl) (.call (.tup [.agg [.p none (.str ((aL d f.name).1.name)),vI ((aL d f.name).1.arity),.p none (.sl 91 1 ((aL d f.name).1.rows.map aC))],vB ((aL d f.name).2)]) []<| .br (.call (vB (dW (((aL d f.name).1.arity) - 1) f.src)) []<| .lit<| .br (.raw<| .call (vB (eI f.dst (0:Int) (IntKind.i64.wrap (((aL d f.name).1.arity) - 1)))) []<| .lit<| .br (.call (vB (decide (f.dst∈f.src))) []<| .fin []) (.fin [])) (.fin [])) (.fin [])) (p:=(d.tables.map aT).length≤9223372036854775807→(f.src.map intD).length≤9223372036854775807→cH Tryz.prog 86 [.agg [.sl 142 3 (d.tables.map aT)],.one (.str f.name)] (.tup [.agg [.p none (.str ((aL d f.name).1.name)),vI ((aL d f.name).1.arity),.p none (.sl 91 1 ((aL d f.name).1.rows.map aC))],vB ((aL d f.name).2)]) []∧Bb ((aL d f.name).2) (yG f.src ((aL d f.name).1.arity)∧Bb (dW (((aL d f.name).1.arity) - 1) f.src) (eW f.dst (0:Int) (IntKind.i64.wrap (((aL d f.name).1.arity) - 1))∧Bb (eI f.dst (0:Int) (IntKind.i64.wrap (((aL d f.name).1.arity) - 1))) (aMo f.src f.dst∧(!(decide (f.dst∈f.src)))=(iJ d f)∧True) ((false)=(iJ d f)∧True)) ((false)=(iJ d f)∧True)) ((false)=(iJ d f)∧True)) (by kernel_rfl) ?_
 intro n0 n1
 simp only[List.length_map] at n0 n1
 refine⟨jT (rM _ f.name (by omega)) rfl,db (fun g15=>?_) fun g15=>?_⟩
 ·have hT:=(nM g15).1
  have hA:=cE hT
  have hw:IntKind.i64.wrap ((aL d f.name).1.arity - 1)=(aL d f.name).1.arity - 1:=IntWalk.i64_in _ ⟨by omega,by omega⟩
  try rw[hw]
  refine⟨aJc _ _ (by omega),db (fun g22=>?_) fun g22=>?_⟩
  ·refine⟨iV _ _ _,db (fun g30=>?_) fun g30=>?_⟩
   ·refine⟨ctI _ _,?_,trivial⟩
    ·(simp[iJ, *];done)
   ·refine⟨?_,trivial⟩
    ·(simp[iJ, *];done)
  ·refine⟨?_,trivial⟩
   ·(simp[iJ, *];done)
 ·refine⟨?_,trivial⟩
  ·(simp[iJ, *];done)
abbrev vC (d:aV)(f:bD):Prop:=cH Tryz.prog 222 [.agg [.sl 142 3 (d.tables.map aT)],.agg [.str f.name,.sl 3 1 (f.src.map intD),.int .i64 f.dst]] (vB (iJ d f)) []
theorem aGr (d:aV)(f:bD)(hc:bR d≤1048576):vC d f:=by
 refine aW bH aO Tryz.func222 (by kernel_rfl) (.call (.tup [.agg [.p none (.str ((aL d f.name).1.name)),vI ((aL d f.name).1.arity),.p none (.sl 91 1 ((aL d f.name).1.rows.map aC))],vB ((aL d f.name).2)]) []<| .br (.call (vB (aX ((aL d f.name).1)&&dW ((aL d f.name).1.arity - 1) f.src)) []<| .lit<| .br (.raw<| .call (vB (eI f.dst (0:Int) (IntKind.i64.wrap (((aL d f.name).1.arity) - 1)))) []<| .lit<| .br (.call (vB (decide (f.dst∈f.src))) []<| .fin []) (.fin [])) (.fin [])) (.fin [])) (p:=(d.tables.map aT).length≤9223372036854775807→(f.src.map intD).length≤9223372036854775807→cH Tryz.prog 126 [.agg [.sl 142 3 (d.tables.map aT)],.one (.str f.name)] (.tup [.agg [.p none (.str ((aL d f.name).1.name)),vI ((aL d f.name).1.arity),.p none (.sl 91 1 ((aL d f.name).1.rows.map aC))],vB ((aL d f.name).2)]) []∧Bb ((aL d f.name).2) (yH ((aL d f.name).1) f.src∧Bb (aX ((aL d f.name).1)&&dW ((aL d f.name).1.arity - 1) f.src) (eX f.dst (0:Int) (IntKind.i64.wrap (((aL d f.name).1.arity) - 1))∧Bb (eI f.dst (0:Int) (IntKind.i64.wrap (((aL d f.name).1.arity) - 1))) (aTn f.src f.dst∧(!(decide (f.dst∈f.src)))=(iJ d f)∧True) ((false)=(iJ d f)∧True)) ((false)=(iJ d f)∧True)) ((false)=(iJ d f)∧True)) (by kernel_rfl) ?_
 intro n0 n1
 simp only[List.length_map] at n0 n1
 refine⟨jT (rN _ f.name (by omega)) rfl,db (fun g15=>?_) fun g15=>?_⟩
 ·have hT:=(nM g15).1
  have hA:=cE hT
  have hw:IntKind.i64.wrap ((aL d f.name).1.arity - 1)=(aL d f.name).1.arity - 1:=IntWalk.i64_in _ ⟨by omega,by omega⟩
  try rw[hw]
  refine⟨aJd ((aL d f.name).1) _,db (fun g21=>?_) fun g21=>?_⟩
  ·refine⟨iW _ _ _,db (fun g29=>?_) fun g29=>?_⟩
   ·refine⟨hsI _ _,?_,trivial⟩
    ·(simp[iJ, *] at*;simp[*];done)
   ·refine⟨?_,trivial⟩
    ·(simp[iJ, *];done)
  ·refine⟨?_,trivial⟩
   ·(simp[iJ, *] at*;simp[*];done)
 ·refine⟨?_,trivial⟩
  ·(simp[iJ, *];done)
end Go.Proofs.YtlidmoeecphbmaaGreat
namespace Go.Proofs
open Go.Shelf
namespace YtlidmoeecphbmaaGreat
shelf_lay Lays.n189 Nm 189 at Tryz as Tryz.lays189
end YtlidmoeecphbmaaGreat
end Go.Proofs
namespace Go.Proofs.YtlidmoeecphbmaaGreat
open Go.ChangeShapes Go.WideShapes Go.ChangeAt Go.RowKit
set_option linter.unusedVariables false
set_option linter.unusedSimpArgs false
theorem aD5 {w:World}: ∀{l:List Int} {css:List (List Value)} {Fs:List (List Nat)},cR w 1 (l.map intD) css Fs→css.flatten=l.map (Value.int .i64)∧Fs.flatten= []
 | [],css,Fs,h=>by
   simp only[List.map_nil] at h
   unfold cR at h
   rw[h.1,h.2];simp
 | n::l,css,Fs,h=>by
   simp only[List.map_cons] at h
   unfold cR at h
   obtain⟨c,css',F,Fs',rfl,rfl,_,h1,h2⟩:=h
   obtain⟨q1,q2⟩:=aD5 h2
   unfold intD dH at h1
   obtain⟨v,cs',F1,F2,rfl,rfl,h3,h4⟩:=h1
   unfold dH at h4
   unfold oX at h3
   simp[q1,q2,h4.1,h4.2,h3.1,h3.2]
theorem vD (w:World): ∀(l:List Int),cR w 1 (l.map intD) (l.map fun n=>[Value.int .i64 n]) (l.map fun _=>[])
 | []=>by simp only[List.map_nil];unfold cR;exact⟨rfl,rfl⟩
 | n::l=>by
   simp only[List.map_cons]
   unfold cR
   refine⟨_,_,_,_,rfl,rfl,rfl,?_,vD w l⟩
   unfold intD dH
   refine⟨_,_,[],[],rfl,rfl,?_,?_⟩
   ·unfold oX;exact⟨rfl,rfl⟩
   ·unfold dH;exact⟨rfl,rfl⟩
theorem aD6: ∀(m:List Int),(m.map fun n=>[Value.int .i64 n]).flatten=m.map (Value.int .i64)
 | []=>rfl
 | a::l=>by simp only[List.map_cons,List.flatten_cons,aD6 l];rfl
theorem aJp {P:Program}{f:FuncId}{e:Nat}(l m:List Int)(hc:jE P f=true)(hm:m.length=l.length)
 (hn0:l= []→ ∀w,Calls P f #[.slice none 0 0] w (fun ex w' =>ex= .returned (.tuple #[])∧w' =w))
 (hs: ∀(blk cap:Nat) (w:World),Go.Sort.Holds (Value.int .i64) w blk 0 l.toArray→blk<w.heap.size→l.length≤cap→Calls P f #[.slice (some ⟨blk,0,none⟩) l.length cap] w (fun ex w' =>ex= .returned (.tuple #[])∧ ∃n os,w' =Go.Sort.grow (Go.Sort.putRow (Value.int .i64) (Go.Sort.ahead w n) blk 0 m.toArray) os)):
 rB P f [.own 0] [(0,.arr e 1 true (l.map intD))] (.tup []) [(0,.arr e 1 true (m.map intD))]:=by
 refine⟨hc,by simp,fun A φ w vs hI hM=>?_⟩
 obtain⟨pl,hp,css,Fs,q1,q2,q3,q4⟩:=hI.dom 0 _ rfl
 unfold aQ at hM
 obtain⟨v,us,e1,m1,hM⟩:=hM
 unfold aQ at hM
 unfold aI at m1
 have hv:=m1 pl hp
 have ev:vs= #[pl.val]:=by apply Array.ext';rw[e1,hM,hv]
 rw[ev]
 obtain⟨c1,c2⟩:=aD5 q4
 rw[c1,List.length_map] at q1
 have hge:=hI.ge 0 pl hp
 have hsub:pl.sub= []:=by rw[q3,c2]
 have hfoot: ∀b∈pl.F,aKl φ b:=fun b hb=>⟨0,pl,trivial,hp,hb⟩
 have hend: ∀(w' :World),lS pl.F w w' →w'.ownsRow 0 e 1 pl.val l.length (m.map (Value.int .i64))→
  ∃v K φ',Ending.returned (.tuple #[])= .returned v∧aQ9 A φ w [(0,.arr e 1 true (m.map intD))] K φ' w' ∧aI K φ' w' (.tup []) v:=by
  intro w' hon howns
  refine⟨_,A,fun h=>if h=0 then some pl else none,rfl,⟨⟨hon.os,hon.tape,hon.output,hon.size,fun b hb hn=>hon.block b hb (fun hm=>hn (hfoot b hm))⟩,fun _ h=>h,fun b hb=>⟨Nat.lt_of_lt_of_le (hI.lt b hb) hon.size,.inl hb⟩,fun b hb h pl1 e' hm' =>?_,fun h r hr=>?_,fun h hr=>?_,fun h h' pl1 pl2 hne ea eb=>?_,fun h pl1 e' =>?_,fun h pl1 e' g hg=>?_,fun h pl1 pl0 e' e0=>?_⟩,?_⟩
  ·split at e'
   ·injection e' with e';subst e'
    exact hI.out b hb 0 pl hp hm'
   ·cases e'
  ·simp only[bE] at hr
   split at hr
   ·rename_i eh
    subst eh
    injection hr with hr
    subst hr
    refine⟨pl,by simp,m.map fun n=>[Value.int .i64 n],m.map fun _=>[],?_,q2,?_,vD _ m⟩
    ·rw[aD6,List.length_map,hm];exact howns
    ·rw[hsub];simp
   ·cases hr
  ·simp only[bE] at hr
   split at hr
   ·cases hr
   ·rename_i eh;exact if_neg eh
  ·split at ea
   ·split at eb
    ·rename_i x y;exact absurd (x.trans y.symm) hne
    ·cases eb
   ·cases ea
  ·split at e'
   ·injection e' with e';subst e';exact hI.nodup 0 pl hp
   ·cases e'
  ·split at e'
   ·injection e' with e';subst e'
    exact⟨.inr (hfoot g hg),Nat.lt_of_lt_of_le (hge g hg) hon.size⟩
   ·cases e'
  ·split at e'
   ·rename_i eh
    subst eh
    rw[hp] at e0
    injection e0 with e0;injection e' with e'
    subst e0;subst e'
    exact⟨rfl,rfl⟩
   ·cases e'
  ·unfold aI
   exact⟨#[],rfl,by unfold aQ;rfl⟩
 rcases q1.2 with ⟨hvn,hz⟩ | ⟨g,cap,cur,hvv,hg0,hb,hn,hcap,hsz,htk⟩
 ·have hz' :l= []:=List.eq_nil_of_length_eq_zero hz
  rw[hvn]
  refine(hn0 hz' w).mono ?_
  rintro en w' ⟨rfl,rfl⟩
  have hm0:m= []:=List.eq_nil_of_length_eq_zero (by rw[hm,hz])
  refine hend w' (lS.refl _ _) ?_
  rw[hvn,hm0,hz]
  exact⟨by simp,.inl ⟨rfl,rfl⟩⟩
 ·have hlt:g<w.heap.size:=(Array.getElem?_eq_some_iff.1 hb).1
  have hH:Go.Sort.Holds (Value.int .i64) w g 0 l.toArray:=holds_of_blockI hb (by rw[Nat.mul_one] at htk;exact htk)
  rw[hvv]
  refine(hs g cap w hH hlt hn).mono ?_
  rintro en w' ⟨rfl,n,os,rfl⟩
  have hgb:=grownBy_sortedI (w:=w) (g:=g) (n:=n) (os:=os) m.toArray
  have hown:=ownsRow_sortedI (n:=n) (os:=os) hm hg0 hb hn hcap hsz
  refine hend _ ⟨hgb.os,hgb.tape,hgb.output,hgb.size,fun k hk hne=>hgb.block k hk (fun e=>hne (by injection e with e;subst e;unfold Pl.F;rw[q2,hvv];simp[Value.ownBlock]))⟩ ?_
  rw[hvv];exact hown
def jR (l:List Int):List Int:=l.mergeSort fun x y=>decide (x≤y)
theorem aGs (l:List Int):(jR l).Perm l:=List.mergeSort_perm l _
theorem tV (l:List Int):(jR l).length=l.length:=(aGs l).length_eq
theorem aO5 (l:List Int):(jR l).Pairwise (· ≤ ·):=by
 have:=List.pairwise_mergeSort (le:=fun x y:Int=>decide (x≤y)) (fun a b c h1 h2=>by simp at*;omega) (fun a b=>by simp;omega) l
 exact this.imp (fun h=>by simpa using h)
theorem aJq (l:List Int)(hl:l.length<4611686018427387904):rB Tryz.prog 250 [.own 0] [(0,.arr 3 1 true (l.map intD))] (.tup []) [(0,.arr 3 1 true ((jR l).map intD))]:=
 aJp l (jR l) (by kernel_rfl) (tV l)
  (fun h w=>Any.slices_Sort_int_none Tryz.lays189 none 0 w)
  (fun blk cap w hH hblk _=>Any.slices_Sort_int Tryz.lays189 blk 0 cap l w hH hblk hl)
end Go.Proofs.YtlidmoeecphbmaaGreat
namespace Go.Proofs
open Go.Shelf
namespace YtlidmoeecphbmaaGreat
shelf_lay_g SlLaysE.n43 Slgn 43 at Tryz 251 as Tryz.compInts
end YtlidmoeecphbmaaGreat
end Go.Proofs
namespace Go.Proofs.YtlidmoeecphbmaaGreat
open Go.ChangeShapes Go.WideShapes Go.ChangeAt Go.RowKit Go.Lib
set_option linter.unusedVariables false
set_option linter.unusedSimpArgs false
theorem aO6 {P:Program}{f:FuncId}{e:Nat}(l m:List Int)(hc:jE P f=true)(hm:m.length≤l.length)(hm0:l= []→m= [])
 (hn0:l= []→ ∀w,Calls P f #[.slice none 0 0] w (fun ex w' =>ex= .returned (.slice none 0 0)∧w' =w))
 (hs: ∀(blk cap:Nat) (w:World),Go.Sort.Holds (Value.int .i64) w blk 0 l.toArray→blk<w.heap.size→l.length≤cap→Calls P f #[.slice (some ⟨blk,0,none⟩) l.length cap] w (fun ex w' =>ex= .returned (.slice (some ⟨blk,0,none⟩) m.length cap)∧ ∃n os z,(m++z).length=l.length∧w' =Go.Sort.grow (Go.Sort.putRow (Value.int .i64) (Go.Sort.ahead w n) blk 0 (m++z).toArray) os)):
 rB P f [.own 0] [(0,.arr e 1 true (l.map intD))] (.own 1) [(1,.arr e 1 true (m.map intD))]:=by
 refine⟨hc,by simp,fun A φ w vs hI hM=>?_⟩
 obtain⟨pl,hp,css,Fs,q1,q2,q3,q4⟩:=hI.dom 0 _ rfl
 unfold aQ at hM
 obtain⟨v,us,e1,m1,hM⟩:=hM
 unfold aQ at hM
 unfold aI at m1
 have hv:=m1 pl hp
 have ev:vs= #[pl.val]:=by apply Array.ext';rw[e1,hM,hv]
 rw[ev]
 obtain⟨c1,c2⟩:=aD5 q4
 rw[c1,List.length_map] at q1
 have hge:=hI.ge 0 pl hp
 have hsub:pl.sub= []:=by rw[q3,c2]
 have hfoot: ∀b∈pl.F,aKl φ b:=fun b hb=>⟨0,pl,trivial,hp,hb⟩
 have h1:φ 1=none:=hI.non 1 rfl
 have hend: ∀(v' :Value) (w' :World),lS pl.F w w' →(∀b∈v'.ownBlock,b∈pl.val.ownBlock)→w'.ownsRow 0 e 1 v' m.length (m.map (Value.int .i64))→
  ∃v K φ',Ending.returned v' = .returned v∧aQ9 A φ w [(1,.arr e 1 true (m.map intD))] K φ' w' ∧aI K φ' w' (.own 1) v:=by
  intro v' w' hon hvb howns
  let pl' :Pl:=⟨v',v'.ownBlock.toList,[]⟩
  have hmem: ∀g,g∈pl'.F→g∈pl.F:=fun g hg=>by
   unfold Pl.F
   simp only[pl',Pl.F,List.append_nil,Option.mem_toList] at hg
   rw[q2]
   exact List.mem_append_left _ (by rw[Option.mem_toList];exact hvb g hg)
  have hnd' :pl'.F.Nodup:=by simp only[pl',Pl.F,List.append_nil];cases v'.ownBlock<;>simp
  refine⟨_,A,fun h=>if h=1 then some pl' else none,rfl,⟨⟨hon.os,hon.tape,hon.output,hon.size,fun b hb hn=>hon.block b hb (fun hm=>hn (hfoot b hm))⟩,fun _ h=>h,fun b hb=>⟨Nat.lt_of_lt_of_le (hI.lt b hb) hon.size,.inl hb⟩,fun b hb h pl1 e' hm' =>?_,fun h r hr=>?_,fun h hr=>?_,fun h h' pl1 pl2 hne ea eb=>?_,fun h pl1 e' =>?_,fun h pl1 e' g hg=>?_,fun h pl1 pl0 e' e0=>?_⟩,?_⟩
  ·split at e'
   ·injection e' with e';subst e'
    exact hI.out b hb 0 pl hp (hmem b hm')
   ·cases e'
  ·simp only[bE] at hr
   split at hr
   ·rename_i eh
    subst eh
    injection hr with hr
    subst hr
    refine⟨pl',by simp,m.map fun n=>[Value.int .i64 n],m.map fun _=>[],?_,rfl,?_,vD _ m⟩
    ·rw[aD6,List.length_map];exact howns
    ·simp[pl']
   ·cases hr
  ·simp only[bE] at hr
   split at hr
   ·cases hr
   ·rename_i eh;exact if_neg eh
  ·split at ea
   ·split at eb
    ·rename_i x y;exact absurd (x.trans y.symm) hne
    ·cases eb
   ·cases ea
  ·split at e'
   ·injection e' with e';subst e';exact hnd'
   ·cases e'
  ·split at e'
   ·injection e' with e';subst e'
    have:=hmem g hg
    exact⟨.inr (hfoot g this),Nat.lt_of_lt_of_le (hge g this) hon.size⟩
   ·cases e'
  ·split at e'
   ·rename_i eh
    subst eh
    rw[h1] at e0;cases e0
   ·cases e'
  ·unfold aI
   intro pl1 e'
   simp at e'
   subst e'
   rfl
 rcases q1.2 with ⟨hvn,hz⟩ | ⟨g,cap,cur,hvv,hg0,hb,hn,hcap,hsz,htk⟩
 ·have hz' :l= []:=List.eq_nil_of_length_eq_zero hz
  rw[hvn]
  refine(hn0 hz' w).mono ?_
  rintro en w' ⟨rfl,rfl⟩
  refine hend (.slice none 0 0) w' (lS.refl _ _) (fun b hb=>by cases hb) ?_
  rw[hm0 hz']
  exact⟨by simp,.inl ⟨rfl,rfl⟩⟩
 ·have hlt:g<w.heap.size:=(Array.getElem?_eq_some_iff.1 hb).1
  have hH:Go.Sort.Holds (Value.int .i64) w g 0 l.toArray:=holds_of_blockI hb (by rw[Nat.mul_one] at htk;exact htk)
  rw[hvv]
  refine(hs g cap w hH hlt hn).mono ?_
  rintro en w' ⟨rfl,n,os,z,hz,rfl⟩
  have hgb:=grownBy_sortedI (w:=w) (g:=g) (n:=n) (os:=os) (m++z).toArray
  have hown:=ownsRow_sortedI (n:=n) (os:=os) hz hg0 hb hn hcap hsz
  refine hend _ _ ⟨hgb.os,hgb.tape,hgb.output,hgb.size,fun k hk hne=>hgb.block k hk (fun e=>hne (by injection e with e;subst e;unfold Pl.F;rw[q2,hvv];simp[Value.ownBlock]))⟩ (fun b hb' =>by rw[hvv];exact hb') ?_
  rcases hown.2 with ⟨hvn,_⟩ | ⟨g',cap',cur',hv',hg',hb',hn',hcap',hsz',htk'⟩
  ·cases hvn
  ·simp only[Value.slice.injEq,Option.some.injEq,Addr.mk.injEq,and_true] at hv'
   obtain⟨rfl,_,rfl⟩:=hv'
   refine⟨by simp,.inr ⟨g,cap,cur',rfl,hg',hb',by omega,hcap',hsz',?_⟩⟩
   rw[Nat.mul_one] at*
   have h3:=congrArg (List.take m.length) htk'
   rw[List.take_take,Nat.min_eq_left hm,List.map_append,List.take_append_of_le_length (by simp)] at h3
   rw[h3,List.take_of_length_le (by simp)]
def sP (l:List Int):List Int:=compactUpTo l.toArray l.toArray.size
theorem aMq (l:List Int):(sP l).length≤l.length:=by
 unfold sP compactUpTo
 rw[List.length_map]
 have:=(List.filter_sublist (l:=List.range l.toArray.size) (p:=keeps l.toArray)).length_le
 simpa using this
theorem aJr {l:List Int}:sP l= []↔l= []:=by
 constructor
 ·intro h
  by_cases e:l= []
  ·exact e
  ·exfalso
   have hp:0<l.length:=List.length_pos_iff.2 e
   unfold sP compactUpTo at h
   rw[List.map_eq_nil_iff,List.filter_eq_nil_iff] at h
   exact h 0 (List.mem_range.2 (by simpa using hp)) (keeps_lt_one _ 0 (by omega))
 ·rintro rfl;rfl
theorem tyI:gE Tryz.prog 3=some (false,1,8,.int .i64 0):=by kernel_rfl
theorem aY3 (w:World):(zeroValue 3).run Tryz.prog w= .ok (.int .i64 0) w:=(fX tyI w).2.2.1
theorem aQu (l:List Int)(hl:l.length<4611686018427387904):rB Tryz.prog 251 [.own 0] [(0,.arr 3 1 true (l.map intD))] (.own 1) [(1,.arr 3 1 true ((sP l).map intD))]:=
 aO6 l (sP l) (by kernel_rfl) (aMq l) (fun h=>aJr.2 h)
  (fun h w=>by
   go_enter Tryz.func251,Tryz.ntmps251
   go_wp2
   go_ret
   exact⟨rfl,rfl⟩)
  (fun blk cap w hH hblk hn=>(AnyE.slices_Compact Tryz.compInts (Value.int .i64) (fun _=>rfl) (EqlAt.intD _ _ .i64) (NeqAt.intD _ _ .i64) 0 (fun w=>aY3 w) blk 0 cap l.toArray w hH (by rw[List.size_toArray];omega) (by rw[List.size_toArray];exact hn)).mono fun e w' ⟨he,q,hw⟩=>
   ⟨by have e1:l.toArray.size=l.length:=by simp
       rw[e1] at he;unfold sP;rw[e1];exact he,q,#[],List.replicate (l.length - (sP l).length) 0,by have:=aMq l;simp;omega,by rw[hw,Go.Sort.grow_empty];simp[sP]⟩)
end Go.Proofs.YtlidmoeecphbmaaGreat
namespace Go.Proofs.YtlidmoeecphbmaaGreat
open Go.ChangeShapes Go.WideShapes Go.ChangeAt Go.RowKit
set_option linter.unusedVariables false
set_option linter.unusedSimpArgs false
set_option maxRecDepth 100000
set_option maxHeartbeats 4000000
def gR (d:aV)(x:bB):Bool:=(aL d x.name).2&&((aL d x.into).2&&(eI x.column 0 ((aL d x.name).1.arity - 1)&&eI x.intoColumn 0 ((aL d x.into).1.arity - 1)))
def iK (rows:List (List Int))(c:Int):List Int:=rows.map fun r=>r.getD c.toNat 0
def aEI (d:aV)(x:bB):List Int:=(iK (aL d x.name).1.rows x.column).filter fun v=> !decide (v∈iK (aL d x.into).1.rows x.intoColumn)
def wH (d:aV)(x:bB):List Int:=if gR d x=true then sP (jR (aEI d x)) else []
def aCh (d:aV)(x:bB)(v:Nat):Bool:=decide ((v:Int)∈iK (aL d x.name).1.rows x.column)&& !decide ((v:Int)∈iK (aL d x.into).1.rows x.intoColumn)
def nW (d:aV)(x:bB)(n:Nat):List Int:=((List.range n).filter (aCh d x)).map fun v:Nat=>(v:Int)
def wI (d:aV)(x:bB):List Int:=if gR d x=true then nW d x 10 else []
def kQ (d:aV)(x:bB):Bool:=gR d x&&decide (aEI d x= [])
theorem aQv {d:aV}{x:bB}{v:Nat}(h:aCh d x v=true):nW d x (v+1)=nW d x v++[(v:Int)]:=by
 rw[nW,List.range_succ,List.filter_append,List.map_append]
 simp[nW,h]
theorem aMr {d:aV}{x:bB}{v:Nat}(h:aCh d x v=false):nW d x (v+1)=nW d x v:=by
 rw[nW,List.range_succ,List.filter_append,List.map_append]
 simp[nW,h]
theorem aQw (d:aV)(x:bB)(v:Nat):(nW d x v).length≤v:=by
 rw[nW,List.length_map]
 have:=List.length_filter_le (aCh d x) (List.range v)
 rwa [List.length_range] at this
theorem mF (rows:List (List Int))(c:Int){k:Nat}{r:List Int}(h:rows[k]? =some r):iK (rows.take (k+1)) c=iK (rows.take k) c++[r.getD c.toNat 0]:=by rw[bU h,iK,List.map_append];rfl
theorem tW {l:List Int}{v y:Int}:decide (v∈l++[y])=(decide (v∈l) || decide (v=y)):=by simp[Bool.decide_or]
theorem aQx {t:bA}{c:Int}{v:Int}(h:aX t=true)(hc:0≤c∧c≤t.arity - 1)(hv:v∈iK t.rows c):0≤v∧v≤9:=by
 obtain⟨r,hr,rfl⟩:=List.mem_map.1 hv
 have hl:=pA h hr
 have hk:=List.all_eq_true.1 (oZ h).1 r hr
 simp only[jX,Bool.and_eq_true,decide_eq_true_eq] at hk
 have hlt:c.toNat<r.length:=by omega
 have hm:r.getD c.toNat 0∈r:=by rw[List.getD_eq_getElem?_getD,List.getElem?_eq_getElem hlt];exact List.getElem_mem hlt
 exact eG (List.all_eq_true.1 hk.1 _ hm)
theorem yP {d:aV}{x:bB}(h:gR d x=true):aX (aL d x.name).1=true∧aX (aL d x.into).1=true∧(0≤x.column∧x.column≤(aL d x.name).1.arity - 1)∧(0≤x.intoColumn∧x.intoColumn≤(aL d x.into).1.arity - 1):=by
 simp only[gR,Bool.and_eq_true] at h
 obtain⟨h1,h2,h3,h4⟩:=h
 exact⟨(nM h1).1,(nM h2).1,eG h3,eG h4⟩
theorem aQy {d:aV}{x:bB}(h:gR d x=true):decide (wH d x= [])=decide (aEI d x= []):=by
 rw[wH,if_pos h]
 apply Bool.eq_iff_iff.2
 rw[decide_eq_true_eq,decide_eq_true_eq,aJr]
 constructor
 ·intro q
  have:=tV (aEI d x)
  rw[q] at this
  exact List.eq_nil_of_length_eq_zero this.symm
 ·intro q
  have:=tV (aEI d x)
  rw[q] at this
  rw[q]
  exact List.eq_nil_of_length_eq_zero this
theorem aQz {d:aV}{x:bB}(h:gR d x=true):decide (wI d x= [])=decide (aEI d x= []):=by
 obtain⟨h1,_,h3,_⟩:=yP h
 rw[wI,if_pos h]
 apply Bool.eq_iff_iff.2
 rw[decide_eq_true_eq,decide_eq_true_eq,nW,List.map_eq_nil_iff,List.filter_eq_nil_iff,aEI,List.filter_eq_nil_iff]
 constructor
 ·intro q v hv hb
  have hr:=aQx h1 h3 hv
  refine q v.toNat (List.mem_range.2 (by omega)) ?_
  rw[aCh,Int.toNat_of_nonneg hr.1]
  simp only[Bool.and_eq_true,decide_eq_true_eq]
  exact⟨hv,hb⟩
 ·intro q v _ hb
  rw[aCh,Bool.and_eq_true,decide_eq_true_eq] at hb
  exact q _ hb.1 hb.2
abbrev vE (d:aV)(x:bB):Prop:=cH Tryz.prog 233 [.agg [.sl 142 3 (d.tables.map aT)],.agg [.str x.name,.int .i64 x.column,.str x.into,.int .i64 x.intoColumn]] (vB (gR d x)) []
theorem aGt (d:aV)(x:bB)(hc:bR d≤1048576):vE d x:=by
 refine aW bH aO Tryz.func233 (by kernel_rfl) (.call (.tup [.agg [.p none (.str ((aL d x.name).1.name)),vI ((aL d x.name).1.arity),.p none (.sl 91 1 ((aL d x.name).1.rows.map aC))],vB ((aL d x.name).2)]) []<| .call (.tup [.agg [.p none (.str ((aL d x.into).1.name)),vI ((aL d x.into).1.arity),.p none (.sl 91 1 ((aL d x.into).1.rows.map aC))],vB ((aL d x.into).2)]) []<| .br (.lit<| .br (.raw<| .call (vB (eI x.column (0:Int) (IntKind.i64.wrap (((aL d x.name).1.arity) - 1)))) []<| .lit<| .br (.raw<| .call (vB (eI x.intoColumn (0:Int) (IntKind.i64.wrap (((aL d x.into).1.arity) - 1)))) []<| .fin []) (.fin [])) (.fin [])) (.fin [])) (p:=(d.tables.map aT).length≤9223372036854775807→cH Tryz.prog 86 [.agg [.sl 142 3 (d.tables.map aT)],.one (.str x.name)] (.tup [.agg [.p none (.str ((aL d x.name).1.name)),vI ((aL d x.name).1.arity),.p none (.sl 91 1 ((aL d x.name).1.rows.map aC))],vB ((aL d x.name).2)]) []∧cH Tryz.prog 86 [.agg [.sl 142 3 (d.tables.map aT)],.one (.str x.into)] (.tup [.agg [.p none (.str ((aL d x.into).1.name)),vI ((aL d x.into).1.arity),.p none (.sl 91 1 ((aL d x.into).1.rows.map aC))],vB ((aL d x.into).2)]) []∧Bb ((aL d x.name).2) (Bb ((aL d x.into).2) (eW x.column (0:Int) (IntKind.i64.wrap (((aL d x.name).1.arity) - 1))∧Bb (eI x.column (0:Int) (IntKind.i64.wrap (((aL d x.name).1.arity) - 1))) (eW x.intoColumn (0:Int) (IntKind.i64.wrap (((aL d x.into).1.arity) - 1))∧(eI x.intoColumn (0:Int) (IntKind.i64.wrap (((aL d x.into).1.arity) - 1)))=(gR d x)∧True) ((false)=(gR d x)∧True)) ((false)=(gR d x)∧True)) ((false)=(gR d x)∧True)) (by kernel_rfl) ?_
 intro n0
 simp only[List.length_map] at n0
 refine⟨jT (rM _ x.name (by omega)) rfl,jT (rM _ x.into (by omega)) rfl,db (fun g24=>?_) fun g24=>?_⟩
 ·have hT:=(nM g24).1
  have hA:=cE hT
  have hw:IntKind.i64.wrap ((aL d x.name).1.arity - 1)=(aL d x.name).1.arity - 1:=IntWalk.i64_in _ ⟨by omega,by omega⟩
  try rw[hw]
  refine db (fun g27=>?_) fun g27=>?_
  ·have hT2:=(nM g27).1
   have hA2:=cE hT2
   have hw2:IntKind.i64.wrap ((aL d x.into).1.arity - 1)=(aL d x.into).1.arity - 1:=IntWalk.i64_in _ ⟨by omega,by omega⟩
   try rw[hw2]
   refine⟨iV _ _ _,db (fun g35=>?_) fun g35=>?_⟩
   ·refine⟨iV _ _ _,?_,trivial⟩
    ·(simp[gR, *];done)
   ·refine⟨?_,trivial⟩
    ·(simp[gR, *];done)
  ·refine⟨?_,trivial⟩
   ·(simp[gR, *];done)
 ·refine⟨?_,trivial⟩
  ·(simp[gR, *];done)
abbrev vF (d:aV)(x:bB):Prop:=cH Tryz.prog 224 [.agg [.sl 142 3 (d.tables.map aT)],.agg [.str x.name,.int .i64 x.column,.str x.into,.int .i64 x.intoColumn]] (vB (gR d x)) []
theorem aGu (d:aV)(x:bB)(hc:bR d≤1048576):vF d x:=by
 refine aW bH aO Tryz.func224 (by kernel_rfl) (.call (.tup [.agg [.p none (.str ((aL d x.name).1.name)),vI ((aL d x.name).1.arity),.p none (.sl 91 1 ((aL d x.name).1.rows.map aC))],vB ((aL d x.name).2)]) []<| .call (.tup [.agg [.p none (.str ((aL d x.into).1.name)),vI ((aL d x.into).1.arity),.p none (.sl 91 1 ((aL d x.into).1.rows.map aC))],vB ((aL d x.into).2)]) []<| .br (.lit<| .br (.raw<| .call (vB (eI x.column (0:Int) (IntKind.i64.wrap (((aL d x.name).1.arity) - 1)))) []<| .lit<| .br (.raw<| .call (vB (eI x.intoColumn (0:Int) (IntKind.i64.wrap (((aL d x.into).1.arity) - 1)))) []<| .fin []) (.fin [])) (.fin [])) (.fin [])) (p:=(d.tables.map aT).length≤9223372036854775807→cH Tryz.prog 126 [.agg [.sl 142 3 (d.tables.map aT)],.one (.str x.name)] (.tup [.agg [.p none (.str ((aL d x.name).1.name)),vI ((aL d x.name).1.arity),.p none (.sl 91 1 ((aL d x.name).1.rows.map aC))],vB ((aL d x.name).2)]) []∧cH Tryz.prog 126 [.agg [.sl 142 3 (d.tables.map aT)],.one (.str x.into)] (.tup [.agg [.p none (.str ((aL d x.into).1.name)),vI ((aL d x.into).1.arity),.p none (.sl 91 1 ((aL d x.into).1.rows.map aC))],vB ((aL d x.into).2)]) []∧Bb ((aL d x.name).2) (Bb ((aL d x.into).2) (eX x.column (0:Int) (IntKind.i64.wrap (((aL d x.name).1.arity) - 1))∧Bb (eI x.column (0:Int) (IntKind.i64.wrap (((aL d x.name).1.arity) - 1))) (eX x.intoColumn (0:Int) (IntKind.i64.wrap (((aL d x.into).1.arity) - 1))∧(eI x.intoColumn (0:Int) (IntKind.i64.wrap (((aL d x.into).1.arity) - 1)))=(gR d x)∧True) ((false)=(gR d x)∧True)) ((false)=(gR d x)∧True)) ((false)=(gR d x)∧True)) (by kernel_rfl) ?_
 intro n0
 simp only[List.length_map] at n0
 refine⟨jT (rN _ x.name (by omega)) rfl,jT (rN _ x.into (by omega)) rfl,db (fun g24=>?_) fun g24=>?_⟩
 ·have hT:=(nM g24).1
  have hA:=cE hT
  have hw:IntKind.i64.wrap ((aL d x.name).1.arity - 1)=(aL d x.name).1.arity - 1:=IntWalk.i64_in _ ⟨by omega,by omega⟩
  try rw[hw]
  refine db (fun g27=>?_) fun g27=>?_
  ·have hT2:=(nM g27).1
   have hA2:=cE hT2
   have hw2:IntKind.i64.wrap ((aL d x.into).1.arity - 1)=(aL d x.into).1.arity - 1:=IntWalk.i64_in _ ⟨by omega,by omega⟩
   try rw[hw2]
   refine⟨iW _ _ _,db (fun g35=>?_) fun g35=>?_⟩
   ·refine⟨iW _ _ _,?_,trivial⟩
    ·(simp[gR, *];done)
   ·refine⟨?_,trivial⟩
    ·(simp[gR, *];done)
  ·refine⟨?_,trivial⟩
   ·(simp[gR, *];done)
 ·refine⟨?_,trivial⟩
  ·(simp[gR, *];done)
def b4 (a b c d:Bool):Int:=(if a then 1 else 0)+(if b then 2 else 0)+(if c then 4 else 0)+(if d then 8 else 0)
def m4 (p:Nat→Bool):Int:=b4 (p 0) (p 1) (p 2) (p 3)
theorem lt4 {P:Nat→Prop}(h0:P 0)(h1:P 1)(h2:P 2)(h3:P 3){i:Nat}(hi:i<4):P i:=by
 have h:i=0∨i=1∨i=2∨i=3:=by omega
 rcases h with rfl | rfl | rfl | rfl<;>assumption
theorem aXy (a b c d:Bool):fP (b4 a b c d) 0=a∧fP (b4 a b c d) 1=b∧fP (b4 a b c d) 2=c∧fP (b4 a b c d) 3=d:=by
 cases a<;>cases b<;>cases c<;>cases d<;>decide
theorem aXz {p:Nat→Bool}{v:Nat}(hv:v<4):fP (m4 p) v=p v:=by
 have h:=aXy (p 0) (p 1) (p 2) (p 3)
 exact lt4 (P:=fun v=>fP (m4 p) v=p v) h.1 h.2.1 h.2.2.1 h.2.2.2 hv
theorem aTo (a b c d:Bool):0≤b4 a b c d∧b4 a b c d≤15:=by cases a<;>cases b<;>cases c<;>cases d<;>decide
theorem aTp (p:Nat→Bool):0≤m4 p∧m4 p≤15:=aTo _ _ _ _
theorem aY4 (a b c d:Bool):cI .or .i64 (b4 a b c d) (1*2^0)=b4 true b c d∧cI .or .i64 (b4 a b c d) (1*2^1)=b4 a true c d∧cI .or .i64 (b4 a b c d) (1*2^2)=b4 a b true d∧cI .or .i64 (b4 a b c d) (1*2^3)=b4 a b c true:=by
 cases a<;>cases b<;>cases c<;>cases d<;>decide
theorem aTq {p:Nat→Bool}{v:Nat}(hv:v<4):cI .or .i64 (m4 p) ((1:Int)*2^v)=m4 (fun i=>p i || decide (i=v)):=by
 have h:=aY4 (p 0) (p 1) (p 2) (p 3)
 refine lt4 (P:=fun v=>cI .or .i64 (m4 p) ((1:Int)*2^v)=m4 (fun i=>p i || decide (i=v))) ?_ ?_ ?_ ?_ hv
 ·simpa [m4] using h.1
 ·simpa [m4] using h.2.1
 ·simpa [m4] using h.2.2.1
 ·simpa [m4] using h.2.2.2
theorem aWL (a b c d:Bool):decide (b4 a b c d=1*2^(4:Int).toNat - 1)=(a&&(b&&(c&&(d&&true)))):=by cases a<;>cases b<;>cases c<;>cases d<;>decide
theorem aWM {p:Nat→Bool}{n:Int}(hn:1≤n∧n≤4)(hp: ∀i,n.toNat≤i→p i=false):decide (m4 p=1*2^n.toNat - 1)=(List.range n.toNat).all p:=by
 have h:n=1∨n=2∨n=3∨n=4:=by omega
 rcases h with rfl | rfl | rfl | rfl
 ·have h1:=hp 1 (by decide);have h2:=hp 2 (by decide);have h3:=hp 3 (by decide)
  simp only[m4,h1,h2,h3];show _=(List.range 1).all p
  simp only[List.range,List.range.loop,List.all_cons,List.all_nil]
  cases p 0<;>decide
 ·have h2:=hp 2 (by decide);have h3:=hp 3 (by decide)
  simp only[m4,h2,h3];show _=(List.range 2).all p
  simp only[List.range,List.range.loop,List.all_cons,List.all_nil]
  cases p 0<;>cases p 1<;>decide
 ·have h3:=hp 3 (by decide)
  simp only[m4,h3];show _=(List.range 3).all p
  simp only[List.range,List.range.loop,List.all_cons,List.all_nil]
  cases p 0<;>cases p 1<;>cases p 2<;>decide
 ·simp only[m4];show _=(List.range 4).all p
  simp only[List.range,List.range.loop,List.all_cons,List.all_nil]
  exact aWL _ _ _ _
theorem aYA {m:Int}{v:Nat}(h:0≤m∧m≤15)(hv:v<4):cI .and .i64 (m/2^v) 1=if fP m v=true then 1 else 0:=by
 have h1:m=0∨m=1∨m=2∨m=3∨m=4∨m=5∨m=6∨m=7∨m=8∨m=9∨m=10∨m=11∨m=12∨m=13∨m=14∨m=15:=by omega
 refine lt4 (P:=fun v=>cI .and .i64 (m/2^v) 1=if fP m v=true then 1 else 0) ?_ ?_ ?_ ?_ hv<;>rcases h1 with rfl | rfl | rfl | rfl | rfl | rfl | rfl | rfl | rfl | rfl | rfl | rfl | rfl | rfl | rfl | rfl<;>decide
theorem aFV {m:Int}{v:Nat}(h:cI .and .i64 (m/2^v) 1=1):fP m v=true:=by rw[fP,h];rfl
theorem aD7 {m:Int}{v:Nat}(h: ¬cI .and .i64 (m/2^v) 1=1):fP m v=false:=by rw[fP];simpa using h
theorem aTr {m:Int}{v:Nat}(h:0≤m∧m≤15)(hv:v<4):decide (cI .and .i64 (m/2^v) 1=0)= !fP m v:=by
 rw[aYA h hv];cases fP m v<;>rfl
def gS (p:Nat→Bool)(k:Nat):List Int:=((List.range k).filter p).map fun v:Nat=>(v:Int)
theorem yQ {p:Nat→Bool}{k:Nat}(h:p k=true):gS p (k+1)=gS p k++[(k:Int)]:=by
 rw[gS,List.range_succ,List.filter_append,List.map_append]
 simp[gS,h]
theorem aA5 {p:Nat→Bool}{k:Nat}(h:p k=false):gS p (k+1)=gS p k:=by
 rw[gS,List.range_succ,List.filter_append,List.map_append]
 simp[gS,h]
theorem yR (p:Nat→Bool)(k:Nat):(gS p k).length≤k:=by
 rw[gS,List.length_map]
 have:=(List.filter_sublist (l:=List.range k) (p:=p)).length_le
 rw[List.length_range] at this
 exact this
theorem aO7 {p q:Nat→Bool}{k:Nat}(h: ∀v,v<k→p v=q v):gS p k=gS q k:=by
 rw[gS,gS,List.filter_congr fun v hv=>h v (List.mem_range.1 hv)]
theorem aMs {p:Nat→Bool}{k:Nat}{x:Int}:x∈gS p k↔0≤x∧x.toNat<k∧p x.toNat=true:=by
 rw[gS,List.mem_map]
 constructor
 ·rintro⟨v,hv,rfl⟩
  rw[List.mem_filter,List.mem_range] at hv
  exact⟨by omega,by simpa using hv.1,by simpa using hv.2⟩
 ·rintro⟨h0,h1,h2⟩
  exact⟨x.toNat,List.mem_filter.2 ⟨List.mem_range.2 h1,h2⟩,by omega⟩
theorem aGv {p:Nat→Bool}{n:Nat}: ∀{k:Nat},n≤k→(∀v,n≤v→v<k→p v=false)→gS p k=gS p n
 | 0,h,_=>by rw[show n=0 by omega]
 | k+1,h,hp=>by
   by_cases e:n=k+1
   ·rw[e]
   ·rw[aA5 (hp k (by omega) (by omega)),aGv (by omega) fun v h1 h2=>hp v h1 (by omega)]
def lQ (n:Int)(l:List Int)(k:Nat):Bool:=eI (l.getD k 0) 0 (n - 1)&& !decide (l.getD k 0∈l.take k)
def yS (n:Int)(l:List Int):Bool:=(List.range l.length).all (lQ n l)
def eR (n:Int)(a:dG):Bool:=gJ a.name&&(eI (a.vars.length:Nat) 1 3&&yS n a.vars)
def aFC (l:List dG)(v:Nat):Bool:=l.any fun a=>decide ((v:Int)∈a.vars)
def cO (q:QueryD):Bool:=(eI q.variableCount 1 4&&eI (q.atoms.length:Nat) 1 4)&&(q.atoms.all (eR q.variableCount)&&(List.range q.variableCount.toNat).all (aFC q.atoms))
def iG (l:List dG)(k:Nat)(a:List Int)(i v:Nat):Bool:=aFC (l.take k) v || decide ((v:Int)∈a.take i)
theorem aGw (l:List dG)(k:Nat)(a b:List Int):iG l k a 0=iG l k b 0:=by funext v;simp[iG]
theorem aGx {l:List dG}{k i:Nat}{a:List Int}{x:Int}(h:a[i]? =some x)(hx:0≤x):(fun v=>iG l k a i v || decide (v=x.toNat))=iG l k a (i+1):=by
 funext v
 rw[iG,iG,bU h,tW,Bool.or_assoc]
 congr 2
 exact decide_eq_decide.2 (by omega)
theorem aRA {l:List dG}{k:Nat}{a:dG}(h:l[k]? =some a)(v:Nat):aFC (l.take (k+1)) v=(aFC (l.take k) v || decide ((v:Int)∈a.vars)):=by
 rw[aFC,bU h,List.any_append]
 simp[aFC]
theorem aGy {l:List dG}{k i:Nat}{a:dG}(h:l[k]? =some a)(hi:a.vars.length≤i)(b:List Int):iG l k a.vars i=iG l (k+1) b 0:=by
 funext v
 rw[iG,iG,aRA h,List.take_of_length_le hi]
 simp
theorem aJs {l:List dG}{k:Nat}(hk:l.length≤k)(b:List Int):iG l k b 0=aFC l:=by
 funext v
 rw[iG,List.take_of_length_le hk]
 simp
theorem aTs {n v:Nat}(p:Nat→Bool):((List.range n).map p).set v true=(List.range n).map fun i=>p i || decide (i=v):=by
 apply List.ext_getElem?
 intro i
 rw[List.getElem?_set,List.getElem?_map,List.getElem?_map]
 by_cases hi:i<n
 ·rw[List.getElem?_range hi,List.length_map,List.length_range]
  by_cases e:v=i
  ·subst e;simp[hi]
  ·simp[e,show ¬i=v from fun q=>e q.symm]
 ·rw[show (List.range n)[i]? =none from List.getElem?_eq_none (by simp;omega)]
  by_cases e:v=i
  ·subst e;simp[hi]
  ·simp[e]
theorem aTt {n:Nat}(p:Nat→Bool):(!decide (false∈(List.range n).map p))=(List.range n).all p:=by
 apply Bool.eq_iff_iff.2
 rw[Bool.not_eq_true',decide_eq_false_iff_not,List.all_eq_true]
 constructor
 ·intro h x hx
  cases e:p x with
  | true=>rfl
  | false=>exact absurd (List.mem_map.2 ⟨x,hx,e⟩) h
 ·intro h hm
  obtain⟨x,hx,e⟩:=List.mem_map.1 hm
  rw[h x hx] at e;cases e
theorem aLM {q:QueryD}(h:(eI q.variableCount 1 4&&eI (q.atoms.length:Nat) 1 4)=false):cO q=false:=by rw[cO,h];rfl
theorem pT {q:QueryD}{k:Nat}{a:dG}(h:q.atoms[k]? =some a)(ha:eR q.variableCount a=false):cO q=false:=by rw[cO,eO h ha];simp
theorem aPq {q:QueryD}(h:(eI q.variableCount 1 4&&eI (q.atoms.length:Nat) 1 4)=true)(ha:q.atoms.all (eR q.variableCount)=true):cO q=(List.range q.variableCount.toNat).all (aFC q.atoms):=by rw[cO,h,ha];rfl
theorem aRB {n:Int}{l:List Int}(h:yS n l=true){x:Int}(hx:x∈l):0≤x∧x≤n - 1:=by
 obtain⟨i,hi,rfl⟩:=List.mem_iff_getElem.1 hx
 have:=List.all_eq_true.1 h i (List.mem_range.2 hi)
 simp only[lQ,Bool.and_eq_true] at this
 have:=eG this.1
 rwa [List.getD_eq_getElem?_getD,List.getElem?_eq_getElem hi,Option.getD_some] at this
theorem aBZ {n:Int}{a:dG}(h:eR n a=true):gJ a.name=true∧(1≤a.vars.length∧a.vars.length≤3)∧ ∀x∈a.vars,0≤x∧x≤n - 1:=by
 simp only[eR,Bool.and_eq_true] at h
 have h2:=eG h.2.1
 exact⟨h.1,⟨by omega,by omega⟩,fun x hx=>aRB h.2.2 hx⟩
theorem fZ {q:QueryD}(h:cO q=true):(1≤q.variableCount∧q.variableCount≤4)∧(1≤q.atoms.length∧q.atoms.length≤4)∧ ∀a∈q.atoms,eR q.variableCount a=true:=by
 simp only[cO,Bool.and_eq_true] at h
 have h1:=eG h.1.1
 have h2:=eG h.1.2
 exact⟨h1,⟨by omega,by omega⟩,fun a ha=>List.all_eq_true.1 h.2.1 a ha⟩
theorem aTu {n:Int}{l:List dG}(h:l.all (eR n)=true)(h0:1≤n){v:Nat}(hv:n.toNat≤v):aFC l v=false:=by
 rw[aFC,List.any_eq_false]
 intro a ha hm
 have:=(aBZ (List.all_eq_true.1 h a ha)).2.2 v (by simpa using hm)
 omega
def vG (q:QueryD)(m:Int)(i v:Nat):Bool:=(List.range i).any fun j=>fP m j&&decide ((v:Int)∈(q.atoms.getD j iR).vars)
def inM (q:QueryD)(m:Int)(v:Nat):Bool:=vG q m q.atoms.length v
def aEJ (q:QueryD)(m:Int):List Int:=gS (inM q m) q.variableCount.toNat
def jO (q:QueryD)(m:Int):Bool:=cO q&&eI m 0 ((1:Int)*2^q.atoms.length - 1)
def eE (q:QueryD)(m:Int):List Int:=if jO q m=true then aEJ q m else []
def fF (m:Int):List Int:=if eI m 0 15=true then gS (fP m) 4 else []
def nN (q:QueryD):Int:=if cO q=true then (1:Int)*2^q.atoms.length - 1 else 0
theorem aJt {q:QueryD}{m:Int}(h:jO q m=true):eE q m=aEJ q m:=by rw[eE,if_pos h]
theorem aMt {q:QueryD}{m:Int}(h:jO q m=false):eE q m= []:=by rw[eE,if_neg (by rw[h];decide)]
theorem aD8 {m:Int}(h:eI m 0 15=true):fF m=gS (fP m) 4:=by rw[fF,if_pos h]
theorem aMu {m:Int}(h:eI m 0 15=false):fF m= []:=by rw[fF,if_neg (by rw[h];decide)]
theorem aD9 {q:QueryD}(h:cO q=true):nN q=1*2^q.atoms.length - 1:=by rw[nN,if_pos h]
theorem aMv {q:QueryD}(h:cO q=false):nN q=0:=by rw[nN,if_neg (by rw[h];decide)]
theorem aA6 (q:QueryD)(m:Int)(i v:Nat):vG q m (i+1) v=(vG q m i v || (fP m i&&decide ((v:Int)∈(q.atoms.getD i iR).vars))):=by
 rw[vG,List.range_succ,List.any_append]
 simp[vG]
theorem aMw {q:QueryD}(h:cO q=true)(m:Int){v:Nat}(hv:q.variableCount.toNat≤v): ∀{i},i≤q.atoms.length→vG q m i v=false
 | 0,_=>rfl
 | i+1,hi=>by
   obtain⟨h1,_,h2⟩:=fZ h
   obtain⟨a,ha⟩:=dE (l:=q.atoms) (k:=i) (by omega)
   have ht:=(aBZ (h2 a (List.mem_of_getElem? ha))).2.2
   rw[aA6,aMw h m hv (by omega),bQ ha]
   have: ¬(v:Int)∈a.vars:=fun q=>by have:=ht _ q;omega
   simp[this]
theorem aWN {q:QueryD}(h:cO q=true)(m:Int){v:Nat}(hv:q.variableCount.toNat≤v):inM q m v=false:=aMw h m hv (Nat.le_refl _)
def aFD (q:QueryD)(m:Int)(a:dG)(i k v:Nat):Bool:=vG q m i v || (fP m i&&decide ((v:Int)∈a.vars.take k))
theorem aRC (q:QueryD)(m:Int)(a:dG)(i:Nat):aFD q m a i 0=vG q m i:=by funext v;simp[aFD]
theorem aRD {q:QueryD}{m:Int}{a:dG}{i k:Nat}{x:Int}(hb:fP m i=true)(h:a.vars[k]? =some x)(hx:0≤x):(fun v=>aFD q m a i k v || decide (v=x.toNat))=aFD q m a i (k+1):=by
 funext v
 rw[aFD,aFD,bU h,tW,hb,Bool.true_and,Bool.true_and,Bool.or_assoc]
 congr 2
 exact decide_eq_decide.2 (by omega)
theorem aJu {q:QueryD}{m:Int}{a:dG}{i k:Nat}(h:q.atoms[i]? =some a)(hk:fP m i=false∨a.vars.length≤k):aFD q m a i k=vG q m (i+1):=by
 funext v
 rw[aFD,aA6,bQ h]
 rcases hk with hk | hk
 ·rw[hk];rfl
 ·rw[List.take_of_length_le hk]
theorem aO8 {q:QueryD}(h:cO q=true)(m:Int):gS (fP (m4 (inM q m))) 4=aEJ q m:=by
 obtain⟨h1,_,_⟩:=fZ h
 rw[aEJ,aO7 (q:=inM q m) fun v hv=>aXz hv]
 exact aGv (by omega) fun v hv _=>aWN h m hv
theorem aWO {q:QueryD}{m:Int}{i v:Nat}{a:dG}(h:q.atoms[i]? =some a)(hb:fP m i=true)(hv:decide ((v:Int)∈a.vars)=true):inM q m v=true:=
 List.any_eq_true.2 ⟨i,List.mem_range.2 (List.getElem?_eq_some_iff.1 h).1,by rw[hb,bQ h,hv];rfl⟩
theorem mG {n:Nat}(h:1≤n∧n≤4):1≤(1:Int)*2^n - 1∧(1:Int)*2^n - 1≤15:=by
 have:n=1∨n=2∨n=3∨n=4:=by omega
 rcases this with rfl | rfl | rfl | rfl<;>decide
theorem vH {q:QueryD}{m:Int}(h:jO q m=true):cO q=true∧0≤m∧m≤15∧m≤1*2^q.atoms.length - 1:=by
 simp only[jO,Bool.and_eq_true] at h
 have h1:=eG h.2
 have h2:=mG (fZ h.1).2.1
 exact⟨h.1,by omega,by omega,by omega⟩
theorem aTv {m:Int}{n i:Nat}(h:0≤m∧m≤1*2^n - 1)(hi:n≤i)(h4:i<4):fP m i=false:=by
 have hn:n=0∨n=1∨n=2∨n=3:=by omega
 have hi4:i=0∨i=1∨i=2∨i=3:=by omega
 have key:m/2^i=0:=by
  rcases hn with rfl | rfl | rfl | rfl<;>rcases hi4 with rfl | rfl | rfl | rfl<;>omega
 rw[fP,key];decide
theorem aTw {m:Int}{n:Nat}(h:0≤m∧m≤1*2^n - 1)(hn:n≤4):fF m=gS (fP m) n:=by
 have h15:m≤15:=by
  have:n=0∨n=1∨n=2∨n=3∨n=4:=by omega
  rcases this with rfl | rfl | rfl | rfl | rfl<;>simp at h<;>omega
 rw[aD8 (pX h.1 h15)]
 exact aGv hn fun v h1 h2=>aTv h h1 h2
end Go.Proofs.YtlidmoeecphbmaaGreat
namespace Go.Proofs
open Go.Shelf
namespace YtlidmoeecphbmaaGreat
shelf_lay_g SlLaysE.n35 Slgn 35 at Tryz 264 as Tryz.revInts
end YtlidmoeecphbmaaGreat
end Go.Proofs
namespace Go.Proofs.YtlidmoeecphbmaaGreat
open Go.ChangeShapes Go.WideShapes Go.ChangeAt Go.RowKit
set_option linter.unusedVariables false
theorem aTx (l:List Int)(hl:l.length<4611686018427387904):rB Tryz.prog 264 [.own 0] [(0,.arr 3 1 true (l.map intD))] (.tup []) [(0,.arr 3 1 true (l.reverse.map intD))]:=
 aJp l l.reverse (by kernel_rfl) List.length_reverse
  (fun h w=>AnyE.slices_Reverse_empty Tryz.revInts none 0 w)
  (fun blk cap w hH hblk hn=>(AnyE.slices_Reverse Tryz.revInts (Value.int .i64) (fun _=>rfl) blk 0 cap l w hH (by omega)).mono fun e w' ⟨he,q,hw⟩=>⟨he,q,#[],by rw[hw,Go.Sort.grow_empty]⟩)
end Go.Proofs.YtlidmoeecphbmaaGreat
namespace Go.Proofs.YtlidmoeecphbmaaGreat
open Go.ChangeShapes Go.WideShapes Go.ChangeAt Go.RowKit
set_option linter.unusedVariables false
set_option linter.unusedSimpArgs false
set_option maxRecDepth 100000
set_option maxHeartbeats 4000000
abbrev aAo (l:List Int):Prop:=l.Pairwise fun a b=>b≤a
def lR (l:List Int):List Int:=(jR l).reverse
theorem aB0 (l:List Int):(lR l).Perm l:=(List.reverse_perm _).trans (aGs l)
theorem aRE (l:List Int):(lR l).length=l.length:=(aB0 l).length_eq
theorem aO9 (l:List Int):aAo (lR l):=List.pairwise_reverse.2 (aO5 l)
theorem aMx {l m:List Int}(hp:l.Perm m)(h1:aAo l)(h2:aAo m):l=m:=
 List.Perm.eq_of_pairwise (le:=fun a b:Int=>b≤a) (fun a b _ _ h1 h2=>by omega) h1 h2 hp
theorem aMy {l out:List Int}{k j:Nat}{x:Int}(hp:out.Perm (l.take k))(hx:l[k]? =some x):((([]:List Int)++out.take j)++[x]++out.drop j).Perm (l.take (k+1)):=by
 rw[bU hx,List.nil_append]
 have h1:(out.take j++[x]++out.drop j).Perm (out.take j++out.drop j++[x]):=by
  rw[List.append_assoc,List.append_assoc]
  exact List.Perm.append_left _ List.perm_append_comm
 rw[List.take_append_drop] at h1
 exact h1.trans (hp.append_right _)
theorem aMz {out:List Int}{j:Nat}{x:Int}(hd:aAo out)(hj:j≤out.length)(hs: ∀i,j≤i→i<out.length→out.getD i 0<x)(hx:j=0∨ ¬out.getD (j - 1) 0<x):aAo ((([]:List Int)++out.take j)++[x]++out.drop j):=by
 rw[List.nil_append,List.append_assoc]
 have hd' :=hd
 rw[←List.take_append_drop j out] at hd'
 obtain⟨d1,d2,d3⟩:=List.pairwise_append.1 hd'
 have hlo: ∀a∈out.drop j,a≤x:=fun a ha=>by
  obtain⟨i,hi,rfl⟩:=List.mem_iff_getElem.1 ha
  have hi' :i<out.length - j:=by simpa using hi
  have:=hs (j+i) (by omega) (by omega)
  rw[List.getElem_drop]
  rw[List.getD_eq_getElem?_getD,List.getElem?_eq_getElem (by omega)] at this
  simp only[Option.getD_some] at this
  omega
 have hhi: ∀a∈out.take j,x≤a:=fun a ha=>by
  obtain⟨i,hi,rfl⟩:=List.mem_iff_getElem.1 ha
  have hi' :i<j:=by
   have:=hi
   rw[List.length_take] at this
   omega
  rcases hx with h | h
  ·omega
  ·have hp:=List.pairwise_iff_getElem.1 hd
   rw[List.getD_eq_getElem?_getD,List.getElem?_eq_getElem (by omega)] at h
   simp only[Option.getD_some] at h
   rw[List.getElem_take]
   by_cases e:i=j - 1
   ·subst e;omega
   ·have:=hp i (j - 1) (by omega) (by omega) (by omega)
    omega
 refine List.pairwise_append.2 ⟨d1,List.pairwise_append.2 ⟨List.pairwise_singleton _ _,d2,fun a ha b hb=>?_⟩,fun a ha b hb=>?_⟩
 ·rw[List.mem_singleton] at ha
  subst ha;exact hlo b hb
 ·rcases List.mem_append.1 hb with q | q
  ·rw[List.mem_singleton] at q
   subst q;exact hhi a ha
  ·exact d3 a ha b q
theorem aRF {out:List Int}{j:Nat}{x e:Int}(h:out[j - 1]? =some e)(hc:e<x)(hs: ∀i,j≤i→i<out.length→out.getD i 0<x): ∀i,j - 1≤i→i<out.length→out.getD i 0<x:=fun i h1 h2=>by
 by_cases q:i=j - 1
 ·rw[q,bQ h];exact hc
 ·exact hs i (by omega) h2
abbrev aB1 (t:bA)(cols:List Int):AV × List (Nat × Rs):=(.own 0,[(0,.arr 3 1 true ((lR (eA t cols).2).map intD))])
abbrev aGz (t:bA)(cols:List Int):Prop:=cH Tryz.prog 254 [.agg [.str t.name,.int .i64 t.arity,.sl 91 1 (t.rows.map aC)],.one (.sl 3 1 (cols.map intD))] (aB1 t cols).1 (aB1 t cols).2
theorem aTy (t:bA)(cols:List Int)(hl:cols.length≤1048576):aGz t cols:=by
 refine aW bH aO Tryz.func254 (by kernel_rfl) (bL (uX t cols)<| bL (aDy ((eA t cols).2))<| .callx [.own 0] [(0,.arr 3 1 true ((eA t cols).2.map intD))] [(0,1500)] (.tup []) [(0,.arr 3 1 true ((jR ((eA t cols).2)).map intD))]<| .callx [.own 0] [(0,.arr 3 1 true ((jR ((eA t cols).2)).map intD))] [(0,1500)] (.tup []) [(0,.arr 3 1 true (((jR ((eA t cols).2)).reverse).map intD))]<| .fin [(0,1500)]) (p:=(t.rows.map aC).length≤9223372036854775807→(cols.map intD).length≤9223372036854775807→aBO t cols∧aGY ((eA t cols).2)∧rB Tryz.prog 250 [.own 0] [(0,.arr 3 1 true ((eA t cols).2.map intD))] (.tup []) [(0,.arr 3 1 true ((jR ((eA t cols).2)).map intD))]∧(eA t cols).2.map intD=(eA t cols).2.map intD∧rB Tryz.prog 264 [.own 0] [(0,.arr 3 1 true ((jR ((eA t cols).2)).map intD))] (.tup []) [(0,.arr 3 1 true (((jR ((eA t cols).2)).reverse).map intD))]∧(jR ((eA t cols).2)).map intD=(jR ((eA t cols).2)).map intD∧((jR ((eA t cols).2)).reverse).map intD=(lR (eA t cols).2).map intD∧True) (by kernel_rfl) ?_
 intro n0 n1
 simp only[List.length_map] at n0 n1
 have hg:=aJm t cols
 refine⟨aMa t cols (by omega),cpI _ (by omega),aJq ((eA t cols).2) (by omega),rfl,aTx (jR ((eA t cols).2)) (by (rw[tV];omega)),rfl,?_,trivial⟩
 ·rfl
abbrev aEK (l:List Int):Prop:=cH Tryz.prog 263 [.one (.sl 3 1 (l.map intD))] (.p none (.sl 3 1 ((lR l).map intD))) []
theorem aRG (l:List Int)(hc:l.length≤1048576):aEK l:=by
 refine aW bH aO Tryz.func263 (by kernel_rfl) (.stl 3<| .loop (Nat × (List Int)) (Q2 Nat (List Int)) ([3,4,5]++rg 7 39) [3100,3500,4000,4100,4500] (fun yy0=>[(4,vI (yy0.1:Int)),(3,.p none (.sl 3 1 (yy0.2.map intD)))]) (fun yy0=>[]) (fun yy0=>yy0.1≤l.length∧yy0.2.Perm (l.take yy0.1)∧aAo yy0.2) (fun yy0=>l.length - yy0.1) (fun yy0=> .len l.length<| .br (.len yy0.2.length<| .loop Nat (Q1 Nat) ([5]++rg 15 16) [] (fun j=>[(5,vI (j:Int))]) (fun j=>[]) (fun j=>j≤yy0.2.length∧(∀i,j≤i→i<yy0.2.length→yy0.2.getD i 0<l.getD yy0.1 0)) (fun j=>j) (fun j=> .br (.elem _ intD yy0.2 (fun e21=> .elem _ intD l (fun e25=> .lit<| .lit<| .lit<| .br (.back []) (.sub Int intD yy0.2<| .app Int intD ([]:List Int) (yy0.2.take j)<| .elem _ intD l (fun e38=> .app Int intD (([]:List Int)++(yy0.2.take j)) ([e38]:List Int)<| .sub Int intD yy0.2<| .app Int intD ((([]:List Int)++(yy0.2.take j))++[e38]) (yy0.2.drop j)<| .stl 3<| .back []))))) (.sub Int intD yy0.2<| .app Int intD ([]:List Int) (yy0.2.take j)<| .elem _ intD l (fun e38=> .app Int intD (([]:List Int)++(yy0.2.take j)) ([e38]:List Int)<| .sub Int intD yy0.2<| .app Int intD ((([]:List Int)++(yy0.2.take j))++[e38]) (yy0.2.drop j)<| .stl 3<| .back [])))) (.fin []))) (p:=(l.map intD).length≤9223372036854775807→(∃(k:Nat) (out:List Int),0=(k:Int)∧[]=out.map intD∧k≤l.length∧out.Perm (l.take k)∧aAo out)∧ ∀(k:Nat) (out:List Int),(k≤l.length∧out.Perm (l.take k)∧aAo out)→Lm intD l∧Br ((k:Int)<(l.length:Int)) (Lm intD out∧((∃(j:Nat),(out.length:Int)=(j:Int)∧j≤out.length∧(∀i,j≤i→i<out.length→out.getD i 0<l.getD k 0))∧ ∀(j:Nat),(j≤out.length∧(∀i,j≤i→i<out.length→out.getD i 0<l.getD k 0))→Br (0<(j:Int)) (bO ((j:Int) - 1)∧(0≤((j:Int) - 1)∧Em intD out (((j:Int) - 1).toNat) fun e21=>0≤(k:Int)∧Em intD l k fun e25=>Br (e21<e25) (bO ((j:Int) - 1)∧ ∃(j' :Nat),((j:Int) - 1)=(j' :Int)∧(j' ≤out.length∧(∀i,j' ≤i→i<out.length→out.getD i 0<l.getD k 0))∧j' <j) (out.map intD=out.map intD∧0≤(j:Int)∧(j:Int)≤(out.length:Int)∧[]=([]:List Int).map intD∧(out.take j).map intD=(out.take j).map intD∧(∀x,bW (intD x)=true)∧(([]:List Int).length+(out.take j).length)*8≤140737488355328∧0≤(k:Int)∧Em intD l k fun e38=>(([]:List Int)++(out.take j)).map intD=(([]:List Int)++(out.take j)).map intD∧[[.int .i64 e38]]=([e38]:List Int).map intD∧(∀x,bW (intD x)=true)∧((([]:List Int)++(out.take j)).length+([e38]:List Int).length)*8≤140737488355328∧out.map intD=out.map intD∧0≤(j:Int)∧(j:Int)≤(out.length:Int)∧((([]:List Int)++(out.take j))++[e38]).map intD=((([]:List Int)++(out.take j))++[e38]).map intD∧(out.drop j).map intD=(out.drop j).map intD∧(∀x,bW (intD x)=true)∧(((([]:List Int)++(out.take j))++[e38]).length+(out.drop j).length)*8≤140737488355328∧bO ((k:Int)+1)∧ ∃(k' :Nat) (out' :List Int),((k:Int)+1)=(k' :Int)∧(((([]:List Int)++(out.take j))++[e38])++(out.drop j)).map intD=out'.map intD∧(k' ≤l.length∧out'.Perm (l.take k')∧aAo out')∧l.length - k' <l.length - k))) (out.map intD=out.map intD∧0≤(j:Int)∧(j:Int)≤(out.length:Int)∧[]=([]:List Int).map intD∧(out.take j).map intD=(out.take j).map intD∧(∀x,bW (intD x)=true)∧(([]:List Int).length+(out.take j).length)*8≤140737488355328∧0≤(k:Int)∧Em intD l k fun e38=>(([]:List Int)++(out.take j)).map intD=(([]:List Int)++(out.take j)).map intD∧[[.int .i64 e38]]=([e38]:List Int).map intD∧(∀x,bW (intD x)=true)∧((([]:List Int)++(out.take j)).length+([e38]:List Int).length)*8≤140737488355328∧out.map intD=out.map intD∧0≤(j:Int)∧(j:Int)≤(out.length:Int)∧((([]:List Int)++(out.take j))++[e38]).map intD=((([]:List Int)++(out.take j))++[e38]).map intD∧(out.drop j).map intD=(out.drop j).map intD∧(∀x,bW (intD x)=true)∧(((([]:List Int)++(out.take j))++[e38]).length+(out.drop j).length)*8≤140737488355328∧bO ((k:Int)+1)∧ ∃(k' :Nat) (out' :List Int),((k:Int)+1)=(k' :Int)∧(((([]:List Int)++(out.take j))++[e38])++(out.drop j)).map intD=out'.map intD∧(k' ≤l.length∧out'.Perm (l.take k')∧aAo out')∧l.length - k' <l.length - k))) (out.map intD=(lR l).map intD∧True)) (by kernel_rfl) ?_
 intro n0
 simp only[List.length_map] at n0
 refine⟨⟨0,([]:List Int),rfl,rfl,Nat.zero_le _,List.Perm.refl _,List.Pairwise.nil⟩,fun k out ⟨hk,hp,hd⟩=>?_⟩
 have hpl:=hp.length_eq
 rw[List.length_take] at hpl
 refine⟨List.length_map _,dd (fun c0=>?_) fun c0=>?_⟩
 ·refine⟨List.length_map _,⟨out.length,(by rfl),Nat.le_refl _,fun i h1 h2=>by omega⟩,fun j ⟨hj,hs⟩=>?_⟩
  refine dd (fun g17=>?_) fun g17=>?_
  ·refine⟨⟨by omega,by omega⟩,by omega,rfl,by omega,fun e21 h21=>?_⟩
   have i21:out[j - 1]? =some e21:=by rw[←h21];congr 1;omega
   refine⟨by omega,rfl,by omega,fun e25 h25=>?_⟩
   refine dd (fun c1=>?_) fun c1=>?_
   ·have hlt:=aRF i21 (by rw[bQ h25];exact c1:e21<l.getD k 0) hs
    refine⟨⟨by omega,by omega⟩,?_⟩
    exact⟨j - 1,(by omega),⟨by omega,hlt⟩,by omega⟩
   ·have hx:j=0∨ ¬out.getD (j - 1) 0<l.getD k 0:=by (right;rw[bQ i21,bQ h25];exact c1)
    refine⟨rfl,by omega,by omega,rfl,rfl,fun _=>rfl,by (simp;omega),?_⟩
    refine⟨by omega,rfl,by omega,fun e38 h38=>?_⟩
    rw[bQ h38] at hx hs
    refine⟨rfl,rfl,fun _=>rfl,by (simp;omega),?_⟩
    refine⟨rfl,by omega,by omega,rfl,rfl,fun _=>rfl,by (simp;omega),?_⟩
    refine⟨⟨by omega,by omega⟩,?_⟩
    exact⟨k+1,((([]:List Int)++(out.take j))++[e38])++(out.drop j),rfl,rfl,⟨by omega,aMy hp h38,aMz hd hj hs hx⟩,by omega⟩
  ·have hx:j=0∨ ¬out.getD (j - 1) 0<l.getD k 0:=by (left;omega)
   refine⟨rfl,by omega,by omega,rfl,rfl,fun _=>rfl,by (simp;omega),?_⟩
   refine⟨by omega,rfl,by omega,fun e38 h38=>?_⟩
   rw[bQ h38] at hx hs
   refine⟨rfl,rfl,fun _=>rfl,by (simp;omega),?_⟩
   refine⟨rfl,by omega,by omega,rfl,rfl,fun _=>rfl,by (simp;omega),?_⟩
   refine⟨⟨by omega,by omega⟩,?_⟩
   exact⟨k+1,((([]:List Int)++(out.take j))++[e38])++(out.drop j),rfl,rfl,⟨by omega,aMy hp h38,aMz hd hj hs hx⟩,by omega⟩
 ·have hE:out=lR l:=aMx ((by rw[List.take_of_length_le (by omega)] at hp;exact hp:out.Perm l).trans (aB0 l).symm) hd (aO9 l)
  refine⟨?_,trivial⟩
  ·rw[hE]
abbrev yT (name:ByteArray)(arity:Int)(rows:List (List Int)):AV × List (Nat × Rs):=(.tup [.agg [.p none (.str ((nB name arity rows).1.name)),vI ((nB name arity rows).1.arity),.own 0],vB ((nB name arity rows).2)],[(0,.arr 91 1 true ((nB name arity rows).1.rows.map aC))])
abbrev aEL (name:ByteArray)(arity:Int)(rows:List (List Int)):Prop:=cH Tryz.prog 226 [.one (.str name),.one (.int .i64 arity),.one (.sl 91 1 (rows.map aC))] (yT name arity rows).1 (yT name arity rows).2
theorem aRH (name:ByteArray)(arity:Int)(rows:List (List Int))(hc:cT rows≤1048576):aEL name arity rows:=by
 refine aW bH aO Tryz.func226 (by kernel_rfl) (.loop (Nat × (List (List Int))) (Q2 Nat (List (List Int))) ([9]++rg 13 20) [800,3100,9000] (fun yy0=>[(9,vI (yy0.1:Int))]) (fun yy0=>[(800,some (.box 142 [.p none (.str name),vI arity,.own 9000])),(9000,some (.arr 91 1 true (yy0.2.map aC)))]) (fun yy0=>yy0.1≤rows.length∧yy0.2=cK (rows.take yy0.1)) (fun yy0=>rows.length - yy0.1) (fun yy0=> .len rows.length<| .br (.len yy0.2.length<| .lit<| .lit<| .br (.elem _ aC rows (fun e29=>bL (uY yy0.2 e29)<| .back [(800,800),(9000,3100)])) (.call (vB (aX (⟨name,arity,yy0.2⟩:bA))) []<| .br (.fin []) (.fin [(0,9000)]))) (.call (vB (aX (⟨name,arity,yy0.2⟩:bA))) []<| .br (.fin []) (.fin [(0,9000)])))) (p:=(rows.map aC).length≤9223372036854775807→(∃(k:Nat) (acc:List (List Int)),0=(k:Int)∧name=name∧arity=arity∧[]=acc.map aC∧k≤rows.length∧acc=cK (rows.take k))∧ ∀(k:Nat) (acc:List (List Int)),(k≤rows.length∧acc=cK (rows.take k))→Lm aC rows∧Br ((k:Int)<(rows.length:Int)) (Lm aC acc∧Br ((acc.length:Int)≤8) (0≤(k:Int)∧Em aC rows k fun e29=>aBP acc e29∧bO ((k:Int)+1)∧ ∃(k' :Nat) (acc' :List (List Int)),((k:Int)+1)=(k' :Int)∧name=name∧arity=arity∧(kX e29 acc).map aC=acc'.map aC∧(k' ≤rows.length∧acc' =cK (rows.take k'))∧rows.length - k' <rows.length - k) (oI (⟨name,arity,acc⟩:bA)∧Nr (aX (⟨name,arity,acc⟩:bA)) (ByteArray.empty=((nB name arity rows).1.name)∧0=((nB name arity rows).1.arity)∧(false)=((nB name arity rows).2)∧[]=(nB name arity rows).1.rows.map aC∧True) (name=((nB name arity rows).1.name)∧arity=((nB name arity rows).1.arity)∧(true)=((nB name arity rows).2)∧acc.map aC=(nB name arity rows).1.rows.map aC∧True))) (oI (⟨name,arity,acc⟩:bA)∧Nr (aX (⟨name,arity,acc⟩:bA)) (ByteArray.empty=((nB name arity rows).1.name)∧0=((nB name arity rows).1.arity)∧(false)=((nB name arity rows).2)∧[]=(nB name arity rows).1.rows.map aC∧True) (name=((nB name arity rows).1.name)∧arity=((nB name arity rows).1.arity)∧(true)=((nB name arity rows).2)∧acc.map aC=(nB name arity rows).1.rows.map aC∧True))) (by kernel_rfl) ?_
 intro n0
 simp only[List.length_map] at n0
 have hlen:=fJ rows
 refine⟨⟨0,([]:List (List Int)),rfl,rfl,rfl,rfl,Nat.zero_le _,rfl⟩,fun k acc ⟨hk,ha⟩=>?_⟩
 refine⟨List.length_map _,dd (fun g17=>?_) fun g17=>?_⟩
 ·refine⟨List.length_map _,dd (fun c0=>?_) fun c0=>?_⟩
  ·have hp:=aMk rows k
   rw[←ha] at hp
   refine⟨by omega,rfl,by omega,fun e29 h29=>?_⟩
   have hp3:=aA1 h29
   refine⟨aMc acc e29 (by omega) (by omega) (by omega),⟨by omega,by omega⟩,?_⟩
   exact⟨k+1,_,rfl,rfl,rfl,rfl,⟨by omega,by rw[ha,bU h29,aCd]⟩,by omega⟩
  ·have hend:=aMl (name:=name) (arity:=arity) ha (by omega)
   refine⟨yF (⟨name,arity,acc⟩:bA),dm (fun c1=>?_) fun c1=>?_⟩
   ·have hbad:aX ⟨name,arity,cK rows⟩=false:=by rw[←hend.1];simpa using c1
    refine⟨?_,?_,?_,?_,trivial⟩<;>((rw[aLG hbad]<;>rfl))
   ·have hok0:aX ⟨name,arity,acc⟩=true:=by simpa using c1
    have hok:aX ⟨name,arity,cK rows⟩=true:=by rw[←hend.1];exact hok0
    have hacc:=hend.2 hok0
    refine⟨?_,?_,?_,?_,trivial⟩<;>(first|(rw[tS hok]<;>rfl)|(rw[tS hok];exact congrArg (List.map aC) hacc))
 ·have hend:=aMl (name:=name) (arity:=arity) ha (by omega)
  refine⟨yF (⟨name,arity,acc⟩:bA),dm (fun c1=>?_) fun c1=>?_⟩
  ·have hbad:aX ⟨name,arity,cK rows⟩=false:=by rw[←hend.1];simpa using c1
   refine⟨?_,?_,?_,?_,trivial⟩<;>((rw[aLG hbad]<;>rfl))
  ·have hok0:aX ⟨name,arity,acc⟩=true:=by simpa using c1
   have hok:aX ⟨name,arity,cK rows⟩=true:=by rw[←hend.1];exact hok0
   have hacc:=hend.2 hok0
   refine⟨?_,?_,?_,?_,trivial⟩<;>(first|(rw[tS hok]<;>rfl)|(rw[tS hok];exact congrArg (List.map aC) hacc))
abbrev yU (x:aM):AV × List (Nat × Rs):=(.tup [.agg [.p none (.str ((nL x).1.name)),vI ((nL x).1.arity),.own 0],vB ((nL x).2)],[(0,.arr 91 1 true ((nL x).1.rows.map aC))])
abbrev aEM (x:aM):Prop:=cH Tryz.prog 185 [.agg [.str x.name,.int .i64 x.arity,.int .i64 x.rowCount,.sl 220 3 (x.groups.map aD)]] (yU x).1 (yU x).2
theorem aRI (x:aM)(hc:bI x≤1048576):aEM x:=by
 refine aW bH aO Tryz.func185 (by kernel_rfl) (.len x.groups.length<| .br (.fin []) (.len x.groups.length<| .elem _ aD x.groups (fun e22=>bL (yT x.name x.arity e22.values)<| .fin [(0,2500)]))) (p:=(x.groups.map aD).length≤9223372036854775807→Lm aD x.groups∧Br ((x.groups.length:Int)=0) (ByteArray.empty=((nL x).1.name)∧0=((nL x).1.arity)∧(false)=((nL x).2)∧[]=(nL x).1.rows.map aC∧True) (Lm aD x.groups∧bO ((x.groups.length:Int) - 1)∧0≤((x.groups.length:Int) - 1)∧Em aD x.groups (((x.groups.length:Int) - 1).toNat) fun e22=>aEL x.name x.arity e22.values∧((nB x.name x.arity e22.values).1.name)=((nL x).1.name)∧((nB x.name x.arity e22.values).1.arity)=((nL x).1.arity)∧((nB x.name x.arity e22.values).2)=((nL x).2)∧(nB x.name x.arity e22.values).1.rows.map aC=(nL x).1.rows.map aC∧True)) (by kernel_rfl) ?_
 intro n0
 simp only[List.length_map] at n0
 have q2:bI x=x.name.size+dP x.groups:=rfl
 have q5:=gI x.groups
 refine⟨List.length_map _,dd (fun c0=>?_) fun c0=>?_⟩
 ·have hT:nL x=(gH,false):=by rw[nL,if_pos (by omega)]
  refine⟨?_,?_,?_,?_,trivial⟩<;>((rw[hT]<;>rfl))
 ·have hT:nL x=nB x.name x.arity (lC x):=by rw[nL,if_neg (by omega)]
  refine⟨List.length_map _,⟨by omega,by omega⟩,by omega,rfl,by omega,fun e22 h22=>?_⟩
  have i22:x.groups[x.groups.length - 1]? =some e22:=by rw[←h22];congr 1;omega
  have hL:lC x=e22.values:=aMf i22
  rw[hL] at hT
  have q1:=hZ i22
  have q3:cA e22=cG e22.columns+cT e22.values+cG e22.counts:=rfl
  have q6:cG e22.columns=e22.columns.length:=rfl
  have q7:cG e22.counts=e22.counts.length:=rfl
  have q8:=fJ e22.values
  refine⟨aRH _ _ _ (by omega),?_,?_,?_,?_,trivial⟩<;>((rw[hT]<;>rfl))
abbrev vJ (x:aM):Prop:=cH Tryz.prog 127 [.agg [.str x.name,.int .i64 x.arity,.int .i64 x.rowCount,.sl 220 3 (x.groups.map aD)]] (vB (cN x)) []
theorem aHA (x:aM)(hc:bI x≤1048576):vJ x:=by
 refine aW bH aO Tryz.func127 (by kernel_rfl) (bL (yU x)<| .br (bL (aA3 ((nL x).1))<| .call (vB (decide ((bK ((nL x).1))=x))) []<| .fin []) (.fin [])) (p:=(x.groups.map aD).length≤9223372036854775807→aEM x∧Bb ((nL x).2) (aD2 ((nL x).1)∧rF (bK ((nL x).1)) x∧(decide ((bK ((nL x).1))=x))=(cN x)∧True) ((false)=(cN x)∧True)) (by kernel_rfl) ?_
 intro n0
 simp only[List.length_map] at n0
 have hst:=aEG (nL x).1
 have hsame:=aQs x
 refine⟨aRI x (by omega),db (fun g11=>?_) fun g11=>?_⟩
 ·refine⟨aPl ((nL x).1),aCZ _ _ (by omega),?_,trivial⟩
  ·(rw[←hsame,g11];simp;done)
 ·refine⟨?_,trivial⟩
  ·(rw[←hsame,g11];simp;done)
theorem aJv:lR []= []:=List.eq_nil_of_length_eq_zero (aRE [])
theorem aRJ (a:Int):lR [a]= [a]:=List.perm_singleton.1 (aB0 [a])
def iB (x:aM)(cols:List Int):List Int:=if cN x=true then lR (eA (dU x) cols).2 else []
theorem aNA {x:aM}{cols:List Int}(h:cN x=true):iB x cols=lR (eA (dU x) cols).2:=by rw[iB,if_pos h]
theorem aPr {x:aM}{cols:List Int}(h:cN x=false):iB x cols= []:=by rw[iB,if_neg (by rw[h];decide)]
theorem aRK {x:aM}{cols:List Int}{k:Nat}{g:aR}(h:cN x=true)(hg:x.groups[k]? =some g)(hc:g.columns=cols):g.counts=(eA (dU x) cols).2:=by
 rw[aGc h,List.getElem?_map] at hg
 cases e:(bY x.arity)[k]? with
 | none=>rw[e] at hg;simp at hg
 | some c=>
   rw[e] at hg
   simp only[Option.map_some,Option.some.injEq] at hg
   subst hg
   rw[show c=cols from hc];rfl
theorem aTz {n:Int}(hn:1≤n∧n≤3){cols:List Int}(h:dW (n - 1) cols=true)(hne:cols≠[]):cols∈bY n:=by
 have hl:=aC7 h (by omega)
 have hlow:=aG2 h
 have hn3:n=1∨n=2∨n=3:=by omega
 match cols,hl with
 | [],_=>exact absurd rfl hne
 | [a],_=>
   have h0:=hlow 0 (by simp)
   simp at h0
   have ha:a=0∨a=1∨a=2:=by omega
   rcases hn3 with rfl|rfl|rfl<;>rcases ha with rfl|rfl|rfl<;>first|decide|(exfalso;omega)
 | [a,b],_=>
   have h0:=hlow 0 (by simp)
   have h1:=hlow 1 (by simp)
   have h2:=List.all_eq_true.1 h 1 (by simp)
   simp[iS] at h0 h1 h2
   have ha:(a=0∧b=1)∨(a=0∧b=2)∨(a=1∧b=2):=by omega
   rcases hn3 with rfl|rfl|rfl<;>rcases ha with ⟨rfl,rfl⟩ | ⟨rfl,rfl⟩ | ⟨rfl,rfl⟩<;>first|decide|(exfalso;omega)
 | [a,b,c],_=>
   have h0:=hlow 0 (by simp)
   have h1:=hlow 1 (by simp)
   have h2:=hlow 2 (by simp)
   have h3:=List.all_eq_true.1 h 1 (by simp)
   have h4:=List.all_eq_true.1 h 2 (by simp)
   simp[iS] at h0 h1 h2 h3 h4
   obtain⟨rfl,rfl,rfl⟩:a=0∧b=1∧c=2:=by omega
   rcases hn3 with rfl|rfl|rfl<;>first|decide|(exfalso;omega)
 | _::_::_::_::_,hl=>simp at hl
theorem aUA {x:aM}{cols:List Int}(h:cN x=true)(hall:x.groups.all (fun g=> !decide (g.columns=cols))=true)(hne: ¬(cols.length:Int)=0):(eA (dU x) cols).2= []:=by
 obtain⟨h1,h2⟩:=tT h
 cases hc:dW ((dU x).arity - 1) cols with
 | false=>rw[aC6 (by simp[hc])]
 | true=>
   exfalso
   have hm:=aTz (n:=x.arity) (aA4 h) hc (fun e=>hne (by rw[e];rfl))
   rw[aGc h] at hall
   have:=List.all_eq_true.1 hall _ (List.mem_map_of_mem hm)
   simp[tR] at this
theorem aPs {x:aM}(h:cN x=true):(x.rowCount=0→(eA (dU x) []).2= [])∧(¬x.rowCount=0→(eA (dU x) []).2= [x.rowCount]):=by
 obtain⟨h1,h2⟩:=tT h
 have hc:=aQt h
 have hrows:(dU x).rows=lC x:=rfl
 rw[rK (t:=dU x) (cols:=[]) (by rw[h1];rfl)]
 have e:kN (dU x) []=List.replicate (lC x).length []:=by simp[kN,fH,aMY,hrows,List.map_const']
 have ev:aOY (dU x) []=cK (List.replicate (lC x).length []):=by rw[aOY,e,sM]
 show (x.rowCount=0→aM9 (dU x) []= [])∧(¬x.rowCount=0→aM9 (dU x) []= [x.rowCount])
 rw[aM9,ev,e]
 constructor
 ·intro h0
  rw[show (lC x).length=0 by omega];rfl
 ·intro h0
  have hpos:(lC x).length≠0:=by omega
  have hf:cK (List.replicate (lC x).length ([]:List Int))= [[]]:=by
   obtain⟨p1,p2,_⟩:=sL (List.replicate (lC x).length ([]:List Int)) [] List.Pairwise.nil
   refine aFT p1 (List.pairwise_singleton _ _) fun y=>?_
   have:=p2 y
   rw[cK,this]
   simp[List.mem_replicate,hpos]
  rw[hf,hc]
  simp[iT]
abbrev aAp (x:aM)(cols:List Int):Prop:=cH Tryz.prog 253 [.agg [.str x.name,.int .i64 x.arity,.int .i64 x.rowCount,.sl 220 3 (x.groups.map aD)],.one (.sl 3 1 (cols.map intD))] (.p none (.sl 3 1 ((lR (eA (dU x) cols).2).map intD))) []
theorem aNB (x:aM)(cols:List Int)(hc:bI x≤1048576)(hok:cN x=true):aAp x cols:=by
 refine aW bH aO Tryz.func253 (by kernel_rfl) (.stl 4<| .len cols.length<| .br (.br (.stl 4<| .fin []) (.stl 4<| .fin [])) (.loop Nat (Q1 Nat) ([5]++rg 16 16) [] (fun k=>[(5,vI (k:Int))]) (fun k=>[]) (fun k=>k≤x.groups.length∧(x.groups.take k).all (fun g=> !decide (g.columns=cols))=true) (fun k=>x.groups.length - k) (fun k=> .len x.groups.length<| .br (.elem _ aD x.groups (fun e26=> .call (vI (cF e26.columns cols)) []<| .br (.elem _ aD x.groups (fun e35=> .call (.p none (.sl 3 1 ((lR e35.counts).map intD))) []<| .stl 4<| .fin [])) (.back []))) (.stl 4<| .fin [])))) (p:=(x.groups.map aD).length≤9223372036854775807→(cols.map intD).length≤9223372036854775807→Lm intD cols∧Br ((cols.length:Int)=0) (Br (x.rowCount=0) ([]=(lR (eA (dU x) cols).2).map intD∧True) ([[.int .i64 x.rowCount]]=(lR (eA (dU x) cols).2).map intD∧True)) ((∃(k:Nat),0=(k:Int)∧k≤x.groups.length∧(x.groups.take k).all (fun g=> !decide (g.columns=cols))=true)∧ ∀(k:Nat),(k≤x.groups.length∧(x.groups.take k).all (fun g=> !decide (g.columns=cols))=true)→Lm aD x.groups∧Br ((k:Int)<(x.groups.length:Int)) (0≤(k:Int)∧Em aD x.groups k fun e26=>fR e26.columns cols∧Br ((cF e26.columns cols)=0) (0≤(k:Int)∧Em aD x.groups k fun e35=>aEK e35.counts∧(lR e35.counts).map intD=(lR (eA (dU x) cols).2).map intD∧True) (bO ((k:Int)+1)∧ ∃(k' :Nat),((k:Int)+1)=(k' :Int)∧(k' ≤x.groups.length∧(x.groups.take k').all (fun g=> !decide (g.columns=cols))=true)∧x.groups.length - k' <x.groups.length - k)) ([]=(lR (eA (dU x) cols).2).map intD∧True))) (by kernel_rfl) ?_
 intro n0 n1
 simp only[List.length_map] at n0 n1
 have q2:bI x=x.name.size+dP x.groups:=rfl
 have q5:=gI x.groups
 refine⟨List.length_map _,dd (fun c0=>?_) fun c0=>?_⟩
 ·have hcz:cols= []:=List.eq_nil_of_length_eq_zero (by omega)
  refine dd (fun c1=>?_) fun c1=>?_
  ·have hE:(eA (dU x) cols).2= []:=by rw[hcz];exact(aPs hok).1 c1
   refine⟨?_,trivial⟩
   ·(rw[hE,aJv]<;>rfl)
  ·have hE:(eA (dU x) cols).2= [x.rowCount]:=by rw[hcz];exact(aPs hok).2 c1
   refine⟨?_,trivial⟩
   ·(rw[hE,aRJ]<;>rfl)
 ·refine⟨⟨0,rfl,Nat.zero_le _,rfl⟩,fun k ⟨hk,ha⟩=>?_⟩
  refine⟨List.length_map _,dd (fun c2=>?_) fun c2=>?_⟩
  ·refine⟨by omega,rfl,by omega,fun e26 h26=>?_⟩
   try (obtain rfl:=(aZ h26 h26).symm)
   have q1:=hZ h26
   have q3:cA e26=cG e26.columns+cT e26.values+cG e26.counts:=rfl
   have q6:cG e26.columns=e26.columns.length:=rfl
   have q7:cG e26.counts=e26.counts.length:=rfl
   have q8:=fJ e26.values
   refine⟨jF _ _,dd (fun c3=>?_) fun c3=>?_⟩
   ·have hE:=aRK hok h26 (eV.1 c3)
    refine⟨by omega,rfl,by omega,fun e35 h35=>?_⟩
    try (obtain rfl:=(aZ h26 h35).symm)
    refine⟨aRG _ (by omega),?_,trivial⟩
    ·(rw[hE];done)
   ·refine⟨⟨by omega,by omega⟩,?_⟩
    exact⟨k+1,rfl,⟨by omega,cL h26 ha (by simpa using fun q=>c3 (eV.2 q))⟩,by omega⟩
  ·have hE:=aUA hok (dC (by omega) ha) c0
   refine⟨?_,trivial⟩
   ·(rw[hE,aJv]<;>rfl)
abbrev aHB (x:aM)(cols:List Int):Prop:=cH Tryz.prog 239 [.agg [.str x.name,.int .i64 x.arity,.int .i64 x.rowCount,.sl 220 3 (x.groups.map aD)],.one (.sl 3 1 (cols.map intD))] (.p none (.sl 3 1 ((iB x cols).map intD))) []
theorem aUB (x:aM)(cols:List Int)(hc:bI x≤1048576)(hl:cols.length≤1048576):aHB x cols:=by
 refine aW bH aO Tryz.func239 (by kernel_rfl) (.stl 4<| .call (vB (cN x)) []<| .br (.stl 4<| .fin []) (.call (.p none (.sl 3 1 ((lR (eA (dU x) cols).2).map intD))) []<| .stl 4<| .fin [])) (p:=(x.groups.map aD).length≤9223372036854775807→(cols.map intD).length≤9223372036854775807→vJ x∧Nr (cN x) ([]=(iB x cols).map intD∧True) (aAp x cols∧(lR (eA (dU x) cols).2).map intD=(iB x cols).map intD∧True)) (by kernel_rfl) ?_
 intro n0 n1
 simp only[List.length_map] at n0 n1
 refine⟨aHA _ (by omega),dm (fun c0=>?_) fun c0=>?_⟩
 ·have hE:iB x cols= []:=aPr (by simpa using c0)
  refine⟨?_,trivial⟩
  ·(rw[hE]<;>rfl)
 ·have hE:=aNA (cols:=cols) (by simpa using c0:cN x=true)
  refine⟨aNB _ _ (by omega) (by assumption),?_,trivial⟩
  ·(rw[hE]<;>rfl)
abbrev aB2 (x:aM)(cols:List Int):AV × List (Nat × Rs):=(.own 0,[(0,.arr 3 1 true ((iB x cols).map intD))])
abbrev aHC (x:aM)(cols:List Int):Prop:=cH Tryz.prog 241 [.agg [.str x.name,.int .i64 x.arity,.int .i64 x.rowCount,.sl 220 3 (x.groups.map aD)],.one (.sl 3 1 (cols.map intD))] (aB2 x cols).1 (aB2 x cols).2
theorem aUC (x:aM)(cols:List Int)(hc:bI x≤1048576)(hl:cols.length≤1048576):aHC x cols:=by
 refine aW bH aO Tryz.func241 (by kernel_rfl) (bL (qJ x)<| .br (.fin []) (bL (aB1 (dU x) cols)<| .fin [(0,1600)])) (p:=(x.groups.map aD).length≤9223372036854775807→(cols.map intD).length≤9223372036854775807→uZ x∧Nr (cN x) ([]=(iB x cols).map intD∧True) (aGz (dU x) cols∧(lR (eA (dU x) cols).2).map intD=(iB x cols).map intD∧True)) (by kernel_rfl) ?_
 intro n0 n1
 simp only[List.length_map] at n0 n1
 refine⟨aGb x (by omega),dm (fun c0=>?_) fun c0=>?_⟩
 ·have hE:iB x cols= []:=aPr (by simpa using c0)
  refine⟨?_,trivial⟩
  ·(rw[hE]<;>rfl)
 ·have hE:=aNA (cols:=cols) (by simpa using c0:cN x=true)
  refine⟨aTy (dU x) _ (by omega),?_,trivial⟩
  ·(rw[hE]<;>rfl)
abbrev aEN (x:aM)(cols:List Int):Prop:=cH Tryz.prog 199 [.agg [.str x.name,.int .i64 x.arity,.int .i64 x.rowCount,.sl 220 3 (x.groups.map aD)],.one (.sl 3 1 (cols.map intD))] (vI ((iB x cols).getD 0 0)) []
theorem aRL (x:aM)(cols:List Int)(hc:bI x≤1048576)(hl:cols.length≤1048576):aEN x cols:=by
 refine aW bH aO Tryz.func199 (by kernel_rfl) (.call (.p none (.sl 3 1 ((iB x cols).map intD))) []<| .len ((iB x cols).length)<| .br (.fin []) (.elem _ intD (iB x cols) (fun e13=> .fin []))) (p:=(x.groups.map aD).length≤9223372036854775807→(cols.map intD).length≤9223372036854775807→aHB x cols∧Lm intD (iB x cols)∧Br ((((iB x cols).length:Nat):Int)=0) (0=((iB x cols).getD 0 0)∧True) (0≤(0:Int)∧Em intD (iB x cols) 0 fun e13=>e13=((iB x cols).getD 0 0)∧True)) (by kernel_rfl) ?_
 intro n0 n1
 simp only[List.length_map] at n0 n1
 refine⟨aUB _ _ (by omega) (by omega),List.length_map _,dd (fun c0=>?_) fun c0=>?_⟩
 ·have hz:iB x cols= []:=List.eq_nil_of_length_eq_zero (by omega)
  refine⟨?_,trivial⟩
  ·(rw[hz]<;>rfl)
 ·refine⟨by omega,rfl,by omega,fun e13 h13=>?_⟩
  refine⟨?_,trivial⟩
  ·(rw[bQ h13])
abbrev aEO (x:aM)(cols:List Int):Prop:=cH Tryz.prog 210 [.agg [.str x.name,.int .i64 x.arity,.int .i64 x.rowCount,.sl 220 3 (x.groups.map aD)],.one (.sl 3 1 (cols.map intD))] (vI ((iB x cols).getD 0 0)) []
theorem aRM (x:aM)(cols:List Int)(hc:bI x≤1048576)(hl:cols.length≤1048576):aEO x cols:=by
 refine aW bH aO Tryz.func210 (by kernel_rfl) (bL (aB2 x cols)<| .len ((iB x cols).length)<| .br (.fin []) (.len ((iB x cols).length)<| .elem _ intD (iB x cols) (fun e14=> .fin []))) (p:=(x.groups.map aD).length≤9223372036854775807→(cols.map intD).length≤9223372036854775807→aHC x cols∧Lm intD (iB x cols)∧Br ((((iB x cols).length:Nat):Int)=0) (0=((iB x cols).getD 0 0)∧True) (0≤(0:Int)∧Lm intD (iB x cols)∧0<(((iB x cols).length:Nat):Int)∧Em intD (iB x cols) 0 fun e14=>e14=((iB x cols).getD 0 0)∧True)) (by kernel_rfl) ?_
 intro n0 n1
 simp only[List.length_map] at n0 n1
 refine⟨aUC _ _ (by omega) (by omega),List.length_map _,dd (fun c0=>?_) fun c0=>?_⟩
 ·have hz:iB x cols= []:=List.eq_nil_of_length_eq_zero (by omega)
  refine⟨?_,trivial⟩
  ·(rw[hz]<;>rfl)
 ·refine⟨by omega,List.length_map _,by omega,rfl,by omega,fun e14 h14=>?_⟩
  refine⟨?_,trivial⟩
  ·(rw[bQ h14])
end Go.Proofs.YtlidmoeecphbmaaGreat
