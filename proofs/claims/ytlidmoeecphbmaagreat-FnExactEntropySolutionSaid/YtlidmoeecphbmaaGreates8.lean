/-
  Contracts and plain laws, joined: part 9.
-/
import Derived.Test.YtlidmoeecphbmaaGreates7
import Derived.Test.YtlidmoeecphbmaaGreates6
import Derived.Test.YtlidmoeecphbmaaGreates5
import Derived.Test.YtlidmoeecphbmaaGreates4
import Derived.IntWalk
import Derived.Test.YtlidmoeecphbmaaGreates3
import Derived.Shelf.Sort.Plain
import Derived.Shelf.Slices.In.SortNone
import Derived.Sort.OwnSortedInts
import Derived.Shelf.SlicesE.Compact
import Derived.Ground.SlgnProg
namespace Go.Proofs.YtlidmoeecphbmaaGreat
open Go.ChangeShapes Go.WideShapes Go.ChangeAt Go.RowKit
set_option linter.unusedVariables false
set_option linter.unusedSimpArgs false
set_option maxRecDepth 100000
set_option maxHeartbeats 4000000
def gK (d:aX)(v:Int):cA × Bool:=if (kH d&&eQ v 1 999)=true then (⟨v,d.tables.map bI⟩,true) else (aIA,false)
theorem wV {d:aX}{v:Int}(h:(kH d&&eQ v 1 999)=true):gK d v=(⟨v,d.tables.map bI⟩,true):=by rw[gK,if_pos h]
theorem aAq {d:aX}{v:Int}(h:(kH d&&eQ v 1 999)=false):gK d v=(aIA,false):=by rw[gK,if_neg (by rw[h];decide)]
theorem aIY {d:aX}(h:kH d=true):d.tables.length<=6:=by
 simp only[kH,aCA,aUa] at h;omega
abbrev aCt (d:aX)(v:Int):AV × List (Nat × Rs):=(.tup [.agg [vI ((gK d v).1.version),.own 0],vB ((gK d v).2)],[(0,.arr 88 4 true ((gK d v).1.tables.map aF))])
abbrev aIZ (d:aX)(v:Int):Prop:=Cn 131 [.agg [.sl 142 3 (d.tables.map aS)],.one (.int .i64 v)] (aCt d v).1 (aCt d v).2
theorem aVu (d:aX)(v:Int):aIZ d v:=by
 refine cq Tryz.func131 (.call (vB (kH d)) []<| .br (.fin []) (.call (vB (eQ v (1:Int) (999:Int))) []<| .lit<| .lit<| .br (.fin []) (.len d.tables.length<| .loop (Nat × (List aD)) (Q2 Nat (List aD)) ([8]++rg 23 12) [600,800,3000,3100,3200,9000] (fun yy0=>[(23,vI (yy0.1:Int))]) (fun yy0=>[(600,some (.box 46 [vI v,.own 9000])),(9000,some (.arr 88 4 true (yy0.2.map aF)))]) (fun yy0=>yy0.1<=d.tables.length/\yy0.2=(d.tables.take yy0.1).map bI) (fun yy0=>d.tables.length - yy0.1) (fun yy0=> .br (.elem _ aS d.tables (fun e25=>bJ (aBv e25)<| .appx aD aF yy0.2 (bI e25)<| .back [(600,600),(9000,3200)])) (.fin [(0,9000)]))))) (p:=Lx (d.tables.map aS)<| aFM d/\Nr (kH d) (0=((gK d v).1.version)/\(false)=((gK d v).2)/\[]=(gK d v).1.tables.map aF/\True) (fH v (1:Int) (999:Int)/\Nr (eQ v (1:Int) (999:Int)) (0=((gK d v).1.version)/\(false)=((gK d v).2)/\[]=(gK d v).1.tables.map aF/\True) (Lm aS d.tables/\((∃(k:Nat) (out:List aD),0=(k:Int)/\v=v/\[]=out.map aF/\k<=d.tables.length/\out=(d.tables.take k).map bI)/\ ∀(k:Nat) (out:List aD),(k<=d.tables.length/\out=(d.tables.take k).map bI)->Br ((k:Int)<(d.tables.length:Int)) (0<=(k:Int)/\Em aS d.tables k fun e25=>aFK e25/\out.map aF=out.map aF/\((bI e25).name)=((bI e25).name)/\((bI e25).arity)=((bI e25).arity)/\((bI e25).rowCount)=((bI e25).rowCount)/\(bI e25).groups.map aC=(bI e25).groups.map aC/\(out.length+1)*56<=140737488355328/\bK ((k:Int)+1)/\ ∃(k' :Nat) (out' :List aD),((k:Int)+1)=(k' :Int)/\v=v/\(out++[(bI e25)]).map aF=out'.map aF/\(k' <=d.tables.length/\out' =(d.tables.take k').map bI)/\d.tables.length - k' <d.tables.length - k) (v=((gK d v).1.version)/\(true)=((gK d v).2)/\out.map aF=(gK d v).1.tables.map aF/\True))))) (by kernel_rfl) ?_;refine lx fun n0=>?_;refine⟨aSE d,dm (fun g12=>?_) fun g12=>?_⟩
 ·have hbad:(kH d&&eQ v 1 999)=false:=by simp_all
  apply et3<;>((rw[aAq hbad]<;>rfl))
 ·refine⟨jT _ _ _,dm (fun c0=>?_) fun c0=>?_⟩
  ·have hbad:(kH d&&eQ v 1 999)=false:=by simp_all
   apply et3<;>((rw[aAq hbad]<;>rfl))
  ·have hok:(kH d&&eQ v 1 999)=true:=by simp_all
   have h6:=aIY (by simp_all:kH d=true);refine⟨aAH _,⟨0,([]:List aD),rfl,rfl,rfl,aDB _,rfl⟩,fun k out ⟨hk,ho⟩=>?_⟩;refine dd (fun c1=>?_) fun c1=>?_
   ·refine⟨by omega,rfl,by omega,fun e25 h25=>?_⟩;refine⟨aNK e25,rfl,rfl,rfl,rfl,rfl,by (simp[ho];omega),⟨by omega,by omega⟩,?_⟩;exact⟨k+1,_,rfl,rfl,rfl,⟨by omega,by rw[ho,bT h25,aMQ];rfl⟩,by omega⟩
   ·apply et3<;>(first|(rw[wV hok]<;>rfl)|(rw[wV hok,ho,aGT (by omega)]))
abbrev aCu (d:aX)(v:Int):AV × List (Nat × Rs):=(.tup [.agg [vI ((gK d v).1.version),.own 0],vB ((gK d v).2)],[(0,.arr 88 4 true ((gK d v).1.tables.map aF))])
abbrev aI0 (d:aX)(v:Int):Prop:=Cn 122 [.agg [.sl 142 3 (d.tables.map aS)],.one (.int .i64 v)] (aCu d v).1 (aCu d v).2
theorem aVv (d:aX)(v:Int):aI0 d v:=by
 refine cq Tryz.func122 (.call (vB (kH d)) []<| .br (.fin []) (.call (vB (eQ v (1:Int) (999:Int))) []<| .lit<| .lit<| .br (.fin []) (.loop (Nat × (List aD)) (Q2 Nat (List aD)) ([7,8]++rg 20 19) [600,800,3200,3600,3700,9000] (fun yy0=>[(7,vI (yy0.1:Int))]) (fun yy0=>[(600,some (.box 46 [vI v,.own 9000])),(9000,some (.arr 88 4 true (yy0.2.map aF)))]) (fun yy0=>yy0.1<=d.tables.length/\yy0.2=(d.tables.take yy0.1).map bI) (fun yy0=>d.tables.length - yy0.1) (fun yy0=> .len d.tables.length<| .br (.elem _ aS d.tables (fun e30=>bJ (aBw e30)<| .appx aD aF yy0.2 (bI e30)<| .back [(600,600),(9000,3700)])) (.fin [(0,9000)]))))) (p:=Lx (d.tables.map aS)<| aFN d/\Nr (kH d) (0=((gK d v).1.version)/\(false)=((gK d v).2)/\[]=(gK d v).1.tables.map aF/\True) (fI v (1:Int) (999:Int)/\Nr (eQ v (1:Int) (999:Int)) (0=((gK d v).1.version)/\(false)=((gK d v).2)/\[]=(gK d v).1.tables.map aF/\True) ((∃(k:Nat) (out:List aD),0=(k:Int)/\v=v/\[]=out.map aF/\k<=d.tables.length/\out=(d.tables.take k).map bI)/\ ∀(k:Nat) (out:List aD),(k<=d.tables.length/\out=(d.tables.take k).map bI)->Lm aS d.tables/\Br ((k:Int)<(d.tables.length:Int)) (0<=(k:Int)/\Em aS d.tables k fun e30=>aFL e30/\out.map aF=out.map aF/\((bI e30).name)=((bI e30).name)/\((bI e30).arity)=((bI e30).arity)/\((bI e30).rowCount)=((bI e30).rowCount)/\(bI e30).groups.map aC=(bI e30).groups.map aC/\(out.length+1)*56<=140737488355328/\bK ((k:Int)+1)/\ ∃(k' :Nat) (out' :List aD),((k:Int)+1)=(k' :Int)/\v=v/\(out++[(bI e30)]).map aF=out'.map aF/\(k' <=d.tables.length/\out' =(d.tables.take k').map bI)/\d.tables.length - k' <d.tables.length - k) (v=((gK d v).1.version)/\(true)=((gK d v).2)/\out.map aF=(gK d v).1.tables.map aF/\True)))) (by kernel_rfl) ?_;refine lx fun n0=>?_;refine⟨aSF d,dm (fun g12=>?_) fun g12=>?_⟩
 ·have hbad:(kH d&&eQ v 1 999)=false:=by simp_all
  apply et3<;>((rw[aAq hbad]<;>rfl))
 ·refine⟨jU _ _ _,dm (fun c0=>?_) fun c0=>?_⟩
  ·have hbad:(kH d&&eQ v 1 999)=false:=by simp_all
   apply et3<;>((rw[aAq hbad]<;>rfl))
  ·have hok:(kH d&&eQ v 1 999)=true:=by simp_all
   have h6:=aIY (by simp_all:kH d=true);refine⟨⟨0,([]:List aD),rfl,rfl,rfl,aDB _,rfl⟩,fun k out ⟨hk,ho⟩=>?_⟩;refine⟨aAH _,dd (fun c1=>?_) fun c1=>?_⟩
   ·refine⟨by omega,rfl,by omega,fun e30 h30=>?_⟩;refine⟨aSC e30,rfl,rfl,rfl,rfl,rfl,by (simp[ho];omega),⟨by omega,by omega⟩,?_⟩;exact⟨k+1,_,rfl,rfl,rfl,⟨by omega,by rw[ho,bT h30,aMQ];rfl⟩,by omega⟩
   ·apply et3<;>(first|(rw[wV hok]<;>rfl)|(rw[wV hok,ho,aGT (by omega)]))
theorem aI1 {α:Type}{c:α->Nat}{m:Nat}{l:List α}(h: ∀x∈l,c x<=m):aAG c l<=l.length+l.length*m:=by
 have h1:=aCl (ct:=c) (m:=m) (l:=l) h;have h2:aAG c l=l.length+bU c l:=rfl;omega
theorem aLm (t:aV)(cols:List Int):cM (eK t cols).1<=64/\(eK t cols).2.length<=8:=by
 cases h:(aZ t&&eG (t.arity - 1) cols) with
 | false=>rw[aEH h];exact⟨by decide,by decide⟩
 | true=>
   have:=aNJ (k:=(lY t cols).length) h;rw[aU0,vH] at this;rw[tX h];exact⟨this.2,by simp only[aOi,aAH,aQa];exact this.1⟩
theorem aNQ {t:aV}(h:aZ t=true):t.name.size=1:=by
 simp only[aZ,gZ,aCA,aUa] at h;omega
theorem aFp (t:aV):bD (bI t)<=2000:=by
 cases h:aZ t with
 | false=>rw[aCp h];decide
 | true=>
   have hT:=cH h;have hn:=aNQ h;have hl:=aAp (n:=t.arity) ⟨hT.1,hT.2.1⟩;rw[lM h]
   have h1:=aI1 (c:=bP) (m:=75) (l:=(bY t.arity).map (wS t)) fun x hx=>by
    obtain⟨c,hc,rfl⟩:=aQO.1 hx;obtain⟨k,hk,hc⟩:=List.mem_iff_getElem.1 hc;have h3:=aCq (aGL.2 ⟨hk,hc⟩);have h4:=aLm t c;have h5:bP (wS t c)=c.length+cM (eK t c).1+(eK t c).2.length:=rfl;omega
   rw[aAH] at h1;have h2:bD ⟨t.name,t.arity,(t.rows.length:Nat),(bY t.arity).map (wS t)⟩=t.name.size+aAG bP ((bY t.arity).map (wS t)):=rfl;omega
theorem aLn (d:aX)(v:Int):bS (gK d v).1<=20000:=by
 cases h:(kH d&&eQ v 1 999) with
 | false=>rw[aAq h];decide
 | true=>
   have h6:=aIY (by simp_all:kH d=true);rw[wV h]
   have h1:=aI1 (c:=bD) (m:=2000) (l:=d.tables.map bI) fun x hx=>by
    obtain⟨t,_,rfl⟩:=aQO.1 hx;exact aFp t
   rw[aAH] at h1;have h2:bS ⟨v,d.tables.map bI⟩=aAG bD (d.tables.map bI):=rfl;show bS ⟨v,d.tables.map bI⟩<=20000;omega
def mK {α:Type}(p:α->Bool)(l:List α):Int:=match l.findIdx? p with | some k=>(k:Int) | none=> -1
theorem aNR {α:Type}{p:α->Bool}{l:List α}{k:Nat}{x:α}(h:l[k]? =some x)(ha:(l.take k).all (fun y=> !p y)=true)(hx:p x=true):mK p l=(k:Int):=by
 obtain⟨hk,rfl⟩:=aGL.1 h
 have:l.findIdx? p=some k:=by
  rw[List.findIdx?_eq_some_iff_getElem];refine⟨hk,hx,fun j hj=>?_⟩;have:=aI4.1 ha l[j] (List.mem_iff_getElem.2 ⟨j,by rw[aXg];omega,by rw[List.getElem_take]⟩);simpa using this
 rw[mK,this]
theorem aHD {α:Type}{p:α->Bool}{l:List α}(ha:l.all (fun y=> !p y)=true):mK p l= -1:=by
 have:l.findIdx? p=none:=by
  rw[List.findIdx?_eq_none_iff];intro x hx;have:=aI4.1 ha x hx;simpa using this
 rw[mK,this]
theorem aVw {α:Type}{p:α->Bool}{l:List α}(h:0<=mK p l): ∃(k:Nat) (x:α),mK p l=(k:Int)/\l[k]? =some x/\p x=true/\k<l.length:=by
 unfold mK at*;cases e:l.findIdx? p with
 | none=>rw[e] at h;exact absurd h (by decide)
 | some k=>
   rw[List.findIdx?_eq_some_iff_getElem] at e;obtain⟨hk,hx,_⟩:=e;exact⟨k,l[k],rfl,aFZ hk,hx,hk⟩
theorem aY5 {α:Type}(p:α->Bool)(l:List α): -1<=mK p l/\mK p l<(l.length:Int):=by
 by_cases h:0<=mK p l
 ·obtain⟨k,x,h1,_,_,h4⟩:=aVw h;omega
 unfold mK at*;cases e:l.findIdx? p with
 | none=>simp only;omega
 | some k=>rw[e] at h;simp only at h;omega
abbrev aCv (t:aV):AV × List (Nat × Rs):=(.agg [.p none (.str t.name),vI t.arity,.own 0],[(0,.arr 91 1 true (t.rows.map aE))])
abbrev aI2 (t:aV):Prop:=Cn 138 [.agg [.str t.name,.int .i64 t.arity,.sl 91 1 (t.rows.map aE)]] (aCv t).1 (aCv t).2
theorem aVx (t:aV)(hc:fF t<=1048576):aI2 t:=by
 refine cq Tryz.func138 (bJ (aLe t.rows)<| .fin [(0,500)]) (p:=Lx (t.rows.map aE)<| aO9 t.rows/\t.name=t.name/\t.arity=t.arity/\t.rows.map aE=t.rows.map aE/\True) (by kernel_rfl) ?_;refine lx fun n0=>?_;have q1:fF t=t.name.size+cM t.rows:=rfl;have q2:=fX t.rows;refine⟨cpR _ (by omega),?_⟩;exact⟨rfl,rfl,rfl,trivial⟩
abbrev aCw (t:aV):AV × List (Nat × Rs):=(.agg [.p none (.str t.name),vI t.arity,.own 0],[(0,.arr 91 1 true (t.rows.map aE))])
abbrev aI3 (t:aV):Prop:=Cn 184 [.agg [.str t.name,.int .i64 t.arity,.sl 91 1 (t.rows.map aE)]] (aCw t).1 (aCw t).2
theorem aVy (t:aV)(hc:fF t<=1048576):aI3 t:=by
 refine cq Tryz.func184 (.loop (Nat × (List (List Int))) (Q2 Nat (List (List Int))) ([4]++rg 10 19) [300,1900,2500,2600,2700,9000] (fun yy0=>[(4,vI (yy0.1:Int))]) (fun yy0=>[(300,some (.box 142 [.p none (.str t.name),vI t.arity,.own 9000])),(9000,some (.arr 91 1 true (yy0.2.map aE)))]) (fun yy0=>yy0.1<=t.rows.length/\yy0.2=t.rows.take yy0.1) (fun yy0=>t.rows.length - yy0.1) (fun yy0=> .len t.rows.length<| .br (.elem _ aE t.rows (fun e23=> .app Int intD ([]:List Int) e23<| .appx (List Int) aE yy0.2 (([]:List Int)++e23)<| .back [(300,300),(9000,2700)])) (.fin [(0,9000)]))) (p:=Lx (t.rows.map aE)<| (∃(k:Nat) (out:List (List Int)),0=(k:Int)/\t.name=t.name/\t.arity=t.arity/\[]=out.map aE/\k<=t.rows.length/\out=t.rows.take k)/\ ∀(k:Nat) (out:List (List Int)),(k<=t.rows.length/\out=t.rows.take k)->Lm aE t.rows/\Br ((k:Int)<(t.rows.length:Int)) (0<=(k:Int)/\Em aE t.rows k fun e23=>Ap intD ([]:List Int) e23 8 (out.map aE=out.map aE/\(([]:List Int)++e23).map intD=(([]:List Int)++e23).map intD/\(out.length+1)*24<=140737488355328/\bK ((k:Int)+1)/\ ∃(k' :Nat) (out' :List (List Int)),((k:Int)+1)=(k' :Int)/\t.name=t.name/\t.arity=t.arity/\(out++[([]:List Int)++e23]).map aE=out'.map aE/\(k' <=t.rows.length/\out' =t.rows.take k')/\t.rows.length - k' <t.rows.length - k)) (t.name=t.name/\t.arity=t.arity/\out.map aE=t.rows.map aE/\True)) (by kernel_rfl) ?_;refine lx fun n0=>?_;have q1:fF t=t.name.size+cM t.rows:=rfl;have q2:=fX t.rows;refine⟨⟨0,([]:List (List Int)),rfl,rfl,rfl,rfl,aDB _,rfl⟩,fun k out ⟨hk,ho⟩=>?_⟩;refine⟨aAH _,dd (fun c0=>?_) fun c0=>?_⟩
 ·refine⟨by omega,rfl,by omega,fun e23 h23=>?_⟩;have hp3:=aBu h23;refine ap ?_ (fun _=>rfl) (by (simp;omega));refine⟨rfl,rfl,by (simp[ho];omega),⟨by omega,by omega⟩,?_⟩;exact⟨k+1,_,rfl,rfl,rfl,rfl,⟨by omega,by rw[ho,bT h23];rfl⟩,by omega⟩
 ·refine⟨rfl,rfl,?_,trivial⟩
  ·(rw[ho,aGT (by omega)])
abbrev isN (n:ByteArray):aV->Bool:=fun t=>t.name.toList==n.toList
abbrev isI (v:Int):Int->Bool:=fun y=>decide (v=y)
theorem tB {α:Type}{p:α->Bool}{l:List α}:(mK p l<0->l.find? p=none)/\(0<=mK p l-> ∃(k:Nat) (x:α),mK p l=(k:Int)/\l[k]? =some x/\l.find? p=some x):=by
 unfold mK;cases e:l.findIdx? p with
 | none=>
   rw[List.findIdx?_eq_none_iff] at e;refine⟨fun _=>List.find?_eq_none.2 fun x hx=>by rw[e x hx];decide,fun h=>absurd h (by decide)⟩
 | some k=>
   rw[List.findIdx?_eq_some_iff_getElem] at e;obtain⟨hk,hx,hj⟩:=e;refine⟨fun h=>absurd h (by simp only;omega),fun _=>⟨k,l[k],rfl,aFZ hk,?_⟩⟩;rw[List.find?_eq_some_iff_getElem];exact⟨hx,k,hk,rfl,fun j hjk=>by have:=hj j hjk;simpa using this⟩
theorem aOw {l:List Int}{v:Int}:decide (0<=mK (isI v) l)=decide (v∈l):=by
 apply Bool.eq_iff_iff.2;rw[aUa,aUa];constructor
 ·intro h;obtain⟨k,x,_,hx,hf⟩:=tB.2 h;have h1:=List.find?_some hf;have:v=x:=by simpa [isI] using h1
  rw[this];exact aDd hx
 intro h;rcases Int.lt_or_le (mK (isI v) l) 0 with q | q
 ·have:=tB.1 q;rw[List.find?_eq_none] at this;exact absurd (this v h) (by simp[isI])
 exact q
def aO (d:aX)(n:ByteArray):aV × Bool:=if kH d=true then (match d.tables.find? (isN n) with | some t=>(t,true) | none=>(gX,false)) else (gX,false)
theorem aEQ {d:aX}{n:ByteArray}(h:kH d=false\/d.tables.find? (isN n)=none):aO d n=(gX,false):=by
 unfold aO;rcases h with h | h
 ·rw[if_neg (by rw[h];decide)]
 rw[h];split<;>rfl
theorem aLo {d:aX}{n:ByteArray}{t:aV}(h:kH d=true)(hf:d.tables.find? (isN n)=some t):aO d n=(t,true):=by rw[aO,if_pos h,hf]
theorem aVz {d:aX}(h:kH d=true):d.tables.all aZ=true:=by
 simp only[kH,aCA] at h;exact h.1
theorem pH {d:aX}{n:ByteArray}(h:(aO d n).2=true):aZ (aO d n).1=true/\kH d=true:=by
 unfold aO at*;split at h
 ·rename_i hd;rw[if_pos hd];cases e:d.tables.find? (isN n) with
  | none=>rw[e] at h;cases h
  | some t=>exact⟨aI4.1 (aVz hd) t (List.mem_of_find?_eq_some e),hd⟩
 cases h
abbrev aWA (t:aV)(n:ByteArray):Prop:=Cn 136 [.agg [.str t.name,.int .i64 t.arity,.sl 91 1 (t.rows.map aE)],.ref [.str n]] (vB (isN n t)) []
theorem bBS (t:aV)(n:ByteArray):aWA t n:=by
 refine cq Tryz.func136 (.fin []) (p:=Lx (t.rows.map aE)<| (t.name.toList==n.toList)=(isN n t)/\True) (by kernel_rfl) ?_;refine lx fun n0=>?_;apply et1
 ·rfl
abbrev aWB (l:List aV)(n:ByteArray):Prop:=Cn 135 [.one (.sl 142 3 (l.map aS)),.fn 136 [[.str n]]] (vI (mK (isN n) l)) []
theorem bBT (l:List aV)(n:ByteArray):aWB l n:=by
 refine cq Tryz.func135 (.len l.length<| .loop Nat (Q1 Nat) ([5]++rg 8 9++[18]) [] (fun k=>[(8,vI (k:Int))]) (fun k=>[]) (fun k=>k<=l.length/\(l.take k).all (fun y=> !isN n y)=true) (fun k=>l.length - k) (fun k=> .br (.elem _ aS l (fun e14=> .call (vB (isN n e14)) []<| .br (.fin []) (.back []))) (.fin []))) (p:=Lx (l.map aS)<| Lm aS l/\((∃(k:Nat),0=(k:Int)/\k<=l.length/\(l.take k).all (fun y=> !isN n y)=true)/\ ∀(k:Nat),(k<=l.length/\(l.take k).all (fun y=> !isN n y)=true)->Br ((k:Int)<(l.length:Int)) (0<=(k:Int)/\Em aS l k fun e14=>aWA e14 n/\Bb (isN n e14) ((k:Int)=(mK (isN n) l)/\True) (bK ((k:Int)+1)/\ ∃(k' :Nat),((k:Int)+1)=(k' :Int)/\(k' <=l.length/\(l.take k').all (fun y=> !isN n y)=true)/\l.length - k' <l.length - k)) ((-1:Int)=(mK (isN n) l)/\True))) (by kernel_rfl) ?_;refine lx fun n0=>?_;refine⟨aAH _,⟨0,rfl,aDB _,rfl⟩,fun k ⟨hk,ha⟩=>?_⟩;refine dd (fun c0=>?_) fun c0=>?_
 ·refine⟨by omega,rfl,by omega,fun e14 h14=>?_⟩;refine⟨bBS _ _,db (fun c1=>?_) fun c1=>?_⟩
  ·have hE:=aNR (p:=isN n) h14 ha c1;apply et1
   ·rw[hE]
  ·refine⟨⟨by omega,by omega⟩,?_⟩;exact⟨k+1,rfl,⟨by omega,cO h14 ha (by simp[c1])⟩,by omega⟩
 ·have hE:=aHD (p:=isN n) (dJ (by omega) ha);apply et1
  ·rw[hE]
abbrev aI5 (d:aX)(n:ByteArray):AV × List (Nat × Rs):=(.tup [.agg [.p none (.str ((aO d n).1.name)),vI ((aO d n).1.arity),.own 0],vB ((aO d n).2)],[(0,.arr 91 1 true ((aO d n).1.rows.map aE))])
abbrev aQe (d:aX)(n:ByteArray):Prop:=Cn 86 [.agg [.sl 142 3 (d.tables.map aS)],.one (.str n)] (aI5 d n).1 (aI5 d n).2
theorem tZ (d:aX)(n:ByteArray)(hc:bM d<=1048576):aQe d n:=by
 refine cq Tryz.func86 (.call (vI (mK (isN n) d.tables)) []<| .br (.fin []) (.call (vB (kH d)) []<| .lit<| .lit<| .br (.fin []) (.elem _ aS d.tables (fun e22=>bJ (aCv e22)<| .fin [(0,2400)])))) (p:=Lx (d.tables.map aS)<| aWB d.tables n/\Br ((mK (isN n) d.tables)<0) (ByteArray.empty=((aO d n).1.name)/\0=((aO d n).1.arity)/\(false)=((aO d n).2)/\[]=(aO d n).1.rows.map aE/\True) (aFM d/\Nr (kH d) (ByteArray.empty=((aO d n).1.name)/\0=((aO d n).1.arity)/\(false)=((aO d n).2)/\[]=(aO d n).1.rows.map aE/\True) (0<=(mK (isN n) d.tables)/\Em aS d.tables ((mK (isN n) d.tables).toNat) fun e22=>aI2 e22/\e22.name=((aO d n).1.name)/\e22.arity=((aO d n).1.arity)/\(true)=((aO d n).2)/\e22.rows.map aE=(aO d n).1.rows.map aE/\True))) (by kernel_rfl) ?_;refine lx fun n0=>?_;have q1:bM d=jS d.tables:=rfl;have hg:=aY5 (isN n) d.tables;refine⟨bBT _ _,dd (fun g13=>?_) fun g13=>?_⟩
 ·have hbad:aO d n=(gX,false):=aEQ (by (right;exact tB.1 (by omega)));apply et4<;>((rw[hbad]<;>rfl))
 ·refine⟨aSE d,dm (fun c0=>?_) fun c0=>?_⟩
  ·have hbad:aO d n=(gX,false):=aEQ (by (left;simpa using c0;done));apply et4<;>((rw[hbad]<;>rfl))
  ·have hd:kH d=true:=by simpa using c0
   obtain⟨k,y,hk,hy,hf⟩:=tB.2 (show 0<=mK (isN n) d.tables by omega);have hok:=aLo hd hf;refine⟨by omega,rfl,by omega,fun e22 h22=>?_⟩;have hyx:y=e22:=by rw[hk] at h22;exact(aY (by simpa using h22) hy)
   have q2:=aCg h22;rw[hyx] at hok;refine⟨aVx _ (by omega),?_,?_,?_,?_,trivial⟩<;>((rw[hok]<;>rfl))
abbrev aI6 (d:aX)(n:ByteArray):AV × List (Nat × Rs):=(.tup [.agg [.p none (.str ((aO d n).1.name)),vI ((aO d n).1.arity),.own 0],vB ((aO d n).2)],[(0,.arr 91 1 true ((aO d n).1.rows.map aE))])
abbrev aQf (d:aX)(n:ByteArray):Prop:=Cn 126 [.agg [.sl 142 3 (d.tables.map aS)],.one (.str n)] (aI6 d n).1 (aI6 d n).2
theorem uA (d:aX)(n:ByteArray)(hc:bM d<=1048576):aQf d n:=by
 refine cq Tryz.func126 (.loop Nat (Q1 Nat) (rg 6 20) [] (fun k=>[(6,vI (k:Int))]) (fun k=>[]) (fun k=>k<=d.tables.length/\(d.tables.take k).all (fun y=> !isN n y)=true) (fun k=>d.tables.length - k) (fun k=> .len d.tables.length<| .br (.call (vB (kH d)) []<| .lit<| .br (.elem _ aS d.tables (fun e21=> .br (.elem _ aS d.tables (fun e29=>bJ (aCw e29)<| .fin [(0,3100)])) (.back []))) (.fin [])) (.fin []))) (p:=Lx (d.tables.map aS)<| (∃(k:Nat),0=(k:Int)/\k<=d.tables.length/\(d.tables.take k).all (fun y=> !isN n y)=true)/\ ∀(k:Nat),(k<=d.tables.length/\(d.tables.take k).all (fun y=> !isN n y)=true)->Lm aS d.tables/\Br ((k:Int)<(d.tables.length:Int)) (aFN d/\Bb (kH d) (0<=(k:Int)/\Em aS d.tables k fun e21=>Bb (e21.name.toList==n.toList) (0<=(k:Int)/\Em aS d.tables k fun e29=>aI3 e29/\e29.name=((aO d n).1.name)/\e29.arity=((aO d n).1.arity)/\(true)=((aO d n).2)/\e29.rows.map aE=(aO d n).1.rows.map aE/\True) (bK ((k:Int)+1)/\ ∃(k' :Nat),((k:Int)+1)=(k' :Int)/\(k' <=d.tables.length/\(d.tables.take k').all (fun y=> !isN n y)=true)/\d.tables.length - k' <d.tables.length - k)) (ByteArray.empty=((aO d n).1.name)/\0=((aO d n).1.arity)/\(false)=((aO d n).2)/\[]=(aO d n).1.rows.map aE/\True)) (ByteArray.empty=((aO d n).1.name)/\0=((aO d n).1.arity)/\(false)=((aO d n).2)/\[]=(aO d n).1.rows.map aE/\True)) (by kernel_rfl) ?_;refine lx fun n0=>?_;have q1:bM d=jS d.tables:=rfl;refine⟨⟨0,rfl,aDB _,rfl⟩,fun k ⟨hk,ha⟩=>?_⟩;refine⟨aAH _,dd (fun g12=>?_) fun g12=>?_⟩
 ·refine⟨aSF d,db (fun c0=>?_) fun c0=>?_⟩
  ·refine⟨by omega,rfl,by omega,fun e21 h21=>?_⟩
   try (obtain rfl:=(aY h21 h21).symm)
   have q2:=aCg h21;refine db (fun c1=>?_) fun c1=>?_
   ·have hok:=aLo (n:=n) c0 (aNO (p:=isN n) h21 ha c1);refine⟨by omega,rfl,by omega,fun e29 h29=>?_⟩
    try (obtain rfl:=(aY h21 h29).symm)
    refine⟨aVy _ (by omega),?_,?_,?_,?_,trivial⟩<;>((rw[hok]<;>rfl))
   ·refine⟨⟨by omega,by omega⟩,?_⟩;exact⟨k+1,rfl,⟨by omega,cO h21 ha (by simp[isN,c1])⟩,by omega⟩
  ·have hbad:aO d n=(gX,false):=aEQ (by (left;exact c0));apply et4<;>((rw[hbad]<;>rfl))
 ·have hbad:aO d n=(gX,false):=aEQ (by (right;exact aNP (dJ (by omega) ha)));apply et4<;>((rw[hbad]<;>rfl))
abbrev aZK (l:List Int)(v:Int):Prop:=Cn 235 [.one (.sl 3 1 (l.map intD)),.one (.int .i64 v)] (vI (mK (isI v) l)) []
theorem ixI (l:List Int)(v:Int):aZK l v:=by
 refine cq Tryz.func235 (.len l.length<| .loop Nat (Q1 Nat) ([5]++rg 8 9++[18]) [] (fun k=>[(8,vI (k:Int))]) (fun k=>[]) (fun k=>k<=l.length/\(l.take k).all (fun y=> !isI v y)=true) (fun k=>l.length - k) (fun k=> .br (.elem _ intD l (fun e14=> .br (.fin []) (.back []))) (.fin []))) (p:=Lx (l.map intD)<| Lm intD l/\((∃(k:Nat),0=(k:Int)/\k<=l.length/\(l.take k).all (fun y=> !isI v y)=true)/\ ∀(k:Nat),(k<=l.length/\(l.take k).all (fun y=> !isI v y)=true)->Br ((k:Int)<(l.length:Int)) (0<=(k:Int)/\Em intD l k fun e14=>Br (v=e14) ((k:Int)=(mK (isI v) l)/\True) (bK ((k:Int)+1)/\ ∃(k' :Nat),((k:Int)+1)=(k' :Int)/\(k' <=l.length/\(l.take k').all (fun y=> !isI v y)=true)/\l.length - k' <l.length - k)) ((-1:Int)=(mK (isI v) l)/\True))) (by kernel_rfl) ?_;refine lx fun n0=>?_;refine⟨aAH _,⟨0,rfl,aDB _,rfl⟩,fun k ⟨hk,ha⟩=>?_⟩;refine dd (fun c0=>?_) fun c0=>?_
 ·refine⟨by omega,rfl,by omega,fun e14 h14=>?_⟩;refine dd (fun c1=>?_) fun c1=>?_
  ·have hE:=aNR (p:=isI v) h14 ha (by simpa [isI] using c1);apply et1
   ·rw[hE]
  ·refine⟨⟨by omega,by omega⟩,?_⟩;exact⟨k+1,rfl,⟨by omega,cO h14 ha (by simpa [isI] using c1)⟩,by omega⟩
 ·have hE:=aHD (p:=isI v) (dJ (by omega) ha);apply et1
  ·rw[hE]
abbrev aOx (l:List Int)(v:Int):Prop:=Cn 192 [.one (.sl 3 1 (l.map intD)),.one (.int .i64 v)] (vB (decide (v∈l))) []
theorem ctI (l:List Int)(v:Int):aOx l v:=by
 refine cq Tryz.func192 (.call (vI (mK (isI v) l)) []<| .fin []) (p:=Lx (l.map intD)<| aZK l v/\(decide (0<=(mK (isI v) l)))=(decide (v∈l))/\True) (by kernel_rfl) ?_;refine lx fun n0=>?_;refine⟨ixI _ _,?_,trivial⟩
 ·exact aOw
abbrev aWC (l:List Int)(v:Int):Prop:=Cn 183 [.one (.sl 3 1 (l.map intD)),.one (.int .i64 v)] (vB (decide (v∈l))) []
theorem hsI (l:List Int)(v:Int):aWC l v:=by
 refine cq Tryz.func183 (.loop Nat (Q1 Nat) (rg 5 13) [] (fun k=>[(5,vI (k:Int))]) (fun k=>[]) (fun k=>k<=l.length/\(l.take k).all (fun y=> !isI v y)=true) (fun k=>l.length - k) (fun k=> .len l.length<| .br (.elem _ intD l (fun e14=> .br (.fin []) (.back []))) (.fin []))) (p:=Lx (l.map intD)<| (∃(k:Nat),0=(k:Int)/\k<=l.length/\(l.take k).all (fun y=> !isI v y)=true)/\ ∀(k:Nat),(k<=l.length/\(l.take k).all (fun y=> !isI v y)=true)->Lm intD l/\Br ((k:Int)<(l.length:Int)) (0<=(k:Int)/\Em intD l k fun e14=>Br (e14=v) ((true)=(decide (v∈l))/\True) (bK ((k:Int)+1)/\ ∃(k' :Nat),((k:Int)+1)=(k' :Int)/\(k' <=l.length/\(l.take k').all (fun y=> !isI v y)=true)/\l.length - k' <l.length - k)) ((false)=(decide (v∈l))/\True)) (by kernel_rfl) ?_;refine lx fun n0=>?_;refine⟨⟨0,rfl,aDB _,rfl⟩,fun k ⟨hk,ha⟩=>?_⟩;refine⟨aAH _,dd (fun c0=>?_) fun c0=>?_⟩
 ·refine⟨by omega,rfl,by omega,fun e14 h14=>?_⟩;refine dd (fun c1=>?_) fun c1=>?_
  ·have hE:decide (v∈l)=true:=by rw[<-c1];exact decide_eq_true (aDd h14)
   apply et1
   ·rw[hE]
  ·refine⟨⟨by omega,by omega⟩,?_⟩;exact⟨k+1,rfl,⟨by omega,cO h14 ha (by simpa [isI] using fun q=>c1 (Eq.symm q))⟩,by omega⟩
 ·have hE:decide (v∈l)=false:=by rw[<-aOw,aHD (p:=isI v) (dJ (by omega) ha)];rfl
  apply et1
  ·rw[hE]
def jA (d:aX)(f:aR):Bool:=(aO d f.name).2&&(eG ((aO d f.name).1.arity - 1) f.src&&(eQ f.dst 0 ((aO d f.name).1.arity - 1)&& !decide (f.dst∈f.src)))
def aQg (rows:List (List Int))(cols:List Int)(c:Int)(i k:Nat):Bool:=decide ((gB (rows.getD i []) cols).1=(gB (rows.getD k []) cols).1)&& !decide ((rows.getD i []).getD c.toNat 0=(rows.getD k []).getD c.toNat 0)
def lZ (rows:List (List Int))(cols:List Int)(c:Int)(k:Nat):Nat->List Int
 | 0=>[]
 | i+1=>if lZ rows cols c k i= []/\aQg rows cols c i k=true then [(i:Int),(k:Int)] else lZ rows cols c k i
def mO (rows:List (List Int))(cols:List Int)(c:Int):Nat->List Int
 | 0=>[]
 | k+1=>if mO rows cols c k= [] then lZ rows cols c k k else mO rows cols c k
def lN (d:aX)(f:aR):List Int:=if jA d f=true then mO (aO d f.name).1.rows f.src f.dst (aO d f.name).1.rows.length else []
theorem aER {rows:List (List Int)}{cols:List Int}{c:Int}{k i:Nat}(h:lZ rows cols c k i= [])(hb:aQg rows cols c i k=false):lZ rows cols c k (i+1)= []:=by rw[lZ,if_neg (by simp[hb]),h]
theorem aI7 {rows:List (List Int)}{cols:List Int}{c:Int}{k i:Nat}(h: ¬lZ rows cols c k i= []): ∀j,lZ rows cols c k (i+j)=lZ rows cols c k i
 | 0=>rfl
 | j+1=>by rw[Nat.add_succ,lZ,aI7 h j,if_neg (by simp[h])]
theorem aI8 {rows:List (List Int)}{cols:List Int}{c:Int}{k:Nat}(h: ¬mO rows cols c k= []): ∀j,mO rows cols c (k+j)=mO rows cols c k
 | 0=>rfl
 | j+1=>by rw[Nat.add_succ,mO,aI8 h j,if_neg h]
theorem aI9 {rows:List (List Int)}{cols:List Int}{c:Int}{k i n:Nat}(hk:mO rows cols c k= [])(hi:lZ rows cols c k i= [])(hb:aQg rows cols c i k=true)(hik:i<k)(hkn:k<n):mO rows cols c n= [(i:Int),(k:Int)]:=by
 have h1:lZ rows cols c k (i+1)= [(i:Int),(k:Int)]:=by rw[lZ,if_pos ⟨hi,hb⟩]
 have h2:lZ rows cols c k k= [(i:Int),(k:Int)]:=by
  have:=aI7 (rows:=rows) (cols:=cols) (c:=c) (k:=k) (i:=i+1) (by rw[h1];simp) (k - (i+1));rw[show i+1+(k - (i+1))=k by omega,h1] at this;exact this
 have h3:mO rows cols c (k+1)= [(i:Int),(k:Int)]:=by rw[mO,if_pos hk,h2]
 have:=aI8 (rows:=rows) (cols:=cols) (c:=c) (k:=k+1) (by rw[h3];simp) (n - (k+1));rw[show k+1+(n - (k+1))=n by omega,h3] at this;exact this
theorem aIa {rows:List (List Int)}{cols:List Int}{c:Int}{k:Nat}(hk:mO rows cols c k= [])(hi:lZ rows cols c k k= []):mO rows cols c (k+1)= []:=by rw[mO,if_pos hk,hi]
theorem aFq {d:aX}{f:aR}(h:jA d f=true):aZ (aO d f.name).1=true/\0<=f.dst/\f.dst<=(aO d f.name).1.arity - 1/\f.src.length<=3:=by
 simp only[jA,aCA] at h;obtain⟨h1,h2,h3,_⟩:=h;have hT:=(pH h1).1;have ha:=cH hT;have:=eN h3;exact⟨hT,this.1,this.2,aEI h2 (by omega)⟩
theorem aSG {rows:List (List Int)}{cols:List Int}{c:Int}{i k:Nat}{x y:List Int}(hx:rows[i]? =some x)(hy:rows[k]? =some y):aQg rows cols c i k=(decide ((gB x cols).1=(gB y cols).1)&& !decide (x.getD c.toNat 0=y.getD c.toNat 0)):=by
 rw[aQg,bO hx,bO hy]
def mA (d:aX)(f:aR):Bool:=jA d f&&decide (lN d f= [])
theorem aOy {α:Type}[DecidableEq α](l:List α):decide ((l.length:Int)=0)=decide (l= []):=by
 cases l with
 | nil=>rfl
 | cons a l=>simp;omega
abbrev yH (d:aX)(f:aR):Prop:=Cn 231 [.agg [.sl 142 3 (d.tables.map aS)],.agg [.str f.name,.sl 3 1 (f.src.map intD),.int .i64 f.dst]] (vB (jA d f)) []
theorem aIb (d:aX)(f:aR)(hc:bM d<=1048576):yH d f:=by
 refine cq Tryz.func231 (.call (.tup [.agg [.p none (.str ((aO d f.name).1.name)),vI ((aO d f.name).1.arity),.p none (.sl 91 1 ((aO d f.name).1.rows.map aE))],vB ((aO d f.name).2)]) []<| .br (.call (vB (eG (((aO d f.name).1.arity) - 1) f.src)) []<| .lit<| .br (.raw<| .call (vB (eQ f.dst (0:Int) (IntKind.i64.wrap (((aO d f.name).1.arity) - 1)))) []<| .lit<| .br (.call (vB (decide (f.dst∈f.src))) []<| .fin []) (.fin [])) (.fin [])) (.fin [])) (p:=Lx (d.tables.map aS)<| Lx (f.src.map intD)<| rM Tryz.prog 86 [.agg [.sl 142 3 (d.tables.map aS)],.one (.str f.name)] (.tup [.agg [.p none (.str ((aO d f.name).1.name)),vI ((aO d f.name).1.arity),.p none (.sl 91 1 ((aO d f.name).1.rows.map aE))],vB ((aO d f.name).2)]) []/\Bb ((aO d f.name).2) (aAi f.src ((aO d f.name).1.arity)/\Bb (eG (((aO d f.name).1.arity) - 1) f.src) (fH f.dst (0:Int) (IntKind.i64.wrap (((aO d f.name).1.arity) - 1))/\Bb (eQ f.dst (0:Int) (IntKind.i64.wrap (((aO d f.name).1.arity) - 1))) (aOx f.src f.dst/\(!(decide (f.dst∈f.src)))=(jA d f)/\True) ((false)=(jA d f)/\True)) ((false)=(jA d f)/\True)) ((false)=(jA d f)/\True)) (by kernel_rfl) ?_;refine lx fun n0=>lx fun n1=>?_;refine⟨kX (tZ _ f.name (by omega)) rfl,db (fun g15=>?_) fun g15=>?_⟩
 ·have hT:=(pH g15).1;have hA:=cH hT;have hw:IntKind.i64.wrap ((aO d f.name).1.arity - 1)=(aO d f.name).1.arity - 1:=IntWalk.i64_in _ ⟨by omega,by omega⟩
  try rw[hw]
  refine⟨aLc _ _ (by omega),db (fun g22=>?_) fun g22=>?_⟩
  ·refine⟨jT _ _ _,db (fun g30=>?_) fun g30=>?_⟩
   ·refine⟨ctI _ _,?_,trivial⟩
    ·(simp[jA, *];done)
   ·apply et1
    ·(simp[jA, *];done)
  ·apply et1
   ·(simp[jA, *];done)
 ·apply et1
  ·(simp[jA, *];done)
abbrev yI (d:aX)(f:aR):Prop:=Cn 222 [.agg [.sl 142 3 (d.tables.map aS)],.agg [.str f.name,.sl 3 1 (f.src.map intD),.int .i64 f.dst]] (vB (jA d f)) []
theorem aIc (d:aX)(f:aR)(hc:bM d<=1048576):yI d f:=by
 refine cq Tryz.func222 (.call (.tup [.agg [.p none (.str ((aO d f.name).1.name)),vI ((aO d f.name).1.arity),.p none (.sl 91 1 ((aO d f.name).1.rows.map aE))],vB ((aO d f.name).2)]) []<| .br (.call (vB (aZ ((aO d f.name).1)&&eG ((aO d f.name).1.arity - 1) f.src)) []<| .lit<| .br (.raw<| .call (vB (eQ f.dst (0:Int) (IntKind.i64.wrap (((aO d f.name).1.arity) - 1)))) []<| .lit<| .br (.call (vB (decide (f.dst∈f.src))) []<| .fin []) (.fin [])) (.fin [])) (.fin [])) (p:=Lx (d.tables.map aS)<| Lx (f.src.map intD)<| rM Tryz.prog 126 [.agg [.sl 142 3 (d.tables.map aS)],.one (.str f.name)] (.tup [.agg [.p none (.str ((aO d f.name).1.name)),vI ((aO d f.name).1.arity),.p none (.sl 91 1 ((aO d f.name).1.rows.map aE))],vB ((aO d f.name).2)]) []/\Bb ((aO d f.name).2) (aAj ((aO d f.name).1) f.src/\Bb (aZ ((aO d f.name).1)&&eG ((aO d f.name).1.arity - 1) f.src) (fI f.dst (0:Int) (IntKind.i64.wrap (((aO d f.name).1.arity) - 1))/\Bb (eQ f.dst (0:Int) (IntKind.i64.wrap (((aO d f.name).1.arity) - 1))) (aWC f.src f.dst/\(!(decide (f.dst∈f.src)))=(jA d f)/\True) ((false)=(jA d f)/\True)) ((false)=(jA d f)/\True)) ((false)=(jA d f)/\True)) (by kernel_rfl) ?_;refine lx fun n0=>lx fun n1=>?_;refine⟨kX (uA _ f.name (by omega)) rfl,db (fun g15=>?_) fun g15=>?_⟩
 ·have hT:=(pH g15).1;have hA:=cH hT;have hw:IntKind.i64.wrap ((aO d f.name).1.arity - 1)=(aO d f.name).1.arity - 1:=IntWalk.i64_in _ ⟨by omega,by omega⟩
  try rw[hw]
  refine⟨aLd ((aO d f.name).1) _,db (fun g21=>?_) fun g21=>?_⟩
  ·refine⟨jU _ _ _,db (fun g29=>?_) fun g29=>?_⟩
   ·refine⟨hsI _ _,?_,trivial⟩
    ·(simp[jA, *] at*;simp[*];done)
   ·apply et1
    ·(simp[jA, *];done)
  ·apply et1
   ·(simp[jA, *] at*;simp[*];done)
 ·apply et1
  ·(simp[jA, *];done)
end Go.Proofs.YtlidmoeecphbmaaGreat
namespace Go.Proofs
open Go.Shelf
namespace YtlidmoeecphbmaaGreat
def Tryz.lays189_ren:Go.Shelf.Ren:=⟨fun | 189=>250 | 125=>261 | 257=>260 | 128=>275 | 129=>276 | 294=>266 | 295=>267 | 296=>268 | 297=>269 | 298=>270 | 299=>271 | 216=>272 | 300=>273 | 301=>274 | 328=>286 | 329=>287 | 330=>288 | 331=>289 | 332=>290 | 215=>291 | 343=>295 | n=>n,fun | 28=>91 | 3=>3 | 46=>255 | 0=>0 | 51=>267 | 53=>269 | 4=>4 | 183=>259 | 182=>258 | 131=>264 | 5=>5 | 9=>9 | 218=>275 | 222=>279 | 228=>284 | 229=>285 | n=>n,fun | n=>n⟩
theorem Tryz.lays189:Go.Proofs.Lays.n189 Tryz.prog Tryz.lays189_ren:={
 mixed:=by kernel_rfl
 f125:=Tryz.func261.trans (congrArg some (by kernel_rfl))
 f128:=Tryz.func275.trans (congrArg some (by kernel_rfl))
 f129:=Tryz.func276.trans (congrArg some (by kernel_rfl))
 f189:=Tryz.func250.trans (congrArg some (by kernel_rfl))
 f215:=Tryz.func291.trans (congrArg some (by kernel_rfl))
 f216:=Tryz.func272.trans (congrArg some (by kernel_rfl))
 f257:=Tryz.func260.trans (congrArg some (by kernel_rfl))
 f294:=Tryz.func266.trans (congrArg some (by kernel_rfl))
 f295:=Tryz.func267.trans (congrArg some (by kernel_rfl))
 f296:=Tryz.func268.trans (congrArg some (by kernel_rfl))
 f297:=Tryz.func269.trans (congrArg some (by kernel_rfl))
 f298:=Tryz.func270.trans (congrArg some (by kernel_rfl))
 f299:=Tryz.func271.trans (congrArg some (by kernel_rfl))
 f300:=Tryz.func273.trans (congrArg some (by kernel_rfl))
 f301:=Tryz.func274.trans (congrArg some (by kernel_rfl))
 f328:=Tryz.func286.trans (congrArg some (by kernel_rfl))
 f329:=Tryz.func287.trans (congrArg some (by kernel_rfl))
 f330:=Tryz.func288.trans (congrArg some (by kernel_rfl))
 f331:=Tryz.func289.trans (congrArg some (by kernel_rfl))
 f332:=Tryz.func290.trans (congrArg some (by kernel_rfl))
 f343:=Tryz.func295.trans (congrArg some (by kernel_rfl))
 t0:=Tryz.underlying0
 a0:=Tryz.isAgg0
 z0:=Tryz.sizeOf0
 v0:=Tryz.zeroValue0
 t3:=Tryz.underlying3
 a3:=Tryz.isAgg3
 z3:=Tryz.sizeOf3
 v3:=Tryz.zeroValue3
 t4:=Tryz.underlying4
 a4:=Tryz.isAgg4
 z4:=Tryz.sizeOf4
 v4:=Tryz.zeroValue4
 t5:=Tryz.underlying5
 a5:=Tryz.isAgg5
 z5:=Tryz.sizeOf5
 v5:=Tryz.zeroValue5
 t9:=Tryz.underlying9
 a9:=Tryz.isAgg9
 z9:=Tryz.sizeOf9
 v9:=Tryz.zeroValue9
 t28:=Tryz.underlying91
 a28:=Tryz.isAgg91
 z28:=Tryz.sizeOf91
 v28:=Tryz.zeroValue91
 t46:=Tryz.underlying255
 a46:=Tryz.isAgg255
 z46:=Tryz.sizeOf255
 v46:=Tryz.zeroValue255
 t51:=Tryz.underlying267
 a51:=Tryz.isAgg267
 z51:=Tryz.sizeOf267
 v51:=Tryz.zeroValue267
 t53:=Tryz.underlying269
 a53:=Tryz.isAgg269
 z53:=Tryz.sizeOf269
 v53:=Tryz.zeroValue269
 t131:=Tryz.underlying264
 a131:=Tryz.isAgg264
 z131:=Tryz.sizeOf264
 v131:=Tryz.zeroValue264
 t182:=Tryz.underlying258
 a182:=Tryz.isAgg258
 z182:=Tryz.sizeOf258
 v182:=Tryz.zeroValue258
 t183:=Tryz.underlying259
 a183:=Tryz.isAgg259
 z183:=Tryz.sizeOf259
 v183:=Tryz.zeroValue259
 t218:=Tryz.underlying275
 a218:=Tryz.isAgg275
 z218:=Tryz.sizeOf275
 v218:=Tryz.zeroValue275
 t222:=Tryz.underlying279
 a222:=Tryz.isAgg279
 z222:=Tryz.sizeOf279
 v222:=Tryz.zeroValue279
 t228:=Tryz.underlying284
 a228:=Tryz.isAgg284
 z228:=Tryz.sizeOf284
 v228:=Tryz.zeroValue284
 t229:=Tryz.underlying285
 a229:=Tryz.isAgg285
 z229:=Tryz.sizeOf285
 v229:=Tryz.zeroValue285 }
end YtlidmoeecphbmaaGreat
end Go.Proofs
namespace Go.Proofs.YtlidmoeecphbmaaGreat
open Go.ChangeShapes Go.WideShapes Go.ChangeAt Go.RowKit
set_option linter.unusedVariables false
set_option linter.unusedSimpArgs false
theorem aFO {w:World}: ∀{l:List Int} {css:List (List Value)} {Fs:List (List Nat)},cV w 1 (l.map intD) css Fs->css.flatten=l.map (Value.int .i64)/\Fs.flatten= []
 | [],css,Fs,h=>by
   simp only[List.map_nil] at h;unfold cV at h;rw[h.1,h.2];simp
 | n::l,css,Fs,h=>by
   simp only[aLz] at h;unfold cV at h;obtain⟨c,css',F,Fs',rfl,rfl,_,h1,h2⟩:=h;obtain⟨q1,q2⟩:=aFO h2;unfold intD dN at h1;obtain⟨v,cs',F1,F2,rfl,rfl,h3,h4⟩:=h1;unfold dN at h4;unfold qZ at h3;simp[q1,q2,h4.1,h4.2,h3.1,h3.2]
theorem yJ (w:World): ∀(l:List Int),cV w 1 (l.map intD) (l.map fun n=>[Value.int .i64 n]) (l.map fun _=>[])
 | []=>by simp only[List.map_nil];unfold cV;exact⟨rfl,rfl⟩
 | n::l=>by
   simp only[aLz];unfold cV;refine⟨_,_,_,_,rfl,rfl,rfl,?_,yJ w l⟩;unfold intD dN;refine⟨_,_,[],[],rfl,rfl,?_,?_⟩
   ·unfold qZ;exact⟨rfl,rfl⟩
   unfold dN;exact⟨rfl,rfl⟩
theorem aFP: ∀(m:List Int),(m.map fun n=>[Value.int .i64 n]).flatten=m.map (Value.int .i64)
 | []=>rfl
 | a::l=>by simp only[aLz,aOc,aFP l];rfl
theorem aLp {P:Program}{f:FuncId}{e:Nat}(l m:List Int)(hc:kF P f=true)(hm:m.length=l.length)
 (hn0:l= []-> ∀w,Calls P f #[.slice none 0 0] w (fun ex w' =>ex= .returned (.tuple #[])/\w' =w))
 (hs: ∀(blk cap:Nat) (w:World),Go.Sort.Holds (Value.int .i64) w blk 0 l.toArray->blk<w.heap.size->l.length<=cap->Calls P f #[.slice (some ⟨blk,0,none⟩) l.length cap] w (fun ex w' =>ex= .returned (.tuple #[])/\ ∃n os,w' =Go.Sort.grow (Go.Sort.putRow (Value.int .i64) (Go.Sort.ahead w n) blk 0 m.toArray) os)):
 vX P f [.own 0] [(0,.arr e 1 true (l.map intD))] (.tup []) [(0,.arr e 1 true (m.map intD))]:=by
 refine⟨hc,by simp,fun A φ w vs hI hM=>?_⟩;obtain⟨pl,hp,css,Fs,q1,q2,q3,q4⟩:=hI.dom 0 _ rfl;unfold aT at hM;obtain⟨v,us,e1,m1,hM⟩:=hM;unfold aT at hM;unfold aJ at m1;have hv:=m1 pl hp;have ev:vs= #[pl.val]:=by apply Array.ext';rw[e1,hM,hv]
 rw[ev];obtain⟨c1,c2⟩:=aFO q4;rw[c1,aAH] at q1;have hge:=hI.ge 0 pl hp;have hsub:pl.sub= []:=by rw[q3,c2]
 have hfoot: ∀b∈pl.F,aMr φ b:=fun b hb=>⟨0,pl,trivial,hp,hb⟩
 have hend: ∀(w' :World),nK pl.F w w' ->w'.ownsRow 0 e 1 pl.val l.length (m.map (Value.int .i64))->
  ∃v K φ',Ending.returned (.tuple #[])= .returned v/\aSr A φ w [(0,.arr e 1 true (m.map intD))] K φ' w' /\aJ K φ' w' (.tup []) v:=by
  intro w' hon howns;refine⟨_,A,fun h=>if h=0 then some pl else none,rfl,⟨⟨hon.os,hon.tape,hon.output,hon.size,fun b hb hn=>hon.block b hb (fun hm=>hn (hfoot b hm))⟩,fun _ h=>h,fun b hb=>⟨aUY (hI.lt b hb) hon.size,.inl hb⟩,fun b hb h pl1 e' hm' =>?_,fun h r hr=>?_,fun h hr=>?_,fun h h' pl1 pl2 hne ea eb=>?_,fun h pl1 e' =>?_,fun h pl1 e' g hg=>?_,fun h pl1 pl0 e' e0=>?_⟩,?_⟩
  ·split at e'
   ·injection e' with e';subst e'
    exact hI.out b hb 0 pl hp hm'
   cases e'
  ·simp only[bF] at hr;split at hr
   ·rename_i eh;subst eh;injection hr with hr
    subst hr;refine⟨pl,by simp,m.map fun n=>[Value.int .i64 n],m.map fun _=>[],?_,q2,?_,yJ _ m⟩
    ·rw[aFP,aAH,hm];exact howns
    rw[hsub];simp
   cases hr
  ·simp only[bF] at hr;split at hr
   ·cases hr
   rename_i eh;exact if_neg eh
  ·split at ea
   ·split at eb
    ·rename_i x y;exact absurd (x.trans y.symm) hne
    cases eb
   cases ea
  ·split at e'
   ·injection e' with e';subst e';exact hI.nodup 0 pl hp
   cases e'
  ·split at e'
   ·injection e' with e';subst e'
    exact⟨.inr (hfoot g hg),aUY (hge g hg) hon.size⟩
   cases e'
  ·split at e'
   ·rename_i eh;subst eh;rw[hp] at e0;injection e0 with e0;injection e' with e'
    subst e0;subst e';exact⟨rfl,rfl⟩
   cases e'
  unfold aJ;exact⟨#[],rfl,by unfold aT;rfl⟩
 rcases q1.2 with ⟨hvn,hz⟩ | ⟨g,cap,cur,hvv,hg0,hb,hn,hcap,hsz,htk⟩
 ·have hz' :l= []:=aKV hz;rw[hvn];refine(hn0 hz' w).mono ?_;rintro en w' ⟨rfl,rfl⟩;have hm0:m= []:=aKV (by rw[hm,hz]);refine hend w' (nK.refl _ _) ?_;rw[hvn,hm0,hz];exact⟨by simp,.inl ⟨rfl,rfl⟩⟩
 have hlt:g<w.heap.size:=(Array.getElem?_eq_some_iff.1 hb).1;have hH:Go.Sort.Holds (Value.int .i64) w g 0 l.toArray:=holds_of_blockI hb (by rw[Nat.mul_one] at htk;exact htk);rw[hvv];refine(hs g cap w hH hlt hn).mono ?_;rintro en w' ⟨rfl,n,os,rfl⟩;have hgb:=grownBy_sortedI (w:=w) (g:=g) (n:=n) (os:=os) m.toArray;have hown:=ownsRow_sortedI (n:=n) (os:=os) hm hg0 hb hn hcap hsz;refine hend _ ⟨hgb.os,hgb.tape,hgb.output,hgb.size,fun k hk hne=>hgb.block k hk (fun e=>hne (by injection e with e;subst e;unfold Pl.F;rw[q2,hvv];simp[Value.ownBlock]))⟩ ?_;rw[hvv];exact hown
def kV (l:List Int):List Int:=l.mergeSort fun x y=>decide (x<=y)
theorem aId (l:List Int):(kV l).Perm l:=List.mergeSort_perm l _
theorem wW (l:List Int):(kV l).length=l.length:=(aId l).length_eq
theorem aQh (l:List Int):(kV l).Pairwise (· <= ·):=by
 have:=List.pairwise_mergeSort (le:=fun x y:Int=>decide (x<=y)) (fun a b c h1 h2=>by simp at*;omega) (fun a b=>by simp;omega) l;exact this.imp (fun h=>by simpa using h)
theorem aLq (l:List Int)(hl:l.length<4611686018427387904):vX Tryz.prog 250 [.own 0] [(0,.arr 3 1 true (l.map intD))] (.tup []) [(0,.arr 3 1 true ((kV l).map intD))]:=
 aLp l (kV l) (by kernel_rfl) (wW l)
  (fun h w=>Any.slices_Sort_int_none Tryz.lays189 none 0 w)
  (fun blk cap w hH hblk _=>Any.slices_Sort_int Tryz.lays189 blk 0 cap l w hH hblk hl)
end Go.Proofs.YtlidmoeecphbmaaGreat
namespace Go.Proofs
open Go.Shelf
namespace YtlidmoeecphbmaaGreat
def Tryz.compInts_ren:Go.Shelf.Ren:=⟨fun | 43=>251 | n=>n,fun | 22=>91 | 23=>3 | 3=>3 | 4=>4 | 0=>0 | n=>n,fun | n=>n⟩
theorem Tryz.compInts:Go.Proofs.SlLaysE.n43 Tryz.prog Tryz.compInts_ren:={
 mixed:=by kernel_rfl
 f43:=⟨Tryz.f251.name,by decide,Tryz.func251.trans (congrArg some (by kernel_rfl))⟩
 t0:=Tryz.underlying0
 a0:=Tryz.isAgg0
 z0:=Tryz.sizeOf0
 v0:=Tryz.zeroValue0
 t3:=Tryz.underlying3
 a3:=Tryz.isAgg3
 z3:=Tryz.sizeOf3
 v3:=Tryz.zeroValue3
 t4:=Tryz.underlying4
 a4:=Tryz.isAgg4
 z4:=Tryz.sizeOf4
 v4:=Tryz.zeroValue4
 t22:=Tryz.underlying91
 a22:=Tryz.isAgg91
 z22:=Tryz.sizeOf91
 v22:=Tryz.zeroValue91
 a23:=Tryz.isAgg3
 z23:=Tryz.sizeOf3 }
end YtlidmoeecphbmaaGreat
end Go.Proofs
namespace Go.Proofs.YtlidmoeecphbmaaGreat
open Go.ChangeShapes Go.WideShapes Go.ChangeAt Go.RowKit Go.Lib
set_option linter.unusedVariables false
set_option linter.unusedSimpArgs false
theorem aQi {P:Program}{f:FuncId}{e:Nat}(l m:List Int)(hc:kF P f=true)(hm:m.length<=l.length)(hm0:l= []->m= [])
 (hn0:l= []-> ∀w,Calls P f #[.slice none 0 0] w (fun ex w' =>ex= .returned (.slice none 0 0)/\w' =w))
 (hs: ∀(blk cap:Nat) (w:World),Go.Sort.Holds (Value.int .i64) w blk 0 l.toArray->blk<w.heap.size->l.length<=cap->Calls P f #[.slice (some ⟨blk,0,none⟩) l.length cap] w (fun ex w' =>ex= .returned (.slice (some ⟨blk,0,none⟩) m.length cap)/\ ∃n os z,(m++z).length=l.length/\w' =Go.Sort.grow (Go.Sort.putRow (Value.int .i64) (Go.Sort.ahead w n) blk 0 (m++z).toArray) os)):
 vX P f [.own 0] [(0,.arr e 1 true (l.map intD))] (.own 1) [(1,.arr e 1 true (m.map intD))]:=by
 refine⟨hc,by simp,fun A φ w vs hI hM=>?_⟩;obtain⟨pl,hp,css,Fs,q1,q2,q3,q4⟩:=hI.dom 0 _ rfl;unfold aT at hM;obtain⟨v,us,e1,m1,hM⟩:=hM;unfold aT at hM;unfold aJ at m1;have hv:=m1 pl hp;have ev:vs= #[pl.val]:=by apply Array.ext';rw[e1,hM,hv]
 rw[ev];obtain⟨c1,c2⟩:=aFO q4;rw[c1,aAH] at q1;have hge:=hI.ge 0 pl hp;have hsub:pl.sub= []:=by rw[q3,c2]
 have hfoot: ∀b∈pl.F,aMr φ b:=fun b hb=>⟨0,pl,trivial,hp,hb⟩;have h1:φ 1=none:=hI.non 1 rfl
 have hend: ∀(v' :Value) (w' :World),nK pl.F w w' ->(∀b∈v'.ownBlock,b∈pl.val.ownBlock)->w'.ownsRow 0 e 1 v' m.length (m.map (Value.int .i64))->
  ∃v K φ',Ending.returned v' = .returned v/\aSr A φ w [(1,.arr e 1 true (m.map intD))] K φ' w' /\aJ K φ' w' (.own 1) v:=by
  intro v' w' hon hvb howns
  let pl' :Pl:=⟨v',v'.ownBlock.toList,[]⟩
  have hmem: ∀g,g∈pl'.F->g∈pl.F:=fun g hg=>by
   unfold Pl.F;simp only[pl',Pl.F,aZC,Option.mem_toList] at hg;rw[q2];exact aL6 _ (by rw[Option.mem_toList];exact hvb g hg)
  have hnd' :pl'.F.Nodup:=by simp only[pl',Pl.F,aZC];cases v'.ownBlock<;>simp
  refine⟨_,A,fun h=>if h=1 then some pl' else none,rfl,⟨⟨hon.os,hon.tape,hon.output,hon.size,fun b hb hn=>hon.block b hb (fun hm=>hn (hfoot b hm))⟩,fun _ h=>h,fun b hb=>⟨aUY (hI.lt b hb) hon.size,.inl hb⟩,fun b hb h pl1 e' hm' =>?_,fun h r hr=>?_,fun h hr=>?_,fun h h' pl1 pl2 hne ea eb=>?_,fun h pl1 e' =>?_,fun h pl1 e' g hg=>?_,fun h pl1 pl0 e' e0=>?_⟩,?_⟩
  ·split at e'
   ·injection e' with e';subst e'
    exact hI.out b hb 0 pl hp (hmem b hm')
   cases e'
  ·simp only[bF] at hr;split at hr
   ·rename_i eh;subst eh;injection hr with hr
    subst hr;refine⟨pl',by simp,m.map fun n=>[Value.int .i64 n],m.map fun _=>[],?_,rfl,?_,yJ _ m⟩
    ·rw[aFP,aAH];exact howns
    simp[pl']
   cases hr
  ·simp only[bF] at hr;split at hr
   ·cases hr
   rename_i eh;exact if_neg eh
  ·split at ea
   ·split at eb
    ·rename_i x y;exact absurd (x.trans y.symm) hne
    cases eb
   cases ea
  ·split at e'
   ·injection e' with e';subst e';exact hnd'
   cases e'
  ·split at e'
   ·injection e' with e';subst e'
    have:=hmem g hg;exact⟨.inr (hfoot g this),aUY (hge g this) hon.size⟩
   cases e'
  ·split at e'
   ·rename_i eh;subst eh;rw[h1] at e0;cases e0
   cases e'
  unfold aJ;intro pl1 e';simp at e';subst e';rfl
 rcases q1.2 with ⟨hvn,hz⟩ | ⟨g,cap,cur,hvv,hg0,hb,hn,hcap,hsz,htk⟩
 ·have hz' :l= []:=aKV hz;rw[hvn];refine(hn0 hz' w).mono ?_;rintro en w' ⟨rfl,rfl⟩;refine hend (.slice none 0 0) w' (nK.refl _ _) (fun b hb=>by cases hb) ?_;rw[hm0 hz'];exact⟨by simp,.inl ⟨rfl,rfl⟩⟩
 have hlt:g<w.heap.size:=(Array.getElem?_eq_some_iff.1 hb).1;have hH:Go.Sort.Holds (Value.int .i64) w g 0 l.toArray:=holds_of_blockI hb (by rw[Nat.mul_one] at htk;exact htk);rw[hvv];refine(hs g cap w hH hlt hn).mono ?_;rintro en w' ⟨rfl,n,os,z,hz,rfl⟩;have hgb:=grownBy_sortedI (w:=w) (g:=g) (n:=n) (os:=os) (m++z).toArray;have hown:=ownsRow_sortedI (n:=n) (os:=os) hz hg0 hb hn hcap hsz;refine hend _ _ ⟨hgb.os,hgb.tape,hgb.output,hgb.size,fun k hk hne=>hgb.block k hk (fun e=>hne (by injection e with e;subst e;unfold Pl.F;rw[q2,hvv];simp[Value.ownBlock]))⟩ (fun b hb' =>by rw[hvv];exact hb') ?_;rcases hown.2 with ⟨hvn,_⟩ | ⟨g',cap',cur',hv',hg',hb',hn',hcap',hsz',htk'⟩
 ·cases hvn
 simp only[Value.slice.injEq,Option.some.injEq,Addr.mk.injEq,and_true] at hv';obtain⟨rfl,_,rfl⟩:=hv';refine⟨by simp,.inr ⟨g,cap,cur',rfl,hg',hb',by omega,hcap',hsz',?_⟩⟩;rw[Nat.mul_one] at*;have h3:=congrArg (List.take m.length) htk';rw[List.take_take,Nat.min_eq_left hm,aMQ,List.take_append_of_le_length (by simp)] at h3;rw[h3,aGT (by simp)]
def vL (l:List Int):List Int:=compactUpTo l.toArray l.toArray.size
theorem aOz (l:List Int):(vL l).length<=l.length:=by
 unfold vL compactUpTo;rw[aAH];have:=(List.filter_sublist (l:=List.range l.toArray.size) (p:=keeps l.toArray)).length_le;simpa using this
theorem aLr {l:List Int}:vL l= []↔l= []:=by
 constructor
 ·intro h;by_cases e:l= []
  ·exact e
  exfalso;have hp:0<l.length:=List.length_pos_iff.2 e;unfold vL compactUpTo at h;rw[List.map_eq_nil_iff,List.filter_eq_nil_iff] at h;exact h 0 (aR2.2 (by simpa using hp)) (keeps_lt_one _ 0 (by omega))
 rintro rfl;rfl
theorem tyI:gU Tryz.prog 3=some (false,1,8,.int .i64 0):=by kernel_rfl
theorem bAt (w:World):(zeroValue 3).run Tryz.prog w= .ok (.int .i64 0) w:=(gP tyI w).2.2.1
theorem aTM (l:List Int)(hl:l.length<4611686018427387904):vX Tryz.prog 251 [.own 0] [(0,.arr 3 1 true (l.map intD))] (.own 1) [(1,.arr 3 1 true ((vL l).map intD))]:=
 aQi l (vL l) (by kernel_rfl) (aOz l) (fun h=>aLr.2 h)
  (fun h w=>by
   go_enter Tryz.func251,Tryz.ntmps251
   go_wp2
   go_ret
   exact⟨rfl,rfl⟩)
  (fun blk cap w hH hblk hn=>(AnyE.slices_Compact Tryz.compInts (Value.int .i64) (fun _=>rfl) (EqlAt.intD _ _ .i64) (NeqAt.intD _ _ .i64) 0 (fun w=>bAt w) blk 0 cap l.toArray w hH (by rw[List.size_toArray];omega) (by rw[List.size_toArray];exact hn)).mono fun e w' ⟨he,q,hw⟩=>
   ⟨by have e1:l.toArray.size=l.length:=by simp
       rw[e1] at he;unfold vL;rw[e1];exact he,q,#[],List.replicate (l.length - (vL l).length) 0,by have:=aOz l;simp;omega,by rw[hw,Go.Sort.grow_empty];simp[vL]⟩)
end Go.Proofs.YtlidmoeecphbmaaGreat
