/-
  Contracts and plain laws, joined: part 9.
-/
import Derived.Test.YtlidmoeecphbmaaGreateb7
import Derived.Test.YtlidmoeecphbmaaGreateb6
import Derived.Test.YtlidmoeecphbmaaGreateb5
import Derived.Test.YtlidmoeecphbmaaGreateb4
import Derived.IntWalk
import Derived.Test.YtlidmoeecphbmaaGreateb3
import Derived.Shelf.Sort.Plain
import Derived.Shelf.Slices.In.SortNone
import Derived.Sort.OwnSortedInts
import Derived.Shelf.SlicesE.Compact
import Derived.Ground.SlgnProg
namespace Go.Proofs.YtlidmoeecphbmaaGreat
open Go.ChangeShapes Go.WideShapes Go.ChangeAt Go.RowKit
set_option linter.unusedVariables false
set_option linter.unusedSimpArgs false
set_option maxRecDepth 100000
set_option maxHeartbeats 4000000
def fP (d:aU)(v:Int):cE × Bool:=if (jB d&&eC v 1 999)=true then (⟨v,d.tables.map bG⟩,true) else (aGP,false)
theorem tS {d:aU}{v:Int}(h:(jB d&&eC v 1 999)=true):fP d v=(⟨v,d.tables.map bG⟩,true):=by rw[fP,if_pos h]
theorem yP {d:aU}{v:Int}(h:(jB d&&eC v 1 999)=false):fP d v=(aGP,false):=by rw[fP,if_neg (by rw[h];decide)]
theorem aGd {d:aU}(h:jB d=true):d.tables.length<=6:=by
 simp only[jB,aB4,aTb] at h;omega
abbrev aBW (d:aU)(v:Int):AV × List (Nat × Rs):=(.tup [.agg [vI ((fP d v).1.version),.own 0],vB ((fP d v).2)],[(0,.arr 88 4 true ((fP d v).1.tables.map aG))])
abbrev aGe (d:aU)(v:Int):Prop:=Cn 131 [.agg [.sl 142 3 (d.tables.map aS)],.one (.int .i64 v)] (aBW d v).1 (aBW d v).2
theorem aTj (d:aU)(v:Int):aGe d v:=by
 refine cq Tryz.func131 (.call (vB (jB d)) []<| .br (.fin []) (.call (vB (eC v (1:Int) (999:Int))) []<| .lit<| .lit<| .br (.fin []) (.len d.tables.length<| .loop (Nat × (List aM)) (Q2 Nat (List aM)) ([8]++rg 23 12) [600,800,3000,3100,3200,9000] (fun yy0=>[(23,vI (yy0.1:Int))]) (fun yy0=>[(600,some (.box 46 [vI v,.own 9000])),(9000,some (.arr 88 4 true (yy0.2.map aG)))]) (fun yy0=>yy0.1<=d.tables.length/\yy0.2=(d.tables.take yy0.1).map bG) (fun yy0=>d.tables.length - yy0.1) (fun yy0=> .br (.elem _ aS d.tables (fun e25=>bH (aA3 e25)<| .appx aM aG yy0.2 (bG e25)<| .back [(600,600),(9000,3200)])) (.fin [(0,9000)]))))) (p:=Lx (d.tables.map aS)<| aD4 d/\Nr (jB d) (0=((fP d v).1.version)/\(false)=((fP d v).2)/\[]=(fP d v).1.tables.map aG/\True) (eQ v (1:Int) (999:Int)/\Nr (eC v (1:Int) (999:Int)) (0=((fP d v).1.version)/\(false)=((fP d v).2)/\[]=(fP d v).1.tables.map aG/\True) (Lm aS d.tables/\((∃(k:Nat) (out:List aM),0=(k:Int)/\v=v/\[]=out.map aG/\k<=d.tables.length/\out=(d.tables.take k).map bG)/\ ∀(k:Nat) (out:List aM),(k<=d.tables.length/\out=(d.tables.take k).map bG)->Br ((k:Int)<(d.tables.length:Int)) (0<=(k:Int)/\Em aS d.tables k fun e25=>aD2 e25/\out.map aG=out.map aG/\((bG e25).name)=((bG e25).name)/\((bG e25).arity)=((bG e25).arity)/\((bG e25).rowCount)=((bG e25).rowCount)/\(bG e25).groups.map aD=(bG e25).groups.map aD/\(out.length+1)*56<=140737488355328/\bK ((k:Int)+1)/\ ∃(k' :Nat) (out' :List aM),((k:Int)+1)=(k' :Int)/\v=v/\(out++[(bG e25)]).map aG=out'.map aG/\(k' <=d.tables.length/\out' =(d.tables.take k').map bG)/\d.tables.length - k' <d.tables.length - k) (v=((fP d v).1.version)/\(true)=((fP d v).2)/\out.map aG=(fP d v).1.tables.map aG/\True))))) (by kernel_rfl) ?_;refine lx fun n0=>?_;refine⟨aPu d,dm (fun g12=>?_) fun g12=>?_⟩
 ·have hbad:(jB d&&eC v 1 999)=false:=by simp_all
  apply et3<;>((rw[yP hbad]<;>rfl))
 ·refine⟨iR _ _ _,dm (fun c0=>?_) fun c0=>?_⟩
  ·have hbad:(jB d&&eC v 1 999)=false:=by simp_all
   apply et3<;>((rw[yP hbad]<;>rfl))
  ·have hok:(jB d&&eC v 1 999)=true:=by simp_all
   have h6:=aGd (by simp_all:jB d=true);refine⟨aA8 _,⟨0,([]:List aM),rfl,rfl,rfl,aCC _,rfl⟩,fun k out ⟨hk,ho⟩=>?_⟩;refine dd (fun c1=>?_) fun c1=>?_
   ·refine⟨by omega,rfl,by omega,fun e25 h25=>?_⟩;refine⟨aLJ e25,rfl,rfl,rfl,rfl,rfl,by (simp[ho];omega),⟨by omega,by omega⟩,?_⟩;exact⟨k+1,_,rfl,rfl,rfl,⟨by omega,by rw[ho,bQ h25,aKc];rfl⟩,by omega⟩
   ·apply et3<;>(first|(rw[tS hok]<;>rfl)|(rw[tS hok,ho,aGj (by omega)]))
abbrev aBX (d:aU)(v:Int):AV × List (Nat × Rs):=(.tup [.agg [vI ((fP d v).1.version),.own 0],vB ((fP d v).2)],[(0,.arr 88 4 true ((fP d v).1.tables.map aG))])
abbrev aGf (d:aU)(v:Int):Prop:=Cn 122 [.agg [.sl 142 3 (d.tables.map aS)],.one (.int .i64 v)] (aBX d v).1 (aBX d v).2
theorem aTk (d:aU)(v:Int):aGf d v:=by
 refine cq Tryz.func122 (.call (vB (jB d)) []<| .br (.fin []) (.call (vB (eC v (1:Int) (999:Int))) []<| .lit<| .lit<| .br (.fin []) (.loop (Nat × (List aM)) (Q2 Nat (List aM)) ([7,8]++rg 20 19) [600,800,3200,3600,3700,9000] (fun yy0=>[(7,vI (yy0.1:Int))]) (fun yy0=>[(600,some (.box 46 [vI v,.own 9000])),(9000,some (.arr 88 4 true (yy0.2.map aG)))]) (fun yy0=>yy0.1<=d.tables.length/\yy0.2=(d.tables.take yy0.1).map bG) (fun yy0=>d.tables.length - yy0.1) (fun yy0=> .len d.tables.length<| .br (.elem _ aS d.tables (fun e30=>bH (aA4 e30)<| .appx aM aG yy0.2 (bG e30)<| .back [(600,600),(9000,3700)])) (.fin [(0,9000)]))))) (p:=Lx (d.tables.map aS)<| aD5 d/\Nr (jB d) (0=((fP d v).1.version)/\(false)=((fP d v).2)/\[]=(fP d v).1.tables.map aG/\True) (eR v (1:Int) (999:Int)/\Nr (eC v (1:Int) (999:Int)) (0=((fP d v).1.version)/\(false)=((fP d v).2)/\[]=(fP d v).1.tables.map aG/\True) ((∃(k:Nat) (out:List aM),0=(k:Int)/\v=v/\[]=out.map aG/\k<=d.tables.length/\out=(d.tables.take k).map bG)/\ ∀(k:Nat) (out:List aM),(k<=d.tables.length/\out=(d.tables.take k).map bG)->Lm aS d.tables/\Br ((k:Int)<(d.tables.length:Int)) (0<=(k:Int)/\Em aS d.tables k fun e30=>aD3 e30/\out.map aG=out.map aG/\((bG e30).name)=((bG e30).name)/\((bG e30).arity)=((bG e30).arity)/\((bG e30).rowCount)=((bG e30).rowCount)/\(bG e30).groups.map aD=(bG e30).groups.map aD/\(out.length+1)*56<=140737488355328/\bK ((k:Int)+1)/\ ∃(k' :Nat) (out' :List aM),((k:Int)+1)=(k' :Int)/\v=v/\(out++[(bG e30)]).map aG=out'.map aG/\(k' <=d.tables.length/\out' =(d.tables.take k').map bG)/\d.tables.length - k' <d.tables.length - k) (v=((fP d v).1.version)/\(true)=((fP d v).2)/\out.map aG=(fP d v).1.tables.map aG/\True)))) (by kernel_rfl) ?_;refine lx fun n0=>?_;refine⟨aPv d,dm (fun g12=>?_) fun g12=>?_⟩
 ·have hbad:(jB d&&eC v 1 999)=false:=by simp_all
  apply et3<;>((rw[yP hbad]<;>rfl))
 ·refine⟨iS _ _ _,dm (fun c0=>?_) fun c0=>?_⟩
  ·have hbad:(jB d&&eC v 1 999)=false:=by simp_all
   apply et3<;>((rw[yP hbad]<;>rfl))
  ·have hok:(jB d&&eC v 1 999)=true:=by simp_all
   have h6:=aGd (by simp_all:jB d=true);refine⟨⟨0,([]:List aM),rfl,rfl,rfl,aCC _,rfl⟩,fun k out ⟨hk,ho⟩=>?_⟩;refine⟨aA8 _,dd (fun c1=>?_) fun c1=>?_⟩
   ·refine⟨by omega,rfl,by omega,fun e30 h30=>?_⟩;refine⟨aPs e30,rfl,rfl,rfl,rfl,rfl,by (simp[ho];omega),⟨by omega,by omega⟩,?_⟩;exact⟨k+1,_,rfl,rfl,rfl,⟨by omega,by rw[ho,bQ h30,aKc];rfl⟩,by omega⟩
   ·apply et3<;>(first|(rw[tS hok]<;>rfl)|(rw[tS hok,ho,aGj (by omega)]))
theorem aGg {α:Type}{c:α->Nat}{m:Nat}{l:List α}(h: ∀x∈l,c x<=m):aCD c l<=l.length+l.length*m:=by
 have h1:=aBO (ct:=c) (m:=m) (l:=l) h;have h2:aCD c l=l.length+eZ c l:=rfl;omega
theorem aJq (t:aY)(cols:List Int):cO (dV t cols).1<=64/\(dV t cols).2.length<=8:=by
 cases h:(aV t&&dR (t.arity - 1) cols) with
 | false=>rw[aC7 h];exact⟨by decide,by decide⟩
 | true=>
   have:=aLI (k:=(kK t cols).length) h;rw[aSV,sL] at this;rw[rI h];exact⟨this.2,by simp only[aMe,aA8,aO4];exact this.1⟩
theorem aLP {t:aY}(h:aV t=true):t.name.size=1:=by
 simp only[aV,gD,aB4,aTb] at h;omega
theorem aEG (t:aY):bF (bG t)<=2000:=by
 cases h:aV t with
 | false=>rw[aBS h];decide
 | true=>
   have hT:=cA h;have hn:=aLP h;have hl:=yO (n:=t.arity) ⟨hT.1,hT.2.1⟩;rw[kB h]
   have h1:=aGg (c:=bV) (m:=75) (l:=(bT t.arity).map (tP t)) fun x hx=>by
    obtain⟨c,hc,rfl⟩:=aON.1 hx;obtain⟨k,hk,hc⟩:=List.mem_iff_getElem.1 hc;have h3:=aBT (aEa.2 ⟨hk,hc⟩);have h4:=aJq t c;have h5:bV (tP t c)=c.length+cO (dV t c).1+(dV t c).2.length:=rfl;omega
   rw[aA8] at h1;have h2:bF ⟨t.name,t.arity,(t.rows.length:Nat),(bT t.arity).map (tP t)⟩=t.name.size+aCD bV ((bT t.arity).map (tP t)):=rfl;omega
theorem aJr (d:aU)(v:Int):bS (fP d v).1<=20000:=by
 cases h:(jB d&&eC v 1 999) with
 | false=>rw[yP h];decide
 | true=>
   have h6:=aGd (by simp_all:jB d=true);rw[tS h]
   have h1:=aGg (c:=bF) (m:=2000) (l:=d.tables.map bG) fun x hx=>by
    obtain⟨t,_,rfl⟩:=aON.1 hx;exact aEG t
   rw[aA8] at h1;have h2:bS ⟨v,d.tables.map bG⟩=aCD bF (d.tables.map bG):=rfl;show bS ⟨v,d.tables.map bG⟩<=20000;omega
def kU {α:Type}(p:α->Bool)(l:List α):Int:=match l.findIdx? p with | some k=>(k:Int) | none=> -1
theorem aLQ {α:Type}{p:α->Bool}{l:List α}{k:Nat}{x:α}(h:l[k]? =some x)(ha:(l.take k).all (fun y=> !p y)=true)(hx:p x=true):kU p l=(k:Int):=by
 obtain⟨hk,rfl⟩:=aEa.1 h
 have:l.findIdx? p=some k:=by
  rw[List.findIdx?_eq_some_iff_getElem];refine⟨hk,hx,fun j hj=>?_⟩;have:=aIZ.1 ha l[j] (List.mem_iff_getElem.2 ⟨j,by rw[aWm];omega,by rw[List.getElem_take]⟩);simpa using this
 rw[kU,this]
theorem aFU {α:Type}{p:α->Bool}{l:List α}(ha:l.all (fun y=> !p y)=true):kU p l= -1:=by
 have:l.findIdx? p=none:=by
  rw[List.findIdx?_eq_none_iff];intro x hx;have:=aIZ.1 ha x hx;simpa using this
 rw[kU,this]
theorem aTl {α:Type}{p:α->Bool}{l:List α}(h:0<=kU p l): ∃(k:Nat) (x:α),kU p l=(k:Int)/\l[k]? =some x/\p x=true/\k<l.length:=by
 unfold kU at*;cases e:l.findIdx? p with
 | none=>rw[e] at h;exact absurd h (by decide)
 | some k=>
   rw[List.findIdx?_eq_some_iff_getElem] at e;obtain⟨hk,hx,_⟩:=e;exact⟨k,l[k],rfl,aEA hk,hx,hk⟩
theorem aWP {α:Type}(p:α->Bool)(l:List α): -1<=kU p l/\kU p l<(l.length:Int):=by
 by_cases h:0<=kU p l
 ·obtain⟨k,x,h1,_,_,h4⟩:=aTl h;omega
 unfold kU at*;cases e:l.findIdx? p with
 | none=>simp only;omega
 | some k=>rw[e] at h;simp only at h;omega
abbrev aBY (t:aY):AV × List (Nat × Rs):=(.agg [.p none (.str t.name),vI t.arity,.own 0],[(0,.arr 91 1 true (t.rows.map aC))])
abbrev aGh (t:aY):Prop:=Cn 138 [.agg [.str t.name,.int .i64 t.arity,.sl 91 1 (t.rows.map aC)]] (aBY t).1 (aBY t).2
theorem aTm (t:aY)(hc:gA t<=1048576):aGh t:=by
 refine cq Tryz.func138 (bH (aJi t.rows)<| .fin [(0,500)]) (p:=Lx (t.rows.map aC)<| aM5 t.rows/\t.name=t.name/\t.arity=t.arity/\t.rows.map aC=t.rows.map aC/\True) (by kernel_rfl) ?_;refine lx fun n0=>?_;have q1:gA t=t.name.size+cO t.rows:=rfl;have q2:=fD t.rows;refine⟨cpR _ (by omega),?_⟩;exact⟨rfl,rfl,rfl,trivial⟩
abbrev aBZ (t:aY):AV × List (Nat × Rs):=(.agg [.p none (.str t.name),vI t.arity,.own 0],[(0,.arr 91 1 true (t.rows.map aC))])
abbrev aGi (t:aY):Prop:=Cn 184 [.agg [.str t.name,.int .i64 t.arity,.sl 91 1 (t.rows.map aC)]] (aBZ t).1 (aBZ t).2
theorem aTn (t:aY)(hc:gA t<=1048576):aGi t:=by
 refine cq Tryz.func184 (.loop (Nat × (List (List Int))) (Q2 Nat (List (List Int))) ([4]++rg 10 19) [300,1900,2500,2600,2700,9000] (fun yy0=>[(4,vI (yy0.1:Int))]) (fun yy0=>[(300,some (.box 142 [.p none (.str t.name),vI t.arity,.own 9000])),(9000,some (.arr 91 1 true (yy0.2.map aC)))]) (fun yy0=>yy0.1<=t.rows.length/\yy0.2=t.rows.take yy0.1) (fun yy0=>t.rows.length - yy0.1) (fun yy0=> .len t.rows.length<| .br (.elem _ aC t.rows (fun e23=> .app Int intD ([]:List Int) e23<| .appx (List Int) aC yy0.2 (([]:List Int)++e23)<| .back [(300,300),(9000,2700)])) (.fin [(0,9000)]))) (p:=Lx (t.rows.map aC)<| (∃(k:Nat) (out:List (List Int)),0=(k:Int)/\t.name=t.name/\t.arity=t.arity/\[]=out.map aC/\k<=t.rows.length/\out=t.rows.take k)/\ ∀(k:Nat) (out:List (List Int)),(k<=t.rows.length/\out=t.rows.take k)->Lm aC t.rows/\Br ((k:Int)<(t.rows.length:Int)) (0<=(k:Int)/\Em aC t.rows k fun e23=>Ap intD ([]:List Int) e23 8 (out.map aC=out.map aC/\(([]:List Int)++e23).map intD=(([]:List Int)++e23).map intD/\(out.length+1)*24<=140737488355328/\bK ((k:Int)+1)/\ ∃(k' :Nat) (out' :List (List Int)),((k:Int)+1)=(k' :Int)/\t.name=t.name/\t.arity=t.arity/\(out++[([]:List Int)++e23]).map aC=out'.map aC/\(k' <=t.rows.length/\out' =t.rows.take k')/\t.rows.length - k' <t.rows.length - k)) (t.name=t.name/\t.arity=t.arity/\out.map aC=t.rows.map aC/\True)) (by kernel_rfl) ?_;refine lx fun n0=>?_;have q1:gA t=t.name.size+cO t.rows:=rfl;have q2:=fD t.rows;refine⟨⟨0,([]:List (List Int)),rfl,rfl,rfl,rfl,aCC _,rfl⟩,fun k out ⟨hk,ho⟩=>?_⟩;refine⟨aA8 _,dd (fun c0=>?_) fun c0=>?_⟩
 ·refine⟨by omega,rfl,by omega,fun e23 h23=>?_⟩;have hp3:=aA2 h23;refine ap ?_ (fun _=>rfl) (by (simp;omega));refine⟨rfl,rfl,by (simp[ho];omega),⟨by omega,by omega⟩,?_⟩;exact⟨k+1,_,rfl,rfl,rfl,rfl,⟨by omega,by rw[ho,bQ h23];rfl⟩,by omega⟩
 ·refine⟨rfl,rfl,?_,trivial⟩
  ·(rw[ho,aGj (by omega)])
abbrev isN (n:ByteArray):aY->Bool:=fun t=>t.name.toList==n.toList
abbrev isI (v:Int):Int->Bool:=fun y=>decide (v=y)
theorem qN {α:Type}{p:α->Bool}{l:List α}:(kU p l<0->l.find? p=none)/\(0<=kU p l-> ∃(k:Nat) (x:α),kU p l=(k:Int)/\l[k]? =some x/\l.find? p=some x):=by
 unfold kU;cases e:l.findIdx? p with
 | none=>
   rw[List.findIdx?_eq_none_iff] at e;refine⟨fun _=>List.find?_eq_none.2 fun x hx=>by rw[e x hx];decide,fun h=>absurd h (by decide)⟩
 | some k=>
   rw[List.findIdx?_eq_some_iff_getElem] at e;obtain⟨hk,hx,hj⟩:=e;refine⟨fun h=>absurd h (by simp only;omega),fun _=>⟨k,l[k],rfl,aEA hk,?_⟩⟩;rw[List.find?_eq_some_iff_getElem];exact⟨hx,k,hk,rfl,fun j hjk=>by have:=hj j hjk;simpa using this⟩
theorem aMs {l:List Int}{v:Int}:decide (0<=kU (isI v) l)=decide (v∈l):=by
 apply Bool.eq_iff_iff.2;rw[aTb,aTb];constructor
 ·intro h;obtain⟨k,x,_,hx,hf⟩:=qN.2 h;have h1:=List.find?_some hf;have:v=x:=by simpa [isI] using h1
  rw[this];exact aCf hx
 intro h;rcases Int.lt_or_le (kU (isI v) l) 0 with q | q
 ·have:=qN.1 q;rw[List.find?_eq_none] at this;exact absurd (this v h) (by simp[isI])
 exact q
def aL (d:aU)(n:ByteArray):aY × Bool:=if jB d=true then (match d.tables.find? (isN n) with | some t=>(t,true) | none=>(gB,false)) else (gB,false)
theorem aCg {d:aU}{n:ByteArray}(h:jB d=false\/d.tables.find? (isN n)=none):aL d n=(gB,false):=by
 unfold aL;rcases h with h | h
 ·rw[if_neg (by rw[h];decide)]
 rw[h];split<;>rfl
theorem aJs {d:aU}{n:ByteArray}{t:aY}(h:jB d=true)(hf:d.tables.find? (isN n)=some t):aL d n=(t,true):=by rw[aL,if_pos h,hf]
theorem aTo {d:aU}(h:jB d=true):d.tables.all aV=true:=by
 simp only[jB,aB4] at h;exact h.1
theorem nJ {d:aU}{n:ByteArray}(h:(aL d n).2=true):aV (aL d n).1=true/\jB d=true:=by
 unfold aL at*;split at h
 ·rename_i hd;rw[if_pos hd];cases e:d.tables.find? (isN n) with
  | none=>rw[e] at h;cases h
  | some t=>exact⟨aIZ.1 (aTo hd) t (List.mem_of_find?_eq_some e),hd⟩
 cases h
abbrev aTp (t:aY)(n:ByteArray):Prop:=Cn 136 [.agg [.str t.name,.int .i64 t.arity,.sl 91 1 (t.rows.map aC)],.ref [.str n]] (vB (isN n t)) []
theorem aZD (t:aY)(n:ByteArray):aTp t n:=by
 refine cq Tryz.func136 (.fin []) (p:=Lx (t.rows.map aC)<| (t.name.toList==n.toList)=(isN n t)/\True) (by kernel_rfl) ?_;refine lx fun n0=>?_;apply et1
 ·rfl
abbrev aTq (l:List aY)(n:ByteArray):Prop:=Cn 135 [.one (.sl 142 3 (l.map aS)),.fn 136 [[.str n]]] (vI (kU (isN n) l)) []
theorem aZE (l:List aY)(n:ByteArray):aTq l n:=by
 refine cq Tryz.func135 (.len l.length<| .loop Nat (Q1 Nat) ([5]++rg 8 9++[18]) [] (fun k=>[(8,vI (k:Int))]) (fun k=>[]) (fun k=>k<=l.length/\(l.take k).all (fun y=> !isN n y)=true) (fun k=>l.length - k) (fun k=> .br (.elem _ aS l (fun e14=> .call (vB (isN n e14)) []<| .br (.fin []) (.back []))) (.fin []))) (p:=Lx (l.map aS)<| Lm aS l/\((∃(k:Nat),0=(k:Int)/\k<=l.length/\(l.take k).all (fun y=> !isN n y)=true)/\ ∀(k:Nat),(k<=l.length/\(l.take k).all (fun y=> !isN n y)=true)->Br ((k:Int)<(l.length:Int)) (0<=(k:Int)/\Em aS l k fun e14=>aTp e14 n/\Bb (isN n e14) ((k:Int)=(kU (isN n) l)/\True) (bK ((k:Int)+1)/\ ∃(k' :Nat),((k:Int)+1)=(k' :Int)/\(k' <=l.length/\(l.take k').all (fun y=> !isN n y)=true)/\l.length - k' <l.length - k)) ((-1:Int)=(kU (isN n) l)/\True))) (by kernel_rfl) ?_;refine lx fun n0=>?_;refine⟨aA8 _,⟨0,rfl,aCC _,rfl⟩,fun k ⟨hk,ha⟩=>?_⟩;refine dd (fun c0=>?_) fun c0=>?_
 ·refine⟨by omega,rfl,by omega,fun e14 h14=>?_⟩;refine⟨aZD _ _,db (fun c1=>?_) fun c1=>?_⟩
  ·have hE:=aLQ (p:=isN n) h14 ha c1;apply et1
   ·rw[hE]
  ·refine⟨⟨by omega,by omega⟩,?_⟩;exact⟨k+1,rfl,⟨by omega,cG h14 ha (by simp[c1])⟩,by omega⟩
 ·have hE:=aFU (p:=isN n) (cY (by omega) ha);apply et1
  ·rw[hE]
abbrev aGk (d:aU)(n:ByteArray):AV × List (Nat × Rs):=(.tup [.agg [.p none (.str ((aL d n).1.name)),vI ((aL d n).1.arity),.own 0],vB ((aL d n).2)],[(0,.arr 91 1 true ((aL d n).1.rows.map aC))])
abbrev aO8 (d:aU)(n:ByteArray):Prop:=Cn 86 [.agg [.sl 142 3 (d.tables.map aS)],.one (.str n)] (aGk d n).1 (aGk d n).2
theorem rK (d:aU)(n:ByteArray)(hc:bN d<=1048576):aO8 d n:=by
 refine cq Tryz.func86 (.call (vI (kU (isN n) d.tables)) []<| .br (.fin []) (.call (vB (jB d)) []<| .lit<| .lit<| .br (.fin []) (.elem _ aS d.tables (fun e22=>bH (aBY e22)<| .fin [(0,2400)])))) (p:=Lx (d.tables.map aS)<| aTq d.tables n/\Br ((kU (isN n) d.tables)<0) (ByteArray.empty=((aL d n).1.name)/\0=((aL d n).1.arity)/\(false)=((aL d n).2)/\[]=(aL d n).1.rows.map aC/\True) (aD4 d/\Nr (jB d) (ByteArray.empty=((aL d n).1.name)/\0=((aL d n).1.arity)/\(false)=((aL d n).2)/\[]=(aL d n).1.rows.map aC/\True) (0<=(kU (isN n) d.tables)/\Em aS d.tables ((kU (isN n) d.tables).toNat) fun e22=>aGh e22/\e22.name=((aL d n).1.name)/\e22.arity=((aL d n).1.arity)/\(true)=((aL d n).2)/\e22.rows.map aC=(aL d n).1.rows.map aC/\True))) (by kernel_rfl) ?_;refine lx fun n0=>?_;have q1:bN d=kX d.tables:=rfl;have hg:=aWP (isN n) d.tables;refine⟨aZE _ _,dd (fun g13=>?_) fun g13=>?_⟩
 ·have hbad:aL d n=(gB,false):=aCg (by (right;exact qN.1 (by omega)));apply et4<;>((rw[hbad]<;>rfl))
 ·refine⟨aPu d,dm (fun c0=>?_) fun c0=>?_⟩
  ·have hbad:aL d n=(gB,false):=aCg (by (left;simpa using c0;done));apply et4<;>((rw[hbad]<;>rfl))
  ·have hd:jB d=true:=by simpa using c0
   obtain⟨k,y,hk,hy,hf⟩:=qN.2 (show 0<=kU (isN n) d.tables by omega);have hok:=aJs hd hf;refine⟨by omega,rfl,by omega,fun e22 h22=>?_⟩;have hyx:y=e22:=by rw[hk] at h22;exact(aW (by simpa using h22) hy)
   have q2:=aBJ h22;rw[hyx] at hok;refine⟨aTm _ (by omega),?_,?_,?_,?_,trivial⟩<;>((rw[hok]<;>rfl))
abbrev aGl (d:aU)(n:ByteArray):AV × List (Nat × Rs):=(.tup [.agg [.p none (.str ((aL d n).1.name)),vI ((aL d n).1.arity),.own 0],vB ((aL d n).2)],[(0,.arr 91 1 true ((aL d n).1.rows.map aC))])
abbrev aO9 (d:aU)(n:ByteArray):Prop:=Cn 126 [.agg [.sl 142 3 (d.tables.map aS)],.one (.str n)] (aGl d n).1 (aGl d n).2
theorem rL (d:aU)(n:ByteArray)(hc:bN d<=1048576):aO9 d n:=by
 refine cq Tryz.func126 (.loop Nat (Q1 Nat) (rg 6 20) [] (fun k=>[(6,vI (k:Int))]) (fun k=>[]) (fun k=>k<=d.tables.length/\(d.tables.take k).all (fun y=> !isN n y)=true) (fun k=>d.tables.length - k) (fun k=> .len d.tables.length<| .br (.call (vB (jB d)) []<| .lit<| .br (.elem _ aS d.tables (fun e21=> .br (.elem _ aS d.tables (fun e29=>bH (aBZ e29)<| .fin [(0,3100)])) (.back []))) (.fin [])) (.fin []))) (p:=Lx (d.tables.map aS)<| (∃(k:Nat),0=(k:Int)/\k<=d.tables.length/\(d.tables.take k).all (fun y=> !isN n y)=true)/\ ∀(k:Nat),(k<=d.tables.length/\(d.tables.take k).all (fun y=> !isN n y)=true)->Lm aS d.tables/\Br ((k:Int)<(d.tables.length:Int)) (aD5 d/\Bb (jB d) (0<=(k:Int)/\Em aS d.tables k fun e21=>Bb (e21.name.toList==n.toList) (0<=(k:Int)/\Em aS d.tables k fun e29=>aGi e29/\e29.name=((aL d n).1.name)/\e29.arity=((aL d n).1.arity)/\(true)=((aL d n).2)/\e29.rows.map aC=(aL d n).1.rows.map aC/\True) (bK ((k:Int)+1)/\ ∃(k' :Nat),((k:Int)+1)=(k' :Int)/\(k' <=d.tables.length/\(d.tables.take k').all (fun y=> !isN n y)=true)/\d.tables.length - k' <d.tables.length - k)) (ByteArray.empty=((aL d n).1.name)/\0=((aL d n).1.arity)/\(false)=((aL d n).2)/\[]=(aL d n).1.rows.map aC/\True)) (ByteArray.empty=((aL d n).1.name)/\0=((aL d n).1.arity)/\(false)=((aL d n).2)/\[]=(aL d n).1.rows.map aC/\True)) (by kernel_rfl) ?_;refine lx fun n0=>?_;have q1:bN d=kX d.tables:=rfl;refine⟨⟨0,rfl,aCC _,rfl⟩,fun k ⟨hk,ha⟩=>?_⟩;refine⟨aA8 _,dd (fun g12=>?_) fun g12=>?_⟩
 ·refine⟨aPv d,db (fun c0=>?_) fun c0=>?_⟩
  ·refine⟨by omega,rfl,by omega,fun e21 h21=>?_⟩
   try (obtain rfl:=(aW h21 h21).symm)
   have q2:=aBJ h21;refine db (fun c1=>?_) fun c1=>?_
   ·have hok:=aJs (n:=n) c0 (aLN (p:=isN n) h21 ha c1);refine⟨by omega,rfl,by omega,fun e29 h29=>?_⟩
    try (obtain rfl:=(aW h21 h29).symm)
    refine⟨aTn _ (by omega),?_,?_,?_,?_,trivial⟩<;>((rw[hok]<;>rfl))
   ·refine⟨⟨by omega,by omega⟩,?_⟩;exact⟨k+1,rfl,⟨by omega,cG h21 ha (by simp[isN,c1])⟩,by omega⟩
  ·have hbad:aL d n=(gB,false):=aCg (by (left;exact c0));apply et4<;>((rw[hbad]<;>rfl))
 ·have hbad:aL d n=(gB,false):=aCg (by (right;exact aLO (cY (by omega) ha)));apply et4<;>((rw[hbad]<;>rfl))
abbrev aWu (l:List Int)(v:Int):Prop:=Cn 235 [.one (.sl 3 1 (l.map intD)),.one (.int .i64 v)] (vI (kU (isI v) l)) []
theorem ixI (l:List Int)(v:Int):aWu l v:=by
 refine cq Tryz.func235 (.len l.length<| .loop Nat (Q1 Nat) ([5]++rg 8 9++[18]) [] (fun k=>[(8,vI (k:Int))]) (fun k=>[]) (fun k=>k<=l.length/\(l.take k).all (fun y=> !isI v y)=true) (fun k=>l.length - k) (fun k=> .br (.elem _ intD l (fun e14=> .br (.fin []) (.back []))) (.fin []))) (p:=Lx (l.map intD)<| Lm intD l/\((∃(k:Nat),0=(k:Int)/\k<=l.length/\(l.take k).all (fun y=> !isI v y)=true)/\ ∀(k:Nat),(k<=l.length/\(l.take k).all (fun y=> !isI v y)=true)->Br ((k:Int)<(l.length:Int)) (0<=(k:Int)/\Em intD l k fun e14=>Br (v=e14) ((k:Int)=(kU (isI v) l)/\True) (bK ((k:Int)+1)/\ ∃(k' :Nat),((k:Int)+1)=(k' :Int)/\(k' <=l.length/\(l.take k').all (fun y=> !isI v y)=true)/\l.length - k' <l.length - k)) ((-1:Int)=(kU (isI v) l)/\True))) (by kernel_rfl) ?_;refine lx fun n0=>?_;refine⟨aA8 _,⟨0,rfl,aCC _,rfl⟩,fun k ⟨hk,ha⟩=>?_⟩;refine dd (fun c0=>?_) fun c0=>?_
 ·refine⟨by omega,rfl,by omega,fun e14 h14=>?_⟩;refine dd (fun c1=>?_) fun c1=>?_
  ·have hE:=aLQ (p:=isI v) h14 ha (by simpa [isI] using c1);apply et1
   ·rw[hE]
  ·refine⟨⟨by omega,by omega⟩,?_⟩;exact⟨k+1,rfl,⟨by omega,cG h14 ha (by simpa [isI] using c1)⟩,by omega⟩
 ·have hE:=aFU (p:=isI v) (cY (by omega) ha);apply et1
  ·rw[hE]
abbrev aMt (l:List Int)(v:Int):Prop:=Cn 192 [.one (.sl 3 1 (l.map intD)),.one (.int .i64 v)] (vB (decide (v∈l))) []
theorem ctI (l:List Int)(v:Int):aMt l v:=by
 refine cq Tryz.func192 (.call (vI (kU (isI v) l)) []<| .fin []) (p:=Lx (l.map intD)<| aWu l v/\(decide (0<=(kU (isI v) l)))=(decide (v∈l))/\True) (by kernel_rfl) ?_;refine lx fun n0=>?_;refine⟨ixI _ _,?_,trivial⟩
 ·exact aMs
abbrev aTr (l:List Int)(v:Int):Prop:=Cn 183 [.one (.sl 3 1 (l.map intD)),.one (.int .i64 v)] (vB (decide (v∈l))) []
theorem hsI (l:List Int)(v:Int):aTr l v:=by
 refine cq Tryz.func183 (.loop Nat (Q1 Nat) (rg 5 13) [] (fun k=>[(5,vI (k:Int))]) (fun k=>[]) (fun k=>k<=l.length/\(l.take k).all (fun y=> !isI v y)=true) (fun k=>l.length - k) (fun k=> .len l.length<| .br (.elem _ intD l (fun e14=> .br (.fin []) (.back []))) (.fin []))) (p:=Lx (l.map intD)<| (∃(k:Nat),0=(k:Int)/\k<=l.length/\(l.take k).all (fun y=> !isI v y)=true)/\ ∀(k:Nat),(k<=l.length/\(l.take k).all (fun y=> !isI v y)=true)->Lm intD l/\Br ((k:Int)<(l.length:Int)) (0<=(k:Int)/\Em intD l k fun e14=>Br (e14=v) ((true)=(decide (v∈l))/\True) (bK ((k:Int)+1)/\ ∃(k' :Nat),((k:Int)+1)=(k' :Int)/\(k' <=l.length/\(l.take k').all (fun y=> !isI v y)=true)/\l.length - k' <l.length - k)) ((false)=(decide (v∈l))/\True)) (by kernel_rfl) ?_;refine lx fun n0=>?_;refine⟨⟨0,rfl,aCC _,rfl⟩,fun k ⟨hk,ha⟩=>?_⟩;refine⟨aA8 _,dd (fun c0=>?_) fun c0=>?_⟩
 ·refine⟨by omega,rfl,by omega,fun e14 h14=>?_⟩;refine dd (fun c1=>?_) fun c1=>?_
  ·have hE:decide (v∈l)=true:=by rw[<-c1];exact decide_eq_true (aCf h14)
   apply et1
   ·rw[hE]
  ·refine⟨⟨by omega,by omega⟩,?_⟩;exact⟨k+1,rfl,⟨by omega,cG h14 ha (by simpa [isI] using fun q=>c1 (Eq.symm q))⟩,by omega⟩
 ·have hE:decide (v∈l)=false:=by rw[<-aMs,aFU (p:=isI v) (cY (by omega) ha)];rfl
  apply et1
  ·rw[hE]
def iC (d:aU)(f:bB):Bool:=(aL d f.name).2&&(dR ((aL d f.name).1.arity - 1) f.src&&(eC f.dst 0 ((aL d f.name).1.arity - 1)&& !decide (f.dst∈f.src)))
def aOa (rows:List (List Int))(cols:List Int)(c:Int)(i k:Nat):Bool:=decide ((fH (rows.getD i []) cols).1=(fH (rows.getD k []) cols).1)&& !decide ((rows.getD i []).getD c.toNat 0=(rows.getD k []).getD c.toNat 0)
def kL (rows:List (List Int))(cols:List Int)(c:Int)(k:Nat):Nat->List Int
 | 0=>[]
 | i+1=>if kL rows cols c k i= []/\aOa rows cols c i k=true then [(i:Int),(k:Int)] else kL rows cols c k i
def kZ (rows:List (List Int))(cols:List Int)(c:Int):Nat->List Int
 | 0=>[]
 | k+1=>if kZ rows cols c k= [] then kL rows cols c k k else kZ rows cols c k
def kC (d:aU)(f:bB):List Int:=if iC d f=true then kZ (aL d f.name).1.rows f.src f.dst (aL d f.name).1.rows.length else []
theorem aCh {rows:List (List Int)}{cols:List Int}{c:Int}{k i:Nat}(h:kL rows cols c k i= [])(hb:aOa rows cols c i k=false):kL rows cols c k (i+1)= []:=by rw[kL,if_neg (by simp[hb]),h]
theorem aGm {rows:List (List Int)}{cols:List Int}{c:Int}{k i:Nat}(h: ¬kL rows cols c k i= []): ∀j,kL rows cols c k (i+j)=kL rows cols c k i
 | 0=>rfl
 | j+1=>by rw[Nat.add_succ,kL,aGm h j,if_neg (by simp[h])]
theorem aGn {rows:List (List Int)}{cols:List Int}{c:Int}{k:Nat}(h: ¬kZ rows cols c k= []): ∀j,kZ rows cols c (k+j)=kZ rows cols c k
 | 0=>rfl
 | j+1=>by rw[Nat.add_succ,kZ,aGn h j,if_neg h]
theorem aGo {rows:List (List Int)}{cols:List Int}{c:Int}{k i n:Nat}(hk:kZ rows cols c k= [])(hi:kL rows cols c k i= [])(hb:aOa rows cols c i k=true)(hik:i<k)(hkn:k<n):kZ rows cols c n= [(i:Int),(k:Int)]:=by
 have h1:kL rows cols c k (i+1)= [(i:Int),(k:Int)]:=by rw[kL,if_pos ⟨hi,hb⟩]
 have h2:kL rows cols c k k= [(i:Int),(k:Int)]:=by
  have:=aGm (rows:=rows) (cols:=cols) (c:=c) (k:=k) (i:=i+1) (by rw[h1];simp) (k - (i+1));rw[show i+1+(k - (i+1))=k by omega,h1] at this;exact this
 have h3:kZ rows cols c (k+1)= [(i:Int),(k:Int)]:=by rw[kZ,if_pos hk,h2]
 have:=aGn (rows:=rows) (cols:=cols) (c:=c) (k:=k+1) (by rw[h3];simp) (n - (k+1));rw[show k+1+(n - (k+1))=n by omega,h3] at this;exact this
theorem aGp {rows:List (List Int)}{cols:List Int}{c:Int}{k:Nat}(hk:kZ rows cols c k= [])(hi:kL rows cols c k k= []):kZ rows cols c (k+1)= []:=by rw[kZ,if_pos hk,hi]
theorem aEH {d:aU}{f:bB}(h:iC d f=true):aV (aL d f.name).1=true/\0<=f.dst/\f.dst<=(aL d f.name).1.arity - 1/\f.src.length<=3:=by
 simp only[iC,aB4] at h;obtain⟨h1,h2,h3,_⟩:=h;have hT:=(nJ h1).1;have ha:=cA hT;have:=eA h3;exact⟨hT,this.1,this.2,aC8 h2 (by omega)⟩
theorem aPw {rows:List (List Int)}{cols:List Int}{c:Int}{i k:Nat}{x y:List Int}(hx:rows[i]? =some x)(hy:rows[k]? =some y):aOa rows cols c i k=(decide ((fH x cols).1=(fH y cols).1)&& !decide (x.getD c.toNat 0=y.getD c.toNat 0)):=by
 rw[aOa,bM hx,bM hy]
def kM (d:aU)(f:bB):Bool:=iC d f&&decide (kC d f= [])
theorem aMu {α:Type}[DecidableEq α](l:List α):decide ((l.length:Int)=0)=decide (l= []):=by
 cases l with
 | nil=>rfl
 | cons a l=>simp;omega
abbrev vC (d:aU)(f:bB):Prop:=Cn 231 [.agg [.sl 142 3 (d.tables.map aS)],.agg [.str f.name,.sl 3 1 (f.src.map intD),.int .i64 f.dst]] (vB (iC d f)) []
theorem aGq (d:aU)(f:bB)(hc:bN d<=1048576):vC d f:=by
 refine cq Tryz.func231 (.call (.tup [.agg [.p none (.str ((aL d f.name).1.name)),vI ((aL d f.name).1.arity),.p none (.sl 91 1 ((aL d f.name).1.rows.map aC))],vB ((aL d f.name).2)]) []<| .br (.call (vB (dR (((aL d f.name).1.arity) - 1) f.src)) []<| .lit<| .br (.raw<| .call (vB (eC f.dst (0:Int) (IntKind.i64.wrap (((aL d f.name).1.arity) - 1)))) []<| .lit<| .br (.call (vB (decide (f.dst∈f.src))) []<| .fin []) (.fin [])) (.fin [])) (.fin [])) (p:=Lx (d.tables.map aS)<| Lx (f.src.map intD)<| qI Tryz.prog 86 [.agg [.sl 142 3 (d.tables.map aS)],.one (.str f.name)] (.tup [.agg [.p none (.str ((aL d f.name).1.name)),vI ((aL d f.name).1.arity),.p none (.sl 91 1 ((aL d f.name).1.rows.map aC))],vB ((aL d f.name).2)]) []/\Bb ((aL d f.name).2) (yH f.src ((aL d f.name).1.arity)/\Bb (dR (((aL d f.name).1.arity) - 1) f.src) (eQ f.dst (0:Int) (IntKind.i64.wrap (((aL d f.name).1.arity) - 1))/\Bb (eC f.dst (0:Int) (IntKind.i64.wrap (((aL d f.name).1.arity) - 1))) (aMt f.src f.dst/\(!(decide (f.dst∈f.src)))=(iC d f)/\True) ((false)=(iC d f)/\True)) ((false)=(iC d f)/\True)) ((false)=(iC d f)/\True)) (by kernel_rfl) ?_;refine lx fun n0=>lx fun n1=>?_;refine⟨jP (rK _ f.name (by omega)) rfl,db (fun g15=>?_) fun g15=>?_⟩
 ·have hT:=(nJ g15).1;have hA:=cA hT;have hw:IntKind.i64.wrap ((aL d f.name).1.arity - 1)=(aL d f.name).1.arity - 1:=IntWalk.i64_in _ ⟨by omega,by omega⟩
  try rw[hw]
  refine⟨aJg _ _ (by omega),db (fun g22=>?_) fun g22=>?_⟩
  ·refine⟨iR _ _ _,db (fun g30=>?_) fun g30=>?_⟩
   ·refine⟨ctI _ _,?_,trivial⟩
    ·(simp[iC, *];done)
   ·apply et1
    ·(simp[iC, *];done)
  ·apply et1
   ·(simp[iC, *];done)
 ·apply et1
  ·(simp[iC, *];done)
abbrev vD (d:aU)(f:bB):Prop:=Cn 222 [.agg [.sl 142 3 (d.tables.map aS)],.agg [.str f.name,.sl 3 1 (f.src.map intD),.int .i64 f.dst]] (vB (iC d f)) []
theorem aGr (d:aU)(f:bB)(hc:bN d<=1048576):vD d f:=by
 refine cq Tryz.func222 (.call (.tup [.agg [.p none (.str ((aL d f.name).1.name)),vI ((aL d f.name).1.arity),.p none (.sl 91 1 ((aL d f.name).1.rows.map aC))],vB ((aL d f.name).2)]) []<| .br (.call (vB (aV ((aL d f.name).1)&&dR ((aL d f.name).1.arity - 1) f.src)) []<| .lit<| .br (.raw<| .call (vB (eC f.dst (0:Int) (IntKind.i64.wrap (((aL d f.name).1.arity) - 1)))) []<| .lit<| .br (.call (vB (decide (f.dst∈f.src))) []<| .fin []) (.fin [])) (.fin [])) (.fin [])) (p:=Lx (d.tables.map aS)<| Lx (f.src.map intD)<| qI Tryz.prog 126 [.agg [.sl 142 3 (d.tables.map aS)],.one (.str f.name)] (.tup [.agg [.p none (.str ((aL d f.name).1.name)),vI ((aL d f.name).1.arity),.p none (.sl 91 1 ((aL d f.name).1.rows.map aC))],vB ((aL d f.name).2)]) []/\Bb ((aL d f.name).2) (yI ((aL d f.name).1) f.src/\Bb (aV ((aL d f.name).1)&&dR ((aL d f.name).1.arity - 1) f.src) (eR f.dst (0:Int) (IntKind.i64.wrap (((aL d f.name).1.arity) - 1))/\Bb (eC f.dst (0:Int) (IntKind.i64.wrap (((aL d f.name).1.arity) - 1))) (aTr f.src f.dst/\(!(decide (f.dst∈f.src)))=(iC d f)/\True) ((false)=(iC d f)/\True)) ((false)=(iC d f)/\True)) ((false)=(iC d f)/\True)) (by kernel_rfl) ?_;refine lx fun n0=>lx fun n1=>?_;refine⟨jP (rL _ f.name (by omega)) rfl,db (fun g15=>?_) fun g15=>?_⟩
 ·have hT:=(nJ g15).1;have hA:=cA hT;have hw:IntKind.i64.wrap ((aL d f.name).1.arity - 1)=(aL d f.name).1.arity - 1:=IntWalk.i64_in _ ⟨by omega,by omega⟩
  try rw[hw]
  refine⟨aJh ((aL d f.name).1) _,db (fun g21=>?_) fun g21=>?_⟩
  ·refine⟨iS _ _ _,db (fun g29=>?_) fun g29=>?_⟩
   ·refine⟨hsI _ _,?_,trivial⟩
    ·(simp[iC, *] at*;simp[*];done)
   ·apply et1
    ·(simp[iC, *];done)
  ·apply et1
   ·(simp[iC, *] at*;simp[*];done)
 ·apply et1
  ·(simp[iC, *];done)
end Go.Proofs.YtlidmoeecphbmaaGreat
namespace Go.Proofs
open Go.Shelf
namespace YtlidmoeecphbmaaGreat
def Tryz.lays189_ren:Go.Shelf.Ren:=⟨fun | 189=>250 | 125=>261 | 257=>260 | 128=>275 | 129=>276 | 294=>266 | 295=>267 | 296=>268 | 297=>269 | 298=>270 | 299=>271 | 216=>272 | 300=>273 | 301=>274 | 328=>286 | 329=>287 | 330=>288 | 331=>289 | 332=>290 | 215=>291 | 343=>295 | n=>n,fun | 28=>91 | 3=>3 | 46=>255 | 0=>0 | 51=>267 | 53=>269 | 4=>4 | 183=>259 | 182=>258 | 131=>264 | 5=>5 | 9=>9 | 218=>275 | 222=>279 | 228=>284 | 229=>285 | n=>n,fun | n=>n⟩
theorem Tryz.lays189:Go.Proofs.Lays.n189 Tryz.prog Tryz.lays189_ren:={
 mixed:=by kernel_rfl
 f125:=Tryz.func261.trans (congrArg some (by kernel_rfl))
 f128:=Tryz.func275.trans (congrArg some (by kernel_rfl))
 f129:=Tryz.func276.trans (congrArg some (by kernel_rfl))
 f189:=Tryz.func250.trans (congrArg some (by kernel_rfl))
 f215:=Tryz.func291.trans (congrArg some (by kernel_rfl))
 f216:=Tryz.func272.trans (congrArg some (by kernel_rfl))
 f257:=Tryz.func260.trans (congrArg some (by kernel_rfl))
 f294:=Tryz.func266.trans (congrArg some (by kernel_rfl))
 f295:=Tryz.func267.trans (congrArg some (by kernel_rfl))
 f296:=Tryz.func268.trans (congrArg some (by kernel_rfl))
 f297:=Tryz.func269.trans (congrArg some (by kernel_rfl))
 f298:=Tryz.func270.trans (congrArg some (by kernel_rfl))
 f299:=Tryz.func271.trans (congrArg some (by kernel_rfl))
 f300:=Tryz.func273.trans (congrArg some (by kernel_rfl))
 f301:=Tryz.func274.trans (congrArg some (by kernel_rfl))
 f328:=Tryz.func286.trans (congrArg some (by kernel_rfl))
 f329:=Tryz.func287.trans (congrArg some (by kernel_rfl))
 f330:=Tryz.func288.trans (congrArg some (by kernel_rfl))
 f331:=Tryz.func289.trans (congrArg some (by kernel_rfl))
 f332:=Tryz.func290.trans (congrArg some (by kernel_rfl))
 f343:=Tryz.func295.trans (congrArg some (by kernel_rfl))
 t0:=Tryz.underlying0
 a0:=Tryz.isAgg0
 z0:=Tryz.sizeOf0
 v0:=Tryz.zeroValue0
 t3:=Tryz.underlying3
 a3:=Tryz.isAgg3
 z3:=Tryz.sizeOf3
 v3:=Tryz.zeroValue3
 t4:=Tryz.underlying4
 a4:=Tryz.isAgg4
 z4:=Tryz.sizeOf4
 v4:=Tryz.zeroValue4
 t5:=Tryz.underlying5
 a5:=Tryz.isAgg5
 z5:=Tryz.sizeOf5
 v5:=Tryz.zeroValue5
 t9:=Tryz.underlying9
 a9:=Tryz.isAgg9
 z9:=Tryz.sizeOf9
 v9:=Tryz.zeroValue9
 t28:=Tryz.underlying91
 a28:=Tryz.isAgg91
 z28:=Tryz.sizeOf91
 v28:=Tryz.zeroValue91
 t46:=Tryz.underlying255
 a46:=Tryz.isAgg255
 z46:=Tryz.sizeOf255
 v46:=Tryz.zeroValue255
 t51:=Tryz.underlying267
 a51:=Tryz.isAgg267
 z51:=Tryz.sizeOf267
 v51:=Tryz.zeroValue267
 t53:=Tryz.underlying269
 a53:=Tryz.isAgg269
 z53:=Tryz.sizeOf269
 v53:=Tryz.zeroValue269
 t131:=Tryz.underlying264
 a131:=Tryz.isAgg264
 z131:=Tryz.sizeOf264
 v131:=Tryz.zeroValue264
 t182:=Tryz.underlying258
 a182:=Tryz.isAgg258
 z182:=Tryz.sizeOf258
 v182:=Tryz.zeroValue258
 t183:=Tryz.underlying259
 a183:=Tryz.isAgg259
 z183:=Tryz.sizeOf259
 v183:=Tryz.zeroValue259
 t218:=Tryz.underlying275
 a218:=Tryz.isAgg275
 z218:=Tryz.sizeOf275
 v218:=Tryz.zeroValue275
 t222:=Tryz.underlying279
 a222:=Tryz.isAgg279
 z222:=Tryz.sizeOf279
 v222:=Tryz.zeroValue279
 t228:=Tryz.underlying284
 a228:=Tryz.isAgg284
 z228:=Tryz.sizeOf284
 v228:=Tryz.zeroValue284
 t229:=Tryz.underlying285
 a229:=Tryz.isAgg285
 z229:=Tryz.sizeOf285
 v229:=Tryz.zeroValue285 }
end YtlidmoeecphbmaaGreat
end Go.Proofs
namespace Go.Proofs.YtlidmoeecphbmaaGreat
open Go.ChangeShapes Go.WideShapes Go.ChangeAt Go.RowKit
set_option linter.unusedVariables false
set_option linter.unusedSimpArgs false
theorem aD6 {w:World}: ∀{l:List Int} {css:List (List Value)} {Fs:List (List Nat)},cL w 1 (l.map intD) css Fs->css.flatten=l.map (Value.int .i64)/\Fs.flatten= []
 | [],css,Fs,h=>by
   simp only[List.map_nil] at h;unfold cL at h;rw[h.1,h.2];simp
 | n::l,css,Fs,h=>by
   simp only[aKT] at h;unfold cL at h;obtain⟨c,css',F,Fs',rfl,rfl,_,h1,h2⟩:=h;obtain⟨q1,q2⟩:=aD6 h2;unfold intD dB at h1;obtain⟨v,cs',F1,F2,rfl,rfl,h3,h4⟩:=h1;unfold dB at h4;unfold oV at h3;simp[q1,q2,h4.1,h4.2,h3.1,h3.2]
theorem vE (w:World): ∀(l:List Int),cL w 1 (l.map intD) (l.map fun n=>[Value.int .i64 n]) (l.map fun _=>[])
 | []=>by simp only[List.map_nil];unfold cL;exact⟨rfl,rfl⟩
 | n::l=>by
   simp only[aKT];unfold cL;refine⟨_,_,_,_,rfl,rfl,rfl,?_,vE w l⟩;unfold intD dB;refine⟨_,_,[],[],rfl,rfl,?_,?_⟩
   ·unfold oV;exact⟨rfl,rfl⟩
   unfold dB;exact⟨rfl,rfl⟩
theorem aD7: ∀(m:List Int),(m.map fun n=>[Value.int .i64 n]).flatten=m.map (Value.int .i64)
 | []=>rfl
 | a::l=>by simp only[aKT,aOJ,aD7 l];rfl
theorem aJt {P:Program}{f:FuncId}{e:Nat}(l m:List Int)(hc:iZ P f=true)(hm:m.length=l.length)
 (hn0:l= []-> ∀w,Calls P f #[.slice none 0 0] w (fun ex w' =>ex= .returned (.tuple #[])/\w' =w))
 (hs: ∀(blk cap:Nat) (w:World),Go.Sort.Holds (Value.int .i64) w blk 0 l.toArray->blk<w.heap.size->l.length<=cap->Calls P f #[.slice (some ⟨blk,0,none⟩) l.length cap] w (fun ex w' =>ex= .returned (.tuple #[])/\ ∃n os,w' =Go.Sort.grow (Go.Sort.putRow (Value.int .i64) (Go.Sort.ahead w n) blk 0 m.toArray) os)):
 sW P f [.own 0] [(0,.arr e 1 true (l.map intD))] (.tup []) [(0,.arr e 1 true (m.map intD))]:=by
 refine⟨hc,by simp,fun A φ w vs hI hM=>?_⟩;obtain⟨pl,hp,css,Fs,q1,q2,q3,q4⟩:=hI.dom 0 _ rfl;unfold aO at hM;obtain⟨v,us,e1,m1,hM⟩:=hM;unfold aO at hM;unfold aH at m1;have hv:=m1 pl hp;have ev:vs= #[pl.val]:=by apply Array.ext';rw[e1,hM,hv]
 rw[ev];obtain⟨c1,c2⟩:=aD6 q4;rw[c1,aA8] at q1;have hge:=hI.ge 0 pl hp;have hsub:pl.sub= []:=by rw[q3,c2]
 have hfoot: ∀b∈pl.F,aKq φ b:=fun b hb=>⟨0,pl,trivial,hp,hb⟩
 have hend: ∀(w' :World),lN pl.F w w' ->w'.ownsRow 0 e 1 pl.val l.length (m.map (Value.int .i64))->
  ∃v K φ',Ending.returned (.tuple #[])= .returned v/\aQg A φ w [(0,.arr e 1 true (m.map intD))] K φ' w' /\aH K φ' w' (.tup []) v:=by
  intro w' hon howns;refine⟨_,A,fun h=>if h=0 then some pl else none,rfl,⟨⟨hon.os,hon.tape,hon.output,hon.size,fun b hb hn=>hon.block b hb (fun hm=>hn (hfoot b hm))⟩,fun _ h=>h,fun b hb=>⟨aSP (hI.lt b hb) hon.size,.inl hb⟩,fun b hb h pl1 e' hm' =>?_,fun h r hr=>?_,fun h hr=>?_,fun h h' pl1 pl2 hne ea eb=>?_,fun h pl1 e' =>?_,fun h pl1 e' g hg=>?_,fun h pl1 pl0 e' e0=>?_⟩,?_⟩
  ·split at e'
   ·injection e' with e';subst e'
    exact hI.out b hb 0 pl hp hm'
   cases e'
  ·simp only[bC] at hr;split at hr
   ·rename_i eh;subst eh;injection hr with hr
    subst hr;refine⟨pl,by simp,m.map fun n=>[Value.int .i64 n],m.map fun _=>[],?_,q2,?_,vE _ m⟩
    ·rw[aD7,aA8,hm];exact howns
    rw[hsub];simp
   cases hr
  ·simp only[bC] at hr;split at hr
   ·cases hr
   rename_i eh;exact if_neg eh
  ·split at ea
   ·split at eb
    ·rename_i x y;exact absurd (x.trans y.symm) hne
    cases eb
   cases ea
  ·split at e'
   ·injection e' with e';subst e';exact hI.nodup 0 pl hp
   cases e'
  ·split at e'
   ·injection e' with e';subst e'
    exact⟨.inr (hfoot g hg),aSP (hge g hg) hon.size⟩
   cases e'
  ·split at e'
   ·rename_i eh;subst eh;rw[hp] at e0;injection e0 with e0;injection e' with e'
    subst e0;subst e';exact⟨rfl,rfl⟩
   cases e'
  unfold aH;exact⟨#[],rfl,by unfold aO;rfl⟩
 rcases q1.2 with ⟨hvn,hz⟩ | ⟨g,cap,cur,hvv,hg0,hb,hn,hcap,hsz,htk⟩
 ·have hz' :l= []:=aIi hz;rw[hvn];refine(hn0 hz' w).mono ?_;rintro en w' ⟨rfl,rfl⟩;have hm0:m= []:=aIi (by rw[hm,hz]);refine hend w' (lN.refl _ _) ?_;rw[hvn,hm0,hz];exact⟨by simp,.inl ⟨rfl,rfl⟩⟩
 have hlt:g<w.heap.size:=(Array.getElem?_eq_some_iff.1 hb).1;have hH:Go.Sort.Holds (Value.int .i64) w g 0 l.toArray:=holds_of_blockI hb (by rw[Nat.mul_one] at htk;exact htk);rw[hvv];refine(hs g cap w hH hlt hn).mono ?_;rintro en w' ⟨rfl,n,os,rfl⟩;have hgb:=grownBy_sortedI (w:=w) (g:=g) (n:=n) (os:=os) m.toArray;have hown:=ownsRow_sortedI (n:=n) (os:=os) hm hg0 hb hn hcap hsz;refine hend _ ⟨hgb.os,hgb.tape,hgb.output,hgb.size,fun k hk hne=>hgb.block k hk (fun e=>hne (by injection e with e;subst e;unfold Pl.F;rw[q2,hvv];simp[Value.ownBlock]))⟩ ?_;rw[hvv];exact hown
def jN (l:List Int):List Int:=l.mergeSort fun x y=>decide (x<=y)
theorem aGs (l:List Int):(jN l).Perm l:=List.mergeSort_perm l _
theorem tT (l:List Int):(jN l).length=l.length:=(aGs l).length_eq
theorem aOb (l:List Int):(jN l).Pairwise (· <= ·):=by
 have:=List.pairwise_mergeSort (le:=fun x y:Int=>decide (x<=y)) (fun a b c h1 h2=>by simp at*;omega) (fun a b=>by simp;omega) l;exact this.imp (fun h=>by simpa using h)
theorem aJu (l:List Int)(hl:l.length<4611686018427387904):sW Tryz.prog 250 [.own 0] [(0,.arr 3 1 true (l.map intD))] (.tup []) [(0,.arr 3 1 true ((jN l).map intD))]:=
 aJt l (jN l) (by kernel_rfl) (tT l)
  (fun h w=>Any.slices_Sort_int_none Tryz.lays189 none 0 w)
  (fun blk cap w hH hblk _=>Any.slices_Sort_int Tryz.lays189 blk 0 cap l w hH hblk hl)
end Go.Proofs.YtlidmoeecphbmaaGreat
namespace Go.Proofs
open Go.Shelf
namespace YtlidmoeecphbmaaGreat
def Tryz.compInts_ren:Go.Shelf.Ren:=⟨fun | 43=>251 | n=>n,fun | 22=>91 | 23=>3 | 3=>3 | 4=>4 | 0=>0 | n=>n,fun | n=>n⟩
theorem Tryz.compInts:Go.Proofs.SlLaysE.n43 Tryz.prog Tryz.compInts_ren:={
 mixed:=by kernel_rfl
 f43:=⟨Tryz.f251.name,by decide,Tryz.func251.trans (congrArg some (by kernel_rfl))⟩
 t0:=Tryz.underlying0
 a0:=Tryz.isAgg0
 z0:=Tryz.sizeOf0
 v0:=Tryz.zeroValue0
 t3:=Tryz.underlying3
 a3:=Tryz.isAgg3
 z3:=Tryz.sizeOf3
 v3:=Tryz.zeroValue3
 t4:=Tryz.underlying4
 a4:=Tryz.isAgg4
 z4:=Tryz.sizeOf4
 v4:=Tryz.zeroValue4
 t22:=Tryz.underlying91
 a22:=Tryz.isAgg91
 z22:=Tryz.sizeOf91
 v22:=Tryz.zeroValue91
 a23:=Tryz.isAgg3
 z23:=Tryz.sizeOf3 }
end YtlidmoeecphbmaaGreat
end Go.Proofs
namespace Go.Proofs.YtlidmoeecphbmaaGreat
open Go.ChangeShapes Go.WideShapes Go.ChangeAt Go.RowKit Go.Lib
set_option linter.unusedVariables false
set_option linter.unusedSimpArgs false
theorem aOc {P:Program}{f:FuncId}{e:Nat}(l m:List Int)(hc:iZ P f=true)(hm:m.length<=l.length)(hm0:l= []->m= [])
 (hn0:l= []-> ∀w,Calls P f #[.slice none 0 0] w (fun ex w' =>ex= .returned (.slice none 0 0)/\w' =w))
 (hs: ∀(blk cap:Nat) (w:World),Go.Sort.Holds (Value.int .i64) w blk 0 l.toArray->blk<w.heap.size->l.length<=cap->Calls P f #[.slice (some ⟨blk,0,none⟩) l.length cap] w (fun ex w' =>ex= .returned (.slice (some ⟨blk,0,none⟩) m.length cap)/\ ∃n os z,(m++z).length=l.length/\w' =Go.Sort.grow (Go.Sort.putRow (Value.int .i64) (Go.Sort.ahead w n) blk 0 (m++z).toArray) os)):
 sW P f [.own 0] [(0,.arr e 1 true (l.map intD))] (.own 1) [(1,.arr e 1 true (m.map intD))]:=by
 refine⟨hc,by simp,fun A φ w vs hI hM=>?_⟩;obtain⟨pl,hp,css,Fs,q1,q2,q3,q4⟩:=hI.dom 0 _ rfl;unfold aO at hM;obtain⟨v,us,e1,m1,hM⟩:=hM;unfold aO at hM;unfold aH at m1;have hv:=m1 pl hp;have ev:vs= #[pl.val]:=by apply Array.ext';rw[e1,hM,hv]
 rw[ev];obtain⟨c1,c2⟩:=aD6 q4;rw[c1,aA8] at q1;have hge:=hI.ge 0 pl hp;have hsub:pl.sub= []:=by rw[q3,c2]
 have hfoot: ∀b∈pl.F,aKq φ b:=fun b hb=>⟨0,pl,trivial,hp,hb⟩;have h1:φ 1=none:=hI.non 1 rfl
 have hend: ∀(v' :Value) (w' :World),lN pl.F w w' ->(∀b∈v'.ownBlock,b∈pl.val.ownBlock)->w'.ownsRow 0 e 1 v' m.length (m.map (Value.int .i64))->
  ∃v K φ',Ending.returned v' = .returned v/\aQg A φ w [(1,.arr e 1 true (m.map intD))] K φ' w' /\aH K φ' w' (.own 1) v:=by
  intro v' w' hon hvb howns
  let pl' :Pl:=⟨v',v'.ownBlock.toList,[]⟩
  have hmem: ∀g,g∈pl'.F->g∈pl.F:=fun g hg=>by
   unfold Pl.F;simp only[pl',Pl.F,aWr,Option.mem_toList] at hg;rw[q2];exact aKD _ (by rw[Option.mem_toList];exact hvb g hg)
  have hnd' :pl'.F.Nodup:=by simp only[pl',Pl.F,aWr];cases v'.ownBlock<;>simp
  refine⟨_,A,fun h=>if h=1 then some pl' else none,rfl,⟨⟨hon.os,hon.tape,hon.output,hon.size,fun b hb hn=>hon.block b hb (fun hm=>hn (hfoot b hm))⟩,fun _ h=>h,fun b hb=>⟨aSP (hI.lt b hb) hon.size,.inl hb⟩,fun b hb h pl1 e' hm' =>?_,fun h r hr=>?_,fun h hr=>?_,fun h h' pl1 pl2 hne ea eb=>?_,fun h pl1 e' =>?_,fun h pl1 e' g hg=>?_,fun h pl1 pl0 e' e0=>?_⟩,?_⟩
  ·split at e'
   ·injection e' with e';subst e'
    exact hI.out b hb 0 pl hp (hmem b hm')
   cases e'
  ·simp only[bC] at hr;split at hr
   ·rename_i eh;subst eh;injection hr with hr
    subst hr;refine⟨pl',by simp,m.map fun n=>[Value.int .i64 n],m.map fun _=>[],?_,rfl,?_,vE _ m⟩
    ·rw[aD7,aA8];exact howns
    simp[pl']
   cases hr
  ·simp only[bC] at hr;split at hr
   ·cases hr
   rename_i eh;exact if_neg eh
  ·split at ea
   ·split at eb
    ·rename_i x y;exact absurd (x.trans y.symm) hne
    cases eb
   cases ea
  ·split at e'
   ·injection e' with e';subst e';exact hnd'
   cases e'
  ·split at e'
   ·injection e' with e';subst e'
    have:=hmem g hg;exact⟨.inr (hfoot g this),aSP (hge g this) hon.size⟩
   cases e'
  ·split at e'
   ·rename_i eh;subst eh;rw[h1] at e0;cases e0
   cases e'
  unfold aH;intro pl1 e';simp at e';subst e';rfl
 rcases q1.2 with ⟨hvn,hz⟩ | ⟨g,cap,cur,hvv,hg0,hb,hn,hcap,hsz,htk⟩
 ·have hz' :l= []:=aIi hz;rw[hvn];refine(hn0 hz' w).mono ?_;rintro en w' ⟨rfl,rfl⟩;refine hend (.slice none 0 0) w' (lN.refl _ _) (fun b hb=>by cases hb) ?_;rw[hm0 hz'];exact⟨by simp,.inl ⟨rfl,rfl⟩⟩
 have hlt:g<w.heap.size:=(Array.getElem?_eq_some_iff.1 hb).1;have hH:Go.Sort.Holds (Value.int .i64) w g 0 l.toArray:=holds_of_blockI hb (by rw[Nat.mul_one] at htk;exact htk);rw[hvv];refine(hs g cap w hH hlt hn).mono ?_;rintro en w' ⟨rfl,n,os,z,hz,rfl⟩;have hgb:=grownBy_sortedI (w:=w) (g:=g) (n:=n) (os:=os) (m++z).toArray;have hown:=ownsRow_sortedI (n:=n) (os:=os) hz hg0 hb hn hcap hsz;refine hend _ _ ⟨hgb.os,hgb.tape,hgb.output,hgb.size,fun k hk hne=>hgb.block k hk (fun e=>hne (by injection e with e;subst e;unfold Pl.F;rw[q2,hvv];simp[Value.ownBlock]))⟩ (fun b hb' =>by rw[hvv];exact hb') ?_;rcases hown.2 with ⟨hvn,_⟩ | ⟨g',cap',cur',hv',hg',hb',hn',hcap',hsz',htk'⟩
 ·cases hvn
 simp only[Value.slice.injEq,Option.some.injEq,Addr.mk.injEq,and_true] at hv';obtain⟨rfl,_,rfl⟩:=hv';refine⟨by simp,.inr ⟨g,cap,cur',rfl,hg',hb',by omega,hcap',hsz',?_⟩⟩;rw[Nat.mul_one] at*;have h3:=congrArg (List.take m.length) htk';rw[List.take_take,Nat.min_eq_left hm,aKc,List.take_append_of_le_length (by simp)] at h3;rw[h3,aGj (by simp)]
def sO (l:List Int):List Int:=compactUpTo l.toArray l.toArray.size
theorem aMv (l:List Int):(sO l).length<=l.length:=by
 unfold sO compactUpTo;rw[aA8];have:=(List.filter_sublist (l:=List.range l.toArray.size) (p:=keeps l.toArray)).length_le;simpa using this
theorem aJv {l:List Int}:sO l= []↔l= []:=by
 constructor
 ·intro h;by_cases e:l= []
  ·exact e
  exfalso;have hp:0<l.length:=List.length_pos_iff.2 e;unfold sO compactUpTo at h;rw[List.map_eq_nil_iff,List.filter_eq_nil_iff] at h;exact h 0 (aSN.2 (by simpa using hp)) (keeps_lt_one _ 0 (by omega))
 rintro rfl;rfl
theorem tyI:fX Tryz.prog 3=some (false,1,8,.int .i64 0):=by kernel_rfl
theorem aYc (w:World):(zeroValue 3).run Tryz.prog w= .ok (.int .i64 0) w:=(fT tyI w).2.2.1
theorem aRA (l:List Int)(hl:l.length<4611686018427387904):sW Tryz.prog 251 [.own 0] [(0,.arr 3 1 true (l.map intD))] (.own 1) [(1,.arr 3 1 true ((sO l).map intD))]:=
 aOc l (sO l) (by kernel_rfl) (aMv l) (fun h=>aJv.2 h)
  (fun h w=>by
   go_enter Tryz.func251,Tryz.ntmps251
   go_wp2
   go_ret
   exact⟨rfl,rfl⟩)
  (fun blk cap w hH hblk hn=>(AnyE.slices_Compact Tryz.compInts (Value.int .i64) (fun _=>rfl) (EqlAt.intD _ _ .i64) (NeqAt.intD _ _ .i64) 0 (fun w=>aYc w) blk 0 cap l.toArray w hH (by rw[List.size_toArray];omega) (by rw[List.size_toArray];exact hn)).mono fun e w' ⟨he,q,hw⟩=>
   ⟨by have e1:l.toArray.size=l.length:=by simp
       rw[e1] at he;unfold sO;rw[e1];exact he,q,#[],List.replicate (l.length - (sO l).length) 0,by have:=aMv l;simp;omega,by rw[hw,Go.Sort.grow_empty];simp[sO]⟩)
end Go.Proofs.YtlidmoeecphbmaaGreat
