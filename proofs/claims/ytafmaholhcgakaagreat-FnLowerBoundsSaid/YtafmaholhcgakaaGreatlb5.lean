/-
  Contracts and plain laws, joined: part 6.
-/
import Derived.Test.YtafmaholhcgakaaGreatlb4
import Derived.Test.YtafmaholhcgakaaGreatlb3
import Derived.IntWalk
import Derived.Shelf.Sort.Plain
import Derived.Shelf.Slices.In.SortNone
import Derived.Sort.OwnSortedInts
import Derived.Shelf.SlicesE.Compact
import Derived.Ground.SlgnProg
namespace Go.Proofs.YtafmaholhcgakaaGreat
open Go.ChangeShapes Go.WideShapes Go.ChangeAt Go.RowKit
set_option linter.unusedVariables false
set_option linter.unusedSimpArgs false
set_option maxRecDepth 100000
set_option maxHeartbeats 4000000
theorem aFQ {α:Type}{c:α->Nat}{m:Nat}{l:List α}(h: ∀x∈l,c x<=m):nA c l<=l.length+l.length*m:=by
 have h1:=aAd (ct:=c) (m:=m) (l:=l) h;have h2:nA c l=l.length+aGS c l:=rfl;omega
theorem aOG (t:aP)(cols:List Int):cV (gY t cols).1<=64/\(gY t cols).2.length<=8:=by
 cases h:(aR t&&dI (t.arity - 1) cols) with
 | false=>rw[aDv h];exact⟨by decide,by decide⟩
 | true=>
   have:=aIO (k:=(kR t cols).length) h;rw[aK7,xT] at this;rw[tK h];exact⟨this.2,by simp only[aQL,aAJ,aQK];exact this.1⟩
theorem aIV {t:aP}(h:aR t=true):t.name.size=1:=by
 simp only[aR,fF,aAS,aLF] at h;omega
theorem aDW (t:aP):dE (aX t)<=2000:=by
 cases h:aR t with
 | false=>rw[aAg h];decide
 | true=>
   have hT:=bP h;have hn:=aIV h;have hl:=xY (n:=t.arity) ⟨hT.1,hT.2.1⟩;rw[iY h]
   have h1:=aFQ (c:=gZ) (m:=75) (l:=(bL t.arity).map (wF t)) fun x hx=>by
    obtain⟨c,hc,rfl⟩:=aH5.1 hx;obtain⟨k,hk,hc⟩:=List.mem_iff_getElem.1 hc;have h3:=aAh (aCx.2 ⟨hk,hc⟩);have h4:=aOG t c;have h5:gZ (wF t c)=c.length+cV (gY t c).1+(gY t c).2.length:=rfl;omega
   rw[aAJ] at h1;have h2:dE ⟨t.name,t.arity,(t.rows.length:Nat),(bL t.arity).map (wF t)⟩=t.name.size+nA gZ ((bL t.arity).map (wF t)):=rfl;omega
theorem zQ (d:aL)(v:Int):dN (dJ d v).1<=20000:=by
 cases h:(iI d&&dV v 1 999) with
 | false=>rw[rG h];decide
 | true=>
   have h6:=aFO (by simp_all:iI d=true);rw[oF h]
   have h1:=aFQ (c:=dE) (m:=2000) (l:=d.tables.map aX) fun x hx=>by
    obtain⟨t,_,rfl⟩:=aH5.1 hx;exact aDW t
   rw[aAJ] at h1;have h2:dN ⟨v,d.tables.map aX⟩=nA dE (d.tables.map aX):=rfl;show dN ⟨v,d.tables.map aX⟩<=20000;omega
def cZ {α:Type}(p:α->Bool)(l:List α):Int:=match l.findIdx? p with | some k=>(k:Int) | none=> -1
theorem aBk {α:Type}{p:α->Bool}{l:List α}{k:Nat}{x:α}(h:l[k]? =some x)(ha:(l.take k).all (fun y=> !p y)=true)(hx:p x=true):cZ p l=(k:Int):=by
 obtain⟨hk,rfl⟩:=aCx.1 h
 have:l.findIdx? p=some k:=by
  rw[List.findIdx?_eq_some_iff_getElem];refine⟨hk,hx,fun j hj=>?_⟩;have:=aDP.1 ha l[j] (List.mem_iff_getElem.2 ⟨j,by rw[aOe];omega,by rw[List.getElem_take]⟩);simpa using this
 rw[cZ,this]
theorem zR {α:Type}{p:α->Bool}{l:List α}(ha:l.all (fun y=> !p y)=true):cZ p l= -1:=by
 have:l.findIdx? p=none:=by
  rw[List.findIdx?_eq_none_iff];intro x hx;have:=aDP.1 ha x hx;simpa using this
 rw[cZ,this]
theorem aQ4 {α:Type}{p:α->Bool}{l:List α}(h:0<=cZ p l): ∃(k:Nat) (x:α),cZ p l=(k:Int)/\l[k]? =some x/\p x=true/\k<l.length:=by
 unfold cZ at*;cases e:l.findIdx? p with
 | none=>rw[e] at h;exact absurd h (by decide)
 | some k=>
   rw[List.findIdx?_eq_some_iff_getElem] at e;obtain⟨hk,hx,_⟩:=e;exact⟨k,l[k],rfl,aBJ hk,hx,hk⟩
theorem aSu {α:Type}(p:α->Bool)(l:List α): -1<=cZ p l/\cZ p l<(l.length:Int):=by
 by_cases h:0<=cZ p l
 ·obtain⟨k,x,h1,_,_,h4⟩:=aQ4 h;omega
 unfold cZ at*;cases e:l.findIdx? p with
 | none=>simp only;omega
 | some k=>rw[e] at h;simp only at h;omega
abbrev aAl (t:aP):AV × List (Nat × Rs):=(.agg [.p none (.str t.name),vI t.arity,.own 0],[(0,.arr 34 1 true (t.rows.map aD))])
abbrev aFR (t:aP):Prop:=Cn 137 [.agg [.str t.name,.int .i64 t.arity,.sl 34 1 (t.rows.map aD)]] (aAl t).1 (aAl t).2
theorem aQ5 (t:aP)(hc:iP t<=1048576):aFR t:=by
 refine cq Tryz.func137 (cH (aHP t.rows)<| .fin [(0,500)]) (p:=Lx (t.rows.map aD)<| aJd t.rows/\t.name=t.name/\t.arity=t.arity/\t.rows.map aD=t.rows.map aD/\True) (by kernel_rfl) ?_;refine lx fun n0=>?_;have q1:iP t=t.name.size+cV t.rows:=rfl;have q2:=iG t.rows;refine⟨cpR _ (by omega),?_⟩;exact⟨rfl,rfl,rfl,trivial⟩
abbrev uT (t:aP):AV × List (Nat × Rs):=(.agg [.p none (.str t.name),vI t.arity,.own 0],[(0,.arr 34 1 true (t.rows.map aD))])
abbrev aAm (t:aP):Prop:=Cn 150 [.agg [.str t.name,.int .i64 t.arity,.sl 34 1 (t.rows.map aD)]] (uT t).1 (uT t).2
theorem aJx (t:aP)(hc:iP t<=1048576):aAm t:=by
 refine cq Tryz.func150 (.loop (Nat × (List (List Int))) (Q2 Nat (List (List Int))) ([4]++rg 10 19) [300,1900,2500,2600,2700,9000] (fun yy0=>[(4,vI (yy0.1:Int))]) (fun yy0=>[(300,some (.box 88 [.p none (.str t.name),vI t.arity,.own 9000])),(9000,some (.arr 34 1 true (yy0.2.map aD)))]) (fun yy0=>yy0.1<=t.rows.length/\yy0.2=t.rows.take yy0.1) (fun yy0=>t.rows.length - yy0.1) (fun yy0=> .len t.rows.length<| .br (.elem _ aD t.rows (fun e23=> .app Int intD ([]:List Int) e23<| .appx (List Int) aD yy0.2 (([]:List Int)++e23)<| .back [(300,300),(9000,2700)])) (.fin [(0,9000)]))) (p:=Lx (t.rows.map aD)<| (∃(k:Nat) (out:List (List Int)),0=(k:Int)/\t.name=t.name/\t.arity=t.arity/\[]=out.map aD/\k<=t.rows.length/\out=t.rows.take k)/\ ∀(k:Nat) (out:List (List Int)),(k<=t.rows.length/\out=t.rows.take k)->Lm aD t.rows/\Br ((k:Int)<(t.rows.length:Int)) (0<=(k:Int)/\Em aD t.rows k fun e23=>Ap intD ([]:List Int) e23 8 (out.map aD=out.map aD/\(([]:List Int)++e23).map intD=(([]:List Int)++e23).map intD/\(out.length+1)*24<=140737488355328/\bW ((k:Int)+1)/\ ∃(k' :Nat) (out' :List (List Int)),((k:Int)+1)=(k' :Int)/\t.name=t.name/\t.arity=t.arity/\(out++[([]:List Int)++e23]).map aD=out'.map aD/\(k' <=t.rows.length/\out' =t.rows.take k')/\t.rows.length - k' <t.rows.length - k)) (t.name=t.name/\t.arity=t.arity/\out.map aD=t.rows.map aD/\True)) (by kernel_rfl) ?_;refine lx fun n0=>?_;have q1:iP t=t.name.size+cV t.rows:=rfl;have q2:=iG t.rows;refine⟨⟨0,([]:List (List Int)),rfl,rfl,rfl,rfl,aAU _,rfl⟩,fun k out ⟨hk,ho⟩=>?_⟩;refine⟨aAJ _,dd (fun c0=>?_) fun c0=>?_⟩
 ·refine⟨by omega,rfl,by omega,fun e23 h23=>?_⟩;have hp3:=zN h23;refine ap ?_ (fun _=>rfl) (by (simp;omega));refine⟨rfl,rfl,by (simp[ho];omega),⟨by omega,by omega⟩,?_⟩;exact⟨k+1,_,rfl,rfl,rfl,rfl,⟨by omega,by rw[ho,bS h23];rfl⟩,by omega⟩
 ·refine⟨rfl,rfl,?_,trivial⟩
  ·(rw[ho,aCy (by omega)])
abbrev isN (n:ByteArray):aP->Bool:=fun t=>t.name.toList==n.toList
abbrev jU (v:Int):Int->Bool:=fun y=>decide (v=y)
theorem lI {α:Type}{p:α->Bool}{l:List α}:(cZ p l<0->l.find? p=none)/\(0<=cZ p l-> ∃(k:Nat) (x:α),cZ p l=(k:Int)/\l[k]? =some x/\l.find? p=some x):=by
 unfold cZ;cases e:l.findIdx? p with
 | none=>
   rw[List.findIdx?_eq_none_iff] at e;refine⟨fun _=>List.find?_eq_none.2 fun x hx=>by rw[e x hx];decide,fun h=>absurd h (by decide)⟩
 | some k=>
   rw[List.findIdx?_eq_some_iff_getElem] at e;obtain⟨hk,hx,hj⟩:=e;refine⟨fun h=>absurd h (by simp only;omega),fun _=>⟨k,l[k],rfl,aBJ hk,?_⟩⟩;rw[List.find?_eq_some_iff_getElem];exact⟨hx,k,hk,rfl,fun j hjk=>by have:=hj j hjk;simpa using this⟩
theorem aFS {l:List Int}{v:Int}:decide (0<=cZ (jU v) l)=decide (v∈l):=by
 apply Bool.eq_iff_iff.2;rw[aLF,aLF];constructor
 ·intro h;obtain⟨k,x,_,hx,hf⟩:=lI.2 h;have h1:=List.find?_some hf;have:v=x:=by simpa [jU] using h1
  rw[this];exact aAx hx
 intro h;rcases Int.lt_or_le (cZ (jU v) l) 0 with q | q
 ·have:=lI.1 q;rw[List.find?_eq_none] at this;exact absurd (this v h) (by simp[jU])
 exact q
def aE (d:aL)(n:ByteArray):aP × Bool:=if iI d=true then (match d.tables.find? (isN n) with | some t=>(t,true) | none=>(mI,false)) else (mI,false)
theorem yA {d:aL}{n:ByteArray}(h:iI d=false\/d.tables.find? (isN n)=none):aE d n=(mI,false):=by
 unfold aE;rcases h with h | h
 ·rw[if_neg (by rw[h];decide)]
 rw[h];split<;>rfl
theorem aCm {d:aL}{n:ByteArray}{t:aP}(h:iI d=true)(hf:d.tables.find? (isN n)=some t):aE d n=(t,true):=by rw[aE,if_pos h,hf]
theorem aFT {d:aL}(h:iI d=true):d.tables.all aR=true:=by
 simp only[iI,aAS] at h;exact h.1
theorem jO {d:aL}{n:ByteArray}(h:(aE d n).2=true):aR (aE d n).1=true/\iI d=true:=by
 unfold aE at*;split at h
 ·rename_i hd;rw[if_pos hd];cases e:d.tables.find? (isN n) with
  | none=>rw[e] at h;cases h
  | some t=>exact⟨aDP.1 (aFT hd) t (List.mem_of_find?_eq_some e),hd⟩
 cases h
abbrev aQ6 (t:aP)(n:ByteArray):Prop:=Cn 140 [.agg [.str t.name,.int .i64 t.arity,.sl 34 1 (t.rows.map aD)],.ref [.str n]] (vB (isN n t)) []
theorem aW2 (t:aP)(n:ByteArray):aQ6 t n:=by
 refine cq Tryz.func140 (.fin []) (p:=Lx (t.rows.map aD)<| (t.name.toList==n.toList)=(isN n t)/\True) (by kernel_rfl) ?_;refine lx fun n0=>?_;apply et1
 ·rfl
abbrev aQ7 (l:List aP)(n:ByteArray):Prop:=Cn 139 [.one (.sl 88 3 (l.map aG)),.fn 140 [[.str n]]] (vI (cZ (isN n) l)) []
theorem aW3 (l:List aP)(n:ByteArray):aQ7 l n:=by
 refine cq Tryz.func139 (.len l.length<| .loop Nat (Q1 Nat) ([5]++rg 8 9++[18]) [] (fun k=>[(8,vI (k:Int))]) (fun k=>[]) (fun k=>k<=l.length/\(l.take k).all (fun y=> !isN n y)=true) (fun k=>l.length - k) (fun k=> .br (.elem _ aG l (fun e14=> .call (vB (isN n e14)) []<| .br (.fin []) (.back []))) (.fin []))) (p:=Lx (l.map aG)<| Lm aG l/\((∃(k:Nat),0=(k:Int)/\k<=l.length/\(l.take k).all (fun y=> !isN n y)=true)/\ ∀(k:Nat),(k<=l.length/\(l.take k).all (fun y=> !isN n y)=true)->Br ((k:Int)<(l.length:Int)) (0<=(k:Int)/\Em aG l k fun e14=>aQ6 e14 n/\Bb (isN n e14) ((k:Int)=(cZ (isN n) l)/\True) (bW ((k:Int)+1)/\ ∃(k' :Nat),((k:Int)+1)=(k' :Int)/\(k' <=l.length/\(l.take k').all (fun y=> !isN n y)=true)/\l.length - k' <l.length - k)) ((-1:Int)=(cZ (isN n) l)/\True))) (by kernel_rfl) ?_;refine lx fun n0=>?_;refine⟨aAJ _,⟨0,rfl,aAU _,rfl⟩,fun k ⟨hk,ha⟩=>?_⟩;refine dd (fun c0=>?_) fun c0=>?_
 ·refine⟨by omega,rfl,by omega,fun e14 h14=>?_⟩;refine⟨aW2 _ _,db (fun c1=>?_) fun c1=>?_⟩
  ·have hE:=aBk (p:=isN n) h14 ha c1;apply et1
   ·rw[hE]
  ·refine⟨⟨by omega,by omega⟩,?_⟩;exact⟨k+1,rfl,⟨by omega,cI h14 ha (by simp[c1])⟩,by omega⟩
 ·have hE:=zR (p:=isN n) (cK (by omega) ha);apply et1
  ·rw[hE]
abbrev aFU (d:aL)(n:ByteArray):AV × List (Nat × Rs):=(.tup [.agg [.p none (.str ((aE d n).1.name)),vI ((aE d n).1.arity),.own 0],vB ((aE d n).2)],[(0,.arr 34 1 true ((aE d n).1.rows.map aD))])
abbrev aL0 (d:aL)(n:ByteArray):Prop:=Cn 86 [.agg [.sl 88 3 (d.tables.map aG)],.one (.str n)] (aFU d n).1 (aFU d n).2
theorem rH (d:aL)(n:ByteArray)(hc:bO d<=1048576):aL0 d n:=by
 refine cq Tryz.func86 (.call (vI (cZ (isN n) d.tables)) []<| .br (.fin []) (.call (vB (iI d)) []<| .lit<| .lit<| .br (.fin []) (.elem _ aG d.tables (fun e22=>cH (aAl e22)<| .fin [(0,2400)])))) (p:=Lx (d.tables.map aG)<| aQ7 d.tables n/\Br ((cZ (isN n) d.tables)<0) (ByteArray.empty=((aE d n).1.name)/\0=((aE d n).1.arity)/\(false)=((aE d n).2)/\[]=(aE d n).1.rows.map aD/\True) (aCk d/\Nr (iI d) (ByteArray.empty=((aE d n).1.name)/\0=((aE d n).1.arity)/\(false)=((aE d n).2)/\[]=(aE d n).1.rows.map aD/\True) (0<=(cZ (isN n) d.tables)/\Em aG d.tables ((cZ (isN n) d.tables).toNat) fun e22=>aFR e22/\e22.name=((aE d n).1.name)/\e22.arity=((aE d n).1.arity)/\(true)=((aE d n).2)/\e22.rows.map aD=(aE d n).1.rows.map aD/\True))) (by kernel_rfl) ?_;refine lx fun n0=>?_;have q1:bO d=zK d.tables:=rfl;have hg:=aSu (isN n) d.tables;refine⟨aW3 _ _,dd (fun g13=>?_) fun g13=>?_⟩
 ·have hbad:aE d n=(mI,false):=yA (by (right;exact lI.1 (by omega)));apply et4<;>((rw[hbad]<;>rfl))
 ·refine⟨aMp d,dm (fun c0=>?_) fun c0=>?_⟩
  ·have hbad:aE d n=(mI,false):=yA (by (left;simpa using c0;done));apply et4<;>((rw[hbad]<;>rfl))
  ·have hd:iI d=true:=by simpa using c0
   obtain⟨k,y,hk,hy,hf⟩:=lI.2 (show 0<=cZ (isN n) d.tables by omega);have hok:=aCm hd hf;refine⟨by omega,rfl,by omega,fun e22 h22=>?_⟩;have hyx:y=e22:=by rw[hk] at h22;exact(bF (by simpa using h22) hy)
   have q2:=aA7 h22;rw[hyx] at hok;refine⟨aQ5 _ (by omega),?_,?_,?_,?_,trivial⟩<;>((rw[hok]<;>rfl))
abbrev aFV (d:aL)(n:ByteArray):AV × List (Nat × Rs):=(.tup [.agg [.p none (.str ((aE d n).1.name)),vI ((aE d n).1.arity),.own 0],vB ((aE d n).2)],[(0,.arr 34 1 true ((aE d n).1.rows.map aD))])
abbrev aL1 (d:aL)(n:ByteArray):Prop:=Cn 94 [.agg [.sl 88 3 (d.tables.map aG)],.one (.str n)] (aFV d n).1 (aFV d n).2
theorem pG (d:aL)(n:ByteArray)(hc:bO d<=1048576):aL1 d n:=by
 refine cq Tryz.func94 (.loop Nat (Q1 Nat) (rg 6 20) [] (fun k=>[(6,vI (k:Int))]) (fun k=>[]) (fun k=>k<=d.tables.length/\(d.tables.take k).all (fun y=> !isN n y)=true) (fun k=>d.tables.length - k) (fun k=> .len d.tables.length<| .br (.call (vB (iI d)) []<| .lit<| .br (.elem _ aG d.tables (fun e21=> .br (.elem _ aG d.tables (fun e29=>cH (uT e29)<| .fin [(0,3100)])) (.back []))) (.fin [])) (.fin []))) (p:=Lx (d.tables.map aG)<| (∃(k:Nat),0=(k:Int)/\k<=d.tables.length/\(d.tables.take k).all (fun y=> !isN n y)=true)/\ ∀(k:Nat),(k<=d.tables.length/\(d.tables.take k).all (fun y=> !isN n y)=true)->Lm aG d.tables/\Br ((k:Int)<(d.tables.length:Int)) (aCl d/\Bb (iI d) (0<=(k:Int)/\Em aG d.tables k fun e21=>Bb (e21.name.toList==n.toList) (0<=(k:Int)/\Em aG d.tables k fun e29=>aAm e29/\e29.name=((aE d n).1.name)/\e29.arity=((aE d n).1.arity)/\(true)=((aE d n).2)/\e29.rows.map aD=(aE d n).1.rows.map aD/\True) (bW ((k:Int)+1)/\ ∃(k' :Nat),((k:Int)+1)=(k' :Int)/\(k' <=d.tables.length/\(d.tables.take k').all (fun y=> !isN n y)=true)/\d.tables.length - k' <d.tables.length - k)) (ByteArray.empty=((aE d n).1.name)/\0=((aE d n).1.arity)/\(false)=((aE d n).2)/\[]=(aE d n).1.rows.map aD/\True)) (ByteArray.empty=((aE d n).1.name)/\0=((aE d n).1.arity)/\(false)=((aE d n).2)/\[]=(aE d n).1.rows.map aD/\True)) (by kernel_rfl) ?_;refine lx fun n0=>?_;have q1:bO d=zK d.tables:=rfl;refine⟨⟨0,rfl,aAU _,rfl⟩,fun k ⟨hk,ha⟩=>?_⟩;refine⟨aAJ _,dd (fun g12=>?_) fun g12=>?_⟩
 ·refine⟨aMq d,db (fun c0=>?_) fun c0=>?_⟩
  ·refine⟨by omega,rfl,by omega,fun e21 h21=>?_⟩
   try (obtain rfl:=(bF h21 h21).symm)
   have q2:=aA7 h21;refine db (fun c1=>?_) fun c1=>?_
   ·have hok:=aCm (n:=n) c0 (aIT (p:=isN n) h21 ha c1);refine⟨by omega,rfl,by omega,fun e29 h29=>?_⟩
    try (obtain rfl:=(bF h21 h29).symm)
    refine⟨aJx _ (by omega),?_,?_,?_,?_,trivial⟩<;>((rw[hok]<;>rfl))
   ·refine⟨⟨by omega,by omega⟩,?_⟩;exact⟨k+1,rfl,⟨by omega,cI h21 ha (by simp[isN,c1])⟩,by omega⟩
  ·have hbad:aE d n=(mI,false):=yA (by (left;exact c0));apply et4<;>((rw[hbad]<;>rfl))
 ·have hbad:aE d n=(mI,false):=yA (by (right;exact aIU (cK (by omega) ha)));apply et4<;>((rw[hbad]<;>rfl))
abbrev aMr (l:List Int)(v:Int):Prop:=Cn 128 [.one (.sl 3 1 (l.map intD)),.one (.int .i64 v)] (vI (cZ (jU v) l)) []
theorem ixI (l:List Int)(v:Int):aMr l v:=by
 refine cq Tryz.func128 (.len l.length<| .loop Nat (Q1 Nat) ([5]++rg 8 9++[18]) [] (fun k=>[(8,vI (k:Int))]) (fun k=>[]) (fun k=>k<=l.length/\(l.take k).all (fun y=> !jU v y)=true) (fun k=>l.length - k) (fun k=> .br (.elem _ intD l (fun e14=> .br (.fin []) (.back []))) (.fin []))) (p:=Lx (l.map intD)<| Lm intD l/\((∃(k:Nat),0=(k:Int)/\k<=l.length/\(l.take k).all (fun y=> !jU v y)=true)/\ ∀(k:Nat),(k<=l.length/\(l.take k).all (fun y=> !jU v y)=true)->Br ((k:Int)<(l.length:Int)) (0<=(k:Int)/\Em intD l k fun e14=>Br (v=e14) ((k:Int)=(cZ (jU v) l)/\True) (bW ((k:Int)+1)/\ ∃(k' :Nat),((k:Int)+1)=(k' :Int)/\(k' <=l.length/\(l.take k').all (fun y=> !jU v y)=true)/\l.length - k' <l.length - k)) ((-1:Int)=(cZ (jU v) l)/\True))) (by kernel_rfl) ?_;refine lx fun n0=>?_;refine⟨aAJ _,⟨0,rfl,aAU _,rfl⟩,fun k ⟨hk,ha⟩=>?_⟩;refine dd (fun c0=>?_) fun c0=>?_
 ·refine⟨by omega,rfl,by omega,fun e14 h14=>?_⟩;refine dd (fun c1=>?_) fun c1=>?_
  ·have hE:=aBk (p:=jU v) h14 ha (by simpa [jU] using c1);apply et1
   ·rw[hE]
  ·refine⟨⟨by omega,by omega⟩,?_⟩;exact⟨k+1,rfl,⟨by omega,cI h14 ha (by simpa [jU] using c1)⟩,by omega⟩
 ·have hE:=zR (p:=jU v) (cK (by omega) ha);apply et1
  ·rw[hE]
abbrev aFW (l:List Int)(v:Int):Prop:=Cn 73 [.one (.sl 3 1 (l.map intD)),.one (.int .i64 v)] (vB (decide (v∈l))) []
theorem ctI (l:List Int)(v:Int):aFW l v:=by
 refine cq Tryz.func73 (.call (vI (cZ (jU v) l)) []<| .fin []) (p:=Lx (l.map intD)<| aMr l v/\(decide (0<=(cZ (jU v) l)))=(decide (v∈l))/\True) (by kernel_rfl) ?_;refine lx fun n0=>?_;refine⟨ixI _ _,?_,trivial⟩
 ·exact aFS
abbrev aJy (l:List Int)(v:Int):Prop:=Cn 176 [.one (.sl 3 1 (l.map intD)),.one (.int .i64 v)] (vB (decide (v∈l))) []
theorem hsI (l:List Int)(v:Int):aJy l v:=by
 refine cq Tryz.func176 (.loop Nat (Q1 Nat) (rg 5 13) [] (fun k=>[(5,vI (k:Int))]) (fun k=>[]) (fun k=>k<=l.length/\(l.take k).all (fun y=> !jU v y)=true) (fun k=>l.length - k) (fun k=> .len l.length<| .br (.elem _ intD l (fun e14=> .br (.fin []) (.back []))) (.fin []))) (p:=Lx (l.map intD)<| (∃(k:Nat),0=(k:Int)/\k<=l.length/\(l.take k).all (fun y=> !jU v y)=true)/\ ∀(k:Nat),(k<=l.length/\(l.take k).all (fun y=> !jU v y)=true)->Lm intD l/\Br ((k:Int)<(l.length:Int)) (0<=(k:Int)/\Em intD l k fun e14=>Br (e14=v) ((true)=(decide (v∈l))/\True) (bW ((k:Int)+1)/\ ∃(k' :Nat),((k:Int)+1)=(k' :Int)/\(k' <=l.length/\(l.take k').all (fun y=> !jU v y)=true)/\l.length - k' <l.length - k)) ((false)=(decide (v∈l))/\True)) (by kernel_rfl) ?_;refine lx fun n0=>?_;refine⟨⟨0,rfl,aAU _,rfl⟩,fun k ⟨hk,ha⟩=>?_⟩;refine⟨aAJ _,dd (fun c0=>?_) fun c0=>?_⟩
 ·refine⟨by omega,rfl,by omega,fun e14 h14=>?_⟩;refine dd (fun c1=>?_) fun c1=>?_
  ·have hE:decide (v∈l)=true:=by rw[<-c1];exact decide_eq_true (aAx h14)
   apply et1
   ·rw[hE]
  ·refine⟨⟨by omega,by omega⟩,?_⟩;exact⟨k+1,rfl,⟨by omega,cI h14 ha (by simpa [jU] using fun q=>c1 (Eq.symm q))⟩,by omega⟩
 ·have hE:decide (v∈l)=false:=by rw[<-aFS,zR (p:=jU v) (cK (by omega) ha)];rfl
  apply et1
  ·rw[hE]
def hZ (d:aL)(f:aU):Bool:=(aE d f.name).2&&(dI ((aE d f.name).1.arity - 1) f.src&&(dV f.dst 0 ((aE d f.name).1.arity - 1)&& !decide (f.dst∈f.src)))
def aL2 (rows:List (List Int))(cols:List Int)(c:Int)(i k:Nat):Bool:=decide ((gB (rows.getD i []) cols).1=(gB (rows.getD k []) cols).1)&& !decide ((rows.getD i []).getD c.toNat 0=(rows.getD k []).getD c.toNat 0)
def kD (rows:List (List Int))(cols:List Int)(c:Int)(k:Nat):Nat->List Int
 | 0=>[]
 | i+1=>if kD rows cols c k i= []/\aL2 rows cols c i k=true then [(i:Int),(k:Int)] else kD rows cols c k i
def kN (rows:List (List Int))(cols:List Int)(c:Int):Nat->List Int
 | 0=>[]
 | k+1=>if kN rows cols c k= [] then kD rows cols c k k else kN rows cols c k
def jX (d:aL)(f:aU):List Int:=if hZ d f=true then kN (aE d f.name).1.rows f.src f.dst (aE d f.name).1.rows.length else []
theorem aBl {rows:List (List Int)}{cols:List Int}{c:Int}{k i:Nat}(h:kD rows cols c k i= [])(hb:aL2 rows cols c i k=false):kD rows cols c k (i+1)= []:=by rw[kD,if_neg (by simp[hb]),h]
theorem aFX {rows:List (List Int)}{cols:List Int}{c:Int}{k i:Nat}(h: ¬kD rows cols c k i= []): ∀j,kD rows cols c k (i+j)=kD rows cols c k i
 | 0=>rfl
 | j+1=>by rw[Nat.add_succ,kD,aFX h j,if_neg (by simp[h])]
theorem aFY {rows:List (List Int)}{cols:List Int}{c:Int}{k:Nat}(h: ¬kN rows cols c k= []): ∀j,kN rows cols c (k+j)=kN rows cols c k
 | 0=>rfl
 | j+1=>by rw[Nat.add_succ,kN,aFY h j,if_neg h]
theorem aFZ {rows:List (List Int)}{cols:List Int}{c:Int}{k i n:Nat}(hk:kN rows cols c k= [])(hi:kD rows cols c k i= [])(hb:aL2 rows cols c i k=true)(hik:i<k)(hkn:k<n):kN rows cols c n= [(i:Int),(k:Int)]:=by
 have h1:kD rows cols c k (i+1)= [(i:Int),(k:Int)]:=by rw[kD,if_pos ⟨hi,hb⟩]
 have h2:kD rows cols c k k= [(i:Int),(k:Int)]:=by
  have:=aFX (rows:=rows) (cols:=cols) (c:=c) (k:=k) (i:=i+1) (by rw[h1];simp) (k - (i+1));rw[show i+1+(k - (i+1))=k by omega,h1] at this;exact this
 have h3:kN rows cols c (k+1)= [(i:Int),(k:Int)]:=by rw[kN,if_pos hk,h2]
 have:=aFY (rows:=rows) (cols:=cols) (c:=c) (k:=k+1) (by rw[h3];simp) (n - (k+1));rw[show k+1+(n - (k+1))=n by omega,h3] at this;exact this
theorem aF0 {rows:List (List Int)}{cols:List Int}{c:Int}{k:Nat}(hk:kN rows cols c k= [])(hi:kD rows cols c k k= []):kN rows cols c (k+1)= []:=by rw[kN,if_pos hk,hi]
theorem aDX {d:aL}{f:aU}(h:hZ d f=true):aR (aE d f.name).1=true/\0<=f.dst/\f.dst<=(aE d f.name).1.arity - 1/\f.src.length<=3:=by
 simp only[hZ,aAS] at h;obtain⟨h1,h2,h3,_⟩:=h;have hT:=(jO h1).1;have ha:=bP hT;have:=dB h3;exact⟨hT,this.1,this.2,aFC h2 (by omega)⟩
theorem aMs {rows:List (List Int)}{cols:List Int}{c:Int}{i k:Nat}{x y:List Int}(hx:rows[i]? =some x)(hy:rows[k]? =some y):aL2 rows cols c i k=(decide ((gB x cols).1=(gB y cols).1)&& !decide (x.getD c.toNat 0=y.getD c.toNat 0)):=by
 rw[aL2,aT hx,aT hy]
def iN (d:aL)(f:aU):Bool:=hZ d f&&decide (jX d f= [])
theorem aJz {α:Type}[DecidableEq α](l:List α):decide ((l.length:Int)=0)=decide (l= []):=by
 cases l with
 | nil=>rfl
 | cons a l=>simp;omega
abbrev uU (d:aL)(f:aU):Prop:=Cn 146 [.agg [.sl 88 3 (d.tables.map aG)],.agg [.str f.name,.sl 3 1 (f.src.map intD),.int .i64 f.dst]] (vB (hZ d f)) []
theorem aF1 (d:aL)(f:aU)(hc:bO d<=1048576):uU d f:=by
 refine cq Tryz.func146 (.call (.tup [.agg [.p none (.str ((aE d f.name).1.name)),vI ((aE d f.name).1.arity),.p none (.sl 34 1 ((aE d f.name).1.rows.map aD))],vB ((aE d f.name).2)]) []<| .br (.call (vB (dI (((aE d f.name).1.arity) - 1) f.src)) []<| .lit<| .br (.raw<| .call (vB (dV f.dst (0:Int) (IntKind.i64.wrap (((aE d f.name).1.arity) - 1)))) []<| .lit<| .br (.call (vB (decide (f.dst∈f.src))) []<| .fin []) (.fin [])) (.fin [])) (.fin [])) (p:=Lx (d.tables.map aG)<| Lx (f.src.map intD)<| vX Tryz.prog 86 [.agg [.sl 88 3 (d.tables.map aG)],.one (.str f.name)] (.tup [.agg [.p none (.str ((aE d f.name).1.name)),vI ((aE d f.name).1.arity),.p none (.sl 34 1 ((aE d f.name).1.rows.map aD))],vB ((aE d f.name).2)]) []/\Bb ((aE d f.name).2) (xP f.src ((aE d f.name).1.arity)/\Bb (dI (((aE d f.name).1.arity) - 1) f.src) (eW f.dst (0:Int) (IntKind.i64.wrap (((aE d f.name).1.arity) - 1))/\Bb (dV f.dst (0:Int) (IntKind.i64.wrap (((aE d f.name).1.arity) - 1))) (aFW f.src f.dst/\(!(decide (f.dst∈f.src)))=(hZ d f)/\True) ((false)=(hZ d f)/\True)) ((false)=(hZ d f)/\True)) ((false)=(hZ d f)/\True)) (by kernel_rfl) ?_;refine lx fun n0=>lx fun n1=>?_;refine⟨iV (rH _ f.name (by omega)) rfl,db (fun g15=>?_) fun g15=>?_⟩
 ·have hT:=(jO g15).1;have hA:=bP hT;have hw:IntKind.i64.wrap ((aE d f.name).1.arity - 1)=(aE d f.name).1.arity - 1:=IntWalk.i64_in _ ⟨by omega,by omega⟩
  try rw[hw]
  refine⟨aHM _ _ (by omega),db (fun g22=>?_) fun g22=>?_⟩
  ·refine⟨jJ _ _ _,db (fun g30=>?_) fun g30=>?_⟩
   ·refine⟨ctI _ _,?_,trivial⟩
    ·(simp[hZ, *];done)
   ·apply et1
    ·(simp[hZ, *];done)
  ·apply et1
   ·(simp[hZ, *];done)
 ·apply et1
  ·(simp[hZ, *];done)
abbrev uV (d:aL)(f:aU):Prop:=Cn 155 [.agg [.sl 88 3 (d.tables.map aG)],.agg [.str f.name,.sl 3 1 (f.src.map intD),.int .i64 f.dst]] (vB (hZ d f)) []
theorem aF2 (d:aL)(f:aU)(hc:bO d<=1048576):uV d f:=by
 refine cq Tryz.func155 (.call (.tup [.agg [.p none (.str ((aE d f.name).1.name)),vI ((aE d f.name).1.arity),.p none (.sl 34 1 ((aE d f.name).1.rows.map aD))],vB ((aE d f.name).2)]) []<| .br (.call (vB (aR ((aE d f.name).1)&&dI ((aE d f.name).1.arity - 1) f.src)) []<| .lit<| .br (.raw<| .call (vB (dV f.dst (0:Int) (IntKind.i64.wrap (((aE d f.name).1.arity) - 1)))) []<| .lit<| .br (.call (vB (decide (f.dst∈f.src))) []<| .fin []) (.fin [])) (.fin [])) (.fin [])) (p:=Lx (d.tables.map aG)<| Lx (f.src.map intD)<| vX Tryz.prog 94 [.agg [.sl 88 3 (d.tables.map aG)],.one (.str f.name)] (.tup [.agg [.p none (.str ((aE d f.name).1.name)),vI ((aE d f.name).1.arity),.p none (.sl 34 1 ((aE d f.name).1.rows.map aD))],vB ((aE d f.name).2)]) []/\Bb ((aE d f.name).2) (xQ ((aE d f.name).1) f.src/\Bb (aR ((aE d f.name).1)&&dI ((aE d f.name).1.arity - 1) f.src) (dZ f.dst (0:Int) (IntKind.i64.wrap (((aE d f.name).1.arity) - 1))/\Bb (dV f.dst (0:Int) (IntKind.i64.wrap (((aE d f.name).1.arity) - 1))) (aJy f.src f.dst/\(!(decide (f.dst∈f.src)))=(hZ d f)/\True) ((false)=(hZ d f)/\True)) ((false)=(hZ d f)/\True)) ((false)=(hZ d f)/\True)) (by kernel_rfl) ?_;refine lx fun n0=>lx fun n1=>?_;refine⟨iV (pG _ f.name (by omega)) rfl,db (fun g15=>?_) fun g15=>?_⟩
 ·have hT:=(jO g15).1;have hA:=bP hT;have hw:IntKind.i64.wrap ((aE d f.name).1.arity - 1)=(aE d f.name).1.arity - 1:=IntWalk.i64_in _ ⟨by omega,by omega⟩
  try rw[hw]
  refine⟨aHN ((aE d f.name).1) _,db (fun g21=>?_) fun g21=>?_⟩
  ·refine⟨gX _ _ _,db (fun g29=>?_) fun g29=>?_⟩
   ·refine⟨hsI _ _,?_,trivial⟩
    ·(simp[hZ, *] at*;simp[*];done)
   ·apply et1
    ·(simp[hZ, *];done)
  ·apply et1
   ·(simp[hZ, *] at*;simp[*];done)
 ·apply et1
  ·(simp[hZ, *];done)
end Go.Proofs.YtafmaholhcgakaaGreat
namespace Go.Proofs
open Go.Shelf
namespace YtafmaholhcgakaaGreat
def Tryz.lays189_ren : Go.Shelf.Ren := ⟨fun | 189 => 189 | 125 => 200 | 257 => 202 | 128 => 213 | 129 => 214 | 294 => 216 | 295 => 217 | 296 => 218 | 297 => 219 | 298 => 220 | 299 => 221 | 216 => 222 | 300 => 223 | 301 => 224 | 328 => 231 | 329 => 226 | 330 => 227 | 331 => 232 | 332 => 233 | 215 => 230 | 343 => 235 | n => n, fun | 28 => 34 | 3 => 3 | 46 => 179 | 0 => 0 | 51 => 208 | 53 => 210 | 4 => 4 | 183 => 201 | 182 => 200 | 131 => 205 | 5 => 5 | 9 => 9 | 218 => 218 | 222 => 222 | 228 => 227 | 229 => 228 | n => n, fun | n => n⟩
theorem Tryz.lays189 : Go.Proofs.Lays.n189 Tryz.prog Tryz.lays189_ren := {
  mixed := by kernel_rfl
  f125 := Tryz.func200.trans (congrArg some (by kernel_rfl))
  f128 := Tryz.func213.trans (congrArg some (by kernel_rfl))
  f129 := Tryz.func214.trans (congrArg some (by kernel_rfl))
  f189 := Tryz.func189.trans (congrArg some (by kernel_rfl))
  f215 := Tryz.func230.trans (congrArg some (by kernel_rfl))
  f216 := Tryz.func222.trans (congrArg some (by kernel_rfl))
  f257 := Tryz.func202.trans (congrArg some (by kernel_rfl))
  f294 := Tryz.func216.trans (congrArg some (by kernel_rfl))
  f295 := Tryz.func217.trans (congrArg some (by kernel_rfl))
  f296 := Tryz.func218.trans (congrArg some (by kernel_rfl))
  f297 := Tryz.func219.trans (congrArg some (by kernel_rfl))
  f298 := Tryz.func220.trans (congrArg some (by kernel_rfl))
  f299 := Tryz.func221.trans (congrArg some (by kernel_rfl))
  f300 := Tryz.func223.trans (congrArg some (by kernel_rfl))
  f301 := Tryz.func224.trans (congrArg some (by kernel_rfl))
  f328 := Tryz.func231.trans (congrArg some (by kernel_rfl))
  f329 := Tryz.func226.trans (congrArg some (by kernel_rfl))
  f330 := Tryz.func227.trans (congrArg some (by kernel_rfl))
  f331 := Tryz.func232.trans (congrArg some (by kernel_rfl))
  f332 := Tryz.func233.trans (congrArg some (by kernel_rfl))
  f343 := Tryz.func235.trans (congrArg some (by kernel_rfl))
  t0 := Tryz.underlying0
  a0 := Tryz.isAgg0
  z0 := Tryz.sizeOf0
  v0 := Tryz.zeroValue0
  t3 := Tryz.underlying3
  a3 := Tryz.isAgg3
  z3 := Tryz.sizeOf3
  v3 := Tryz.zeroValue3
  t4 := Tryz.underlying4
  a4 := Tryz.isAgg4
  z4 := Tryz.sizeOf4
  v4 := Tryz.zeroValue4
  t5 := Tryz.underlying5
  a5 := Tryz.isAgg5
  z5 := Tryz.sizeOf5
  v5 := Tryz.zeroValue5
  t9 := Tryz.underlying9
  a9 := Tryz.isAgg9
  z9 := Tryz.sizeOf9
  v9 := Tryz.zeroValue9
  t28 := Tryz.underlying34
  a28 := Tryz.isAgg34
  z28 := Tryz.sizeOf34
  v28 := Tryz.zeroValue34
  t46 := Tryz.underlying179
  a46 := Tryz.isAgg179
  z46 := Tryz.sizeOf179
  v46 := Tryz.zeroValue179
  t51 := Tryz.underlying208
  a51 := Tryz.isAgg208
  z51 := Tryz.sizeOf208
  v51 := Tryz.zeroValue208
  t53 := Tryz.underlying210
  a53 := Tryz.isAgg210
  z53 := Tryz.sizeOf210
  v53 := Tryz.zeroValue210
  t131 := Tryz.underlying205
  a131 := Tryz.isAgg205
  z131 := Tryz.sizeOf205
  v131 := Tryz.zeroValue205
  t182 := Tryz.underlying200
  a182 := Tryz.isAgg200
  z182 := Tryz.sizeOf200
  v182 := Tryz.zeroValue200
  t183 := Tryz.underlying201
  a183 := Tryz.isAgg201
  z183 := Tryz.sizeOf201
  v183 := Tryz.zeroValue201
  t218 := Tryz.underlying218
  a218 := Tryz.isAgg218
  z218 := Tryz.sizeOf218
  v218 := Tryz.zeroValue218
  t222 := Tryz.underlying222
  a222 := Tryz.isAgg222
  z222 := Tryz.sizeOf222
  v222 := Tryz.zeroValue222
  t228 := Tryz.underlying227
  a228 := Tryz.isAgg227
  z228 := Tryz.sizeOf227
  v228 := Tryz.zeroValue227
  t229 := Tryz.underlying228
  a229 := Tryz.isAgg228
  z229 := Tryz.sizeOf228
  v229 := Tryz.zeroValue228 }
end YtafmaholhcgakaaGreat
end Go.Proofs
namespace Go.Proofs.YtafmaholhcgakaaGreat
open Go.ChangeShapes Go.WideShapes Go.ChangeAt Go.RowKit
set_option linter.unusedVariables false
set_option linter.unusedSimpArgs false
theorem aCn {w:World}: ∀{l:List Int} {css:List (List Value)} {Fs:List (List Nat)},cA w 1 (l.map intD) css Fs->css.flatten=l.map (Value.int .i64)/\Fs.flatten= []
 | [],css,Fs,h=>by
   simp only[List.map_nil] at h;unfold cA at h;rw[h.1,h.2];simp
 | n::l,css,Fs,h=>by
   simp only[aGN] at h;unfold cA at h;obtain⟨c,css',F,Fs',rfl,rfl,_,h1,h2⟩:=h;obtain⟨q1,q2⟩:=aCn h2;unfold intD cN at h1;obtain⟨v,cs',F1,F2,rfl,rfl,h3,h4⟩:=h1;unfold cN at h4;unfold qN at h3;simp[q1,q2,h4.1,h4.2,h3.1,h3.2]
theorem uW (w:World): ∀(l:List Int),cA w 1 (l.map intD) (l.map fun n=>[Value.int .i64 n]) (l.map fun _=>[])
 | []=>by simp only[List.map_nil];unfold cA;exact⟨rfl,rfl⟩
 | n::l=>by
   simp only[aGN];unfold cA;refine⟨_,_,_,_,rfl,rfl,rfl,?_,uW w l⟩;unfold intD cN;refine⟨_,_,[],[],rfl,rfl,?_,?_⟩
   ·unfold qN;exact⟨rfl,rfl⟩
   unfold cN;exact⟨rfl,rfl⟩
theorem aCo: ∀(m:List Int),(m.map fun n=>[Value.int .i64 n]).flatten=m.map (Value.int .i64)
 | []=>rfl
 | a::l=>by simp only[aGN,aHH,aCo l];rfl
theorem aOH {P:Program}{f:FuncId}{e:Nat}(l m:List Int)(hc:jL P f=true)(hm:m.length=l.length)
 (hn0:l= []-> ∀w,Calls P f #[.slice none 0 0] w (fun ex w' =>ex= .returned (.tuple #[])/\w' =w))
 (hs: ∀(blk cap:Nat) (w:World),Go.Sort.Holds (Value.int .i64) w blk 0 l.toArray->blk<w.heap.size->l.length<=cap->Calls P f #[.slice (some ⟨blk,0,none⟩) l.length cap] w (fun ex w' =>ex= .returned (.tuple #[])/\ ∃n os,w' =Go.Sort.grow (Go.Sort.putRow (Value.int .i64) (Go.Sort.ahead w n) blk 0 m.toArray) os)):
 pN P f [.own 0] [(0,.arr e 1 true (l.map intD))] (.tup []) [(0,.arr e 1 true (m.map intD))]:=by
 refine⟨hc,by simp,fun A φ w vs hI hM=>?_⟩;obtain⟨pl,hp,css,Fs,q1,q2,q3,q4⟩:=hI.dom 0 _ rfl;unfold aM at hM;obtain⟨v,us,e1,m1,hM⟩:=hM;unfold aM at hM;unfold aC at m1;have hv:=m1 pl hp;have ev:vs= #[pl.val]:=by apply Array.ext';rw[e1,hM,hv]
 rw[ev];obtain⟨c1,c2⟩:=aCn q4;rw[c1,aAJ] at q1;have hge:=hI.ge 0 pl hp;have hsub:pl.sub= []:=by rw[q3,c2]
 have hfoot: ∀b∈pl.F,aHz φ b:=fun b hb=>⟨0,pl,trivial,hp,hb⟩
 have hend: ∀(w' :World),lP pl.F w w' ->w'.ownsRow 0 e 1 pl.val l.length (m.map (Value.int .i64))->
  ∃v K φ',Ending.returned (.tuple #[])= .returned v/\aNk A φ w [(0,.arr e 1 true (m.map intD))] K φ' w' /\aC K φ' w' (.tup []) v:=by
  intro w' hon howns;refine⟨_,A,fun h=>if h=0 then some pl else none,rfl,⟨⟨hon.os,hon.tape,hon.output,hon.size,fun b hb hn=>hon.block b hb (fun hm=>hn (hfoot b hm))⟩,fun _ h=>h,fun b hb=>⟨aKV (hI.lt b hb) hon.size,.inl hb⟩,fun b hb h pl1 e' hm' =>?_,fun h r hr=>?_,fun h hr=>?_,fun h h' pl1 pl2 hne ea eb=>?_,fun h pl1 e' =>?_,fun h pl1 e' g hg=>?_,fun h pl1 pl0 e' e0=>?_⟩,?_⟩
  ·split at e'
   ·injection e' with e';subst e'
    exact hI.out b hb 0 pl hp hm'
   cases e'
  ·simp only[aY] at hr;split at hr
   ·rename_i eh;subst eh;injection hr with hr
    subst hr;refine⟨pl,by simp,m.map fun n=>[Value.int .i64 n],m.map fun _=>[],?_,q2,?_,uW _ m⟩
    ·rw[aCo,aAJ,hm];exact howns
    rw[hsub];simp
   cases hr
  ·simp only[aY] at hr;split at hr
   ·cases hr
   rename_i eh;exact if_neg eh
  ·split at ea
   ·split at eb
    ·rename_i x y;exact absurd (x.trans y.symm) hne
    cases eb
   cases ea
  ·split at e'
   ·injection e' with e';subst e';exact hI.nodup 0 pl hp
   cases e'
  ·split at e'
   ·injection e' with e';subst e'
    exact⟨.inr (hfoot g hg),aKV (hge g hg) hon.size⟩
   cases e'
  ·split at e'
   ·rename_i eh;subst eh;rw[hp] at e0;injection e0 with e0;injection e' with e'
    subst e0;subst e';exact⟨rfl,rfl⟩
   cases e'
  unfold aC;exact⟨#[],rfl,by unfold aM;rfl⟩
 rcases q1.2 with ⟨hvn,hz⟩ | ⟨g,cap,cur,hvv,hg0,hb,hn,hcap,hsz,htk⟩
 ·have hz' :l= []:=aFh hz;rw[hvn];refine(hn0 hz' w).mono ?_;rintro en w' ⟨rfl,rfl⟩;have hm0:m= []:=aFh (by rw[hm,hz]);refine hend w' (lP.refl _ _) ?_;rw[hvn,hm0,hz];exact⟨by simp,.inl ⟨rfl,rfl⟩⟩
 have hlt:g<w.heap.size:=(Array.getElem?_eq_some_iff.1 hb).1;have hH:Go.Sort.Holds (Value.int .i64) w g 0 l.toArray:=holds_of_blockI hb (by rw[Nat.mul_one] at htk;exact htk);rw[hvv];refine(hs g cap w hH hlt hn).mono ?_;rintro en w' ⟨rfl,n,os,rfl⟩;have hgb:=grownBy_sortedI (w:=w) (g:=g) (n:=n) (os:=os) m.toArray;have hown:=ownsRow_sortedI (n:=n) (os:=os) hm hg0 hb hn hcap hsz;refine hend _ ⟨hgb.os,hgb.tape,hgb.output,hgb.size,fun k hk hne=>hgb.block k hk (fun e=>hne (by injection e with e;subst e;unfold Pl.F;rw[q2,hvv];simp[Value.ownBlock]))⟩ ?_;rw[hvv];exact hown
def pT (l:List Int):List Int:=l.mergeSort fun x y=>decide (x<=y)
theorem aL3 (l:List Int):(pT l).Perm l:=List.mergeSort_perm l _
theorem zS (l:List Int):(pT l).length=l.length:=(aL3 l).length_eq
theorem aOI (l:List Int)(hl:l.length<4611686018427387904):pN Tryz.prog 189 [.own 0] [(0,.arr 3 1 true (l.map intD))] (.tup []) [(0,.arr 3 1 true ((pT l).map intD))]:=
 aOH l (pT l) (by kernel_rfl) (zS l)
  (fun h w=>Any.slices_Sort_int_none Tryz.lays189 none 0 w)
  (fun blk cap w hH hblk _=>Any.slices_Sort_int Tryz.lays189 blk 0 cap l w hH hblk hl)
end Go.Proofs.YtafmaholhcgakaaGreat
namespace Go.Proofs
open Go.Shelf
namespace YtafmaholhcgakaaGreat
def Tryz.compInts_ren : Go.Shelf.Ren := ⟨fun | 43 => 190 | n => n, fun | 22 => 34 | 23 => 3 | 3 => 3 | 4 => 4 | 0 => 0 | n => n, fun | n => n⟩
theorem Tryz.compInts : Go.Proofs.SlLaysE.n43 Tryz.prog Tryz.compInts_ren := {
  mixed := by kernel_rfl
  f43 := ⟨Tryz.f190.name, by decide, Tryz.func190.trans (congrArg some (by kernel_rfl))⟩
  t0 := Tryz.underlying0
  a0 := Tryz.isAgg0
  z0 := Tryz.sizeOf0
  v0 := Tryz.zeroValue0
  t3 := Tryz.underlying3
  a3 := Tryz.isAgg3
  z3 := Tryz.sizeOf3
  v3 := Tryz.zeroValue3
  t4 := Tryz.underlying4
  a4 := Tryz.isAgg4
  z4 := Tryz.sizeOf4
  v4 := Tryz.zeroValue4
  t22 := Tryz.underlying34
  a22 := Tryz.isAgg34
  z22 := Tryz.sizeOf34
  v22 := Tryz.zeroValue34
  a23 := Tryz.isAgg3
  z23 := Tryz.sizeOf3 }
end YtafmaholhcgakaaGreat
end Go.Proofs
namespace Go.Proofs.YtafmaholhcgakaaGreat
open Go.ChangeShapes Go.WideShapes Go.ChangeAt Go.RowKit Go.Lib
set_option linter.unusedVariables false
set_option linter.unusedSimpArgs false
theorem aL4 {P:Program}{f:FuncId}{e:Nat}(l m:List Int)(hc:jL P f=true)(hm:m.length<=l.length)(hm0:l= []->m= [])
 (hn0:l= []-> ∀w,Calls P f #[.slice none 0 0] w (fun ex w' =>ex= .returned (.slice none 0 0)/\w' =w))
 (hs: ∀(blk cap:Nat) (w:World),Go.Sort.Holds (Value.int .i64) w blk 0 l.toArray->blk<w.heap.size->l.length<=cap->Calls P f #[.slice (some ⟨blk,0,none⟩) l.length cap] w (fun ex w' =>ex= .returned (.slice (some ⟨blk,0,none⟩) m.length cap)/\ ∃n os z,(m++z).length=l.length/\w' =Go.Sort.grow (Go.Sort.putRow (Value.int .i64) (Go.Sort.ahead w n) blk 0 (m++z).toArray) os)):
 pN P f [.own 0] [(0,.arr e 1 true (l.map intD))] (.own 1) [(1,.arr e 1 true (m.map intD))]:=by
 refine⟨hc,by simp,fun A φ w vs hI hM=>?_⟩;obtain⟨pl,hp,css,Fs,q1,q2,q3,q4⟩:=hI.dom 0 _ rfl;unfold aM at hM;obtain⟨v,us,e1,m1,hM⟩:=hM;unfold aM at hM;unfold aC at m1;have hv:=m1 pl hp;have ev:vs= #[pl.val]:=by apply Array.ext';rw[e1,hM,hv]
 rw[ev];obtain⟨c1,c2⟩:=aCn q4;rw[c1,aAJ] at q1;have hge:=hI.ge 0 pl hp;have hsub:pl.sub= []:=by rw[q3,c2]
 have hfoot: ∀b∈pl.F,aHz φ b:=fun b hb=>⟨0,pl,trivial,hp,hb⟩;have h1:φ 1=none:=hI.non 1 rfl
 have hend: ∀(v' :Value) (w' :World),lP pl.F w w' ->(∀b∈v'.ownBlock,b∈pl.val.ownBlock)->w'.ownsRow 0 e 1 v' m.length (m.map (Value.int .i64))->
  ∃v K φ',Ending.returned v' = .returned v/\aNk A φ w [(1,.arr e 1 true (m.map intD))] K φ' w' /\aC K φ' w' (.own 1) v:=by
  intro v' w' hon hvb howns
  let pl' :Pl:=⟨v',v'.ownBlock.toList,[]⟩
  have hmem: ∀g,g∈pl'.F->g∈pl.F:=fun g hg=>by
   unfold Pl.F;simp only[pl',Pl.F,aOt,Option.mem_toList] at hg;rw[q2];exact aGM _ (by rw[Option.mem_toList];exact hvb g hg)
  have hnd' :pl'.F.Nodup:=by simp only[pl',Pl.F,aOt];cases v'.ownBlock<;>simp
  refine⟨_,A,fun h=>if h=1 then some pl' else none,rfl,⟨⟨hon.os,hon.tape,hon.output,hon.size,fun b hb hn=>hon.block b hb (fun hm=>hn (hfoot b hm))⟩,fun _ h=>h,fun b hb=>⟨aKV (hI.lt b hb) hon.size,.inl hb⟩,fun b hb h pl1 e' hm' =>?_,fun h r hr=>?_,fun h hr=>?_,fun h h' pl1 pl2 hne ea eb=>?_,fun h pl1 e' =>?_,fun h pl1 e' g hg=>?_,fun h pl1 pl0 e' e0=>?_⟩,?_⟩
  ·split at e'
   ·injection e' with e';subst e'
    exact hI.out b hb 0 pl hp (hmem b hm')
   cases e'
  ·simp only[aY] at hr;split at hr
   ·rename_i eh;subst eh;injection hr with hr
    subst hr;refine⟨pl',by simp,m.map fun n=>[Value.int .i64 n],m.map fun _=>[],?_,rfl,?_,uW _ m⟩
    ·rw[aCo,aAJ];exact howns
    simp[pl']
   cases hr
  ·simp only[aY] at hr;split at hr
   ·cases hr
   rename_i eh;exact if_neg eh
  ·split at ea
   ·split at eb
    ·rename_i x y;exact absurd (x.trans y.symm) hne
    cases eb
   cases ea
  ·split at e'
   ·injection e' with e';subst e';exact hnd'
   cases e'
  ·split at e'
   ·injection e' with e';subst e'
    have:=hmem g hg;exact⟨.inr (hfoot g this),aKV (hge g this) hon.size⟩
   cases e'
  ·split at e'
   ·rename_i eh;subst eh;rw[h1] at e0;cases e0
   cases e'
  unfold aC;intro pl1 e';simp at e';subst e';rfl
 rcases q1.2 with ⟨hvn,hz⟩ | ⟨g,cap,cur,hvv,hg0,hb,hn,hcap,hsz,htk⟩
 ·have hz' :l= []:=aFh hz;rw[hvn];refine(hn0 hz' w).mono ?_;rintro en w' ⟨rfl,rfl⟩;refine hend (.slice none 0 0) w' (lP.refl _ _) (fun b hb=>by cases hb) ?_;rw[hm0 hz'];exact⟨by simp,.inl ⟨rfl,rfl⟩⟩
 have hlt:g<w.heap.size:=(Array.getElem?_eq_some_iff.1 hb).1;have hH:Go.Sort.Holds (Value.int .i64) w g 0 l.toArray:=holds_of_blockI hb (by rw[Nat.mul_one] at htk;exact htk);rw[hvv];refine(hs g cap w hH hlt hn).mono ?_;rintro en w' ⟨rfl,n,os,z,hz,rfl⟩;have hgb:=grownBy_sortedI (w:=w) (g:=g) (n:=n) (os:=os) (m++z).toArray;have hown:=ownsRow_sortedI (n:=n) (os:=os) hz hg0 hb hn hcap hsz;refine hend _ _ ⟨hgb.os,hgb.tape,hgb.output,hgb.size,fun k hk hne=>hgb.block k hk (fun e=>hne (by injection e with e;subst e;unfold Pl.F;rw[q2,hvv];simp[Value.ownBlock]))⟩ (fun b hb' =>by rw[hvv];exact hb') ?_;rcases hown.2 with ⟨hvn,_⟩ | ⟨g',cap',cur',hv',hg',hb',hn',hcap',hsz',htk'⟩
 ·cases hvn
 simp only[Value.slice.injEq,Option.some.injEq,Addr.mk.injEq,and_true] at hv';obtain⟨rfl,_,rfl⟩:=hv';refine⟨by simp,.inr ⟨g,cap,cur',rfl,hg',hb',by omega,hcap',hsz',?_⟩⟩;rw[Nat.mul_one] at*;have h3:=congrArg (List.take m.length) htk';rw[List.take_take,Nat.min_eq_left hm,aGO,List.take_append_of_le_length (by simp)] at h3;rw[h3,aCy (by simp)]
def sF (l:List Int):List Int:=compactUpTo l.toArray l.toArray.size
theorem aKA (l:List Int):(sF l).length<=l.length:=by
 unfold sF compactUpTo;rw[aAJ];have:=(List.filter_sublist (l:=List.range l.toArray.size) (p:=keeps l.toArray)).length_le;simpa using this
theorem aHW {l:List Int}:sF l= []↔l= []:=by
 constructor
 ·intro h;by_cases e:l= []
  ·exact e
  exfalso;have hp:0<l.length:=List.length_pos_iff.2 e;unfold sF compactUpTo at h;rw[List.map_eq_nil_iff,List.filter_eq_nil_iff] at h;exact h 0 (aJg.2 (by simpa using hp)) (keeps_lt_one _ 0 (by omega))
 rintro rfl;rfl
theorem tyI:fK Tryz.prog 3=some (false,1,8,.int .i64 0):=by kernel_rfl
theorem aVj (w:World):(zeroValue 3).run Tryz.prog w= .ok (.int .i64 0) w:=(fV tyI w).2.2.1
theorem aOJ (l:List Int)(hl:l.length<4611686018427387904):pN Tryz.prog 190 [.own 0] [(0,.arr 3 1 true (l.map intD))] (.own 1) [(1,.arr 3 1 true ((sF l).map intD))]:=
 aL4 l (sF l) (by kernel_rfl) (aKA l) (fun h=>aHW.2 h)
  (fun h w=>by
   go_enter Tryz.func190,Tryz.ntmps190
   go_wp2
   go_ret
   exact⟨rfl,rfl⟩)
  (fun blk cap w hH hblk hn=>(AnyE.slices_Compact Tryz.compInts (Value.int .i64) (fun _=>rfl) (EqlAt.intD _ _ .i64) (NeqAt.intD _ _ .i64) 0 (fun w=>aVj w) blk 0 cap l.toArray w hH (by rw[List.size_toArray];omega) (by rw[List.size_toArray];exact hn)).mono fun e w' ⟨he,q,hw⟩=>
   ⟨by have e1:l.toArray.size=l.length:=by simp
       rw[e1] at he;unfold sF;rw[e1];exact he,q,#[],List.replicate (l.length - (sF l).length) 0,by have:=aKA l;simp;omega,by rw[hw,Go.Sort.grow_empty];simp[sF]⟩)
end Go.Proofs.YtafmaholhcgakaaGreat
namespace Go.Proofs.YtafmaholhcgakaaGreat
open Go.ChangeShapes Go.WideShapes Go.ChangeAt Go.RowKit
set_option linter.unusedVariables false
set_option linter.unusedSimpArgs false
set_option maxRecDepth 100000
set_option maxHeartbeats 4000000
def gE (d:aL)(x:aO):Bool:=(aE d x.name).2&&((aE d x.into).2&&(dV x.column 0 ((aE d x.name).1.arity - 1)&&dV x.intoColumn 0 ((aE d x.into).1.arity - 1)))
def gL (rows:List (List Int))(c:Int):List Int:=rows.map fun r=>r.getD c.toNat 0
def aBm (d:aL)(x:aO):List Int:=(gL (aE d x.name).1.rows x.column).filter fun v=> !decide (v∈gL (aE d x.into).1.rows x.intoColumn)
def vZ (d:aL)(x:aO):List Int:=if gE d x=true then sF (pT (aBm d x)) else []
def aBn (d:aL)(x:aO)(v:Nat):Bool:=decide ((v:Int)∈gL (aE d x.name).1.rows x.column)&& !decide ((v:Int)∈gL (aE d x.into).1.rows x.intoColumn)
def nS (d:aL)(x:aO)(n:Nat):List Int:=((List.range n).filter (aBn d x)).map fun v:Nat=>(v:Int)
def wA (d:aL)(x:aO):List Int:=if gE d x=true then nS d x 10 else []
def iJ (d:aL)(x:aO):Bool:=gE d x&&decide (aBm d x= [])
theorem aOK {d:aL}{x:aO}{v:Nat}(h:aBn d x v=true):nS d x (v+1)=nS d x v++[(v:Int)]:=by
 rw[nS,List.range_succ,List.filter_append,aGO];simp[nS,h]
theorem aKB {d:aL}{x:aO}{v:Nat}(h:aBn d x v=false):nS d x (v+1)=nS d x v:=by
 rw[nS,List.range_succ,List.filter_append,aGO];simp[nS,h]
theorem aOL (d:aL)(x:aO)(v:Nat):(nS d x v).length<=v:=by
 rw[nS,aAJ];have:=List.length_filter_le (aBn d x) (List.range v)
 rwa [List.length_range] at this
theorem mK (rows:List (List Int))(c:Int){k:Nat}{r:List Int}(h:rows[k]? =some r):gL (rows.take (k+1)) c=gL (rows.take k) c++[r.getD c.toNat 0]:=by rw[bS h,gL,aGO];rfl
theorem tM {l:List Int}{v y:Int}:decide (v∈l++[y])=(decide (v∈l) || decide (v=y)):=by simp[Bool.decide_or]
theorem aOM {t:aP}{c:Int}{v:Int}(h:aR t=true)(hc:0<=c/\c<=t.arity - 1)(hv:v∈gL t.rows c):0<=v/\v<=9:=by
 obtain⟨r,hr,rfl⟩:=aH5.1 hv;have hl:=kM h hr;have hk:=aDP.1 (kH h).1 r hr;simp only[jG,aAS,aLF] at hk;have hlt:c.toNat<r.length:=by omega
 have hm:r.getD c.toNat 0∈r:=by rw[aEE,aBJ hlt];exact aQU hlt
 exact dB (aDP.1 hk.1 _ hm)
theorem yB {d:aL}{x:aO}(h:gE d x=true):aR (aE d x.name).1=true/\aR (aE d x.into).1=true/\(0<=x.column/\x.column<=(aE d x.name).1.arity - 1)/\(0<=x.intoColumn/\x.intoColumn<=(aE d x.into).1.arity - 1):=by
 simp only[gE,aAS] at h;obtain⟨h1,h2,h3,h4⟩:=h;exact⟨(jO h1).1,(jO h2).1,dB h3,dB h4⟩
theorem aON {d:aL}{x:aO}(h:gE d x=true):decide (vZ d x= [])=decide (aBm d x= []):=by
 rw[vZ,if_pos h];apply Bool.eq_iff_iff.2;rw[aLF,aLF,aHW];constructor
 ·intro q;have:=zS (aBm d x);rw[q] at this;exact aFh this.symm
 intro q;have:=zS (aBm d x);rw[q] at this;rw[q];exact aFh this
theorem aOO {d:aL}{x:aO}(h:gE d x=true):decide (wA d x= [])=decide (aBm d x= []):=by
 obtain⟨h1,_,h3,_⟩:=yB h;rw[wA,if_pos h];apply Bool.eq_iff_iff.2;rw[aLF,aLF,nS,List.map_eq_nil_iff,List.filter_eq_nil_iff,aBm,List.filter_eq_nil_iff];constructor
 ·intro q v hv hb;have hr:=aOM h1 h3 hv;refine q v.toNat (aJg.2 (by omega)) ?_;rw[aBn,Int.toNat_of_nonneg hr.1];simp only[aAS,aLF];exact⟨hv,hb⟩
 intro q v _ hb;rw[aBn,aAS,aLF] at hb;exact q _ hb.1 hb.2
abbrev uX (d:aL)(x:aO):Prop:=Cn 148 [.agg [.sl 88 3 (d.tables.map aG)],.agg [.str x.name,.int .i64 x.column,.str x.into,.int .i64 x.intoColumn]] (vB (gE d x)) []
theorem aF3 (d:aL)(x:aO)(hc:bO d<=1048576):uX d x:=by
 refine cq Tryz.func148 (.call (.tup [.agg [.p none (.str ((aE d x.name).1.name)),vI ((aE d x.name).1.arity),.p none (.sl 34 1 ((aE d x.name).1.rows.map aD))],vB ((aE d x.name).2)]) []<| .call (.tup [.agg [.p none (.str ((aE d x.into).1.name)),vI ((aE d x.into).1.arity),.p none (.sl 34 1 ((aE d x.into).1.rows.map aD))],vB ((aE d x.into).2)]) []<| .br (.lit<| .br (.raw<| .call (vB (dV x.column (0:Int) (IntKind.i64.wrap (((aE d x.name).1.arity) - 1)))) []<| .lit<| .br (.raw<| .call (vB (dV x.intoColumn (0:Int) (IntKind.i64.wrap (((aE d x.into).1.arity) - 1)))) []<| .fin []) (.fin [])) (.fin [])) (.fin [])) (p:=Lx (d.tables.map aG)<| vX Tryz.prog 86 [.agg [.sl 88 3 (d.tables.map aG)],.one (.str x.name)] (.tup [.agg [.p none (.str ((aE d x.name).1.name)),vI ((aE d x.name).1.arity),.p none (.sl 34 1 ((aE d x.name).1.rows.map aD))],vB ((aE d x.name).2)]) []/\vX Tryz.prog 86 [.agg [.sl 88 3 (d.tables.map aG)],.one (.str x.into)] (.tup [.agg [.p none (.str ((aE d x.into).1.name)),vI ((aE d x.into).1.arity),.p none (.sl 34 1 ((aE d x.into).1.rows.map aD))],vB ((aE d x.into).2)]) []/\Bb ((aE d x.name).2) (Bb ((aE d x.into).2) (eW x.column (0:Int) (IntKind.i64.wrap (((aE d x.name).1.arity) - 1))/\Bb (dV x.column (0:Int) (IntKind.i64.wrap (((aE d x.name).1.arity) - 1))) (eW x.intoColumn (0:Int) (IntKind.i64.wrap (((aE d x.into).1.arity) - 1))/\(dV x.intoColumn (0:Int) (IntKind.i64.wrap (((aE d x.into).1.arity) - 1)))=(gE d x)/\True) ((false)=(gE d x)/\True)) ((false)=(gE d x)/\True)) ((false)=(gE d x)/\True)) (by kernel_rfl) ?_;refine lx fun n0=>?_;refine⟨iV (rH _ x.name (by omega)) rfl,iV (rH _ x.into (by omega)) rfl,db (fun g24=>?_) fun g24=>?_⟩
 ·have hT:=(jO g24).1;have hA:=bP hT;have hw:IntKind.i64.wrap ((aE d x.name).1.arity - 1)=(aE d x.name).1.arity - 1:=IntWalk.i64_in _ ⟨by omega,by omega⟩
  try rw[hw]
  refine db (fun g27=>?_) fun g27=>?_
  ·have hT2:=(jO g27).1;have hA2:=bP hT2;have hw2:IntKind.i64.wrap ((aE d x.into).1.arity - 1)=(aE d x.into).1.arity - 1:=IntWalk.i64_in _ ⟨by omega,by omega⟩
   try rw[hw2]
   refine⟨jJ _ _ _,db (fun g35=>?_) fun g35=>?_⟩
   ·refine⟨jJ _ _ _,?_,trivial⟩
    ·(simp[gE, *];done)
   ·apply et1
    ·(simp[gE, *];done)
  ·apply et1
   ·(simp[gE, *];done)
 ·apply et1
  ·(simp[gE, *];done)
abbrev uY (d:aL)(x:aO):Prop:=Cn 157 [.agg [.sl 88 3 (d.tables.map aG)],.agg [.str x.name,.int .i64 x.column,.str x.into,.int .i64 x.intoColumn]] (vB (gE d x)) []
theorem aF4 (d:aL)(x:aO)(hc:bO d<=1048576):uY d x:=by
 refine cq Tryz.func157 (.call (.tup [.agg [.p none (.str ((aE d x.name).1.name)),vI ((aE d x.name).1.arity),.p none (.sl 34 1 ((aE d x.name).1.rows.map aD))],vB ((aE d x.name).2)]) []<| .call (.tup [.agg [.p none (.str ((aE d x.into).1.name)),vI ((aE d x.into).1.arity),.p none (.sl 34 1 ((aE d x.into).1.rows.map aD))],vB ((aE d x.into).2)]) []<| .br (.lit<| .br (.raw<| .call (vB (dV x.column (0:Int) (IntKind.i64.wrap (((aE d x.name).1.arity) - 1)))) []<| .lit<| .br (.raw<| .call (vB (dV x.intoColumn (0:Int) (IntKind.i64.wrap (((aE d x.into).1.arity) - 1)))) []<| .fin []) (.fin [])) (.fin [])) (.fin [])) (p:=Lx (d.tables.map aG)<| vX Tryz.prog 94 [.agg [.sl 88 3 (d.tables.map aG)],.one (.str x.name)] (.tup [.agg [.p none (.str ((aE d x.name).1.name)),vI ((aE d x.name).1.arity),.p none (.sl 34 1 ((aE d x.name).1.rows.map aD))],vB ((aE d x.name).2)]) []/\vX Tryz.prog 94 [.agg [.sl 88 3 (d.tables.map aG)],.one (.str x.into)] (.tup [.agg [.p none (.str ((aE d x.into).1.name)),vI ((aE d x.into).1.arity),.p none (.sl 34 1 ((aE d x.into).1.rows.map aD))],vB ((aE d x.into).2)]) []/\Bb ((aE d x.name).2) (Bb ((aE d x.into).2) (dZ x.column (0:Int) (IntKind.i64.wrap (((aE d x.name).1.arity) - 1))/\Bb (dV x.column (0:Int) (IntKind.i64.wrap (((aE d x.name).1.arity) - 1))) (dZ x.intoColumn (0:Int) (IntKind.i64.wrap (((aE d x.into).1.arity) - 1))/\(dV x.intoColumn (0:Int) (IntKind.i64.wrap (((aE d x.into).1.arity) - 1)))=(gE d x)/\True) ((false)=(gE d x)/\True)) ((false)=(gE d x)/\True)) ((false)=(gE d x)/\True)) (by kernel_rfl) ?_;refine lx fun n0=>?_;refine⟨iV (pG _ x.name (by omega)) rfl,iV (pG _ x.into (by omega)) rfl,db (fun g24=>?_) fun g24=>?_⟩
 ·have hT:=(jO g24).1;have hA:=bP hT;have hw:IntKind.i64.wrap ((aE d x.name).1.arity - 1)=(aE d x.name).1.arity - 1:=IntWalk.i64_in _ ⟨by omega,by omega⟩
  try rw[hw]
  refine db (fun g27=>?_) fun g27=>?_
  ·have hT2:=(jO g27).1;have hA2:=bP hT2;have hw2:IntKind.i64.wrap ((aE d x.into).1.arity - 1)=(aE d x.into).1.arity - 1:=IntWalk.i64_in _ ⟨by omega,by omega⟩
   try rw[hw2]
   refine⟨gX _ _ _,db (fun g35=>?_) fun g35=>?_⟩
   ·refine⟨gX _ _ _,?_,trivial⟩
    ·(simp[gE, *];done)
   ·apply et1
    ·(simp[gE, *];done)
  ·apply et1
   ·(simp[gE, *];done)
 ·apply et1
  ·(simp[gE, *];done)
def b4 (a b c d:Bool):Int:=(if a then 1 else 0)+(if b then 2 else 0)+(if c then 4 else 0)+(if d then 8 else 0)
def m4 (p:Nat->Bool):Int:=b4 (p 0) (p 1) (p 2) (p 3)
theorem lt4 {P:Nat->Prop}(h0:P 0)(h1:P 1)(h2:P 2)(h3:P 3){i:Nat}(hi:i<4):P i:=by
 have h:i=0\/i=1\/i=2\/i=3:=by omega
 rcases h with rfl | rfl | rfl | rfl<;>assumption
theorem tN {p q:Nat->Bool}(h: ∀i,i<4->p i=q i):m4 p=m4 q:=by
 rw[m4,m4,h 0 (by omega),h 1 (by omega),h 2 (by omega),h 3 (by omega)]
theorem aUz (a b c d:Bool):bR (b4 a b c d) 0=a/\bR (b4 a b c d) 1=b/\bR (b4 a b c d) 2=c/\bR (b4 a b c d) 3=d:=by
 cases a<;>cases b<;>cases c<;>cases d<;>decide
theorem aAn {p:Nat->Bool}{v:Nat}(hv:v<4):bR (m4 p) v=p v:=by
 have h:=aUz (p 0) (p 1) (p 2) (p 3);exact lt4 (P:=fun v=>bR (m4 p) v=p v) h.1 h.2.1 h.2.2.1 h.2.2.2 hv
theorem aQ8 (a b c d:Bool):0<=b4 a b c d/\b4 a b c d<=15:=by cases a<;>cases b<;>cases c<;>cases d<;>decide
theorem tO (p:Nat->Bool):0<=m4 p/\m4 p<=15:=aQ8 _ _ _ _
theorem aVl (a b c d:Bool):cJ .or .i64 (b4 a b c d) (1*2^0)=b4 true b c d/\cJ .or .i64 (b4 a b c d) (1*2^1)=b4 a true c d/\cJ .or .i64 (b4 a b c d) (1*2^2)=b4 a b true d/\cJ .or .i64 (b4 a b c d) (1*2^3)=b4 a b c true:=by
 cases a<;>cases b<;>cases c<;>cases d<;>decide
theorem wB {p:Nat->Bool}{v:Nat}(hv:v<4):cJ .or .i64 (m4 p) ((1:Int)*2^v)=m4 (fun i=>p i || decide (i=v)):=by
 have h:=aVl (p 0) (p 1) (p 2) (p 3);refine lt4 (P:=fun v=>cJ .or .i64 (m4 p) ((1:Int)*2^v)=m4 (fun i=>p i || decide (i=v))) ?_ ?_ ?_ ?_ hv
 ·simpa [m4] using h.1
 ·simpa [m4] using h.2.1
 ·simpa [m4] using h.2.2.1
 simpa [m4] using h.2.2.2
theorem aVA (a b c d:Bool):cJ .andNot .i64 (b4 a b c d) (1*2^0)=b4 false b c d/\cJ .andNot .i64 (b4 a b c d) (1*2^1)=b4 a false c d/\cJ .andNot .i64 (b4 a b c d) (1*2^2)=b4 a b false d/\cJ .andNot .i64 (b4 a b c d) (1*2^3)=b4 a b c false:=by
 cases a<;>cases b<;>cases c<;>cases d<;>decide
theorem aQ9 {p:Nat->Bool}{v:Nat}(hv:v<4):cJ .andNot .i64 (m4 p) ((1:Int)*2^v)=m4 (fun i=>p i&& !decide (i=v)):=by
 have h:=aVA (p 0) (p 1) (p 2) (p 3);refine lt4 (P:=fun v=>cJ .andNot .i64 (m4 p) ((1:Int)*2^v)=m4 (fun i=>p i&& !decide (i=v))) ?_ ?_ ?_ ?_ hv
 ·simpa [m4] using h.1
 ·simpa [m4] using h.2.1
 ·simpa [m4] using h.2.2.1
 simpa [m4] using h.2.2.2
theorem aVB (a b c d a' b' c' d' :Bool):cJ .and .i64 (b4 a b c d) (b4 a' b' c' d')=b4 (a&&a') (b&&b') (c&&c') (d&&d'):=by
 cases a<;>cases b<;>cases c<;>cases d<;>cases a' <;>cases b' <;>cases c' <;>cases d' <;>decide
theorem aQa (p q:Nat->Bool):cJ .and .i64 (m4 p) (m4 q)=m4 (fun i=>p i&&q i):=aVB _ _ _ _ _ _ _ _
theorem aVC (a b c d a' b' c' d' :Bool):cJ .or .i64 (b4 a b c d) (b4 a' b' c' d')=b4 (a || a') (b || b') (c || c') (d || d'):=by
 cases a<;>cases b<;>cases c<;>cases d<;>cases a' <;>cases b' <;>cases c' <;>cases d' <;>decide
theorem aVD (p q:Nat->Bool):cJ .or .i64 (m4 p) (m4 q)=m4 (fun i=>p i || q i):=aVC _ _ _ _ _ _ _ _
theorem aVE {a b c d a' b' c' d' :Bool}(h:b4 a b c d=b4 a' b' c' d'):a=a' /\b=b' /\c=c' /\d=d' :=by
 revert h;cases a<;>cases b<;>cases c<;>cases d<;>cases a' <;>cases b' <;>cases c' <;>cases d' <;>decide
theorem aQb {p q:Nat->Bool}(h:m4 p=m4 q){i:Nat}(hi:i<4):p i=q i:=by
 have h:=aVE h;exact lt4 (P:=fun i=>p i=q i) h.1 h.2.1 h.2.2.1 h.2.2.2 hi
theorem zT {m:Int}(h:0<=m/\m<=15):m=m4 (bR m):=by
 have h1:m=0\/m=1\/m=2\/m=3\/m=4\/m=5\/m=6\/m=7\/m=8\/m=9\/m=10\/m=11\/m=12\/m=13\/m=14\/m=15:=by omega
 rcases h1 with rfl | rfl | rfl | rfl | rfl | rfl | rfl | rfl | rfl | rfl | rfl | rfl | rfl | rfl | rfl | rfl<;>decide
theorem aSv (a b c d:Bool):decide (b4 a b c d=1*2^(4:Int).toNat - 1)=(a&&(b&&(c&&(d&&true)))):=by cases a<;>cases b<;>cases c<;>cases d<;>decide
theorem aSw {p:Nat->Bool}{n:Int}(hn:1<=n/\n<=4)(hp: ∀i,n.toNat<=i->p i=false):decide (m4 p=1*2^n.toNat - 1)=(List.range n.toNat).all p:=by
 have h:n=1\/n=2\/n=3\/n=4:=by omega
 rcases h with rfl | rfl | rfl | rfl
 ·have h1:=hp 1 (by decide);have h2:=hp 2 (by decide);have h3:=hp 3 (by decide);simp only[m4,h1,h2,h3];show _=(List.range 1).all p;simp only[List.range,List.range.loop,List.all_cons,List.all_nil];cases p 0<;>decide
 ·have h2:=hp 2 (by decide);have h3:=hp 3 (by decide);simp only[m4,h2,h3];show _=(List.range 2).all p;simp only[List.range,List.range.loop,List.all_cons,List.all_nil];cases p 0<;>cases p 1<;>decide
 ·have h3:=hp 3 (by decide);simp only[m4,h3];show _=(List.range 3).all p;simp only[List.range,List.range.loop,List.all_cons,List.all_nil];cases p 0<;>cases p 1<;>cases p 2<;>decide
 simp only[m4];show _=(List.range 4).all p;simp only[List.range,List.range.loop,List.all_cons,List.all_nil];exact aSv _ _ _ _
theorem aVF {m:Int}{v:Nat}(h:0<=m/\m<=15)(hv:v<4):cJ .and .i64 (m/2^v) 1=if bR m v=true then 1 else 0:=by
 have h1:m=0\/m=1\/m=2\/m=3\/m=4\/m=5\/m=6\/m=7\/m=8\/m=9\/m=10\/m=11\/m=12\/m=13\/m=14\/m=15:=by omega
 refine lt4 (P:=fun v=>cJ .and .i64 (m/2^v) 1=if bR m v=true then 1 else 0) ?_ ?_ ?_ ?_ hv<;>rcases h1 with rfl | rfl | rfl | rfl | rfl | rfl | rfl | rfl | rfl | rfl | rfl | rfl | rfl | rfl | rfl | rfl<;>decide
theorem eI {m:Int}{v:Nat}(h:cJ .and .i64 (m/2^v) 1=1):bR m v=true:=by rw[bR,h];rfl
theorem eK {m:Int}{v:Nat}(h: ¬cJ .and .i64 (m/2^v) 1=1):bR m v=false:=by rw[bR];simpa using h
theorem aBo {m:Int}{v:Nat}(h:0<=m/\m<=15)(hv:v<4):decide (cJ .and .i64 (m/2^v) 1=0)= !bR m v:=by
 rw[aVF h hv];cases bR m v<;>rfl
def dG (p:Nat->Bool)(k:Nat):List Int:=((List.range k).filter p).map fun v:Nat=>(v:Int)
theorem lB {p:Nat->Bool}{k:Nat}(h:p k=true):dG p (k+1)=dG p k++[(k:Int)]:=by
 rw[dG,List.range_succ,List.filter_append,aGO];simp[dG,h]
theorem nJ {p:Nat->Bool}{k:Nat}(h:p k=false):dG p (k+1)=dG p k:=by
 rw[dG,List.range_succ,List.filter_append,aGO];simp[dG,h]
theorem tP (p:Nat->Bool)(k:Nat):(dG p k).length<=k:=by
 rw[dG,aAJ];have:=(List.filter_sublist (l:=List.range k) (p:=p)).length_le;rw[List.length_range] at this;exact this
theorem aF5 {p q:Nat->Bool}{k:Nat}(h: ∀v,v<k->p v=q v):dG p k=dG q k:=by
 rw[dG,dG,List.filter_congr fun v hv=>h v (aJg.1 hv)]
theorem gF {p:Nat->Bool}{k:Nat}{x:Int}:x∈dG p k↔0<=x/\x.toNat<k/\p x.toNat=true:=by
 rw[dG,aH5];constructor
 ·rintro⟨v,hv,rfl⟩;rw[aPF,aJg] at hv;exact⟨by omega,by simpa using hv.1,by simpa using hv.2⟩
 rintro⟨h0,h1,h2⟩;exact⟨x.toNat,aPF.2 ⟨aJg.2 h1,h2⟩,by omega⟩
theorem aBp {p:Nat->Bool}{n:Nat}: ∀{k:Nat},n<=k->(∀v,n<=v->v<k->p v=false)->dG p k=dG p n
 | 0,h,_=>by rw[show n=0 by omega]
 | k+1,h,hp=>by
   by_cases e:n=k+1
   ·rw[e]
   rw[nJ (hp k (by omega) (by omega)),aBp (by omega) fun v h1 h2=>hp v h1 (by omega)]
def lC (n:Int)(l:List Int)(k:Nat):Bool:=dV (l.getD k 0) 0 (n - 1)&& !decide (l.getD k 0∈l.take k)
def uZ (n:Int)(l:List Int):Bool:=(List.range l.length).all (lC n l)
def dQ (n:Int)(a:bH):Bool:=fF a.name&&(dV (a.vars.length:Nat) 1 3&&uZ n a.vars)
def aDl (l:List bH)(v:Nat):Bool:=l.any fun a=>decide ((v:Int)∈a.vars)
def aZ (q:aI):Bool:=(dV q.variableCount 1 4&&dV (q.atoms.length:Nat) 1 4)&&(q.atoms.all (dQ q.variableCount)&&(List.range q.variableCount.toNat).all (aDl q.atoms))
def gU (l:List bH)(k:Nat)(a:List Int)(i v:Nat):Bool:=aDl (l.take k) v || decide ((v:Int)∈a.take i)
theorem aF6 (l:List bH)(k:Nat)(a b:List Int):gU l k a 0=gU l k b 0:=by funext v;simp[gU]
theorem aF7 {l:List bH}{k i:Nat}{a:List Int}{x:Int}(h:a[i]? =some x)(hx:0<=x):(fun v=>gU l k a i v || decide (v=x.toNat))=gU l k a (i+1):=by
 funext v;rw[gU,gU,bS h,tM,Bool.or_assoc]
 congr 2
 exact decide_eq_decide.2 (by omega)
theorem aOP {l:List bH}{k:Nat}{a:bH}(h:l[k]? =some a)(v:Nat):aDl (l.take (k+1)) v=(aDl (l.take k) v || decide ((v:Int)∈a.vars)):=by
 rw[aDl,bS h,List.any_append];simp[aDl]
theorem aF8 {l:List bH}{k i:Nat}{a:bH}(h:l[k]? =some a)(hi:a.vars.length<=i)(b:List Int):gU l k a.vars i=gU l (k+1) b 0:=by
 funext v;rw[gU,gU,aOP h,aCy hi];simp
theorem aHX {l:List bH}{k:Nat}(hk:l.length<=k)(b:List Int):gU l k b 0=aDl l:=by
 funext v;rw[gU,aCy hk];simp
theorem aQc {n v:Nat}(p:Nat->Bool):((List.range n).map p).set v true=(List.range n).map fun i=>p i || decide (i=v):=by
 apply List.ext_getElem?;intro i;rw[List.getElem?_set,aOz,aOz];by_cases hi:i<n
 ·rw[List.getElem?_range hi,aAJ,List.length_range];by_cases e:v=i
  ·subst e;simp[hi]
  simp[e,show ¬i=v from fun q=>e q.symm]
 rw[show (List.range n)[i]? =none from List.getElem?_eq_none (by simp;omega)];by_cases e:v=i
 ·subst e;simp[hi]
 simp[e]
theorem aQd {n:Nat}(p:Nat->Bool):(!decide (false∈(List.range n).map p))=(List.range n).all p:=by
 apply Bool.eq_iff_iff.2;rw[Bool.not_eq_true',decide_eq_false_iff_not,aDP];constructor
 ·intro h x hx;cases e:p x with
  | true=>rfl
  | false=>exact absurd (aH5.2 ⟨x,hx,e⟩) h
 intro h hm;obtain⟨x,hx,e⟩:=aH5.1 hm;rw[h x hx] at e;cases e
theorem aIW {q:aI}(h:(dV q.variableCount 1 4&&dV (q.atoms.length:Nat) 1 4)=false):aZ q=false:=by rw[aZ,h];rfl
theorem pH {q:aI}{k:Nat}{a:bH}(h:q.atoms[k]? =some a)(ha:dQ q.variableCount a=false):aZ q=false:=by rw[aZ,fP h ha];simp
theorem aMt {q:aI}(h:(dV q.variableCount 1 4&&dV (q.atoms.length:Nat) 1 4)=true)(ha:q.atoms.all (dQ q.variableCount)=true):aZ q=(List.range q.variableCount.toNat).all (aDl q.atoms):=by rw[aZ,h,ha];rfl
theorem aOQ {n:Int}{l:List Int}(h:uZ n l=true){x:Int}(hx:x∈l):0<=x/\x<=n - 1:=by
 obtain⟨i,hi,rfl⟩:=List.mem_iff_getElem.1 hx;have:=aDP.1 h i (aJg.2 hi);simp only[lC,aAS] at this;have:=dB this.1
 rwa [aEE,aBJ hi,Option.getD_some] at this
theorem gQ {n:Int}{a:bH}(h:dQ n a=true):fF a.name=true/\(1<=a.vars.length/\a.vars.length<=3)/\ ∀x∈a.vars,0<=x/\x<=n - 1:=by
 simp only[dQ,aAS] at h;have h2:=dB h.2.1;exact⟨h.1,⟨by omega,by omega⟩,fun x hx=>aOQ h.2.2 hx⟩
theorem bM {q:aI}(h:aZ q=true):(1<=q.variableCount/\q.variableCount<=4)/\(1<=q.atoms.length/\q.atoms.length<=4)/\ ∀a∈q.atoms,dQ q.variableCount a=true:=by
 simp only[aZ,aAS] at h;have h1:=dB h.1.1;have h2:=dB h.1.2;exact⟨h1,⟨by omega,by omega⟩,fun a ha=>aDP.1 h.2.1 a ha⟩
theorem aQe {n:Int}{l:List bH}(h:l.all (dQ n)=true)(h0:1<=n){v:Nat}(hv:n.toNat<=v):aDl l v=false:=by
 rw[aDl,List.any_eq_false];intro a ha hm;have:=(gQ (aDP.1 h a ha)).2.2 v (by simpa using hm);omega
def vA (q:aI)(m:Int)(i v:Nat):Bool:=(List.range i).any fun j=>bR m j&&decide ((v:Int)∈(q.atoms.getD j cS).vars)
def inM (q:aI)(m:Int)(v:Nat):Bool:=vA q m q.atoms.length v
def dS (q:aI)(m:Int):List Int:=dG (inM q m) q.variableCount.toNat
def gG (q:aI)(m:Int):Bool:=aZ q&&dV m 0 ((1:Int)*2^q.atoms.length - 1)
def cX (q:aI)(m:Int):List Int:=if gG q m=true then dS q m else []
def fJ (a b:List Int):List Int:=a.filter fun x=>decide (x∈b)
def eD (q:aI)(a b:Int):List Int:=fJ (cX q a) (cX q b)
def bK (m:Int):List Int:=if dV m 0 15=true then dG (bR m) 4 else []
def dC (q:aI):Int:=if aZ q=true then (1:Int)*2^q.atoms.length - 1 else 0
theorem tQ {q:aI}{m:Int}(h:gG q m=true):cX q m=dS q m:=by rw[cX,if_pos h]
theorem aKC {q:aI}{m:Int}(h:gG q m=false):cX q m= []:=by rw[cX,if_neg (by rw[h];decide)]
theorem zU {m:Int}(h:dV m 0 15=true):bK m=dG (bR m) 4:=by rw[bK,if_pos h]
theorem aKD {m:Int}(h:dV m 0 15=false):bK m= []:=by rw[bK,if_neg (by rw[h];decide)]
theorem lJ {q:aI}(h:aZ q=true):dC q=1*2^q.atoms.length - 1:=by rw[dC,if_pos h]
theorem aKE {q:aI}(h:aZ q=false):dC q=0:=by rw[dC,if_neg (by rw[h];decide)]
theorem zV (q:aI)(m:Int)(i v:Nat):vA q m (i+1) v=(vA q m i v || (bR m i&&decide ((v:Int)∈(q.atoms.getD i cS).vars))):=by
 rw[vA,List.range_succ,List.any_append];simp[vA]
theorem aKF {q:aI}(h:aZ q=true)(m:Int){v:Nat}(hv:q.variableCount.toNat<=v): ∀{i},i<=q.atoms.length->vA q m i v=false
 | 0,_=>rfl
 | i+1,hi=>by
   obtain⟨h1,_,h2⟩:=bM h;obtain⟨a,ha⟩:=cP (l:=q.atoms) (k:=i) (by omega);have ht:=(gQ (h2 a (aAx ha))).2.2;rw[zV,aKF h m hv (by omega),aT ha];have: ¬(v:Int)∈a.vars:=fun q=>by have:=ht _ q;omega
   simp[this]
theorem aIX {q:aI}(h:aZ q=true)(m:Int){v:Nat}(hv:q.variableCount.toNat<=v):inM q m v=false:=aKF h m hv (aKU _)
def aDm (q:aI)(m:Int)(a:bH)(i k v:Nat):Bool:=vA q m i v || (bR m i&&decide ((v:Int)∈a.vars.take k))
theorem aOR (q:aI)(m:Int)(a:bH)(i:Nat):aDm q m a i 0=vA q m i:=by funext v;simp[aDm]
theorem aOS {q:aI}{m:Int}{a:bH}{i k:Nat}{x:Int}(hb:bR m i=true)(h:a.vars[k]? =some x)(hx:0<=x):(fun v=>aDm q m a i k v || decide (v=x.toNat))=aDm q m a i (k+1):=by
 funext v;rw[aDm,aDm,bS h,tM,hb,Bool.true_and,Bool.true_and,Bool.or_assoc]
 congr 2
 exact decide_eq_decide.2 (by omega)
theorem aHY {q:aI}{m:Int}{a:bH}{i k:Nat}(h:q.atoms[i]? =some a)(hk:bR m i=false\/a.vars.length<=k):aDm q m a i k=vA q m (i+1):=by
 funext v;rw[aDm,zV,aT h];rcases hk with hk | hk
 ·rw[hk];rfl
 rw[aCy hk]
theorem aL5 {q:aI}(h:aZ q=true)(m:Int):dG (bR (m4 (inM q m))) 4=dS q m:=by
 obtain⟨h1,_,_⟩:=bM h;rw[dS,aF5 (q:=inM q m) fun v hv=>aAn hv];exact aBp (by omega) fun v hv _=>aIX h m hv
theorem aCp (q:aI)(m:Int)(h:aZ q=true):(dS q m).length<=4:=by
 have:=tP (inM q m) q.variableCount.toNat;obtain⟨h1,_,_⟩:=bM h;unfold dS;omega
theorem aIY {q:aI}{m:Int}{i v:Nat}{a:bH}(h:q.atoms[i]? =some a)(hb:bR m i=true)(hv:decide ((v:Int)∈a.vars)=true):inM q m v=true:=
 List.any_eq_true.2 ⟨i,aJg.2 (aCx.1 h).1,by rw[hb,aT h,hv];rfl⟩
theorem zW {q:aI}{m:Int}{x:Int}(h:aZ q=true):x∈dS q m↔0<=x/\inM q m x.toNat=true:=by
 rw[dS,gF];constructor
 ·rintro⟨h0,_,h2⟩;exact⟨h0,h2⟩
 rintro⟨h0,h2⟩;refine⟨h0,?_,h2⟩;by_cases e:x.toNat<q.variableCount.toNat
 ·exact e
 rw[aIX h m (by omega)] at h2;cases h2
theorem fY {n:Nat}(h:1<=n/\n<=4):1<=(1:Int)*2^n - 1/\(1:Int)*2^n - 1<=15:=by
 have:n=1\/n=2\/n=3\/n=4:=by omega
 rcases this with rfl | rfl | rfl | rfl<;>decide
theorem iZ {q:aI}{m:Int}(h:gG q m=true):aZ q=true/\0<=m/\m<=15/\m<=1*2^q.atoms.length - 1:=by
 simp only[gG,aAS] at h;have h1:=dB h.2;have h2:=fY (bM h.1).2.1;exact⟨h.1,by omega,by omega,by omega⟩
theorem aBr {m:Int}{n i:Nat}(h:0<=m/\m<=1*2^n - 1)(hi:n<=i)(h4:i<4):bR m i=false:=by
 have hn:n=0\/n=1\/n=2\/n=3:=by omega
 have hi4:i=0\/i=1\/i=2\/i=3:=by omega
 have key:m/2^i=0:=by
  rcases hn with rfl | rfl | rfl | rfl<;>rcases hi4 with rfl | rfl | rfl | rfl<;>omega
 rw[bR,key];decide
theorem aBs {m:Int}{n:Nat}(h:0<=m/\m<=1*2^n - 1)(hn:n<=4):bK m=dG (bR m) n:=by
 have h15:m<=15:=by
  have:n=0\/n=1\/n=2\/n=3\/n=4:=by omega
  rcases this with rfl | rfl | rfl | rfl | rfl<;>simp at h<;>omega
 rw[zU (gN h.1 h15)];exact aBp hn fun v h1 h2=>aBr h h1 h2
abbrev yC (name:ByteArray)(arity:Int)(rows:List (List Int)):AV × List (Nat × Rs):=(.tup [.agg [.p none (.str ((mX name arity rows).1.name)),vI ((mX name arity rows).1.arity),.own 0],vB ((mX name arity rows).2)],[(0,.arr 34 1 true ((mX name arity rows).1.rows.map aD))])
abbrev aDY (name:ByteArray)(arity:Int)(rows:List (List Int)):Prop:=Cn 203 [.one (.str name),.one (.int .i64 arity),.one (.sl 34 1 (rows.map aD))] (yC name arity rows).1 (yC name arity rows).2
theorem aOT (name:ByteArray)(arity:Int)(rows:List (List Int))(hc:cV rows<=1048576):aDY name arity rows:=by
 refine cq Tryz.func203 (.loop (Nat × (List (List Int))) (Q2 Nat (List (List Int))) ([9]++rg 13 20) [800,3100,9000] (fun yy0=>[(9,vI (yy0.1:Int))]) (fun yy0=>[(800,some (.box 88 [.p none (.str name),vI arity,.own 9000])),(9000,some (.arr 34 1 true (yy0.2.map aD)))]) (fun yy0=>yy0.1<=rows.length/\yy0.2=cB (rows.take yy0.1)) (fun yy0=>rows.length - yy0.1) (fun yy0=> .len rows.length<| .br (.len yy0.2.length<| .lit<| .lit<| .br (.elem _ aD rows (fun e29=>cH (rE yy0.2 e29)<| .back [(800,800),(9000,3100)])) (.call (vB (aR (⟨name,arity,yy0.2⟩:aP))) []<| .br (.fin []) (.fin [(0,9000)]))) (.call (vB (aR (⟨name,arity,yy0.2⟩:aP))) []<| .br (.fin []) (.fin [(0,9000)])))) (p:=Lx (rows.map aD)<| (∃(k:Nat) (acc:List (List Int)),0=(k:Int)/\name=name/\arity=arity/\[]=acc.map aD/\k<=rows.length/\acc=cB (rows.take k))/\ ∀(k:Nat) (acc:List (List Int)),(k<=rows.length/\acc=cB (rows.take k))->Lm aD rows/\Br ((k:Int)<(rows.length:Int)) (Lm aD acc/\Br ((acc.length:Int)<=8) (0<=(k:Int)/\Em aD rows k fun e29=>uQ acc e29/\bW ((k:Int)+1)/\ ∃(k' :Nat) (acc' :List (List Int)),((k:Int)+1)=(k' :Int)/\name=name/\arity=arity/\(kB e29 acc).map aD=acc'.map aD/\(k' <=rows.length/\acc' =cB (rows.take k'))/\rows.length - k' <rows.length - k) (oC (⟨name,arity,acc⟩:aP)/\Nr (aR (⟨name,arity,acc⟩:aP)) (ByteArray.empty=((mX name arity rows).1.name)/\0=((mX name arity rows).1.arity)/\(false)=((mX name arity rows).2)/\[]=(mX name arity rows).1.rows.map aD/\True) (name=((mX name arity rows).1.name)/\arity=((mX name arity rows).1.arity)/\(true)=((mX name arity rows).2)/\acc.map aD=(mX name arity rows).1.rows.map aD/\True))) (oC (⟨name,arity,acc⟩:aP)/\Nr (aR (⟨name,arity,acc⟩:aP)) (ByteArray.empty=((mX name arity rows).1.name)/\0=((mX name arity rows).1.arity)/\(false)=((mX name arity rows).2)/\[]=(mX name arity rows).1.rows.map aD/\True) (name=((mX name arity rows).1.name)/\arity=((mX name arity rows).1.arity)/\(true)=((mX name arity rows).2)/\acc.map aD=(mX name arity rows).1.rows.map aD/\True))) (by kernel_rfl) ?_;refine lx fun n0=>?_;have hlen:=iG rows;refine⟨⟨0,([]:List (List Int)),rfl,rfl,rfl,rfl,aAU _,rfl⟩,fun k acc ⟨hk,ha⟩=>?_⟩;refine⟨aAJ _,dd (fun g17=>?_) fun g17=>?_⟩
 ·refine⟨aAJ _,dd (fun c0=>?_) fun c0=>?_⟩
  ·have hp:=aJu rows k;rw[<-ha] at hp;refine⟨by omega,rfl,by omega,fun e29 h29=>?_⟩;have hp3:=zN h29;refine⟨aFF acc e29 (by omega) (by omega) (by omega),⟨by omega,by omega⟩,?_⟩;exact⟨k+1,_,rfl,rfl,rfl,rfl,⟨by omega,by rw[ha,bS h29,aBi]⟩,by omega⟩
  ·have hend:=aJv (name:=name) (arity:=arity) ha (by omega);refine⟨xN (⟨name,arity,acc⟩:aP),dm (fun c1=>?_) fun c1=>?_⟩
   ·have hbad:aR ⟨name,arity,cB rows⟩=false:=by rw[<-hend.1];simpa using c1
    apply et4<;>((rw[aIR hbad]<;>rfl))
   ·have hok0:aR ⟨name,arity,acc⟩=true:=by simpa using c1
    have hok:aR ⟨name,arity,cB rows⟩=true:=by rw[<-hend.1];exact hok0
    have hacc:=hend.2 hok0;apply et4<;>(first|(rw[tL hok]<;>rfl)|(rw[tL hok];exact congrArg (List.map aD) hacc))
 ·have hend:=aJv (name:=name) (arity:=arity) ha (by omega);refine⟨xN (⟨name,arity,acc⟩:aP),dm (fun c1=>?_) fun c1=>?_⟩
  ·have hbad:aR ⟨name,arity,cB rows⟩=false:=by rw[<-hend.1];simpa using c1
   apply et4<;>((rw[aIR hbad]<;>rfl))
  ·have hok0:aR ⟨name,arity,acc⟩=true:=by simpa using c1
   have hok:aR ⟨name,arity,cB rows⟩=true:=by rw[<-hend.1];exact hok0
   have hacc:=hend.2 hok0;apply et4<;>(first|(rw[tL hok]<;>rfl)|(rw[tL hok];exact congrArg (List.map aD) hacc))
abbrev yD (x:aQ):AV × List (Nat × Rs):=(.tup [.agg [.p none (.str ((nI x).1.name)),vI ((nI x).1.arity),.own 0],vB ((nI x).2)],[(0,.arr 34 1 true ((nI x).1.rows.map aD))])
abbrev aDZ (x:aQ):Prop:=Cn 194 [.agg [.str x.name,.int .i64 x.arity,.int .i64 x.rowCount,.sl 138 3 (x.groups.map aH)]] (yD x).1 (yD x).2
theorem aOU (x:aQ)(hc:dE x<=1048576):aDZ x:=by
 refine cq Tryz.func194 (.len x.groups.length<| .br (.fin []) (.len x.groups.length<| .elem _ aH x.groups (fun e22=>cH (yC x.name x.arity e22.values)<| .fin [(0,2500)]))) (p:=Lx (x.groups.map aH)<| Lm aH x.groups/\Br ((x.groups.length:Int)=0) (ByteArray.empty=((nI x).1.name)/\0=((nI x).1.arity)/\(false)=((nI x).2)/\[]=(nI x).1.rows.map aD/\True) (Lm aH x.groups/\bW ((x.groups.length:Int) - 1)/\0<=((x.groups.length:Int) - 1)/\Em aH x.groups (((x.groups.length:Int) - 1).toNat) fun e22=>aDY x.name x.arity e22.values/\((mX x.name x.arity e22.values).1.name)=((nI x).1.name)/\((mX x.name x.arity e22.values).1.arity)=((nI x).1.arity)/\((mX x.name x.arity e22.values).2)=((nI x).2)/\(mX x.name x.arity e22.values).1.rows.map aD=(nI x).1.rows.map aD/\True)) (by kernel_rfl) ?_;refine lx fun n0=>?_;have q2:dE x=x.name.size+iW x.groups:=rfl;have q5:=lH x.groups;refine⟨aAJ _,dd (fun c0=>?_) fun c0=>?_⟩
 ·have hT:nI x=(mI,false):=by rw[nI,if_pos (by omega)]
  apply et4<;>((rw[hT]<;>rfl))
 ·have hT:nI x=mX x.name x.arity (pS x):=by rw[nI,if_neg (by omega)]
  refine⟨aAJ _,⟨by omega,by omega⟩,by omega,rfl,by omega,fun e22 h22=>?_⟩;have i22:x.groups[x.groups.length - 1]? =some e22:=by rw[<-h22];congr 1;omega
  have hL:pS x=e22.values:=aJq i22;rw[hL] at hT;have q1:=kC i22;have q3:gZ e22=gT e22.columns+cV e22.values+gT e22.counts:=rfl;have q6:gT e22.columns=e22.columns.length:=rfl;have q7:gT e22.counts=e22.counts.length:=rfl;have q8:=iG e22.values;refine⟨aOT _ _ _ (by omega),?_,?_,?_,?_,trivial⟩<;>((rw[hT]<;>rfl))
abbrev aF9 (x:aQ):Prop:=Cn 170 [.agg [.str x.name,.int .i64 x.arity,.int .i64 x.rowCount,.sl 138 3 (x.groups.map aH)]] (vB (dW x)) []
theorem aQf (x:aQ)(hc:dE x<=1048576):aF9 x:=by
 refine cq Tryz.func170 (cH (yD x)<| .br (cH (zP ((nI x).1))<| .call (vB (decide ((aX ((nI x).1))=x))) []<| .fin []) (.fin [])) (p:=Lx (x.groups.map aH)<| aDZ x/\Bb ((nI x).2) (aCj ((nI x).1)/\qZ (aX ((nI x).1)) x/\(decide ((aX ((nI x).1))=x))=(dW x)/\True) ((false)=(dW x)/\True)) (by kernel_rfl) ?_;refine lx fun n0=>?_;have hst:=aDW (nI x).1;have hsame:=aOF x;refine⟨aOU x (by omega),db (fun g11=>?_) fun g11=>?_⟩
 ·refine⟨aMn ((nI x).1),aB7 _ _ (by omega),?_,trivial⟩
  ·(rw[<-hsame,g11];simp;done)
 ·apply et1
  ·(rw[<-hsame,g11];simp;done)
theorem sW {x:Int}(h:dV x 0 3=true):bW ((1:Int)*2^x.toNat)/\0<=x/\x<=64:=by
 have h2:=dB h;have h1:x=0\/x=1\/x=2\/x=3:=by omega
 refine⟨?_,by omega,by omega⟩;unfold bW;rcases h1 with rfl | rfl | rfl | rfl<;>exact⟨by decide,by decide⟩
theorem aVG (l:List bH)(a:List Int):(0:Int)=m4 (gU l 0 a 0):=by simp[m4,b4,gU,aDl]
theorem aQg (n:Nat)(l:List bH)(a:List Int):List.replicate n false=(List.range n).map (gU l 0 a 0):=by
 apply List.ext_getElem?;intro i;rw[aOz,List.getElem?_replicate];by_cases hi:i<n
 ·rw[if_pos hi,List.getElem?_range hi];simp[gU,aDl]
 rw[if_neg hi,show (List.range n)[i]? =none from List.getElem?_eq_none (by simp;omega)];rfl
theorem aQh {l:List Bool}{v:Bool}:decide (0<=cZ (fun y=>v==y) l)=decide (v∈l):=by
 apply Bool.eq_iff_iff.2;rw[aLF,aLF];constructor
 ·intro h;obtain⟨k,x,_,hx,hf⟩:=lI.2 h;have h1:=List.find?_some hf;have:v=x:=by simpa using h1
  rw[this];exact aAx hx
 intro h;rcases Int.lt_or_le (cZ (fun y=>v==y) l) 0 with q | q
 ·have:=lI.1 q;rw[List.find?_eq_none] at this;exact absurd (this v h) (by simp)
 exact q
abbrev aTf (l:List Bool)(v:Bool):Prop:=Cn 195 [.one (.sl 4 1 (l.map jF)),.one (.bool v)] (vI (cZ (fun y=>v==y) l)) []
theorem ixB (l:List Bool)(v:Bool):aTf l v:=by
 refine cq Tryz.func195 (.len l.length<| .loop Nat (Q1 Nat) ([5]++rg 8 9++[18]) [] (fun k=>[(8,vI (k:Int))]) (fun k=>[]) (fun k=>k<=l.length/\(l.take k).all (fun y=> !(v==y))=true) (fun k=>l.length - k) (fun k=> .br (.elem _ jF l (fun e14=> .br (.fin []) (.back []))) (.fin []))) (p:=Lx (l.map jF)<| Lm jF l/\((∃(k:Nat),0=(k:Int)/\k<=l.length/\(l.take k).all (fun y=> !(v==y))=true)/\ ∀(k:Nat),(k<=l.length/\(l.take k).all (fun y=> !(v==y))=true)->Br ((k:Int)<(l.length:Int)) (0<=(k:Int)/\Em jF l k fun e14=>Bb (v==e14) ((k:Int)=(cZ (fun y=>v==y) l)/\True) (bW ((k:Int)+1)/\ ∃(k' :Nat),((k:Int)+1)=(k' :Int)/\(k' <=l.length/\(l.take k').all (fun y=> !(v==y))=true)/\l.length - k' <l.length - k)) ((-1:Int)=(cZ (fun y=>v==y) l)/\True))) (by kernel_rfl) ?_;refine lx fun n0=>?_;refine⟨aAJ _,⟨0,rfl,aAU _,rfl⟩,fun k ⟨hk,ha⟩=>?_⟩;refine dd (fun c0=>?_) fun c0=>?_
 ·refine⟨by omega,rfl,by omega,fun e14 h14=>?_⟩;refine db (fun c1=>?_) fun c1=>?_
  ·apply et1
   ·(rw[aBk h14 ha c1];done)
  ·refine⟨⟨by omega,by omega⟩,?_⟩;exact⟨k+1,rfl,⟨by omega,cI h14 ha (by rw[c1];rfl)⟩,by omega⟩
 ·apply et1
  ·(rw[zR (cK (by omega) ha)];done)
abbrev aTg (l:List Bool)(v:Bool):Prop:=Cn 174 [.one (.sl 4 1 (l.map jF)),.one (.bool v)] (vB (decide (v∈l))) []
theorem ctB (l:List Bool)(v:Bool):aTg l v:=by
 refine cq Tryz.func174 (.call (vI (cZ (fun y=>v==y) l)) []<| .fin []) (p:=Lx (l.map jF)<| aTf l v/\(decide (0<=(cZ (fun y=>v==y) l)))=(decide (v∈l))/\True) (by kernel_rfl) ?_;refine lx fun n0=>?_;refine⟨ixB _ _,?_,trivial⟩
 ·exact aQh
abbrev aAo (q:aI):Prop:=Cn 120 [.agg [.int .i64 q.variableCount,.sl 146 2 (q.atoms.map aN)]] (vB (aZ q)) []
theorem aKG (q:aI):aAo q:=by
 refine cq Tryz.func120 (.call (vB (dV q.variableCount (1:Int) (4:Int))) []<| .br (.fin []) (.len q.atoms.length<| .call (vB (dV (q.atoms.length:Int) (1:Int) (4:Int))) []<| .lit<| .lit<| .br (.fin []) (.mk ((q.variableCount).toNat) [.bool false] ((List.replicate ((q.variableCount).toNat) false).map jF)<| .len q.atoms.length<| .loop (Nat × (List Bool)) (Q2 Nat (List Bool)) ([5,6,7]++rg 25 42) [500,2100] (fun yy0=>[(25,vI (yy0.1:Int))]) (fun yy0=>[(2100,some (.arr 4 1 true (yy0.2.map jF)))]) (fun yy0=>yy0.1<=q.atoms.length/\yy0.2=(List.range q.variableCount.toNat).map (gU q.atoms yy0.1 [] 0)/\(q.atoms.take yy0.1).all (dQ q.variableCount)=true) (fun yy0=>q.atoms.length - yy0.1) (fun yy0=> .br (.elem _ aN q.atoms (fun e27=> .call (vB (fF e27.name)) []<| .br (.fin []) (.len e27.vars.length<| .call (vB (dV (e27.vars.length:Int) (1:Int) (3:Int))) []<| .lit<| .lit<| .br (.fin []) (.len e27.vars.length<| .loop (Nat × (List Bool)) (Q2 Nat (List Bool)) ([6,7]++rg 43 23) [2100] (fun yy1=>[(43,vI (yy1.1:Int))]) (fun yy1=>[(2100,some (.arr 4 1 true (yy1.2.map jF)))]) (fun yy1=>yy1.1<=e27.vars.length/\yy1.2=(List.range q.variableCount.toNat).map (gU q.atoms yy0.1 e27.vars yy1.1)/\(List.range yy1.1).all (lC q.variableCount e27.vars)=true) (fun yy1=>e27.vars.length - yy1.1) (fun yy1=> .br (.elem _ intD e27.vars (fun e46=> .call (vB (dV e46 (0:Int) (q.variableCount - 1))) []<| .br (.fin []) (.sub Int intD e27.vars<| .call (vB (decide (e46∈(e27.vars.take yy1.1)))) []<| .lit<| .br (.fin []) (.len yy1.2.length<| .set Bool jF yy1.2 (fun s14_3=>true) (fun s14_3=> .back [(2100,2100)]))))) (.back [(2100,2100)])))))) (.call (vB (decide (false∈yy0.2))) []<| .fin []))))) (p:=Lx (q.atoms.map aN)<| eW q.variableCount (1:Int) (4:Int)/\Nr (dV q.variableCount (1:Int) (4:Int)) ((false)=(aZ q)/\True) (Lm aN q.atoms/\(eW (q.atoms.length:Int) (1:Int) (4:Int)/\Nr (dV (q.atoms.length:Int) (1:Int) (4:Int)) ((false)=(aZ q)/\True) (q.variableCount=(((q.variableCount).toNat:Nat):Int)/\q.variableCount=(((q.variableCount).toNat:Nat):Int)/\1*((q.variableCount).toNat)<=281474976710656/\((q.variableCount).toNat)<=9223372036854775807/\List.replicate ((q.variableCount).toNat) [.bool false]=(List.replicate ((q.variableCount).toNat) false).map jF/\(Lm aN q.atoms/\((∃(k:Nat) (sn:List Bool),0=(k:Int)/\(List.replicate ((q.variableCount).toNat) false).map jF=sn.map jF/\k<=q.atoms.length/\sn=(List.range q.variableCount.toNat).map (gU q.atoms k [] 0)/\(q.atoms.take k).all (dQ q.variableCount)=true)/\ ∀(k:Nat) (sn:List Bool),(k<=q.atoms.length/\sn=(List.range q.variableCount.toNat).map (gU q.atoms k [] 0)/\(q.atoms.take k).all (dQ q.variableCount)=true)->Br ((k:Int)<(q.atoms.length:Int)) (0<=(k:Int)/\Em aN q.atoms k fun e27=>xJ e27.name/\Nr (fF e27.name) ((false)=(aZ q)/\True) (Lm intD e27.vars/\(eW (e27.vars.length:Int) (1:Int) (3:Int)/\Nr (dV (e27.vars.length:Int) (1:Int) (3:Int)) ((false)=(aZ q)/\True) (Lm intD e27.vars/\((∃(i:Nat) (sm:List Bool),0=(i:Int)/\sn.map jF=sm.map jF/\i<=e27.vars.length/\sm=(List.range q.variableCount.toNat).map (gU q.atoms k e27.vars i)/\(List.range i).all (lC q.variableCount e27.vars)=true)/\ ∀(i:Nat) (sm:List Bool),(i<=e27.vars.length/\sm=(List.range q.variableCount.toNat).map (gU q.atoms k e27.vars i)/\(List.range i).all (lC q.variableCount e27.vars)=true)->Br ((i:Int)<(e27.vars.length:Int)) (0<=(i:Int)/\Em intD e27.vars i fun e46=>bW (q.variableCount - 1)/\(eW e46 (0:Int) (q.variableCount - 1)/\Nr (dV e46 (0:Int) (q.variableCount - 1)) ((false)=(aZ q)/\True) (e27.vars.map intD=e27.vars.map intD/\0<=(i:Int)/\(i:Int)<=(e27.vars.length:Int)/\(aFW (e27.vars.take i) e46/\Bb (decide (e46∈(e27.vars.take i))) ((false)=(aZ q)/\True) (0<=e46/\Lm jF sm/\e46<(sm.length:Int)/\(sm.map jF=sm.map jF/\(e46).toNat<sm.length/\ ∀s14_3,sm[(e46).toNat]? =some s14_3->rZ (jF s14_3)=true/\0+1<=(jF s14_3).length/\(jF s14_3).take 0++[.bool true]++(jF s14_3).drop (0+1)=jF true/\bW ((i:Int)+1)/\ ∃(i' :Nat) (sm' :List Bool),((i:Int)+1)=(i' :Int)/\(sm.set ((e46).toNat) true).map jF=sm'.map jF/\(i' <=e27.vars.length/\sm' =(List.range q.variableCount.toNat).map (gU q.atoms k e27.vars i')/\(List.range i').all (lC q.variableCount e27.vars)=true)/\e27.vars.length - i' <e27.vars.length - i)))))) (bW ((k:Int)+1)/\ ∃(k' :Nat) (sn' :List Bool),((k:Int)+1)=(k' :Int)/\sm.map jF=sn'.map jF/\(k' <=q.atoms.length/\sn' =(List.range q.variableCount.toNat).map (gU q.atoms k' [] 0)/\(q.atoms.take k').all (dQ q.variableCount)=true)/\q.atoms.length - k' <q.atoms.length - k)))))) (aTg sn false/\(!(decide (false∈sn)))=(aZ q)/\True))))))) (by kernel_rfl) ?_;refine lx fun n0=>?_;refine⟨jJ _ _ _,dm (fun g12=>?_) fun g12=>?_⟩
 ·have hbad:(dV q.variableCount 1 4&&dV (q.atoms.length:Nat) 1 4)=false:=by (rw[g12];rfl)
  apply et1
  ·(exact(aIW hbad).symm)
 ·refine⟨aAJ _,jJ _ _ _,dm (fun c0=>?_) fun c0=>?_⟩
  ·have hbad:(dV q.variableCount 1 4&&dV (q.atoms.length:Nat) 1 4)=false:=by (rw[g12,c0];rfl)
   apply et1
   ·(exact(aIW hbad).symm)
  ·have hpar:(dV q.variableCount 1 4&&dV (q.atoms.length:Nat) 1 4)=true:=by rw[g12,c0];rfl
   have hn:=dB g12;refine⟨by omega,by omega,by omega,by omega,by (rw[aK6];rfl),aAJ _,⟨0,List.replicate ((q.variableCount).toNat) false,rfl,rfl,aAU _,aQg _ _ _,rfl⟩,fun k sn ⟨hk,hs,ha⟩=>?_⟩;refine dd (fun c1=>?_) fun c1=>?_
   ·refine⟨by omega,rfl,by omega,fun e27 h27=>?_⟩;refine⟨aHI _,dm (fun g33=>?_) fun g33=>?_⟩
    ·have hA:dQ q.variableCount e27=false:=by (rw[dQ,g33];rfl)
     apply et1
     ·(exact(pH h27 hA).symm)
    ·refine⟨aAJ _,jJ _ _ _,dm (fun c2=>?_) fun c2=>?_⟩
     ·have hA:dQ q.variableCount e27=false:=by (rw[dQ,g33,c2];rfl)
      apply et1
      ·(exact(pH h27 hA).symm)
     ·have w9:=dB c2;refine⟨aAJ _,⟨0,sn,rfl,rfl,aAU _,by rw[hs,aF6],rfl⟩,fun i sm ⟨hi,hm,hv⟩=>?_⟩;have hml:sm.length=q.variableCount.toNat:=by rw[hm];simp
      refine dd (fun c3=>?_) fun c3=>?_
      ·refine⟨by omega,rfl,by omega,fun e46 h46=>?_⟩;have hx:=aAx h46;refine⟨by exact⟨by omega,by omega⟩,jJ _ _ _,dm (fun g54=>?_) fun g54=>?_⟩
       ·have hp:lC q.variableCount e27.vars i=false:=by (rw[lC,aT h46,g54];rfl)
        have hA:dQ q.variableCount e27=false:=by rw[dQ,uZ,gP (by omega) hp];simp
        apply et1
        ·(exact(pH h27 hA).symm)
       ·refine⟨rfl,by omega,by omega,ctI _ _,db (fun c4=>?_) fun c4=>?_⟩
        ·have hp:lC q.variableCount e27.vars i=false:=by (rw[lC,aT h46,g54,c4];rfl)
         have hA:dQ q.variableCount e27=false:=by rw[dQ,uZ,gP (by omega) hp];simp
         apply et1
         ·(exact(pH h27 hA).symm)
        ·have hp:lC q.variableCount e27.vars i=true:=by rw[lC,aT h46,g54,c4];rfl
         have hb:=dB g54;refine⟨by omega,aAJ _,by omega,rfl,by omega,fun s14_3 hs14_3=>⟨rfl,aBI rfl,rfl,?_⟩⟩;refine⟨by exact⟨by omega,by omega⟩,?_⟩;exact⟨i+1,_,rfl,rfl,⟨by omega,by rw[hm,aQc,aF7 h46 (by omega)],jE hv hp⟩,by omega⟩
      ·have hA:dQ q.variableCount e27=true:=by rw[dQ,g33,c2,uZ,show e27.vars.length=i by omega,hv];rfl
       refine⟨by exact⟨by omega,by omega⟩,?_⟩;exact⟨k+1,_,rfl,rfl,⟨by omega,by rw[hm,aF8 h27 (by omega) []],cI h27 ha hA⟩,by omega⟩
   ·have hall:=cK (by omega) ha;refine⟨ctB _ _,?_,trivial⟩
    ·(rw[aMt hpar hall,hs,aHX (by omega),aQd])
abbrev lD (q:aI):Prop:=Cn 122 [.agg [.int .i64 q.variableCount,.sl 146 2 (q.atoms.map aN)]] (vB (aZ q)) []
theorem rI (q:aI):lD q:=by
 refine cq Tryz.func122 (.call (vB (dV q.variableCount (1:Int) (4:Int))) []<| .br (.fin []) (.len q.atoms.length<| .call (vB (dV (q.atoms.length:Int) (1:Int) (4:Int))) []<| .lit<| .lit<| .br (.fin []) (.loop (Nat × Int) (Q2 Nat Int) ([3,4,5,6]++rg 18 60) [500] (fun yy0=>[(4,vI (yy0.1:Int)),(3,vI yy0.2)]) (fun yy0=>[]) (fun yy0=>yy0.1<=q.atoms.length/\yy0.2=m4 (gU q.atoms yy0.1 [] 0)/\(q.atoms.take yy0.1).all (dQ q.variableCount)=true) (fun yy0=>q.atoms.length - yy0.1) (fun yy0=> .len q.atoms.length<| .br (.elem _ aN q.atoms (fun e28=> .call (vB (fF e28.name)) []<| .br (.fin []) (.len e28.vars.length<| .call (vB (dV (e28.vars.length:Int) (1:Int) (3:Int))) []<| .lit<| .lit<| .br (.fin []) (.loop (Nat × Int) (Q2 Nat Int) ([3,6]++rg 41 37) [] (fun yy1=>[(6,vI (yy1.1:Int)),(3,vI yy1.2)]) (fun yy1=>[]) (fun yy1=>yy1.1<=e28.vars.length/\yy1.2=m4 (gU q.atoms yy0.1 e28.vars yy1.1)/\(List.range yy1.1).all (lC q.variableCount e28.vars)=true) (fun yy1=>e28.vars.length - yy1.1) (fun yy1=> .len e28.vars.length<| .br (.elem _ intD e28.vars (fun e51=> .call (vB (dV e51 (0:Int) (q.variableCount - 1))) []<| .br (.fin []) (.sub Int intD e28.vars<| .elem _ intD e28.vars (fun e66=> .call (vB (decide (e66∈(e28.vars.take yy1.1)))) []<| .lit<| .br (.fin []) (.elem _ intD e28.vars (fun e74=> .back [])))))) (.back [])))))) (.fin []))))) (p:=Lx (q.atoms.map aN)<| dZ q.variableCount (1:Int) (4:Int)/\Nr (dV q.variableCount (1:Int) (4:Int)) ((false)=(aZ q)/\True) (Lm aN q.atoms/\(dZ (q.atoms.length:Int) (1:Int) (4:Int)/\Nr (dV (q.atoms.length:Int) (1:Int) (4:Int)) ((false)=(aZ q)/\True) ((∃(k:Nat) (o:Int),0=(k:Int)/\0=o/\k<=q.atoms.length/\o=m4 (gU q.atoms k [] 0)/\(q.atoms.take k).all (dQ q.variableCount)=true)/\ ∀(k:Nat) (o:Int),(k<=q.atoms.length/\o=m4 (gU q.atoms k [] 0)/\(q.atoms.take k).all (dQ q.variableCount)=true)->Lm aN q.atoms/\Br ((k:Int)<(q.atoms.length:Int)) (0<=(k:Int)/\Em aN q.atoms k fun e28=>xK e28.name/\Nr (fF e28.name) ((false)=(aZ q)/\True) (Lm intD e28.vars/\(dZ (e28.vars.length:Int) (1:Int) (3:Int)/\Nr (dV (e28.vars.length:Int) (1:Int) (3:Int)) ((false)=(aZ q)/\True) ((∃(i:Nat) (p:Int),0=(i:Int)/\o=p/\i<=e28.vars.length/\p=m4 (gU q.atoms k e28.vars i)/\(List.range i).all (lC q.variableCount e28.vars)=true)/\ ∀(i:Nat) (p:Int),(i<=e28.vars.length/\p=m4 (gU q.atoms k e28.vars i)/\(List.range i).all (lC q.variableCount e28.vars)=true)->Lm intD e28.vars/\Br ((i:Int)<(e28.vars.length:Int)) (0<=(i:Int)/\Em intD e28.vars i fun e51=>bW (q.variableCount - 1)/\dZ e51 (0:Int) (q.variableCount - 1)/\Nr (dV e51 (0:Int) (q.variableCount - 1)) ((false)=(aZ q)/\True) (e28.vars.map intD=e28.vars.map intD/\0<=(i:Int)/\(i:Int)<=(e28.vars.length:Int)/\0<=(i:Int)/\Em intD e28.vars i fun e66=>aJy (e28.vars.take i) e66/\Bb (decide (e66∈(e28.vars.take i))) ((false)=(aZ q)/\True) (0<=(i:Int)/\Em intD e28.vars i fun e74=>(0<=e74/\e74<=64)/\bW ((1:Int)*2^(Int.toNat e74))/\bW ((i:Int)+1)/\ ∃(i' :Nat) (p' :Int),((i:Int)+1)=(i' :Int)/\(cJ .or .i64 p ((1:Int)*2^(Int.toNat e74)))=p' /\(i' <=e28.vars.length/\p' =m4 (gU q.atoms k e28.vars i')/\(List.range i').all (lC q.variableCount e28.vars)=true)/\e28.vars.length - i' <e28.vars.length - i))) (bW ((k:Int)+1)/\ ∃(k' :Nat) (o' :Int),((k:Int)+1)=(k' :Int)/\p=o' /\(k' <=q.atoms.length/\o' =m4 (gU q.atoms k' [] 0)/\(q.atoms.take k').all (dQ q.variableCount)=true)/\q.atoms.length - k' <q.atoms.length - k))))) ((0<=q.variableCount/\q.variableCount<=64)/\bW ((1:Int)*2^(Int.toNat q.variableCount))/\bW (((1:Int)*2^(Int.toNat q.variableCount)) - 1)/\(decide (o=(((1:Int)*2^(Int.toNat q.variableCount)) - 1)))=(aZ q)/\True))))) (by kernel_rfl) ?_;refine lx fun n0=>?_;refine⟨gX _ _ _,dm (fun g11=>?_) fun g11=>?_⟩
 ·have hbad:(dV q.variableCount 1 4&&dV (q.atoms.length:Nat) 1 4)=false:=by (rw[g11];rfl)
  apply et1
  ·(exact(aIW hbad).symm)
 ·refine⟨aAJ _,gX _ _ _,dm (fun c0=>?_) fun c0=>?_⟩
  ·have hbad:(dV q.variableCount 1 4&&dV (q.atoms.length:Nat) 1 4)=false:=by (rw[g11,c0];rfl)
   apply et1
   ·(exact(aIW hbad).symm)
  ·have hpar:(dV q.variableCount 1 4&&dV (q.atoms.length:Nat) 1 4)=true:=by rw[g11,c0];rfl
   have hn:=dB g11;refine⟨⟨0,(0:Int),rfl,rfl,aAU _,aVG _ _,rfl⟩,fun k o ⟨hk,hs,ha⟩=>?_⟩;refine⟨aAJ _,dd (fun c1=>?_) fun c1=>?_⟩
   ·refine⟨by omega,rfl,by omega,fun e28 h28=>?_⟩;refine⟨aHJ _,dm (fun g34=>?_) fun g34=>?_⟩
    ·have hA:dQ q.variableCount e28=false:=by (rw[dQ,g34];rfl)
     apply et1
     ·(exact(pH h28 hA).symm)
    ·refine⟨aAJ _,gX _ _ _,dm (fun c2=>?_) fun c2=>?_⟩
     ·have hA:dQ q.variableCount e28=false:=by (rw[dQ,g34,c2];rfl)
      apply et1
      ·(exact(pH h28 hA).symm)
     ·have w9:=dB c2;refine⟨⟨0,o,rfl,rfl,aAU _,by rw[hs,aF6],rfl⟩,fun i p ⟨hi,hm,hv⟩=>?_⟩;refine⟨aAJ _,dd (fun c3=>?_) fun c3=>?_⟩
      ·refine⟨by omega,rfl,by omega,fun e51 h51=>?_⟩;have hx:=aAx h51;refine⟨by exact⟨by omega,by omega⟩,gX _ _ _,dm (fun g58=>?_) fun g58=>?_⟩
       ·have hp:lC q.variableCount e28.vars i=false:=by (rw[lC,aT h51,g58];rfl)
        have hA:dQ q.variableCount e28=false:=by rw[dQ,uZ,gP (by omega) hp];simp
        apply et1
        ·(exact(pH h28 hA).symm)
       ·refine⟨rfl,by omega,by omega,by omega,rfl,by omega,fun e66 h66=>?_⟩;obtain rfl:=(bF h51 h66).symm;refine⟨hsI _ _,db (fun c4=>?_) fun c4=>?_⟩
        ·have hp:lC q.variableCount e28.vars i=false:=by (rw[lC,aT h51,g58,c4];rfl)
         have hA:dQ q.variableCount e28=false:=by rw[dQ,uZ,gP (by omega) hp];simp
         apply et1
         ·(exact(pH h28 hA).symm)
        ·have hp:lC q.variableCount e28.vars i=true:=by rw[lC,aT h51,g58,c4];rfl
         have hb:=dB g58;obtain⟨w1,w2,w3⟩:=sW (x:=e51) (gN (by omega) (by omega));refine⟨by omega,rfl,by omega,fun e74 h74=>?_⟩;obtain rfl:=(bF h51 h74).symm;refine⟨⟨by omega,by omega⟩,by exact w1,by exact⟨by omega,by omega⟩,?_⟩;exact⟨i+1,_,rfl,rfl,⟨by omega,by rw[hm,wB (by omega),aF7 h51 (by omega)],jE hv hp⟩,by omega⟩
      ·have hA:dQ q.variableCount e28=true:=by rw[dQ,g34,c2,uZ,show e28.vars.length=i by omega,hv];rfl
       refine⟨by exact⟨by omega,by omega⟩,?_⟩;exact⟨k+1,_,rfl,rfl,⟨by omega,by rw[hm,aF8 h28 (by omega) []],cI h28 ha hA⟩,by omega⟩
   ·have hall:=cK (by omega) ha;obtain⟨w1,w2,w3⟩:=sW (x:=q.variableCount - 1) (gN (by omega) (by omega));have w4:=fY (n:=q.variableCount.toNat) ⟨by omega,by omega⟩;refine⟨⟨by omega,by omega⟩,by exact⟨by omega,by omega⟩,by exact⟨by omega,by omega⟩,?_,trivial⟩
    ·(rw[aMt hpar hall,hs,aHX (by omega)];exact aSw hn fun v hv=>aQe hall hn.1 hv)
abbrev yE (d:aL)(f:aU):AV × List (Nat × Rs):=(.own 0,[(0,.arr 3 1 true ((jX d f).map intD))])
abbrev aD0 (d:aL)(f:aU):Prop:=Cn 147 [.agg [.sl 88 3 (d.tables.map aG)],.agg [.str f.name,.sl 3 1 (f.src.map intD),.int .i64 f.dst]] (yE d f).1 (yE d f).2
theorem aOV (d:aL)(f:aU)(hc:bO d<=1048576):aD0 d f:=by
 refine cq Tryz.func147 (.call (vB (hZ d f)) []<| .br (.fin []) (.call (.tup [.agg [.p none (.str ((aE d f.name).1.name)),vI ((aE d f.name).1.arity),.p none (.sl 34 1 ((aE d f.name).1.rows.map aD))],vB ((aE d f.name).2)]) []<| .len ((aE d f.name).1.rows.length)<| .loop Nat (Q1 Nat) (rg 7 8++rg 29 45++[77,78]) [4800,5500] (fun k=>[(29,vI (k:Int))]) (fun k=>[]) (fun k=>k<=(aE d f.name).1.rows.length/\kN (aE d f.name).1.rows f.src f.dst k= []) (fun k=>(aE d f.name).1.rows.length - k) (fun k=> .br (.elem _ aD ((aE d f.name).1.rows) (fun e32=> .sub (List Int) aD ((aE d f.name).1.rows)<| .len (((aE d f.name).1.rows.take k).length)<| .loop Nat (Q1 Nat) ([9,10,11,12,13,14]++rg 39 35++[77]) [4800,5500] (fun i=>[(39,vI (i:Int))]) (fun i=>[]) (fun i=>i<=k/\kD (aE d f.name).1.rows f.src f.dst k i= []) (fun i=>k - i) (fun i=> .br (.elem _ aD ((aE d f.name).1.rows.take k) (fun e42=>cH (rB e42 f.src)<| cH (rB e32 f.src)<| .call (vB (decide (((gB e42 f.src).1)=((gB e32 f.src).1)))) []<| .br (.elem _ intD e42 (fun e65=> .elem _ intD e32 (fun e70=> .lit<| .lit<| .lit<| .br (.fin [(0,7600)]) (.back [])))) (.back []))) (.back [])))) (.fin [])))) (p:=Lx (d.tables.map aG)<| Lx (f.src.map intD)<| uU d f/\Nr (hZ d f) ([]=(jX d f).map intD/\True) (vX Tryz.prog 86 [.agg [.sl 88 3 (d.tables.map aG)],.one (.str f.name)] (.tup [.agg [.p none (.str ((aE d f.name).1.name)),vI ((aE d f.name).1.arity),.p none (.sl 34 1 ((aE d f.name).1.rows.map aD))],vB ((aE d f.name).2)]) []/\(Lm aD ((aE d f.name).1.rows)/\((∃(k:Nat),0=(k:Int)/\k<=(aE d f.name).1.rows.length/\kN (aE d f.name).1.rows f.src f.dst k= [])/\ ∀(k:Nat),(k<=(aE d f.name).1.rows.length/\kN (aE d f.name).1.rows f.src f.dst k= [])->Br ((k:Int)<(((aE d f.name).1.rows.length:Nat):Int)) (0<=(k:Int)/\Em aD ((aE d f.name).1.rows) k fun e32=>(aE d f.name).1.rows.map aD=(aE d f.name).1.rows.map aD/\0<=(k:Int)/\(k:Int)<=(((aE d f.name).1.rows.length:Nat):Int)/\(Lm aD ((aE d f.name).1.rows.take k)/\((∃(i:Nat),0=(i:Int)/\i<=k/\kD (aE d f.name).1.rows f.src f.dst k i= [])/\ ∀(i:Nat),(i<=k/\kD (aE d f.name).1.rows f.src f.dst k i= [])->Br ((i:Int)<((((aE d f.name).1.rows.take k).length:Nat):Int)) (0<=(i:Int)/\Em aD ((aE d f.name).1.rows.take k) i fun e42=>uO e42 f.src/\uO e32 f.src/\qG ((gB e42 f.src).1) ((gB e32 f.src).1)/\Br (((gB e42 f.src).1)=((gB e32 f.src).1)) (0<=f.dst/\Em intD e42 ((f.dst).toNat) fun e65=>0<=f.dst/\Em intD e32 ((f.dst).toNat) fun e70=>Nb (e65=e70) ([[.int .i64 (i:Int)],[.int .i64 (k:Int)]]=(jX d f).map intD/\True) (bW ((i:Int)+1)/\ ∃(i' :Nat),((i:Int)+1)=(i' :Int)/\(i' <=k/\kD (aE d f.name).1.rows f.src f.dst k i' = [])/\k - i' <k - i)) (bW ((i:Int)+1)/\ ∃(i' :Nat),((i:Int)+1)=(i' :Int)/\(i' <=k/\kD (aE d f.name).1.rows f.src f.dst k i' = [])/\k - i' <k - i)) (bW ((k:Int)+1)/\ ∃(k' :Nat),((k:Int)+1)=(k' :Int)/\(k' <=(aE d f.name).1.rows.length/\kN (aE d f.name).1.rows f.src f.dst k' = [])/\(aE d f.name).1.rows.length - k' <(aE d f.name).1.rows.length - k)))) ([]=(jX d f).map intD/\True))))) (by kernel_rfl) ?_;refine lx fun n0=>lx fun n1=>?_;refine⟨aF1 _ _ (by omega),dm (fun c0=>?_) fun c0=>?_⟩
 ·have hbad:jX d f= []:=by rw[jX,if_neg (by simpa using c0)]
  apply et1
  ·(rw[hbad]<;>rfl)
 ·have hok:hZ d f=true:=by simpa using c0
  obtain⟨hT,hd0,hd1,hsl⟩:=aDX hok;have hT8:=bP hT;have hV:jX d f=kN (aE d f.name).1.rows f.src f.dst (aE d f.name).1.rows.length:=by rw[jX,if_pos hok]
  refine⟨iV (rH _ f.name (by omega)) rfl,aAJ _,⟨0,rfl,aAU _,rfl⟩,fun k ⟨hk,hv⟩=>?_⟩;refine dd (fun c1=>?_) fun c1=>?_
  ·refine⟨by omega,rfl,by omega,fun e32 h32=>?_⟩;have hl32:=kM hT (aAx h32);refine⟨rfl,by omega,by omega,aAJ _,⟨0,rfl,aAU _,rfl⟩,fun i ⟨hi,hw⟩=>?_⟩;have htl:((aE d f.name).1.rows.take k).length=k:=by rw[aOe];omega
   refine dd (fun c2=>?_) fun c2=>?_
   ·refine⟨by omega,rfl,by omega,fun e42 h42=>?_⟩;have hx:(aE d f.name).1.rows[i]? =some e42:=by rw[List.getElem?_take_of_lt (by omega)] at h42;exact h42
    have hl42:=kM hT (aAx hx);have hb:=aMs (cols:=f.src) (c:=f.dst) hx h32;refine⟨aEx _ _ (by omega),aEx _ _ (by omega),aB5 _ _,dd (fun g61=>?_) fun g61=>?_⟩
    ·refine⟨by omega,rfl,by omega,fun e65 h65=>?_⟩;refine⟨by omega,rfl,by omega,fun e70 h70=>?_⟩;refine dn (fun c3=>?_) fun c3=>?_
     ·have hB:aL2 (aE d f.name).1.rows f.src f.dst i k=true:=by rw[hb,aT h65,aT h70];simp[*]
      have hE:=aFZ hv hw hB (by omega) (by omega:k<(aE d f.name).1.rows.length);apply et1
      ·(rw[hV,hE]<;>rfl)
     ·refine⟨⟨by omega,by omega⟩,?_⟩;exact⟨i+1,rfl,⟨by omega,aBl hw (by rw[hb];(rw[aT h65,aT h70];simp[*];done))⟩,by omega⟩
    ·refine⟨⟨by omega,by omega⟩,?_⟩;exact⟨i+1,rfl,⟨by omega,aBl hw (by rw[hb];(simp[g61];done))⟩,by omega⟩
   ·refine⟨⟨by omega,by omega⟩,?_⟩;exact⟨k+1,rfl,⟨by omega,aF0 hv (by obtain rfl:i=k:=(by omega);exact hw)⟩,by omega⟩
  ·have hE:jX d f= []:=by rw[hV,show (aE d f.name).1.rows.length=k by omega,hv]
   apply et1
   ·(rw[hE]<;>rfl)
abbrev yF (d:aL)(f:aU):AV × List (Nat × Rs):=(.own 0,[(0,.arr 3 1 true ((jX d f).map intD))])
abbrev aD1 (d:aL)(f:aU):Prop:=Cn 156 [.agg [.sl 88 3 (d.tables.map aG)],.agg [.str f.name,.sl 3 1 (f.src.map intD),.int .i64 f.dst]] (yF d f).1 (yF d f).2
theorem aOW (d:aL)(f:aU)(hc:bO d<=1048576):aD1 d f:=by
 refine cq Tryz.func156 (.call (.tup [.agg [.p none (.str ((aE d f.name).1.name)),vI ((aE d f.name).1.arity),.p none (.sl 34 1 ((aE d f.name).1.rows.map aD))],vB ((aE d f.name).2)]) []<| .loop Nat (Q1 Nat) ([7,8,9,10,11,12]++rg 20 64) [4000,5600] (fun k=>[(7,vI (k:Int))]) (fun k=>[]) (fun k=>k<=(aE d f.name).1.rows.length/\kN (aE d f.name).1.rows f.src f.dst k= []) (fun k=>(aE d f.name).1.rows.length - k) (fun k=> .len ((aE d f.name).1.rows.length)<| .br (.call (vB (hZ d f)) []<| .lit<| .br (.elem _ aD ((aE d f.name).1.rows) (fun e36=>cH (oD e36 f.src)<| .loop Nat (Q1 Nat) ([10,11,12]++rg 43 41) [5600] (fun i=>[(10,vI (i:Int))]) (fun i=>[]) (fun i=>i<=k/\kD (aE d f.name).1.rows f.src f.dst k i= []) (fun i=>k - i) (fun i=> .br (.elem _ aD ((aE d f.name).1.rows) (fun e52=>cH (oD e52 f.src)<| .call (vI (bT ((gB e52 f.src).1) ((gB e36 f.src).1))) []<| .br (.elem _ aD ((aE d f.name).1.rows) (fun e67=> .elem _ intD e67 (fun e71=> .elem _ aD ((aE d f.name).1.rows) (fun e76=> .elem _ intD e76 (fun e80=> .lit<| .lit<| .lit<| .br (.fin [(0,8600)]) (.back [])))))) (.back []))) (.back [])))) (.fin [(0,8700)])) (.fin [(0,8700)]))) (p:=Lx (d.tables.map aG)<| Lx (f.src.map intD)<| vX Tryz.prog 94 [.agg [.sl 88 3 (d.tables.map aG)],.one (.str f.name)] (.tup [.agg [.p none (.str ((aE d f.name).1.name)),vI ((aE d f.name).1.arity),.p none (.sl 34 1 ((aE d f.name).1.rows.map aD))],vB ((aE d f.name).2)]) []/\((∃(k:Nat),0=(k:Int)/\k<=(aE d f.name).1.rows.length/\kN (aE d f.name).1.rows f.src f.dst k= [])/\ ∀(k:Nat),(k<=(aE d f.name).1.rows.length/\kN (aE d f.name).1.rows f.src f.dst k= [])->Lm aD ((aE d f.name).1.rows)/\Br ((k:Int)<(((aE d f.name).1.rows.length:Nat):Int)) (uV d f/\Bb (hZ d f) (0<=(k:Int)/\Em aD ((aE d f.name).1.rows) k fun e36=>rC e36 f.src/\((∃(i:Nat),0=(i:Int)/\i<=k/\kD (aE d f.name).1.rows f.src f.dst k i= [])/\ ∀(i:Nat),(i<=k/\kD (aE d f.name).1.rows f.src f.dst k i= [])->Br ((i:Int)<(k:Int)) (0<=(i:Int)/\Em aD ((aE d f.name).1.rows) i fun e52=>rC e52 f.src/\gD ((gB e52 f.src).1) ((gB e36 f.src).1)/\Br ((bT ((gB e52 f.src).1) ((gB e36 f.src).1))=0) (0<=(i:Int)/\Em aD ((aE d f.name).1.rows) i fun e67=>0<=f.dst/\Em intD e67 ((f.dst).toNat) fun e71=>0<=(k:Int)/\Em aD ((aE d f.name).1.rows) k fun e76=>0<=f.dst/\Em intD e76 ((f.dst).toNat) fun e80=>Nb (e71=e80) ([[.int .i64 (i:Int)],[.int .i64 (k:Int)]]=(jX d f).map intD/\True) (bW ((i:Int)+1)/\ ∃(i' :Nat),((i:Int)+1)=(i' :Int)/\(i' <=k/\kD (aE d f.name).1.rows f.src f.dst k i' = [])/\k - i' <k - i)) (bW ((i:Int)+1)/\ ∃(i' :Nat),((i:Int)+1)=(i' :Int)/\(i' <=k/\kD (aE d f.name).1.rows f.src f.dst k i' = [])/\k - i' <k - i)) (bW ((k:Int)+1)/\ ∃(k' :Nat),((k:Int)+1)=(k' :Int)/\(k' <=(aE d f.name).1.rows.length/\kN (aE d f.name).1.rows f.src f.dst k' = [])/\(aE d f.name).1.rows.length - k' <(aE d f.name).1.rows.length - k))) ([]=(jX d f).map intD/\True)) ([]=(jX d f).map intD/\True))) (by kernel_rfl) ?_;refine lx fun n0=>lx fun n1=>?_;refine⟨iV (pG _ f.name (by omega)) rfl,⟨0,rfl,aAU _,rfl⟩,fun k ⟨hk,hv⟩=>?_⟩;refine⟨aAJ _,dd (fun g25=>?_) fun g25=>?_⟩
 ·refine⟨aF2 _ _ (by omega),db (fun c0=>?_) fun c0=>?_⟩
  ·have hok:hZ d f=true:=c0;obtain⟨hT,hd0,hd1,hsl⟩:=aDX hok;have hT8:=bP hT;have hV:jX d f=kN (aE d f.name).1.rows f.src f.dst (aE d f.name).1.rows.length:=by rw[jX,if_pos hok]
   refine⟨by omega,rfl,by omega,fun e36 h36=>?_⟩;have hl36:=kM hT (aAx h36);refine⟨aBb _ _ (by omega),⟨0,rfl,aAU _,rfl⟩,fun i ⟨hi,hw⟩=>?_⟩;refine dd (fun c1=>?_) fun c1=>?_
   ·refine⟨by omega,rfl,by omega,fun e52 h52=>?_⟩;have hl52:=kM hT (aAx h52);have hb:=aMs (cols:=f.src) (c:=f.dst) h52 h36;refine⟨aBb _ _ (by omega),kA _ _,dd (fun g63=>?_) fun g63=>?_⟩
    ·refine⟨by omega,rfl,by omega,fun e67 h67=>?_⟩;obtain rfl:=(bF h52 h67).symm;refine⟨by omega,rfl,by omega,fun e71 h71=>?_⟩;refine⟨by omega,rfl,by omega,fun e76 h76=>?_⟩;obtain rfl:=(bF h36 h76).symm;refine⟨by omega,rfl,by omega,fun e80 h80=>?_⟩;refine dn (fun c2=>?_) fun c2=>?_
     ·have hB:aL2 (aE d f.name).1.rows f.src f.dst i k=true:=by rw[hb,aT h71,aT h80,eV.1 g63];simp[c2]
      have hE:=aFZ hv hw hB (by omega) (by omega:k<(aE d f.name).1.rows.length);apply et1
      ·(rw[hV,hE]<;>rfl)
     ·refine⟨⟨by omega,by omega⟩,?_⟩;exact⟨i+1,rfl,⟨by omega,aBl hw (by rw[hb];(rw[aT h71,aT h80];simp[c2];done))⟩,by omega⟩
    ·refine⟨⟨by omega,by omega⟩,?_⟩;exact⟨i+1,rfl,⟨by omega,aBl hw (by rw[hb];(simp[show ¬(gB e52 f.src).1=(gB e36 f.src).1 from fun q=>g63 (eV.2 q)];done))⟩,by omega⟩
   ·refine⟨⟨by omega,by omega⟩,?_⟩;exact⟨k+1,rfl,⟨by omega,aF0 hv (by obtain rfl:i=k:=(by omega);exact hw)⟩,by omega⟩
  ·have hE:jX d f= []:=by (rw[jX,if_neg (by rw[c0];decide)];done)
   apply et1
   ·(rw[hE]<;>rfl)
 ·have hE:jX d f= []:=by (rw[jX];split<;>first|(rw[show (aE d f.name).1.rows.length=k by omega,hv];done)|rfl)
  apply et1
  ·(rw[hE]<;>rfl)
abbrev aBt (d:aL)(f:aU):Prop:=Cn 90 [.agg [.sl 88 3 (d.tables.map aG)],.agg [.str f.name,.sl 3 1 (f.src.map intD),.int .i64 f.dst]] (vB (iN d f)) []
theorem aL6 (d:aL)(f:aU)(hc:bO d<=1048576):aBt d f:=by
 refine cq Tryz.func90 (.call (vB (hZ d f)) []<| .br (cH (yE d f)<| .len ((jX d f).length)<| .fin []) (.fin [])) (p:=Lx (d.tables.map aG)<| Lx (f.src.map intD)<| uU d f/\Bb (hZ d f) (aD0 d f/\Lm intD (jX d f)/\(decide ((((jX d f).length:Nat):Int)=0))=(iN d f)/\True) ((false)=(iN d f)/\True)) (by kernel_rfl) ?_;refine lx fun n0=>lx fun n1=>?_;refine⟨aF1 _ _ (by omega),db (fun g8=>?_) fun g8=>?_⟩
 ·refine⟨aOV _ _ (by omega),aAJ _,?_,trivial⟩
  ·(simp[iN, *];done)
 ·apply et1
  ·(simp[iN, *];done)
abbrev vC (d:aL)(f:aU):Prop:=Cn 98 [.agg [.sl 88 3 (d.tables.map aG)],.agg [.str f.name,.sl 3 1 (f.src.map intD),.int .i64 f.dst]] (vB (iN d f)) []
theorem aFa (d:aL)(f:aU)(hc:bO d<=1048576):vC d f:=by
 refine cq Tryz.func98 (.call (vB (hZ d f)) []<| .br (cH (yF d f)<| .len ((jX d f).length)<| .fin []) (.fin [])) (p:=Lx (d.tables.map aG)<| Lx (f.src.map intD)<| uV d f/\Bb (hZ d f) (aD1 d f/\Lm intD (jX d f)/\(decide ((((jX d f).length:Nat):Int)=0))=(iN d f)/\True) ((false)=(iN d f)/\True)) (by kernel_rfl) ?_;refine lx fun n0=>lx fun n1=>?_;refine⟨aF2 _ _ (by omega),db (fun g8=>?_) fun g8=>?_⟩
 ·refine⟨aOW _ _ (by omega),aAJ _,?_,trivial⟩
  ·(simp[iN, *];done)
 ·apply et1
  ·(simp[iN, *];done)
abbrev yG (d:aL)(x:aO):AV × List (Nat × Rs):=(.own 0,[(0,.arr 3 1 true ((vZ d x).map intD))])
abbrev aD2 (d:aL)(x:aO):Prop:=Cn 149 [.agg [.sl 88 3 (d.tables.map aG)],.agg [.str x.name,.int .i64 x.column,.str x.into,.int .i64 x.intoColumn]] (yG d x).1 (yG d x).2
theorem aOX (d:aL)(x:aO)(hc:bO d<=1048576):aD2 d x:=by
 refine cq Tryz.func149 (.call (vB (gE d x)) []<| .br (.fin []) (.call (.tup [.agg [.p none (.str ((aE d x.name).1.name)),vI ((aE d x.name).1.arity),.p none (.sl 34 1 ((aE d x.name).1.rows.map aD))],vB ((aE d x.name).2)]) []<| .call (.tup [.agg [.p none (.str ((aE d x.into).1.name)),vI ((aE d x.into).1.arity),.p none (.sl 34 1 ((aE d x.into).1.rows.map aD))],vB ((aE d x.into).2)]) []<| .len ((aE d x.into).1.rows.length)<| .loop (Nat × (List Int)) (Q2 Nat (List Int)) ([9,11,34]++rg 38 13) [3400,4800,4900] (fun yy0=>[(38,vI (yy0.1:Int)),(9,.own 3400)]) (fun yy0=>[(3400,some (.arr 3 1 true (yy0.2.map intD)))]) (fun yy0=>yy0.1<=(aE d x.into).1.rows.length/\yy0.2=gL ((aE d x.into).1.rows.take yy0.1) x.intoColumn) (fun yy0=>(aE d x.into).1.rows.length - yy0.1) (fun yy0=> .br (.elem _ aD ((aE d x.into).1.rows) (fun e40=> .elem _ intD e40 (fun e46=> .app Int intD yy0.2 ([e46]:List Int)<| .back [(3400,4900)]))) (.len ((aE d x.name).1.rows.length)<| .loop (Nat × (List Int)) (Q2 Nat (List Int)) ([12,14,15,51]++rg 55 18) [5100,7000,7100] (fun yy1=>[(55,vI (yy1.1:Int)),(12,.own 5100)]) (fun yy1=>[(5100,some (.arr 3 1 true (yy1.2.map intD)))]) (fun yy1=>yy1.1<=(aE d x.name).1.rows.length/\yy1.2=(gL ((aE d x.name).1.rows.take yy1.1) x.column).filter fun v=> !decide (v∈yy0.2)) (fun yy1=>(aE d x.name).1.rows.length - yy1.1) (fun yy1=> .br (.elem _ aD ((aE d x.name).1.rows) (fun e57=> .elem _ intD e57 (fun e62=> .call (vB (decide (e62∈yy0.2))) []<| .br (.app Int intD yy1.2 ([e62]:List Int)<| .back [(5100,7100)]) (.back [(5100,5100)])))) (.callx [.own 0] [(0,.arr 3 1 true (yy1.2.map intD))] [(0,5100)] (.tup []) [(0,.arr 3 1 true ((pT yy1.2).map intD))]<| .callx [.own 0] [(0,.arr 3 1 true ((pT yy1.2).map intD))] [(0,5100)] (.own 1) [(1,.arr 3 1 true ((sF (pT yy1.2)).map intD))]<| .fin [(0,7601)])))))) (p:=Lx (d.tables.map aG)<| uX d x/\Nr (gE d x) ([]=(vZ d x).map intD/\True) (vX Tryz.prog 86 [.agg [.sl 88 3 (d.tables.map aG)],.one (.str x.name)] (.tup [.agg [.p none (.str ((aE d x.name).1.name)),vI ((aE d x.name).1.arity),.p none (.sl 34 1 ((aE d x.name).1.rows.map aD))],vB ((aE d x.name).2)]) []/\(vX Tryz.prog 86 [.agg [.sl 88 3 (d.tables.map aG)],.one (.str x.into)] (.tup [.agg [.p none (.str ((aE d x.into).1.name)),vI ((aE d x.into).1.arity),.p none (.sl 34 1 ((aE d x.into).1.rows.map aD))],vB ((aE d x.into).2)]) []/\(Lm aD ((aE d x.into).1.rows)/\((∃(k:Nat) (there:List Int),0=(k:Int)/\[]=there.map intD/\k<=(aE d x.into).1.rows.length/\there=gL ((aE d x.into).1.rows.take k) x.intoColumn)/\ ∀(k:Nat) (there:List Int),(k<=(aE d x.into).1.rows.length/\there=gL ((aE d x.into).1.rows.take k) x.intoColumn)->Br ((k:Int)<(((aE d x.into).1.rows.length:Nat):Int)) (0<=(k:Int)/\Em aD ((aE d x.into).1.rows) k fun e40=>0<=x.intoColumn/\Em intD e40 ((x.intoColumn).toNat) fun e46=>Ap intD there ([e46]:List Int) 8 (bW ((k:Int)+1)/\ ∃(k' :Nat) (there' :List Int),((k:Int)+1)=(k' :Int)/\(there++[e46]).map intD=there'.map intD/\(k' <=(aE d x.into).1.rows.length/\there' =gL ((aE d x.into).1.rows.take k') x.intoColumn)/\(aE d x.into).1.rows.length - k' <(aE d x.into).1.rows.length - k)) (Lm aD ((aE d x.name).1.rows)/\((∃(j:Nat) (out:List Int),0=(j:Int)/\[]=out.map intD/\j<=(aE d x.name).1.rows.length/\out=(gL ((aE d x.name).1.rows.take j) x.column).filter fun v=> !decide (v∈there))/\ ∀(j:Nat) (out:List Int),(j<=(aE d x.name).1.rows.length/\out=(gL ((aE d x.name).1.rows.take j) x.column).filter fun v=> !decide (v∈there))->Br ((j:Int)<(((aE d x.name).1.rows.length:Nat):Int)) (0<=(j:Int)/\Em aD ((aE d x.name).1.rows) j fun e57=>0<=x.column/\Em intD e57 ((x.column).toNat) fun e62=>aFW there e62/\Nr (decide (e62∈there)) (Ap intD out ([e62]:List Int) 8 (bW ((j:Int)+1)/\ ∃(j' :Nat) (out' :List Int),((j:Int)+1)=(j' :Int)/\(out++[e62]).map intD=out'.map intD/\(j' <=(aE d x.name).1.rows.length/\out' =(gL ((aE d x.name).1.rows.take j') x.column).filter fun v=> !decide (v∈there))/\(aE d x.name).1.rows.length - j' <(aE d x.name).1.rows.length - j)) (bW ((j:Int)+1)/\ ∃(j' :Nat) (out' :List Int),((j:Int)+1)=(j' :Int)/\out.map intD=out'.map intD/\(j' <=(aE d x.name).1.rows.length/\out' =(gL ((aE d x.name).1.rows.take j') x.column).filter fun v=> !decide (v∈there))/\(aE d x.name).1.rows.length - j' <(aE d x.name).1.rows.length - j)) (pN Tryz.prog 189 [.own 0] [(0,.arr 3 1 true (out.map intD))] (.tup []) [(0,.arr 3 1 true ((pT out).map intD))]/\out.map intD=out.map intD/\pN Tryz.prog 190 [.own 0] [(0,.arr 3 1 true ((pT out).map intD))] (.own 1) [(1,.arr 3 1 true ((sF (pT out)).map intD))]/\(pT out).map intD=(pT out).map intD/\(sF (pT out)).map intD=(vZ d x).map intD/\True)))))))) (by kernel_rfl) ?_;refine lx fun n0=>?_;refine⟨aF3 _ _ (by omega),dm (fun c0=>?_) fun c0=>?_⟩
 ·have hbad:vZ d x= []:=by rw[vZ,if_neg (by simpa using c0)]
  apply et1
  ·(rw[hbad]<;>rfl)
 ·have hok:gE d x=true:=by simpa using c0
  obtain⟨hTa,hTb,hca,hcb⟩:=yB hok;have hA8:=bP hTa;have hB8:=bP hTb;refine⟨iV (rH _ x.name (by omega)) rfl,iV (rH _ x.into (by omega)) rfl,aAJ _,⟨0,([]:List Int),rfl,rfl,aAU _,rfl⟩,fun k there ⟨hk,hth⟩=>?_⟩;have htl:there.length=k:=by rw[hth,gL,aAJ,aOe];omega
  refine dd (fun c1=>?_) fun c1=>?_
  ·refine⟨by omega,rfl,by omega,fun e40 h40=>?_⟩;have hl40:=kM hTb (aAx h40);refine⟨by omega,rfl,by omega,fun e46 h46=>?_⟩;refine ap ?_ (fun _=>rfl) (by (simp;omega));refine⟨⟨by omega,by omega⟩,?_⟩;exact⟨k+1,_,rfl,rfl,⟨by omega,by rw[mK _ _ h40,<-hth,aT h46]⟩,by omega⟩
  ·have hTH:there=gL (aE d x.into).1.rows x.intoColumn:=by rw[hth,aCy (by omega)]
   refine⟨aAJ _,⟨0,([]:List Int),rfl,rfl,aAU _,rfl⟩,fun j out ⟨hj,ho⟩=>?_⟩;have hol:out.length<=j:=by rw[ho];refine Nat.le_trans (List.length_filter_le _ _) ?_;simp[gL];omega
   refine dd (fun c2=>?_) fun c2=>?_
   ·refine⟨by omega,rfl,by omega,fun e57 h57=>?_⟩;have hl57:=kM hTa (aAx h57);refine⟨by omega,rfl,by omega,fun e62 h62=>?_⟩;refine⟨ctI _ _,dm (fun c3=>?_) fun c3=>?_⟩
    ·refine ap ?_ (fun _=>rfl) (by (simp[hth];omega));refine⟨⟨by omega,by omega⟩,?_⟩;exact⟨j+1,_,rfl,rfl,⟨by omega,by rw[mK _ _ h57,List.filter_append,<-ho,aT h62,List.filter_cons_of_pos (by simpa using c3)];rfl⟩,by omega⟩
    ·refine⟨⟨by omega,by omega⟩,?_⟩;exact⟨j+1,_,rfl,rfl,⟨by omega,by rw[mK _ _ h57,List.filter_append,<-ho,aT h62,List.filter_cons_of_neg (by simpa using c3)];simp⟩,by omega⟩
   ·have hE:vZ d x=sF (pT out):=by rw[vZ,if_pos hok,aBm,ho,hTH,aCy (by omega)]
    refine⟨aOI out (by omega),rfl,aOJ (pT out) (by (rw[zS];omega)),rfl,?_,trivial⟩
    ·(rw[hE]<;>rfl)
abbrev aBu (d:aL)(x:aO):Prop:=Cn 91 [.agg [.sl 88 3 (d.tables.map aG)],.agg [.str x.name,.int .i64 x.column,.str x.into,.int .i64 x.intoColumn]] (vB (iJ d x)) []
theorem aL7 (d:aL)(x:aO)(hc:bO d<=1048576):aBu d x:=by
 refine cq Tryz.func91 (.call (vB (gE d x)) []<| .br (cH (yG d x)<| .len ((vZ d x).length)<| .fin []) (.fin [])) (p:=Lx (d.tables.map aG)<| uX d x/\Bb (gE d x) (aD2 d x/\Lm intD (vZ d x)/\(decide ((((vZ d x).length:Nat):Int)=0))=(iJ d x)/\True) ((false)=(iJ d x)/\True)) (by kernel_rfl) ?_;refine lx fun n0=>?_;refine⟨aF3 _ _ (by omega),db (fun g8=>?_) fun g8=>?_⟩
 ·refine⟨aOX _ _ (by omega),aAJ _,?_,trivial⟩
  ·(rw[iJ,g8,aJz,aON g8];rfl)
 ·apply et1
  ·(simp[iJ, *];done)
end Go.Proofs.YtafmaholhcgakaaGreat
