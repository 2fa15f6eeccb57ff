/-
  Contracts and plain laws, joined: part 5.
-/
import Derived.Test.Ytafmaholhcgakaaer3
import Derived.IntWalk
import Derived.Lib.SlicesCompact
namespace Go.Proofs.Ytafmaholhcgakaa
open Go.ChangeShapes Go.WideShapes Go.ChangeAt Go.RowKit
set_option linter.unusedVariables false
set_option linter.unusedSimpArgs false
set_option maxRecDepth 100000
set_option maxHeartbeats 4000000
abbrev isN (n:ByteArray):bA->Bool:=fun t=>t.name.toList==n.toList
abbrev isI (v:Int):Int->Bool:=fun y=>decide (v=y)
theorem aEa {α:Type}{p:α->Bool}{l:List α}:(aGu p l<0->l.find? p=none)/\(0<=aGu p l-> ∃(k:Nat) (x:α),aGu p l=(k:Int)/\l[k]? =some x/\l.find? p=some x):=by
 unfold aGu;cases e:l.findIdx? p with
 | none=>
   rw[List.findIdx?_eq_none_iff] at e;refine⟨fun _=>List.find?_eq_none.2 fun x hx=>by rw[e x hx];decide,fun h=>absurd h (by decide)⟩
 | some k=>
   rw[List.findIdx?_eq_some_iff_getElem] at e;obtain⟨hk,hx,hj⟩:=e;refine⟨fun h=>absurd h (by simp only;omega),fun _=>⟨k,l[k],rfl,aBM hk,?_⟩⟩;rw[List.find?_eq_some_iff_getElem];exact⟨hx,k,hk,rfl,fun j hjk=>by have:=hj j hjk;simpa using this⟩
theorem aMs {l:List Int}{v:Int}:decide (0<=aGu (isI v) l)=decide (v∈l):=by
 apply Bool.eq_iff_iff.2;rw[aH9,aH9];constructor
 ·intro h;obtain⟨k,x,_,hx,hf⟩:=aEa.2 h;have h1:=List.find?_some hf;have:v=x:=by simpa [isI] using h1
  rw[this];exact aAm hx
 intro h;rcases Int.lt_or_le (aGu (isI v) l) 0 with q | q
 ·have:=aEa.1 q;rw[List.find?_eq_none] at this;exact absurd (this v h) (by simp[isI])
 exact q
def aN (d:aO)(n:ByteArray):bA × Bool:=if lF d=true then (match d.tables.find? (isN n) with | some t=>(t,true) | none=>(oM,false)) else (oM,false)
theorem aGw {d:aO}{n:ByteArray}(h:lF d=false\/d.tables.find? (isN n)=none):aN d n=(oM,false):=by
 unfold aN;rcases h with h | h
 ·rw[if_neg (by rw[h];decide)]
 rw[h];split<;>rfl
theorem aKh {d:aO}{n:ByteArray}{t:bA}(h:lF d=true)(hf:d.tables.find? (isN n)=some t):aN d n=(t,true):=by rw[aN,if_pos h,hf]
theorem aGx {d:aO}(h:lF d=true):d.tables.all aT=true:=by
 simp only[lF,aA1] at h;exact h.1
theorem qV {d:aO}{n:ByteArray}(h:(aN d n).2=true):aT (aN d n).1=true/\lF d=true:=by
 unfold aN at*;split at h
 ·rename_i hd;rw[if_pos hd];cases e:d.tables.find? (isN n) with
  | none=>rw[e] at h;cases h
  | some t=>exact⟨aDW.1 (aGx hd) t (List.mem_of_find?_eq_some e),hd⟩
 cases h
abbrev aCe (d:aO)(n:ByteArray):AV × List (Nat × Rs):=(.tup [.agg [.p none (.str ((aN d n).1.name)),vI ((aN d n).1.arity),.own 0],vB ((aN d n).2)],[(0,.arr 27 1 true ((aN d n).1.rows.map aD))])
abbrev aIP (d:aO)(n:ByteArray):Prop:=Cn 77 [.agg [.sl 114 3 (d.tables.map aM)],.one (.str n)] (aCe d n).1 (aCe d n).2
theorem oS (d:aO)(n:ByteArray)(hc:cT d<=1048576):aIP d n:=by
 refine cq Try.func77 (.loop Nat (Q1 Nat) (rg 6 20) [] (fun k=>[(6,vI (k:Int))]) (fun k=>[]) (fun k=>k<=d.tables.length/\(d.tables.take k).all (fun y=> !isN n y)=true) (fun k=>d.tables.length - k) (fun k=> .len d.tables.length<| .br (.call (vB (lF d)) []<| .lit<| .br (.elem _ aM d.tables (fun e21=> .br (.elem _ aM d.tables (fun e29=>dT (rW e29)<| .fin [(0,3100)])) (.back []))) (.fin [])) (.fin []))) (p:=Lx (d.tables.map aM)<| (∃(k:Nat),0=(k:Int)/\k<=d.tables.length/\(d.tables.take k).all (fun y=> !isN n y)=true)/\ ∀(k:Nat),(k<=d.tables.length/\(d.tables.take k).all (fun y=> !isN n y)=true)->Lm aM d.tables/\Br ((k:Int)<(d.tables.length:Int)) (aAX d/\Bb (lF d) (0<=(k:Int)/\Em aM d.tables k fun e21=>Bb (e21.name.toList==n.toList) (0<=(k:Int)/\Em aM d.tables k fun e29=>xE e29/\e29.name=((aN d n).1.name)/\e29.arity=((aN d n).1.arity)/\(true)=((aN d n).2)/\e29.rows.map aD=(aN d n).1.rows.map aD/\True) (bS ((k:Int)+1)/\ ∃(k' :Nat),((k:Int)+1)=(k' :Int)/\(k' <=d.tables.length/\(d.tables.take k').all (fun y=> !isN n y)=true)/\d.tables.length - k' <d.tables.length - k)) (ByteArray.empty=((aN d n).1.name)/\0=((aN d n).1.arity)/\(false)=((aN d n).2)/\[]=(aN d n).1.rows.map aD/\True)) (ByteArray.empty=((aN d n).1.name)/\0=((aN d n).1.arity)/\(false)=((aN d n).2)/\[]=(aN d n).1.rows.map aD/\True)) (by kernel_rfl) ?_;refine lx fun n0=>?_;have q1:cT d=yT d.tables:=rfl;refine⟨⟨0,rfl,aAc _,rfl⟩,fun k ⟨hk,ha⟩=>?_⟩;refine⟨aA0 _,dd (fun g12=>?_) fun g12=>?_⟩
 ·refine⟨aJ6 d,db (fun c0=>?_) fun c0=>?_⟩
  ·refine⟨by omega,rfl,by omega,fun e21 h21=>?_⟩
   try (obtain rfl:=(bE h21 h21).symm)
   have q2:=aC0 h21;refine db (fun c1=>?_) fun c1=>?_
   ·have hok:=aKh (n:=n) c0 (aJ4 (p:=isN n) h21 ha c1);refine⟨by omega,rfl,by omega,fun e29 h29=>?_⟩
    try (obtain rfl:=(bE h21 h29).symm)
    refine⟨aGv _ (by omega),?_,?_,?_,?_,trivial⟩<;>((rw[hok]<;>rfl))
   ·refine⟨⟨by omega,by omega⟩,?_⟩;exact⟨k+1,rfl,⟨by omega,dB h21 ha (by simp[isN,c1])⟩,by omega⟩
  ·have hbad:aN d n=(oM,false):=aGw (by (left;exact c0));apply et4<;>((rw[hbad]<;>rfl))
 ·have hbad:aN d n=(oM,false):=aGw (by (right;exact aJ5 (dZ (by omega) ha)));apply et4<;>((rw[hbad]<;>rfl))
abbrev aMt (l:List Int)(v:Int):Prop:=Cn 62 [.one (.sl 3 1 (l.map aC)),.one (.int .i64 v)] (vB (decide (v∈l))) []
theorem hsI (l:List Int)(v:Int):aMt l v:=by
 refine cq Try.func62 (.loop Nat (Q1 Nat) (rg 5 13) [] (fun k=>[(5,vI (k:Int))]) (fun k=>[]) (fun k=>k<=l.length/\(l.take k).all (fun y=> !isI v y)=true) (fun k=>l.length - k) (fun k=> .len l.length<| .br (.elem _ aC l (fun e14=> .br (.fin []) (.back []))) (.fin []))) (p:=Lx (l.map aC)<| (∃(k:Nat),0=(k:Int)/\k<=l.length/\(l.take k).all (fun y=> !isI v y)=true)/\ ∀(k:Nat),(k<=l.length/\(l.take k).all (fun y=> !isI v y)=true)->Lm aC l/\Br ((k:Int)<(l.length:Int)) (0<=(k:Int)/\Em aC l k fun e14=>Br (e14=v) ((true)=(decide (v∈l))/\True) (bS ((k:Int)+1)/\ ∃(k' :Nat),((k:Int)+1)=(k' :Int)/\(k' <=l.length/\(l.take k').all (fun y=> !isI v y)=true)/\l.length - k' <l.length - k)) ((false)=(decide (v∈l))/\True)) (by kernel_rfl) ?_;refine lx fun n0=>?_;refine⟨⟨0,rfl,aAc _,rfl⟩,fun k ⟨hk,ha⟩=>?_⟩;refine⟨aA0 _,dd (fun c0=>?_) fun c0=>?_⟩
 ·refine⟨by omega,rfl,by omega,fun e14 h14=>?_⟩;refine dd (fun c1=>?_) fun c1=>?_
  ·have hE:decide (v∈l)=true:=by rw[<-c1];exact decide_eq_true (aAm h14)
   apply et1
   ·rw[hE]
  ·refine⟨⟨by omega,by omega⟩,?_⟩;exact⟨k+1,rfl,⟨by omega,dB h14 ha (by simpa [isI] using fun q=>c1 (Eq.symm q))⟩,by omega⟩
 ·have hE:decide (v∈l)=false:=by rw[<-aMs,aPO (p:=isI v) (dZ (by omega) ha)];rfl
  apply et1
  ·rw[hE]
def lV (d:aO)(f:aW):Bool:=(aN d f.name).2&&(eL ((aN d f.name).1.arity - 1) f.src&&(fB f.dst 0 ((aN d f.name).1.arity - 1)&& !decide (f.dst∈f.src)))
def aKi (rows:List (List Int))(cols:List Int)(c:Int)(i k:Nat):Bool:=decide ((iN (rows.getD i []) cols).1=(iN (rows.getD k []) cols).1)&& !decide ((rows.getD i []).getD c.toNat 0=(rows.getD k []).getD c.toNat 0)
def kQ (rows:List (List Int))(cols:List Int)(c:Int)(k:Nat):Nat->List Int
 | 0=>[]
 | i+1=>if kQ rows cols c k i= []/\aKi rows cols c i k=true then [(i:Int),(k:Int)] else kQ rows cols c k i
def lG (rows:List (List Int))(cols:List Int)(c:Int):Nat->List Int
 | 0=>[]
 | k+1=>if lG rows cols c k= [] then kQ rows cols c k k else lG rows cols c k
def pO (d:aO)(f:aW):List Int:=if lV d f=true then lG (aN d f.name).1.rows f.src f.dst (aN d f.name).1.rows.length else []
theorem aGy {rows:List (List Int)}{cols:List Int}{c:Int}{k i:Nat}(h:kQ rows cols c k i= [])(hb:aKi rows cols c i k=false):kQ rows cols c k (i+1)= []:=by rw[kQ,if_neg (by simp[hb]),h]
theorem aCf {rows:List (List Int)}{cols:List Int}{c:Int}{k i:Nat}(h: ¬kQ rows cols c k i= []): ∀j,kQ rows cols c k (i+j)=kQ rows cols c k i
 | 0=>rfl
 | j+1=>by rw[Nat.add_succ,kQ,aCf h j,if_neg (by simp[h])]
theorem aCg {rows:List (List Int)}{cols:List Int}{c:Int}{k:Nat}(h: ¬lG rows cols c k= []): ∀j,lG rows cols c (k+j)=lG rows cols c k
 | 0=>rfl
 | j+1=>by rw[Nat.add_succ,lG,aCg h j,if_neg h]
theorem aIQ {rows:List (List Int)}{cols:List Int}{c:Int}{k i n:Nat}(hk:lG rows cols c k= [])(hi:kQ rows cols c k i= [])(hb:aKi rows cols c i k=true)(hik:i<k)(hkn:k<n):lG rows cols c n= [(i:Int),(k:Int)]:=by
 have h1:kQ rows cols c k (i+1)= [(i:Int),(k:Int)]:=by rw[kQ,if_pos ⟨hi,hb⟩]
 have h2:kQ rows cols c k k= [(i:Int),(k:Int)]:=by
  have:=aCf (rows:=rows) (cols:=cols) (c:=c) (k:=k) (i:=i+1) (by rw[h1];simp) (k - (i+1));rw[show i+1+(k - (i+1))=k by omega,h1] at this;exact this
 have h3:lG rows cols c (k+1)= [(i:Int),(k:Int)]:=by rw[lG,if_pos hk,h2]
 have:=aCg (rows:=rows) (cols:=cols) (c:=c) (k:=k+1) (by rw[h3];simp) (n - (k+1));rw[show k+1+(n - (k+1))=n by omega,h3] at this;exact this
theorem aIR {rows:List (List Int)}{cols:List Int}{c:Int}{k:Nat}(hk:lG rows cols c k= [])(hi:kQ rows cols c k k= []):lG rows cols c (k+1)= []:=by rw[lG,if_pos hk,hi]
theorem aGz {d:aO}{f:aW}(h:lV d f=true):aT (aN d f.name).1=true/\0<=f.dst/\f.dst<=(aN d f.name).1.arity - 1/\f.src.length<=3:=by
 simp only[lV,aA1] at h;obtain⟨h1,h2,h3,_⟩:=h;have hT:=(qV h1).1;have ha:=cP hT;have:=dS h3;exact⟨hT,this.1,this.2,yY h2 (by omega)⟩
theorem aPP {rows:List (List Int)}{cols:List Int}{c:Int}{i k:Nat}{x y:List Int}(hx:rows[i]? =some x)(hy:rows[k]? =some y):aKi rows cols c i k=(decide ((iN x cols).1=(iN y cols).1)&& !decide (x.getD c.toNat 0=y.getD c.toNat 0)):=by
 rw[aKi,bB hx,bB hy]
def lW (d:aO)(f:aW):Bool:=lV d f&&decide (pO d f= [])
theorem aMu {α:Type}[DecidableEq α](l:List α):decide ((l.length:Int)=0)=decide (l= []):=by
 cases l with
 | nil=>rfl
 | cons a l=>simp;omega
abbrev rX (d:aO)(f:aW):Prop:=Cn 64 [.agg [.sl 114 3 (d.tables.map aM)],.agg [.str f.name,.sl 3 1 (f.src.map aC),.int .i64 f.dst]] (vB (lV d f)) []
theorem aCh (d:aO)(f:aW)(hc:cT d<=1048576):rX d f:=by
 refine cq Try.func64 (.call (.tup [.agg [.p none (.str ((aN d f.name).1.name)),vI ((aN d f.name).1.arity),.p none (.sl 27 1 ((aN d f.name).1.rows.map aD))],vB ((aN d f.name).2)]) []<| .br (.call (vB (aT ((aN d f.name).1)&&eL ((aN d f.name).1.arity - 1) f.src)) []<| .lit<| .br (.raw<| .call (vB (fB f.dst (0:Int) (IntKind.i64.wrap (((aN d f.name).1.arity) - 1)))) []<| .lit<| .br (.call (vB (decide (f.dst∈f.src))) []<| .fin []) (.fin [])) (.fin [])) (.fin [])) (p:=Lx (d.tables.map aM)<| Lx (f.src.map aC)<| Con Try.prog 77 [.agg [.sl 114 3 (d.tables.map aM)],.one (.str f.name)] (.tup [.agg [.p none (.str ((aN d f.name).1.name)),vI ((aN d f.name).1.arity),.p none (.sl 27 1 ((aN d f.name).1.rows.map aD))],vB ((aN d f.name).2)]) []/\Bb ((aN d f.name).2) (uD ((aN d f.name).1) f.src/\Bb (aT ((aN d f.name).1)&&eL ((aN d f.name).1.arity - 1) f.src) (dN f.dst (0:Int) (IntKind.i64.wrap (((aN d f.name).1.arity) - 1))/\Bb (fB f.dst (0:Int) (IntKind.i64.wrap (((aN d f.name).1.arity) - 1))) (aMt f.src f.dst/\(!(decide (f.dst∈f.src)))=(lV d f)/\True) ((false)=(lV d f)/\True)) ((false)=(lV d f)/\True)) ((false)=(lV d f)/\True)) (by kernel_rfl) ?_;refine lx fun n0=>lx fun n1=>?_;refine⟨pH (oS _ f.name (by omega)) rfl,db (fun g15=>?_) fun g15=>?_⟩
 ·have hT:=(qV g15).1;have hA:=cP hT;have hw:IntKind.i64.wrap ((aN d f.name).1.arity - 1)=(aN d f.name).1.arity - 1:=IntWalk.i64_in _ ⟨by omega,by omega⟩
  try rw[hw]
  refine⟨aE6 ((aN d f.name).1) _,db (fun g21=>?_) fun g21=>?_⟩
  ·refine⟨fT _ _ _,db (fun g29=>?_) fun g29=>?_⟩
   ·refine⟨hsI _ _,?_,trivial⟩
    ·(simp[lV, *] at*;simp[*];done)
   ·apply et1
    ·(simp[lV, *];done)
  ·apply et1
   ·(simp[lV, *] at*;simp[*];done)
 ·apply et1
  ·(simp[lV, *];done)
def aMv (l:List Int):List Int:=l.mergeSort fun x y=>decide (x<=y)
theorem aIS (l:List Int):(aMv l).Perm l:=List.mergeSort_perm l _
theorem aIT (l:List Int):(aMv l).Pairwise (· <= ·):=by
 have:=List.pairwise_mergeSort (le:=fun x y:Int=>decide (x<=y)) (fun a b c h1 h2=>by simp at*;omega) (fun a b=>by simp;omega) l;exact this.imp (fun h=>by simpa using h)
end Go.Proofs.Ytafmaholhcgakaa
namespace Go.Proofs.Ytafmaholhcgakaa
open Go.ChangeShapes Go.WideShapes Go.ChangeAt Go.RowKit
set_option linter.unusedVariables false
set_option linter.unusedSimpArgs false
open Go.Lib
end Go.Proofs.Ytafmaholhcgakaa
namespace Go.Proofs.Ytafmaholhcgakaa
open Go.ChangeShapes Go.WideShapes Go.ChangeAt Go.RowKit
set_option linter.unusedVariables false
set_option linter.unusedSimpArgs false
set_option maxRecDepth 100000
set_option maxHeartbeats 4000000
def lH (d:aO)(x:bC):Bool:=(aN d x.name).2&&((aN d x.into).2&&(fB x.column 0 ((aN d x.name).1.arity - 1)&&fB x.intoColumn 0 ((aN d x.into).1.arity - 1)))
def kR (rows:List (List Int))(c:Int):List Int:=rows.map fun r=>r.getD c.toNat 0
def aMw (d:aO)(x:bC):List Int:=(kR (aN d x.name).1.rows x.column).filter fun v=> !decide (v∈kR (aN d x.into).1.rows x.intoColumn)
def zG (d:aO)(x:bC)(v:Nat):Bool:=decide ((v:Int)∈kR (aN d x.name).1.rows x.column)&& !decide ((v:Int)∈kR (aN d x.into).1.rows x.intoColumn)
def lX (d:aO)(x:bC)(n:Nat):List Int:=((List.range n).filter (zG d x)).map fun v:Nat=>(v:Int)
def sR (d:aO)(x:bC):List Int:=if lH d x=true then lX d x 10 else []
def lY (d:aO)(x:bC):Bool:=lH d x&&decide (aMw d x= [])
theorem aKj {d:aO}{x:bC}{v:Nat}(h:zG d x v=true):lX d x (v+1)=lX d x v++[(v:Int)]:=by
 rw[lX,List.range_succ,List.filter_append,aDj];simp[lX,h]
theorem aHA {d:aO}{x:bC}{v:Nat}(h:zG d x v=false):lX d x (v+1)=lX d x v:=by
 rw[lX,List.range_succ,List.filter_append,aDj];simp[lX,h]
theorem aKk (d:aO)(x:bC)(v:Nat):(lX d x v).length<=v:=by
 rw[lX,aA0];have:=List.length_filter_le (zG d x) (List.range v)
 rwa [List.length_range] at this
theorem rY (rows:List (List Int))(c:Int){k:Nat}{r:List Int}(h:rows[k]? =some r):kR (rows.take (k+1)) c=kR (rows.take k) c++[r.getD c.toNat 0]:=by rw[bQ h,kR,aDj];rfl
theorem qW {l:List Int}{v y:Int}:decide (v∈l++[y])=(decide (v∈l) || decide (v=y)):=by simp[Bool.decide_or]
theorem aKl {t:bA}{c:Int}{v:Int}(h:aT t=true)(hc:0<=c/\c<=t.arity - 1)(hv:v∈kR t.rows c):0<=v/\v<=9:=by
 obtain⟨r,hr,rfl⟩:=aFm.1 hv;have hl:=vL h hr;have hk:=aDW.1 (mS h).1 r hr;simp only[nS,aA1,aH9] at hk;have hlt:c.toNat<r.length:=by omega
 have hm:r.getD c.toNat 0∈r:=by rw[aD6,aBM hlt];exact aL5 hlt
 exact dS (aDW.1 hk.1 _ hm)
theorem aAt {d:aO}{x:bC}(h:lH d x=true):aT (aN d x.name).1=true/\aT (aN d x.into).1=true/\(0<=x.column/\x.column<=(aN d x.name).1.arity - 1)/\(0<=x.intoColumn/\x.intoColumn<=(aN d x.into).1.arity - 1):=by
 simp only[lH,aA1] at h;obtain⟨h1,h2,h3,h4⟩:=h;exact⟨(qV h1).1,(qV h2).1,dS h3,dS h4⟩
theorem aKm {d:aO}{x:bC}(h:lH d x=true):decide (sR d x= [])=decide (aMw d x= []):=by
 obtain⟨h1,_,h3,_⟩:=aAt h;rw[sR,if_pos h];apply Bool.eq_iff_iff.2;rw[aH9,aH9,lX,List.map_eq_nil_iff,List.filter_eq_nil_iff,aMw,List.filter_eq_nil_iff];constructor
 ·intro q v hv hb;have hr:=aKl h1 h3 hv;refine q v.toNat (aGS.2 (by omega)) ?_;rw[zG,Int.toNat_of_nonneg hr.1];simp only[aA1,aH9];exact⟨hv,hb⟩
 intro q v _ hb;rw[zG,aA1,aH9] at hb;exact q _ hb.1 hb.2
abbrev rZ (d:aO)(x:bC):Prop:=Cn 66 [.agg [.sl 114 3 (d.tables.map aM)],.agg [.str x.name,.int .i64 x.column,.str x.into,.int .i64 x.intoColumn]] (vB (lH d x)) []
theorem aCi (d:aO)(x:bC)(hc:cT d<=1048576):rZ d x:=by
 refine cq Try.func66 (.call (.tup [.agg [.p none (.str ((aN d x.name).1.name)),vI ((aN d x.name).1.arity),.p none (.sl 27 1 ((aN d x.name).1.rows.map aD))],vB ((aN d x.name).2)]) []<| .call (.tup [.agg [.p none (.str ((aN d x.into).1.name)),vI ((aN d x.into).1.arity),.p none (.sl 27 1 ((aN d x.into).1.rows.map aD))],vB ((aN d x.into).2)]) []<| .br (.lit<| .br (.raw<| .call (vB (fB x.column (0:Int) (IntKind.i64.wrap (((aN d x.name).1.arity) - 1)))) []<| .lit<| .br (.raw<| .call (vB (fB x.intoColumn (0:Int) (IntKind.i64.wrap (((aN d x.into).1.arity) - 1)))) []<| .fin []) (.fin [])) (.fin [])) (.fin [])) (p:=Lx (d.tables.map aM)<| Con Try.prog 77 [.agg [.sl 114 3 (d.tables.map aM)],.one (.str x.name)] (.tup [.agg [.p none (.str ((aN d x.name).1.name)),vI ((aN d x.name).1.arity),.p none (.sl 27 1 ((aN d x.name).1.rows.map aD))],vB ((aN d x.name).2)]) []/\Con Try.prog 77 [.agg [.sl 114 3 (d.tables.map aM)],.one (.str x.into)] (.tup [.agg [.p none (.str ((aN d x.into).1.name)),vI ((aN d x.into).1.arity),.p none (.sl 27 1 ((aN d x.into).1.rows.map aD))],vB ((aN d x.into).2)]) []/\Bb ((aN d x.name).2) (Bb ((aN d x.into).2) (dN x.column (0:Int) (IntKind.i64.wrap (((aN d x.name).1.arity) - 1))/\Bb (fB x.column (0:Int) (IntKind.i64.wrap (((aN d x.name).1.arity) - 1))) (dN x.intoColumn (0:Int) (IntKind.i64.wrap (((aN d x.into).1.arity) - 1))/\(fB x.intoColumn (0:Int) (IntKind.i64.wrap (((aN d x.into).1.arity) - 1)))=(lH d x)/\True) ((false)=(lH d x)/\True)) ((false)=(lH d x)/\True)) ((false)=(lH d x)/\True)) (by kernel_rfl) ?_;refine lx fun n0=>?_;refine⟨pH (oS _ x.name (by omega)) rfl,pH (oS _ x.into (by omega)) rfl,db (fun g24=>?_) fun g24=>?_⟩
 ·have hT:=(qV g24).1;have hA:=cP hT;have hw:IntKind.i64.wrap ((aN d x.name).1.arity - 1)=(aN d x.name).1.arity - 1:=IntWalk.i64_in _ ⟨by omega,by omega⟩
  try rw[hw]
  refine db (fun g27=>?_) fun g27=>?_
  ·have hT2:=(qV g27).1;have hA2:=cP hT2;have hw2:IntKind.i64.wrap ((aN d x.into).1.arity - 1)=(aN d x.into).1.arity - 1:=IntWalk.i64_in _ ⟨by omega,by omega⟩
   try rw[hw2]
   refine⟨fT _ _ _,db (fun g35=>?_) fun g35=>?_⟩
   ·refine⟨fT _ _ _,?_,trivial⟩
    ·(simp[lH, *];done)
   ·apply et1
    ·(simp[lH, *];done)
  ·apply et1
   ·(simp[lH, *];done)
 ·apply et1
  ·(simp[lH, *];done)
def b4 (a b c d:Bool):Int:=(if a then 1 else 0)+(if b then 2 else 0)+(if c then 4 else 0)+(if d then 8 else 0)
def m4 (p:Nat->Bool):Int:=b4 (p 0) (p 1) (p 2) (p 3)
theorem lt4 {P:Nat->Prop}(h0:P 0)(h1:P 1)(h2:P 2)(h3:P 3){i:Nat}(hi:i<4):P i:=by
 have h:i=0\/i=1\/i=2\/i=3:=by omega
 rcases h with rfl | rfl | rfl | rfl<;>assumption
theorem aRE (a b c d:Bool):fK (b4 a b c d) 0=a/\fK (b4 a b c d) 1=b/\fK (b4 a b c d) 2=c/\fK (b4 a b c d) 3=d:=by
 cases a<;>cases b<;>cases c<;>cases d<;>decide
theorem aRF {p:Nat->Bool}{v:Nat}(hv:v<4):fK (m4 p) v=p v:=by
 have h:=aRE (p 0) (p 1) (p 2) (p 3);exact lt4 (P:=fun v=>fK (m4 p) v=p v) h.1 h.2.1 h.2.2.1 h.2.2.2 hv
theorem aMx (a b c d:Bool):0<=b4 a b c d/\b4 a b c d<=15:=by cases a<;>cases b<;>cases c<;>cases d<;>decide
theorem aMy (p:Nat->Bool):0<=m4 p/\m4 p<=15:=aMx _ _ _ _
theorem aRi (a b c d:Bool):bJ .or .i64 (b4 a b c d) (1*2^0)=b4 true b c d/\bJ .or .i64 (b4 a b c d) (1*2^1)=b4 a true c d/\bJ .or .i64 (b4 a b c d) (1*2^2)=b4 a b true d/\bJ .or .i64 (b4 a b c d) (1*2^3)=b4 a b c true:=by
 cases a<;>cases b<;>cases c<;>cases d<;>decide
theorem aMz {p:Nat->Bool}{v:Nat}(hv:v<4):bJ .or .i64 (m4 p) ((1:Int)*2^v)=m4 (fun i=>p i || decide (i=v)):=by
 have h:=aRi (p 0) (p 1) (p 2) (p 3);refine lt4 (P:=fun v=>bJ .or .i64 (m4 p) ((1:Int)*2^v)=m4 (fun i=>p i || decide (i=v))) ?_ ?_ ?_ ?_ hv
 ·simpa [m4] using h.1
 ·simpa [m4] using h.2.1
 ·simpa [m4] using h.2.2.1
 simpa [m4] using h.2.2.2
theorem aPQ (a b c d:Bool):decide (b4 a b c d=1*2^(4:Int).toNat - 1)=(a&&(b&&(c&&(d&&true)))):=by cases a<;>cases b<;>cases c<;>cases d<;>decide
theorem aPR {p:Nat->Bool}{n:Int}(hn:1<=n/\n<=4)(hp: ∀i,n.toNat<=i->p i=false):decide (m4 p=1*2^n.toNat - 1)=(List.range n.toNat).all p:=by
 have h:n=1\/n=2\/n=3\/n=4:=by omega
 rcases h with rfl | rfl | rfl | rfl
 ·have h1:=hp 1 (by decide);have h2:=hp 2 (by decide);have h3:=hp 3 (by decide);simp only[m4,h1,h2,h3];show _=(List.range 1).all p;simp only[List.range,List.range.loop,List.all_cons,List.all_nil];cases p 0<;>decide
 ·have h2:=hp 2 (by decide);have h3:=hp 3 (by decide);simp only[m4,h2,h3];show _=(List.range 2).all p;simp only[List.range,List.range.loop,List.all_cons,List.all_nil];cases p 0<;>cases p 1<;>decide
 ·have h3:=hp 3 (by decide);simp only[m4,h3];show _=(List.range 3).all p;simp only[List.range,List.range.loop,List.all_cons,List.all_nil];cases p 0<;>cases p 1<;>cases p 2<;>decide
 simp only[m4];show _=(List.range 4).all p;simp only[List.range,List.range.loop,List.all_cons,List.all_nil];exact aPQ _ _ _ _
theorem aRG {m:Int}{v:Nat}(h:0<=m/\m<=15)(hv:v<4):bJ .and .i64 (m/2^v) 1=if fK m v=true then 1 else 0:=by
 have h1:m=0\/m=1\/m=2\/m=3\/m=4\/m=5\/m=6\/m=7\/m=8\/m=9\/m=10\/m=11\/m=12\/m=13\/m=14\/m=15:=by omega
 refine lt4 (P:=fun v=>bJ .and .i64 (m/2^v) 1=if fK m v=true then 1 else 0) ?_ ?_ ?_ ?_ hv<;>rcases h1 with rfl | rfl | rfl | rfl | rfl | rfl | rfl | rfl | rfl | rfl | rfl | rfl | rfl | rfl | rfl | rfl<;>decide
theorem aJ7 {m:Int}{v:Nat}(h:bJ .and .i64 (m/2^v) 1=1):fK m v=true:=by rw[fK,h];rfl
theorem aF1 {m:Int}{v:Nat}(h: ¬bJ .and .i64 (m/2^v) 1=1):fK m v=false:=by rw[fK];simpa using h
theorem aNA {m:Int}{v:Nat}(h:0<=m/\m<=15)(hv:v<4):decide (bJ .and .i64 (m/2^v) 1=0)= !fK m v:=by
 rw[aRG h hv];cases fK m v<;>rfl
def gS (p:Nat->Bool)(k:Nat):List Int:=((List.range k).filter p).map fun v:Nat=>(v:Int)
theorem aCj {p:Nat->Bool}{k:Nat}(h:p k=true):gS p (k+1)=gS p k++[(k:Int)]:=by
 rw[gS,List.range_succ,List.filter_append,aDj];simp[gS,h]
theorem aB8 {p:Nat->Bool}{k:Nat}(h:p k=false):gS p (k+1)=gS p k:=by
 rw[gS,List.range_succ,List.filter_append,aDj];simp[gS,h]
theorem aCk (p:Nat->Bool)(k:Nat):(gS p k).length<=k:=by
 rw[gS,aA0];have:=(List.filter_sublist (l:=List.range k) (p:=p)).length_le;rw[List.length_range] at this;exact this
theorem aIU {p q:Nat->Bool}{k:Nat}(h: ∀v,v<k->p v=q v):gS p k=gS q k:=by
 rw[gS,gS,List.filter_congr fun v hv=>h v (aGS.1 hv)]
theorem aNB {p:Nat->Bool}{k:Nat}{x:Int}:x∈gS p k↔0<=x/\x.toNat<k/\p x.toNat=true:=by
 rw[gS,aFm];constructor
 ·rintro⟨v,hv,rfl⟩;rw[aL4,aGS] at hv;exact⟨by omega,by simpa using hv.1,by simpa using hv.2⟩
 rintro⟨h0,h1,h2⟩;exact⟨x.toNat,aL4.2 ⟨aGS.2 h1,h2⟩,by omega⟩
theorem aCl {p:Nat->Bool}{n:Nat}: ∀{k:Nat},n<=k->(∀v,n<=v->v<k->p v=false)->gS p k=gS p n
 | 0,h,_=>by rw[show n=0 by omega]
 | k+1,h,hp=>by
   by_cases e:n=k+1
   ·rw[e]
   rw[aB8 (hp k (by omega) (by omega)),aCl (by omega) fun v h1 h2=>hp v h1 (by omega)]
def sS (n:Int)(l:List Int)(k:Nat):Bool:=fB (l.getD k 0) 0 (n - 1)&& !decide (l.getD k 0∈l.take k)
def aCm (n:Int)(l:List Int):Bool:=(List.range l.length).all (sS n l)
def gT (n:Int)(a:bX):Bool:=iM a.name&&(fB (a.vars.length:Nat) 1 3&&aCm n a.vars)
def aCn (l:List bX)(v:Nat):Bool:=l.any fun a=>decide ((v:Int)∈a.vars)
def bI (q:aX):Bool:=(fB q.variableCount 1 4&&fB (q.atoms.length:Nat) 1 4)&&(q.atoms.all (gT q.variableCount)&&(List.range q.variableCount.toNat).all (aCn q.atoms))
def jC (l:List bX)(k:Nat)(a:List Int)(i v:Nat):Bool:=aCn (l.take k) v || decide ((v:Int)∈a.take i)
theorem aIV (l:List bX)(k:Nat)(a b:List Int):jC l k a 0=jC l k b 0:=by funext v;simp[jC]
theorem aIW {l:List bX}{k i:Nat}{a:List Int}{x:Int}(h:a[i]? =some x)(hx:0<=x):(fun v=>jC l k a i v || decide (v=x.toNat))=jC l k a (i+1):=by
 funext v;rw[jC,jC,bQ h,qW,Bool.or_assoc]
 congr 2
 exact decide_eq_decide.2 (by omega)
theorem aKn {l:List bX}{k:Nat}{a:bX}(h:l[k]? =some a)(v:Nat):aCn (l.take (k+1)) v=(aCn (l.take k) v || decide ((v:Int)∈a.vars)):=by
 rw[aCn,bQ h,List.any_append];simp[aCn]
theorem aIX {l:List bX}{k i:Nat}{a:bX}(h:l[k]? =some a)(hi:a.vars.length<=i)(b:List Int):jC l k a.vars i=jC l (k+1) b 0:=by
 funext v;rw[jC,jC,aKn h,aCu hi];simp
theorem aKo {l:List bX}{k:Nat}(hk:l.length<=k)(b:List Int):jC l k b 0=aCn l:=by
 funext v;rw[jC,aCu hk];simp
theorem aNC {q:aX}(h:(fB q.variableCount 1 4&&fB (q.atoms.length:Nat) 1 4)=false):bI q=false:=by rw[bI,h];rfl
theorem zH {q:aX}{k:Nat}{a:bX}(h:q.atoms[k]? =some a)(ha:gT q.variableCount a=false):bI q=false:=by rw[bI,gI h ha];simp
theorem aPS {q:aX}(h:(fB q.variableCount 1 4&&fB (q.atoms.length:Nat) 1 4)=true)(ha:q.atoms.all (gT q.variableCount)=true):bI q=(List.range q.variableCount.toNat).all (aCn q.atoms):=by rw[bI,h,ha];rfl
theorem aKp {n:Int}{l:List Int}(h:aCm n l=true){x:Int}(hx:x∈l):0<=x/\x<=n - 1:=by
 obtain⟨i,hi,rfl⟩:=List.mem_iff_getElem.1 hx;have:=aDW.1 h i (aGS.2 hi);simp only[sS,aA1] at this;have:=dS this.1
 rwa [aD6,aBM hi,Option.getD_some] at this
theorem jD {n:Int}{a:bX}(h:gT n a=true):iM a.name=true/\(1<=a.vars.length/\a.vars.length<=3)/\ ∀x∈a.vars,0<=x/\x<=n - 1:=by
 simp only[gT,aA1] at h;have h2:=dS h.2.1;exact⟨h.1,⟨by omega,by omega⟩,fun x hx=>aKp h.2.2 hx⟩
theorem dQ {q:aX}(h:bI q=true):(1<=q.variableCount/\q.variableCount<=4)/\(1<=q.atoms.length/\q.atoms.length<=4)/\ ∀a∈q.atoms,gT q.variableCount a=true:=by
 simp only[bI,aA1] at h;have h1:=dS h.1.1;have h2:=dS h.1.2;exact⟨h1,⟨by omega,by omega⟩,fun a ha=>aDW.1 h.2.1 a ha⟩
theorem aND {n:Int}{l:List bX}(h:l.all (gT n)=true)(h0:1<=n){v:Nat}(hv:n.toNat<=v):aCn l v=false:=by
 rw[aCn,List.any_eq_false];intro a ha hm;have:=(jD (aDW.1 h a ha)).2.2 v (by simpa using hm);omega
structure Cu where
 i:Nat
 h:Int
def aHB (h:Int):Int:=IntKind.i64.wrap (IntKind.i64.wrap (h*6364136223846793005)+1442695040888963407)
def aPT (h:Int):Int:=bJ .and .i64 (bJ .xor .i64 (h/2^33) (h/2^45)) 255
def uH (l:List Int):Nat->Int
 | 0=>10101+(l.length:Int)
 | k+1=>bJ .and .i64 (IntKind.i64.wrap (IntKind.i64.wrap (IntKind.i64.wrap (uH l k*131)+IntKind.i64.wrap (l.getD k 0))+7)) 1073741823
def bL (l:List Int):Cu:=⟨0,uH l (min l.length 4000)⟩
def aV (l:List Int)(u:Cu):Int × Cu:=if (u.i:Int)<(l.length:Int) then (bJ .and .i64 (IntKind.i64.wrap (aPT (aHB u.h)+IntKind.i64.wrap (l.getD u.i 0))) 255,⟨u.i+1,aHB u.h⟩) else (aPT (aHB u.h),⟨u.i,aHB u.h⟩)
theorem aHC (m:Int)(k:Nat)(hk:k<=9223372036854775807):0<=bJ .and .i64 m (k:Int)/\bJ .and .i64 m (k:Int)<=(k:Int):=by
 have e2:(BitVec.ofInt 64 (k:Int)).toNat=k:=by simp;omega
 have hle:(BitVec.ofInt 64 m).toNat&&&k<=k:=Nat.and_le_right;unfold bJ;show 0<=IntKind.i64.wrap ((BitVec.ofInt 64 m&&&BitVec.ofInt 64 (k:Int)).toNat:Nat)/\IntKind.i64.wrap ((BitVec.ofInt 64 m&&&BitVec.ofInt 64 (k:Int)).toNat:Nat)<=_;rw[BitVec.toNat_and,e2,IntWalk.i64_in _ ⟨by omega,by omega⟩];omega
theorem aPU {l:List Int}{k:Nat}{x:Int}(h:l[k]? =some x):uH l (k+1)=bJ .and .i64 (IntKind.i64.wrap (IntKind.i64.wrap (IntKind.i64.wrap (uH l k*131)+IntKind.i64.wrap x)+7)) 1073741823:=by rw[uH,aD6,h];rfl
theorem aPV {l:List Int}{u:Cu}{x:Int}(h:(u.i:Int)<(l.length:Int))(hx:l[u.i]? =some x):aV l u=(bJ .and .i64 (IntKind.i64.wrap (aPT (aHB u.h)+IntKind.i64.wrap x)) 255,⟨u.i+1,aHB u.h⟩):=by
 rw[aV,if_pos h,aD6,hx];rfl
theorem aNE {l:List Int}{u:Cu}(h: ¬(u.i:Int)<(l.length:Int)):aV l u=(aPT (aHB u.h),⟨u.i,aHB u.h⟩):=by rw[aV,if_neg h]
theorem nH (l:List Int)(u:Cu):0<=(aV l u).1/\(aV l u).1<=255:=by
 unfold aV;split
 ·exact aHC _ 255 (by decide)
 exact aHC _ 255 (by decide)
def aA (l:List Int)(u:Cu)(n:Int):Int × Cu:=
 if n<=0 then (0,u) else if n<=256 then (Int.tmod (aV l u).1 n,(aV l u).2) else
  (Int.tmod ((aV l u).1*16777216+(aV l (aV l u).2).1*65536+(aV l (aV l (aV l u).2).2).1*256+(aV l (aV l (aV l (aV l u).2).2).2).1) n,(aV l (aV l (aV l (aV l u).2).2).2).2)
theorem aF2 {x n:Int}(hx:0<=x)(hn:0<n):0<=Int.tmod x n/\Int.tmod x n<n:=⟨Int.tmod_nonneg n hx,Int.tmod_lt_of_pos x hn⟩
theorem cF (l:List Int)(u:Cu){n:Int}(hn:0<n):0<=(aA l u n).1/\(aA l u n).1<n:=by
 unfold aA;rw[if_neg (by omega)];have h1:=nH l u;have h2:=nH l (aV l u).2;have h3:=nH l (aV l (aV l u).2).2;have h4:=nH l (aV l (aV l (aV l u).2).2).2;split
 ·exact aF2 (by omega) hn
 exact aF2 (by omega) hn
theorem aPW (l:List Int)(u:Cu){n:Int}(h:n<=0):aA l u n=(0,u):=by rw[aA,if_pos h]
theorem aPX (l:List Int)(u:Cu){n:Int}(h: ¬n<=0)(h2:n<=256):aA l u n=(Int.tmod (aV l u).1 n,(aV l u).2):=by rw[aA,if_neg h,if_pos h2]
theorem aPY (l:List Int)(u:Cu){n:Int}(h: ¬n<=0)(h2: ¬n<=256):aA l u n=(Int.tmod ((aV l u).1*16777216+(aV l (aV l u).2).1*65536+(aV l (aV l (aV l u).2).2).1*256+(aV l (aV l (aV l (aV l u).2).2).2).1) n,(aV l (aV l (aV l (aV l u).2).2).2).2):=by rw[aA,if_neg h,if_neg h2]
def qX {σ:Type}(f:σ->σ):Nat->σ->σ
 | 0,s=>s
 | k+1,s=>f (qX f k s)
def iK (f:Cu->Int × Cu):Nat->Cu->List Int × Cu
 | 0,u=>([],u)
 | k+1,u=>((iK f k u).1++[(f (iK f k u).2).1],(f (iK f k u).2).2)
theorem aCo (f:Cu->Int × Cu)(u:Cu): ∀k,(iK f k u).1.length=k
 | 0=>rfl
 | k+1=>by rw[iK,aFu,aCo f u k];rfl
abbrev lI (l:List Int)(u:Cu):List AV × List (Nat × Rs) × AV × List (Nat × Rs):=([.ptr 0 0],[(0,.box 50 [.p none (.sl 5 1 (l.map aY)),vI (u.i:Int),vI u.h])],vI ((aV l u).1),[(0,.box 50 [.p none (.sl 5 1 (l.map aY)),vI (((aV l u).2.i:Nat):Int),vI ((aV l u).2.h)])])
abbrev qY (l:List Int)(u:Cu):Prop:=Cm 29 (lI l u).1 (lI l u).2.1 (lI l u).2.2.1 (lI l u).2.2.2
theorem aCp (l:List Int)(u:Cu)(hl:l.length<=1048576):qY l u:=by
 refine cqx Try.func29 (.raw<| .raw<| .len l.length<| .br (.elem _ aY l (fun e44=> .raw<| .raw<| .fin [(0,0)])) (.fin [(0,0)])) (p:=(0<=(33:Int)/\(33:Int)<=64)/\(0<=(45:Int)/\(45:Int)<=64)/\Lm aY l/\Br ((u.i:Int)<(l.length:Int)) (0<=(u.i:Int)/\Em aY l u.i fun e44=>bS ((u.i:Int)+1)/\(bJ .and .i64 (IntKind.i64.wrap ((bJ .and .i64 (bJ .xor .i64 ((IntKind.i64.wrap ((IntKind.i64.wrap (u.h*6364136223846793005))+1442695040888963407))/2^33) ((IntKind.i64.wrap ((IntKind.i64.wrap (u.h*6364136223846793005))+1442695040888963407))/2^45)) (255:Int))+(IntKind.i64.wrap e44))) (255:Int))=((aV l u).1)/\l.map aY=l.map aY/\((u.i:Int)+1)=(((aV l u).2.i:Nat):Int)/\(IntKind.i64.wrap ((IntKind.i64.wrap (u.h*6364136223846793005))+1442695040888963407))=((aV l u).2.h)/\True) ((bJ .and .i64 (bJ .xor .i64 ((IntKind.i64.wrap ((IntKind.i64.wrap (u.h*6364136223846793005))+1442695040888963407))/2^33) ((IntKind.i64.wrap ((IntKind.i64.wrap (u.h*6364136223846793005))+1442695040888963407))/2^45)) (255:Int))=((aV l u).1)/\l.map aY=l.map aY/\(u.i:Int)=(((aV l u).2.i:Nat):Int)/\(IntKind.i64.wrap ((IntKind.i64.wrap (u.h*6364136223846793005))+1442695040888963407))=((aV l u).2.h)/\True)) (by kernel_rfl) ?_;refine⟨⟨by omega,by omega⟩,⟨by omega,by omega⟩,aA0 _,dd (fun c0=>?_) fun c0=>?_⟩
 ·refine⟨by omega,rfl,by omega,fun e44 h44=>?_⟩;refine⟨⟨by omega,by omega⟩,?_,rfl,?_,?_,trivial⟩<;>((rw[aPV c0 h44]<;>rfl))
 ·refine⟨?_,rfl,?_,?_,trivial⟩<;>((rw[aNE c0]<;>rfl))
abbrev cD (l:List Int)(u:Cu)(n:Int):List AV × List (Nat × Rs) × AV × List (Nat × Rs):=([.ptr 0 0,vI n],[(0,.box 50 [.p none (.sl 5 1 (l.map aY)),vI (u.i:Int),vI u.h])],vI ((aA l u n).1),[(0,.box 50 [.p none (.sl 5 1 (l.map aY)),vI (((aA l u n).2.i:Nat):Int),vI ((aA l u n).2.h)])])
abbrev cK (l:List Int)(u:Cu)(n:Int):Prop:=Cm 17 (cD l u n).1 (cD l u n).2.1 (cD l u n).2.2.1 (cD l u n).2.2.2
theorem dR (l:List Int)(u:Cu)(hl:l.length<=1048576)(n:Int):cK l u n:=by
 refine cqx Try.func17 (.br (.fin [(0,0)]) (.br (aQ (lI l u) [(0,0)]<| .fin [(0,0)]) (aQ (lI l u) [(0,0)]<| aQ (lI l ((aV l u).2)) [(0,0)]<| aQ (lI l ((aV l ((aV l u).2)).2)) [(0,0)]<| aQ (lI l ((aV l ((aV l ((aV l u).2)).2)).2)) [(0,0)]<| .fin [(0,0)]))) (p:=Br (n<=0) (0=((aA l u n).1)/\l.map aY=l.map aY/\(u.i:Int)=(((aA l u n).2.i:Nat):Int)/\u.h=((aA l u n).2.h)/\True) (Br (n<=256) (qY l u/\l.map aY=l.map aY/\(u.i:Int)=(u.i:Int)/\u.h=u.h/\n≠0/\(Int.tmod ((aV l u).1) n)=((aA l u n).1)/\l.map aY=l.map aY/\(((aV l u).2.i:Nat):Int)=(((aA l u n).2.i:Nat):Int)/\((aV l u).2.h)=((aA l u n).2.h)/\True) (qY l u/\l.map aY=l.map aY/\(u.i:Int)=(u.i:Int)/\u.h=u.h/\qY l ((aV l u).2)/\l.map aY=l.map aY/\(((aV l u).2.i:Nat):Int)=(((aV l u).2.i:Nat):Int)/\((aV l u).2.h)=((aV l u).2.h)/\qY l ((aV l ((aV l u).2)).2)/\l.map aY=l.map aY/\(((aV l ((aV l u).2)).2.i:Nat):Int)=((((aV l ((aV l u).2)).2).i:Nat):Int)/\((aV l ((aV l u).2)).2.h)=(((aV l ((aV l u).2)).2).h)/\qY l ((aV l ((aV l ((aV l u).2)).2)).2)/\l.map aY=l.map aY/\(((aV l ((aV l ((aV l u).2)).2)).2.i:Nat):Int)=((((aV l ((aV l ((aV l u).2)).2)).2).i:Nat):Int)/\((aV l ((aV l ((aV l u).2)).2)).2.h)=(((aV l ((aV l ((aV l u).2)).2)).2).h)/\bS (((aV l u).1)*16777216)/\bS (((aV l ((aV l u).2)).1)*65536)/\bS ((((aV l u).1)*16777216)+(((aV l ((aV l u).2)).1)*65536))/\bS (((aV l ((aV l ((aV l u).2)).2)).1)*256)/\bS (((((aV l u).1)*16777216)+(((aV l ((aV l u).2)).1)*65536))+(((aV l ((aV l ((aV l u).2)).2)).1)*256))/\bS ((((((aV l u).1)*16777216)+(((aV l ((aV l u).2)).1)*65536))+(((aV l ((aV l ((aV l u).2)).2)).1)*256))+((aV l ((aV l ((aV l ((aV l u).2)).2)).2)).1))/\n≠0/\(Int.tmod ((((((aV l u).1)*16777216)+(((aV l ((aV l u).2)).1)*65536))+(((aV l ((aV l ((aV l u).2)).2)).1)*256))+((aV l ((aV l ((aV l ((aV l u).2)).2)).2)).1)) n)=((aA l u n).1)/\l.map aY=l.map aY/\(((aV l ((aV l ((aV l ((aV l u).2)).2)).2)).2.i:Nat):Int)=(((aA l u n).2.i:Nat):Int)/\((aV l ((aV l ((aV l ((aV l u).2)).2)).2)).2.h)=((aA l u n).2.h)/\True))) (by kernel_rfl) ?_;have w1:=nH l u;have w2:=nH l (aV l u).2;have w3:=nH l (aV l (aV l u).2).2;have w4:=nH l (aV l (aV l (aV l u).2).2).2;refine dd (fun c0=>?_) fun c0=>?_
 ·refine⟨?_,rfl,?_,?_,trivial⟩<;>((rw[aPW l u c0]<;>rfl))
 ·refine dd (fun c1=>?_) fun c1=>?_
  ·refine⟨aCp l u (by assumption),rfl,rfl,rfl,by omega,?_,rfl,?_,?_,trivial⟩<;>((rw[aPX l u c0 c1]<;>rfl))
  ·refine⟨aCp l u (by assumption),rfl,rfl,rfl,aCp l ((aV l u).2) (by assumption),rfl,rfl,rfl,aCp l ((aV l ((aV l u).2)).2) (by assumption),rfl,rfl,rfl,aCp l ((aV l ((aV l ((aV l u).2)).2)).2) (by assumption),rfl,rfl,rfl,⟨by omega,by omega⟩,⟨by omega,by omega⟩,⟨by omega,by omega⟩,⟨by omega,by omega⟩,⟨by omega,by omega⟩,⟨by omega,by omega⟩,by omega,?_,rfl,?_,?_,trivial⟩<;>((rw[aPY l u c0 c1]<;>rfl))
abbrev eB (l:List Int)(u:Cu)(n:Int):List AV × List (Nat × Rs) × AV × List (Nat × Rs):=([.ptr 0 0,vI n],[(0,.box 50 [.p none (.sl 5 1 (l.map aY)),vI (u.i:Int),vI u.h])],vB (decide ((aA l u n).1=0)),[(0,.box 50 [.p none (.sl 5 1 (l.map aY)),vI (((aA l u n).2.i:Nat):Int),vI ((aA l u n).2.h)])])
abbrev fG (l:List Int)(u:Cu)(n:Int):Prop:=Cm 16 (eB l u n).1 (eB l u n).2.1 (eB l u n).2.2.1 (eB l u n).2.2.2
theorem jQ (l:List Int)(u:Cu)(hl:l.length<=1048576)(n:Int):fG l u n:=by
 refine cqx Try.func16 (aQ (cD l u n) [(0,0)]<| .fin [(0,0)]) (p:=cK l u n/\n=n/\l.map aY=l.map aY/\(u.i:Int)=(u.i:Int)/\u.h=u.h/\(decide (((aA l u n).1)=0))=(decide ((aA l u n).1=0))/\l.map aY=l.map aY/\(((aA l u n).2.i:Nat):Int)=(((aA l u n).2.i:Nat):Int)/\((aA l u n).2.h)=((aA l u n).2.h)/\True) (by kernel_rfl) ?_;refine⟨dR l u (by assumption) n,rfl,rfl,rfl,rfl,?_,rfl,rfl,rfl,trivial⟩
 ·rfl
def bH (l:List Int)(u:Cu)(xs:List Int):Int × Cu:=(xs.getD (aA l u xs.length).1.toNat 0,(aA l u xs.length).2)
theorem aPZ {l:List Int}{u:Cu}{xs:List Int}{x:Int}(h:xs[(aA l u xs.length).1.toNat]? =some x):bH l u xs=(x,(aA l u xs.length).2):=by rw[bH,aD6,h];rfl
theorem aNF (l:List Int)(u:Cu){xs:List Int}(h:0<xs.length):(bH l u xs).1∈xs:=by
 have hb:=cF l u (n:=xs.length) (by omega);have hlt:(aA l u xs.length).1.toNat<xs.length:=by omega
 rw[bH,aD6,aBM hlt];exact aL5 hlt
abbrev fH (l:List Int)(u:Cu)(xs:List Int):List AV × List (Nat × Rs) × AV × List (Nat × Rs):=([.ptr 0 0,.own 1],[(0,.box 50 [.p none (.sl 5 1 (l.map aY)),vI (u.i:Int),vI u.h]),(1,.arr 3 1 true (xs.map aC))],vI ((bH l u xs).1),[(0,.box 50 [.p none (.sl 5 1 (l.map aY)),vI (((bH l u xs).2.i:Nat):Int),vI ((bH l u xs).2.h)])])
abbrev gO (l:List Int)(u:Cu)(xs:List Int):Prop:=Cm 50 (fH l u xs).1 (fH l u xs).2.1 (fH l u xs).2.2.1 (fH l u xs).2.2.2
theorem mM (l:List Int)(u:Cu)(hl:l.length<=1048576)(xs:List Int)(hx:0<xs.length):gO l u xs:=by
 refine cqx Try.func50 (.len xs.length<| aQ (cD l u (xs.length:Int)) [(0,0)]<| .len xs.length<| .elem _ aC xs (fun e11=> .fin [(0,0)])) (p:=Lm aC xs/\cK l u (xs.length:Int)/\(xs.length:Int)=(xs.length:Int)/\l.map aY=l.map aY/\(u.i:Int)=(u.i:Int)/\u.h=u.h/\0<=((aA l u (xs.length:Int)).1)/\Lm aC xs/\((aA l u (xs.length:Int)).1)<(xs.length:Int)/\Em aC xs (((aA l u (xs.length:Int)).1).toNat) fun e11=>e11=((bH l u xs).1)/\l.map aY=l.map aY/\(((aA l u (xs.length:Int)).2.i:Nat):Int)=(((bH l u xs).2.i:Nat):Int)/\((aA l u (xs.length:Int)).2.h)=((bH l u xs).2.h)/\True) (by kernel_rfl) ?_;have hb:=cF l u (n:=xs.length) (by omega);refine⟨aA0 _,dR l u (by assumption) (xs.length:Int),rfl,rfl,rfl,rfl,by omega,aA0 _,by omega,rfl,by omega,fun e11 h11=>?_⟩;refine⟨?_,rfl,?_,?_,trivial⟩<;>(first|rfl|(rw[aPZ (by assumption)]<;>rfl))
abbrev zI (l:List Int):List AV × List (Nat × Rs) × AV × List (Nat × Rs):=([.p none (.sl 5 1 (l.map aY))],[],.ptr 0 0,[(0,.box 50 [.p none (.sl 5 1 (l.map aY)),vI (((bL l).i:Nat):Int),vI ((bL l).h)])])
abbrev aJ8 (l:List Int):Prop:=Cm 14 (zI l).1 (zI l).2.1 (zI l).2.2.1 (zI l).2.2.2
theorem aRj (l:List Int)(hl:l.length<=1048576):aJ8 l:=by
 refine cqx Try.func14 (.len l.length<| .loop Nat (Q1 Nat) ([3,4]++rg 8 20) [] (fun k=>[(4,vI (k:Int)),(3,vI (uH l k))]) (fun k=>[]) (fun k=>k<=l.length/\k<=4000) (fun k=>4000 - k) (fun k=> .len l.length<| .br (.lit<| .lit<| .br (.raw<| .elem _ aY l (fun e22=> .raw<| .raw<| .raw<| .back [])) (.fin [(0,3100)])) (.fin [(0,3100)]))) (p:=Lm aY l/\(bS ((10101:Int)+(l.length:Int))/\((∃(k:Nat),0=(k:Int)/\((10101:Int)+(l.length:Int))=(uH l k)/\k<=l.length/\k<=4000)/\ ∀(k:Nat),(k<=l.length/\k<=4000)->Lm aY l/\Br ((k:Int)<(l.length:Int)) (Br ((k:Int)<4000) (0<=(k:Int)/\Em aY l k fun e22=>bS ((k:Int)+1)/\ ∃(k' :Nat),((k:Int)+1)=(k' :Int)/\(bJ .and .i64 (IntKind.i64.wrap ((IntKind.i64.wrap ((IntKind.i64.wrap ((uH l k)*131))+(IntKind.i64.wrap e22)))+7)) (1073741823:Int))=(uH l k')/\(k' <=l.length/\k' <=4000)/\4000 - k' <4000 - k) (l.map aY=l.map aY/\0=(((bL l).i:Nat):Int)/\(uH l k)=((bL l).h)/\True)) (l.map aY=l.map aY/\0=(((bL l).i:Nat):Int)/\(uH l k)=((bL l).h)/\True)))) (by kernel_rfl) ?_;refine⟨aA0 _,⟨by omega,by omega⟩,⟨0,(by rfl),(by rfl),aAc _,aAc _⟩,fun k ⟨hk,hk2⟩=>?_⟩;refine⟨aA0 _,dd (fun g12=>?_) fun g12=>?_⟩
 ·refine dd (fun c0=>?_) fun c0=>?_
  ·refine⟨by omega,rfl,by omega,fun e22 h22=>?_⟩;refine⟨⟨by omega,by omega⟩,?_⟩;exact⟨k+1,(by rfl),(by (rw[aPU h22];done)),⟨by omega,by omega⟩,by omega⟩
  ·refine⟨rfl,?_,?_,trivial⟩<;>(first|rfl|(rw[bL,show min l.length 4000=k by omega]<;>rfl))
 ·refine⟨rfl,?_,?_,trivial⟩<;>(first|rfl|(rw[bL,show min l.length 4000=k by omega]<;>rfl))
def aNG (x:Int):Prop:=0<=x/\x<=255
theorem aIY {n:Int}(h:(Lit.int .u8 n).wf=true):aNG n:=by
 simp[Lit.wf,IntKind.min,IntKind.max,IntKind.bits,IntKind.signed] at h;exact⟨by omega,by omega⟩
def aCq (l:List Int):Prop:= ∀x∈l,aNG x
def aNH:Rd Int:=fun _ cs n=>cs= [.int .u8 n]/\aNG n
theorem aKq {H:Type}{enc:TypeId × Value->H}{P:Program}{w:World}{base:Nat}{spare:Nat->Bool}{held:Bool}{t:TypeId}{fuel:Nat}{cs:List Value}{x:DataW H × List MemPlace}(ht:P.underlying t=some (.int .u8))(h:DataW.trod enc P w base spare held fuel t cs=some x): ∃n,aNH w cs n:=by
 obtain⟨n,rfl,_,hw⟩:=DataW.trod_int ht h;exact⟨n,rfl,aIY hw⟩
def RByteS:Rd (List Int):=fun w cs l=>jW (Lv w) w [.sl 5 1 (l.map aY)] cs/\aCq l
theorem openByteS {H:Type}{enc:TypeId × Value->H}{w:World}{base:Nat}{spare:Nat->Bool}{held:Bool}{fuel:Nat}{cs:List Value}{x:DataW H × List MemPlace}(h:DataW.trod enc Try.prog w base spare held fuel 22 cs=some x): ∃l,RByteS w cs l:=by
 obtain⟨l,hl⟩:=aHe (k:=1) (R:=aNH) Try.underlying22 (by kernel_rfl) (by omega) (fun _ _ _ h=>aKq Try.underlying5 h) h;have hf:aCq l:=hl.all_ (fun _ _ _ h=>h.2);obtain⟨A,c,rfl,_⟩:=id hl;exact⟨l,aGO (aLt (R:=aNH) (enc:=aY) (fun cs x h=>by obtain⟨rfl,_⟩:=h;exact aGO aOY aJE) hl) aJE,hf⟩
abbrev aEb (l:List Int):Prop:=Cn 4 [.one (.sl 5 1 (l.map aY))] (vB (decide (1048576<(l.length:Int)))) []
theorem aP0 (l:List Int):aEb l:=by
 refine cq Try.func4 (.len l.length<| .fin []) (p:=Lx (l.map aY)<| Lm aY l/\(decide (1048576<(l.length:Int)))=(decide (1048576<(l.length:Int)))/\True) (by kernel_rfl) ?_;refine lx fun n0=>?_;refine⟨aA0 _,?_,trivial⟩
 ·rfl
def jK (l:List Int)(val:Int)(c:Cu):Int × Cu:=aA l c val
def cJ (l:List Int)(u:Cu)(xs:List ByteArray):ByteArray × Cu:=(xs.getD (aA l u xs.length).1.toNat ⟨#[]⟩,(aA l u xs.length).2)
theorem aNI {l:List Int}{u:Cu}{xs:List ByteArray}{x:ByteArray}(h:xs[(aA l u xs.length).1.toNat]? =some x):cJ l u xs=(x,(aA l u xs.length).2):=by rw[cJ,aD6,h];rfl
theorem aAZ (l:List Int)(u:Cu){xs:List ByteArray}(h:0<xs.length):(cJ l u xs).1∈xs:=by
 have hb:=cF l u (n:=xs.length) (by omega);have hlt:(aA l u xs.length).1.toNat<xs.length:=by omega
 rw[cJ,aD6,aBM hlt];exact aL5 hlt
theorem mN (l:List Int)(u:Cu){xs:List ByteArray}{m:Nat}(h:0<xs.length)(hs: ∀x∈xs,x.size<=m):(cJ l u xs).1.size<=m:=hs _ (aAZ l u h)
structure TS where
 rows:List (List Int)
 cu:Cu
def aIZ (l:List Int)(ar:Nat)(val:Int)(s:TS):TS:=⟨iI (iK (jK l val) ar s.cu).1 s.rows,(iK (jK l val) ar s.cu).2⟩
theorem aHD (l:List Int)(ar:Nat)(val:Int)(s:TS): ∀j,(qX (aIZ l ar val) j s).rows.length<=s.rows.length+j
 | 0=>aHF _
 | j+1=>by
   have h:=aHD l ar val s j;have h2:=aC7 (row:=(iK (jK l val) ar (qX (aIZ l ar val) j s).cu).1) (xs:=(qX (aIZ l ar val) j s).rows);rw[qX,aIZ]
   dsimp only
   omega
theorem aHE {l:List Int}{ar m:Nat}(hm:ar<=m){val:Int}{s:TS}(hs: ∀r∈s.rows,r.length<=m): ∀j,∀r∈(qX (aIZ l ar val) j s).rows,r.length<=m
 | 0,r,hr=>hs r hr
 | j+1,r,hr=>by
   rw[qX,aIZ] at hr;rcases zD.1 hr with rfl | hr
   ·rw[aCo];exact hm
   exact aHE hm hs j r hr
def eY (l:List Int)(u:Cu)(ar:Nat)(most val:Int)(j:Nat):TS:=qX (aIZ l ar val) j ⟨[],(aA l u (most+1)).2⟩
def aRH (l:List Int)(u:Cu)(ar:Nat)(most val:Int):TS:=eY l u ar most val (aA l u (most+1)).1.toNat
def dK (l:List Int)(u:Cu)(nm:ByteArray)(ar most val:Int):bA × Cu:=(⟨nm,ar,(aRH l u ar.toNat most val).rows⟩,(aRH l u ar.toNat most val).cu)
theorem aCr (l:List Int)(u:Cu)(ar:Nat)(most val:Int)(j:Nat):(eY l u ar most val j).rows.length<=j:=by
 have h:=aHD l ar val ⟨[],(aA l u (most+1)).2⟩ j;simpa [eY] using h
theorem aI0 (l:List Int)(u:Cu){ar:Nat}(har:ar<=3)(most val:Int){j:Nat}(hj:j<=8):cS (eY l u ar most val j).rows<=32:=by
 have h1:=aCr l u ar most val j;have h2:=rT (l:=(eY l u ar most val j).rows) (m:=3) (aHE har (by simp) j);omega
theorem aB9 (l:List Int)(u:Cu)(nm:ByteArray)(ar:Int){most:Int}(h0:0<=most)(val:Int):((dK l u nm ar most val).1.rows.length:Int)<=most:=by
 have h1:=aCr l u ar.toNat most val (aA l u (most+1)).1.toNat;have h2:=cF l u (n:=most+1) (by omega);show ((eY l u ar.toNat most val (aA l u (most+1)).1.toNat).rows.length:Int)<=most;omega
theorem aNJ (l:List Int)(u:Cu)(nm:ByteArray){ar:Int}(har:ar<=3){most:Int}(h0:0<=most)(h8:most<=8)(val:Int):gZ (dK l u nm ar most val).1<=nm.size+32:=by
 have h2:=cF l u (n:=most+1) (by omega);have h3:=aI0 l u (ar:=ar.toNat) (by omega) most val (j:=(aA l u (most+1)).1.toNat) (by omega);show nm.size+cS (eY l u ar.toNat most val (aA l u (most+1)).1.toNat).rows<=nm.size+32;omega
theorem qZ {α:Type}{c:α->Nat}{m:Nat}: ∀{l:List α},(∀x∈l,c x<=m)->kX c l<=l.length+l.length*m
 | [],_=>by simp[kX]
 | x::l,h=>by
   have h1:=qZ (l:=l) (fun y hy=>h y (aHb _ hy));have h2:=h x aHa;simp only[kX,aDa,List.sum_cons,aFt,Nat.add_mul,Nat.one_mul] at h1 ⊢;omega
theorem vN {α:Type}(c:α->Nat)(l:List α)(x:α):kX c (l++[x])=kX c l+1+c x:=by
 simp only[kX,aFu,aFt,List.length_nil,aDj,aDa,List.map_nil,List.sum_append,List.sum_cons,List.sum_nil];omega
def oT {α:Type}(l:List α)(i:Nat)(f:α->α):List α:=match l[i]? with | some e=>l.set i (f e) | none=>l
theorem zJ {α:Type}{l:List α}{i:Nat}{f:α->α}{e:α}(h:l[i]? =some e):oT l i f=l.set i (f e):=by rw[oT,h]
theorem aKr {α:Type}(l:List α)(i:Nat)(f:α->α):(oT l i f).length=l.length:=by unfold oT;split;exact aD8;rfl
theorem aKs {α:Type}{l:List α}{i:Nat}{f:α->α}{p:α->Prop}(hl: ∀x∈l,p x)(hf: ∀x,p x->p (f x)): ∀x∈oT l i f,p x:=by
 unfold oT;split
 ·rename_i e he;intro x hx;rcases List.mem_or_eq_of_mem_set hx with h | rfl
  ·exact hl x h
  exact hf _ (hl _ (aAm he))
 exact hl
def nmL:List ByteArray:=[⟨#[114]⟩,⟨#[115]⟩,⟨#[116]⟩,⟨#[117]⟩,⟨#[118]⟩]
def arN (n:ByteArray):Int:=if n=⟨#[118]⟩ then 1 else if n=⟨#[117]⟩ then 3 else 2
theorem aP1 (n:ByteArray):1<=arN n/\arN n<=3:=by unfold arN;split;omega;split;omega;omega
theorem aCs: ∀k,(nmL.getD k ⟨#[]⟩).size<=1
 | 0 | 1 | 2 | 3 | 4=>aHF _
 | _+5=>aAc _
structure DS where
 tabs:List bA
 cu:Cu
def dbG (l:List Int)(most val:Int)(n:ByteArray)(s:DS):DS:=⟨s.tabs++[(dK l s.cu n (arN n) most val).1],(dK l s.cu n (arN n) most val).2⟩
def dbP (l:List Int)(most val:Int):Nat->DS->DS
 | 0,s=>s
 | k+1,s=>dbG l most val (nmL.getD k ⟨#[]⟩) (dbP l most val k s)
theorem aJ9 (l:List Int)(most val:Int)(s:DS): ∀k,(dbP l most val k s).tabs.length=s.tabs.length+k
 | 0=>rfl
 | k+1=>by
   have h:=aJ9 l most val s k;rw[dbP,dbG];simp only[aFu,aFt,List.length_nil];omega
theorem aJa {l:List Int}{most val:Int}(h0:0<=most)(h8:most<=8){s:DS}(hs: ∀t∈s.tabs,gZ t<=33/\t.rows.length<=8): ∀k,∀t∈(dbP l most val k s).tabs,gZ t<=33/\t.rows.length<=8
 | 0,t,ht=>hs t ht
 | k+1,t,ht=>by
   rw[dbP,dbG] at ht;rcases aD5.1 ht with ht | ht
   ·exact aJa h0 h8 hs k t ht
   rw[aHr.1 ht];have h1:=aNJ l (dbP l most val k s).cu (nmL.getD k ⟨#[]⟩) (ar:=arN (nmL.getD k ⟨#[]⟩)) (aP1 _).2 h0 h8 val;have h2:=aB9 l (dbP l most val k s).cu (nmL.getD k ⟨#[]⟩) (arN (nmL.getD k ⟨#[]⟩)) h0 val;have h3:=aCs k;exact⟨by omega,by omega⟩
def iV (l:List Int)(u:Cu):Int × Cu:=bH l u [2,3,4,6]
def jL (l:List Int)(u:Cu):Int × Cu:=bH l (iV l u).2 [2,4,6,8]
def dA (l:List Int)(u:Cu)(k:Nat):DS:=dbP l (jL l u).1 (iV l u).1 k ⟨[],(jL l u).2⟩
def noR (t:bA):bA:=⟨t.name,t.arity,[]⟩
def dbI (l:List Int)(u:Cu):Int × Cu:=aA l (aA l (dA l u 5).cu 8).2 5
def fE (l:List Int)(u:Cu):aO × Cu:=if (aA l (dA l u 5).cu 8).1=0 then (⟨oT (dA l u 5).tabs (dbI l u).1.toNat noR⟩,(dbI l u).2) else (⟨(dA l u 5).tabs⟩,(aA l (dA l u 5).cu 8).2)
theorem aJb (l:List Int)(u:Cu):0<=(jL l u).1/\(jL l u).1<=8:=by
 have h:=aNF l (iV l u).2 (xs:=[2,4,6,8]) (by decide);have e:(jL l u).1=(bH l (iV l u).2 [2,4,6,8]).1:=rfl;rw[e];simp only[aEx,List.not_mem_nil,or_false] at h;omega
theorem aF3 (l:List Int)(u:Cu)(k:Nat):(∀t∈(dA l u k).tabs,gZ t<=33/\t.rows.length<=8)/\(dA l u k).tabs.length=k:=by
 have h:=aJb l u;exact⟨aJa h.1 h.2 (by simp) k,by rw[dA,aJ9];exact Nat.zero_add k⟩
theorem aF4 (l:List Int)(u:Cu):(∀t∈(fE l u).1.tables,gZ t<=33/\t.rows.length<=8)/\(fE l u).1.tables.length=5:=by
 have h:=aF3 l u 5;unfold fE;split
 ·refine⟨aKs h.1 fun t ht=>?_,by rw[<-h.2];exact aKr _ _ _⟩;have e:gZ t=t.name.size+cS t.rows:=rfl;have e2:gZ (noR t)=t.name.size+cS []:=rfl;have e3:cS []=0:=rfl;exact⟨by omega,aAc _⟩
 exact h
theorem aPq (l:List Int)(u:Cu):cT (fE l u).1<=170:=by
 have h:=aF4 l u;have h2:=qZ (c:=gZ) (fun t ht=>(h.1 t ht).1);rw[h.2] at h2;exact h2
def t4N (l:List Int)(u:Cu):ByteArray × Cu:=cJ l u [⟨#[114]⟩,⟨#[115]⟩,⟨#[116]⟩]
def t4A (l:List Int)(u:Cu):Int × Cu:=aA l (t4N l u).2 3
def mO (l:List Int)(u:Cu):bA × Cu:=dK l (t4A l u).2 (t4N l u).1 (1+(t4A l u).1) 6 4
def lP (l:List Int)(u:Cu):Int × Cu:=aA l (mO l u).2 12
def pP (l:List Int)(u:Cu):bA × Cu:=
 if (lP l u).1=0 then (⟨(cJ l (lP l u).2 [⟨#[]⟩,⟨#[82]⟩,⟨#[114,115]⟩,⟨#[122]⟩]).1,(mO l u).1.arity,(mO l u).1.rows⟩,(cJ l (lP l u).2 [⟨#[]⟩,⟨#[82]⟩,⟨#[114,115]⟩,⟨#[122]⟩]).2)
 else if (lP l u).1=1 then (⟨(mO l u).1.name,(bH l (lP l u).2 [0,4,-1]).1,(mO l u).1.rows⟩,(bH l (lP l u).2 [0,4,-1]).2)
 else if (lP l u).1=2 then (⟨(mO l u).1.name,(mO l u).1.arity,(mO l u).1.rows++[[0]]⟩,(lP l u).2)
 else if (lP l u).1=3 then (⟨(mO l u).1.name,(mO l u).1.arity,(mO l u).1.rows++[[9,9,10]]⟩,(lP l u).2)
 else ((mO l u).1,(lP l u).2)
theorem zK (l:List (List Int))(r:List Int):cS (l++[r])=cS l+1+r.length:=by
 simp only[cS,kX,aFu,aFt,List.length_nil,aDj,aDa,List.map_nil,List.sum_append,List.sum_cons,List.sum_nil];show _+1+(_+(r.length+0))=_;omega
theorem aPr (l:List Int)(u:Cu):(mO l u).1.name.size<=1/\cS (mO l u).1.rows<=32/\(mO l u).1.rows.length<=6:=by
 have h1:(t4N l u).1.size<=1:=mN l u (by decide) (by decide);have h2:=cF l (t4N l u).2 (n:=3) (by omega);have h3:=cF l (t4A l u).2 (n:=6+1) (by omega);have h4:=aI0 l (t4A l u).2 (ar:=(1+(t4A l u).1).toNat) (by have e:(t4A l u).1=(aA l (t4N l u).2 3).1:=rfl;omega) 6 4 (j:=(aA l (t4A l u).2 (6+1)).1.toNat) (by omega);have h5:=aB9 l (t4A l u).2 (t4N l u).1 (1+(t4A l u).1) (most:=6) (by omega) 4;exact⟨h1,h4,by have e:(mO l u).1=(dK l (t4A l u).2 (t4N l u).1 (1+(t4A l u).1) 6 4).1:=rfl;rw[e];omega⟩
theorem aRk (l:List Int)(u:Cu):gZ (pP l u).1<=40/\(pP l u).1.rows.length<=8:=by
 have h:=aPr l u;have hs:(cJ l (lP l u).2 [⟨#[]⟩,⟨#[82]⟩,⟨#[114,115]⟩,⟨#[122]⟩]).1.size<=2:=mN l _ (by decide) (by decide);have e: ∀t:bA,gZ t=t.name.size+cS t.rows:=fun _=>rfl;unfold pP;split
 ·rw[e];dsimp only;omega
 split
 ·rw[e];dsimp only;omega
 split
 ·rw[e];dsimp only;rw[zK,aFu];simp only[aFt,List.length_nil];omega
 split
 ·rw[e];dsimp only;rw[zK,aFu];simp only[aFt,List.length_nil];omega
 rw[e];dsimp only;omega
def azL:List ByteArray:=[⟨#[97]⟩,⟨#[119]⟩,⟨#[122]⟩]
def gE (l:List Int)(u:Cu):Int × Cu:=aA l (fE l u).2 10
def xF (l:List Int)(u:Cu):bA × Cu:=pP l (gE l u).2
def daN (l:List Int)(u:Cu):ByteArray × Cu:=cJ l (gE l u).2 azL
def daX (l:List Int)(u:Cu):bA × Cu:=dK l (daN l u).2 (daN l u).1 2 4 3
def daY (l:List Int)(u:Cu):bA × Cu:=dK l (gE l u).2 ⟨#[119]⟩ 1 2 3
def daZ (l:List Int)(u:Cu):bA × Cu:=dK l (daY l u).2 ⟨#[120]⟩ 1 2 3
def rH (l:List Int)(u:Cu):aO × Cu:=
 if (gE l u).1=0 then (⟨(fE l u).1.tables.set (aA l (xF l u).2 5).1.toNat (xF l u).1⟩,(aA l (xF l u).2 5).2)
 else if (gE l u).1=1 then (⟨(fE l u).1.tables++[(daX l u).1]⟩,(daX l u).2)
 else if (gE l u).1=2 then (⟨(fE l u).1.tables.drop (aA l (gE l u).2 5).1.toNat⟩,(aA l (gE l u).2 5).2)
 else if (gE l u).1=3 then (⟨(fE l u).1.tables++[(daY l u).1,(daZ l u).1]⟩,(daZ l u).2)
 else ((fE l u).1,(gE l u).2)
theorem aP3 (l:List Int)(u:Cu):(∀t∈(rH l u).1.tables,gZ t<=40/\t.rows.length<=8)/\(rH l u).1.tables.length<=7:=by
 have h:=aF4 l u;have hw: ∀t∈(fE l u).1.tables,gZ t<=40/\t.rows.length<=8:=fun t ht=>⟨by have:=h.1 t ht;omega,(h.1 t ht).2⟩
 have hx:gZ (daX l u).1<=40/\(daX l u).1.rows.length<=8:=by
  have h1:(daN l u).1.size<=1:=mN l _ (by decide) (by decide);have h2:=aNJ l (daN l u).2 (daN l u).1 (ar:=2) (by omega) (most:=4) (by omega) (by omega) 3;have h3:=aB9 l (daN l u).2 (daN l u).1 2 (most:=4) (by omega) 3;exact⟨by rw[daX];omega,by rw[daX];omega⟩
 have hy: ∀(c:Cu) (n:ByteArray),n.size<=1->gZ (dK l c n 1 2 3).1<=40/\(dK l c n 1 2 3).1.rows.length<=8:=fun c n hn=>by
  have h2:=aNJ l c n (ar:=1) (by omega) (most:=2) (by omega) (by omega) 3;have h3:=aB9 l c n 1 (most:=2) (by omega) 3;exact⟨by omega,by omega⟩
 unfold rH;split
 ·refine⟨fun t ht=>?_,by rw[aD8];omega⟩;rcases List.mem_or_eq_of_mem_set ht with ht | rfl
  ·exact hw t ht
  exact aRk l _
 split
 ·refine⟨fun t ht=>?_,by simp only[aFu,aFt,List.length_nil];omega⟩;rcases aD5.1 ht with ht | ht
  ·exact hw t ht
  rw[aHr.1 ht];exact hx
 split
 ·exact⟨fun t ht=>hw t (List.mem_of_mem_drop ht),by rw[aJm];omega⟩
 split
 ·refine⟨fun t ht=>?_,by simp only[aFu,aFt,List.length_nil];omega⟩;rcases aD5.1 ht with ht | ht
  ·exact hw t ht
  rcases aEx.1 ht with rfl | ht
  ·exact hy _ _ (aHF _)
  rw[aHr.1 ht];exact hy _ _ (aHF _)
 exact⟨hw,by dsimp only;omega⟩
theorem aRl (l:List Int)(u:Cu):cT (rH l u).1<=300:=by
 have h:=aP3 l u;have h2:=qZ (c:=gZ) (fun t ht=>(h.1 t ht).1);show kX gZ (rH l u).1.tables<=300;omega
def aI1:List Int:=[2,2,2,3,1]
theorem zL: ∀k,aI1.getD k 0<=3
 | 0 | 1 | 2 | 3 | 4=>by decide
 | _+5=>by show (0:Int)<=3;omega
def aNK (l:List Int)(dt:Int)(i:Nat)(s:List Int × Cu):List Int × Cu:=if (i:Int)=dt then s else if (aA l s.2 2).1=0 then (s.1++[(i:Int)],(aA l s.2 2).2) else (s.1,(aA l s.2 2).2)
def bU (l:List Int)(dt:Int):Nat->List Int × Cu->List Int × Cu
 | 0,s=>s
 | i+1,s=>aNK l dt i (bU l dt i s)
theorem aCt (l:List Int)(dt:Int)(s:List Int × Cu): ∀i,(bU l dt i s).1.length<=s.1.length+i
 | 0=>aHF _
 | i+1=>by
   have h:=aCt l dt s i;rw[bU,aNK];split
   ·omega
   split
   ·simp only[aFu,aFt,List.length_nil];omega
   dsimp only;omega
def bT (l:List Int)(u:Cu):Int × Cu:=aA l u 5
def deM (l:List Int)(u:Cu):Int:=aI1.getD (bT l u).1.toNat 0
def deT (l:List Int)(u:Cu):Int × Cu:=aA l (bT l u).2 (deM l u)
def deL (l:List Int)(u:Cu):List Int × Cu:=bU l (deT l u).1 (deM l u).toNat ([],(deT l u).2)
def deO (l:List Int)(u:Cu):Int × Cu:=aA l (deL l u).2 14
def deD (l:List Int)(u:Cu):Int × Cu:=if (deO l u).1=0 then bH l (deO l u).2 [-1,3,0] else ((deT l u).1,(deO l u).2)
def deQ (l:List Int)(u:Cu):Int × Cu:=aA l (deD l u).2 16
def deN (l:List Int)(u:Cu):ByteArray:=nmL.getD (bT l u).1.toNat ⟨#[]⟩
def dI (l:List Int)(u:Cu):aW × Cu:=
 if (deQ l u).1=0 then (⟨deN l u,(deL l u).1++[(bH l (deQ l u).2 [-1,0,3,9223372036854775807]).1],(deD l u).1⟩,(bH l (deQ l u).2 [-1,0,3,9223372036854775807]).2)
 else (⟨deN l u,(deL l u).1,(deD l u).1⟩,(deQ l u).2)
theorem aI2 (l:List Int)(u:Cu):fV (dI l u).1<=5:=by
 have h:=aCt l (deT l u).1 ([],(deT l u).2) (deM l u).toNat;have h2:=zL (bT l u).1.toNat;have h3:(deN l u).size<=1:=aCs _;have e: ∀f:aW,fV f=f.name.size+f.src.length:=fun _=>rfl;have e2:deM l u=aI1.getD (bT l u).1.toNat 0:=rfl;have e3:(deL l u).1=(bU l (deT l u).1 (deM l u).toNat ([],(deT l u).2)).1:=rfl;simp only[List.length_nil] at h;unfold dI;split
 ·rw[e];dsimp only;simp only[aFu,aFt,List.length_nil];rw[e3];omega
 rw[e];dsimp only;rw[e3];omega
def inN (l:List Int)(u:Cu):ByteArray × Cu:=cJ l u nmL
def inC (l:List Int)(u:Cu):Int × Cu:=aA l (inN l u).2 2
def inI (l:List Int)(u:Cu):ByteArray × Cu:=cJ l (inC l u).2 nmL
def sX (l:List Int)(u:Cu):Int × Cu:=aA l (inI l u).2 2
def eG (l:List Int)(u:Cu):Int × Cu:=aA l (sX l u).2 14
def wI (n:ByteArray)(x:Int):Int:=if n=⟨#[118]⟩ then 0 else x
def cU (l:List Int)(u:Cu):bC × Cu:=
 if (eG l u).1=0 then (⟨(inN l u).1,(bH l (eG l u).2 [-1,3]).1,(inI l u).1,wI (inI l u).1 (sX l u).1⟩,(bH l (eG l u).2 [-1,3]).2)
 else (⟨(inN l u).1,wI (inN l u).1 (inC l u).1,(inI l u).1,wI (inI l u).1 (sX l u).1⟩,(eG l u).2)
theorem aI3 (l:List Int)(u:Cu):iZ (cU l u).1<=2:=by
 have h1:(inN l u).1.size<=1:=mN l u (by decide) (by decide);have h2:(inI l u).1.size<=1:=mN l _ (by decide) (by decide);have e: ∀x:bC,iZ x=x.name.size+x.into.size:=fun _=>rfl;unfold cU;split
 ·rw[e];dsimp only;omega
 rw[e];dsimp only;omega
structure CS where
 out:List ByteArray
 fr:Nat
def hJ (c:Int)(s:ByteArray):Nat->CS
 | 0=>⟨[],0⟩
 | i+1=>if oI s i=c then ⟨(hJ c s i).out++[s.extract (hJ c s i).fr i],i+1⟩ else hJ c s i
def aU (c:Int)(s:ByteArray):List ByteArray:=(hJ c s s.size).out++[s.extract (hJ c s s.size).fr s.size]
theorem sA {c:Int}{s:ByteArray}{i:Nat}(h:oI s i=c):hJ c s (i+1)=⟨(hJ c s i).out++[s.extract (hJ c s i).fr i],i+1⟩:=by rw[hJ,if_pos h]
theorem sB {c:Int}{s:ByteArray}{i:Nat}(h: ¬oI s i=c):hJ c s (i+1)=hJ c s i:=by rw[hJ,if_neg h]
theorem aCv (c:Int)(s:ByteArray): ∀i,(hJ c s i).fr<=i/\(hJ c s i).out.length<=i
 | 0=>⟨aHF _,aHF _⟩
 | i+1=>by
   have h:=aCv c s i;rw[hJ];split
   ·simp only[aFu,aFt,List.length_nil];omega
   omega
theorem aNN (c:Int)(s:ByteArray):(aU c s).length<=s.size+1:=by
 have h:=(aCv c s s.size).2;rw[aU,aFu];simp only[aFt,List.length_nil];omega
def vnm (v:Int):ByteArray:=if fB v 0 3=true then (⟨#[88,89,90,85]⟩:ByteArray).extract (Int.toNat v) (Int.toNat (v+1)) else ⟨#[]⟩
theorem aF5 {v:Int}(h:fB v 0 3=true):vnm v=(⟨#[88,89,90,85]⟩:ByteArray).extract (Int.toNat v) (Int.toNat (v+1)):=by rw[vnm,if_pos h]
theorem aI4 {v:Int}(h:fB v 0 3=false):vnm v=⟨#[]⟩:=by rw[vnm,if_neg (by rw[h];decide)]
theorem aHH (v:Int):(vnm v).size<=1:=by
 cases h:fB v 0 3 with
 | false=>rw[aI4 h];exact aAc _
 | true=>
   rw[aF5 h];have:=dS h;rw[ByteArray.size_extract];omega
def nI (l:List Int):Nat->ByteArray
 | 0=>⟨#[]⟩
 | i+1=>nI l i++vnm (l.getD i 0)
theorem rA (l:List Int): ∀k,(nI l k).size<=k
 | 0=>aHF _
 | k+1=>by
   have h1:=rA l k;have h2:=aHH (l.getD k 0);rw[nI,ByteArray.size_append];omega
def kI (q:aX):Nat->ByteArray
 | 0=>⟨#[]⟩
 | i+1=>(if 0<i then kI q i++(⟨#[32]⟩:ByteArray) else kI q i)++(q.atoms.getD i jM).name++(⟨#[40]⟩:ByteArray)++nI (q.atoms.getD i jM).vars (q.atoms.getD i jM).vars.length++(⟨#[41]⟩:ByteArray)
theorem aCw {q:aX}{i:Nat}{a:bX}(h:q.atoms[i]? =some a)(h2:(0:Int)<(i:Int)):kI q (i+1)=kI q i++(⟨#[32]⟩:ByteArray)++a.name++(⟨#[40]⟩:ByteArray)++nI a.vars a.vars.length++(⟨#[41]⟩:ByteArray):=by rw[kI,bB h,if_pos (by omega)]
theorem aCx {q:aX}{i:Nat}{a:bX}(h:q.atoms[i]? =some a)(h2: ¬0<(i:Int)):kI q (i+1)=kI q i++a.name++(⟨#[40]⟩:ByteArray)++nI a.vars a.vars.length++(⟨#[41]⟩:ByteArray):=by rw[kI,bB h,if_neg (by omega)]
def vX (q:aX):ByteArray:=if bI q=true then kI q q.atoms.length else ⟨#[]⟩
theorem aP4 {q:aX}{i:Nat}(hi:i<=q.atoms.length)(hv:i=0\/bI q=true)(h: ¬(i:Int)<(q.atoms.length:Int)):kI q i=vX q:=by
 have e:i=q.atoms.length:=by omega
 rw[vX];split
 ·rw[e]
 rcases hv with hv | hv
 ·rw[hv];rfl
 contradiction
theorem aNO {q:aX}{i:Nat}(hv:i=0\/bI q=true)(h:bI q=false):kI q i=vX q:=by
 rw[vX,if_neg (by rw[h];decide)];rcases hv with hv | hv
 ·rw[hv];rfl
 rw[h] at hv;cases hv
theorem pQ {s:ByteArray}(h:iM s=true):s.size=1:=by
 simp only[iM,aA1,aH9] at h;omega
theorem aEd {q:aX}(h:bI q=true): ∀i,i<=q.atoms.length->(kI q i).size<=7*i
 | 0,_=>aHF _
 | i+1,hi=>by
   have h1:=aEd h i (by omega);obtain⟨a,ha⟩:=jJ (l:=q.atoms) (k:=i) (by omega);obtain⟨p1,p2,_⟩:=jD ((dQ h).2.2 a (aAm ha));have p3:=pQ p1;have p4:=rA a.vars a.vars.length;have k1:(⟨#[32]⟩:ByteArray).size=1:=rfl;have k2:(⟨#[40]⟩:ByteArray).size=1:=rfl;have k3:(⟨#[41]⟩:ByteArray).size=1:=rfl;by_cases h0:(0:Int)<(i:Int)
   ·rw[aCw ha h0];simp only[ByteArray.size_append];omega
   rw[aCx ha h0];simp only[ByteArray.size_append];omega
def aKu (a b:Int):Int:=if a<b then b else a
structure AS where
 vars:List Int
 vc:Int
def wJ (w:ByteArray)(k:Nat)(s:AS):Nat->AS
 | 0=>s
 | v+1=>if ((vnm (v:Int)).toList==(w.extract k (k+1)).toList)=true then ⟨(wJ w k s v).vars++[(v:Int)],aKu (wJ w k s v).vc ((v:Int)+1)⟩ else wJ w k s v
def sT (w:ByteArray)(s:AS):Nat->AS
 | 0=>s
 | j+1=>wJ w (j+2) (sT w s j) 4
theorem iR {w:ByteArray}{k v:Nat}{s:AS}(h:((vnm (v:Int)).toList==(w.extract k (k+1)).toList)=true):wJ w k s (v+1)=⟨(wJ w k s v).vars++[(v:Int)],aKu (wJ w k s v).vc ((v:Int)+1)⟩:=by rw[wJ,if_pos h]
theorem sU {w:ByteArray}{k v:Nat}{s:AS}(h:((vnm (v:Int)).toList==(w.extract k (k+1)).toList)=false):wJ w k s (v+1)=wJ w k s v:=by rw[wJ,if_neg (by rw[h];decide)]
theorem aHI {a b m:Int}(h0:0<=a)(ha:a<=m)(hb:b<=m):0<=aKu a b/\aKu a b<=m:=by unfold aKu;split<;>omega
theorem aF6 {w:ByteArray}{k n:Nat}{s:AS}(h:s.vars.length<=n/\0<=s.vc/\s.vc<=4): ∀v,v<=4->(wJ w k s v).vars.length<=n+v/\0<=(wJ w k s v).vc/\(wJ w k s v).vc<=4
 | 0,_=>h
 | v+1,hv=>by
   obtain⟨q1,q2,q3⟩:=aF6 (w:=w) (k:=k) h v (by omega);rw[wJ];split
   ·refine⟨by simp only[aFu,aFt,List.length_nil];omega,aHI q2 q3 (by omega)⟩
   exact⟨by omega,q2,q3⟩
theorem aF7 {w:ByteArray}{n:Nat}{s:AS}(h:s.vars.length<=n/\0<=s.vc/\s.vc<=4): ∀j,(sT w s j).vars.length<=n+4*j/\0<=(sT w s j).vc/\(sT w s j).vc<=4
 | 0=>h
 | j+1=>by
   have q:=aF6 (w:=w) (k:=j+2) (aF7 (w:=w) h j) 4 (aHF _);rw[sT];exact⟨by omega,q.2⟩
structure BS where
 atoms:List bX
 vc:Int
def jR (w:ByteArray):Bool:=decide (4<=w.size/\w.size<=6)
def eI (ws:List ByteArray):Nat->BS
 | 0=>⟨[],0⟩
 | i+1=>⟨(eI ws i).atoms++[⟨(ws.getD i ⟨#[]⟩).extract 0 1,(sT (ws.getD i ⟨#[]⟩) ⟨[],(eI ws i).vc⟩ ((ws.getD i ⟨#[]⟩).size - 3)).vars⟩],(sT (ws.getD i ⟨#[]⟩) ⟨[],(eI ws i).vc⟩ ((ws.getD i ⟨#[]⟩).size - 3)).vc⟩
theorem aJc (ws:List ByteArray): ∀i,0<=(eI ws i).vc/\(eI ws i).vc<=4/\(eI ws i).atoms.length=i
 | 0=>⟨Int.le_refl _,by show (0:Int)<=4;omega,rfl⟩
 | i+1=>by
   obtain⟨q1,q2,q3⟩:=aJc ws i;have h:=aF7 (w:=ws.getD i ⟨#[]⟩) (n:=0) (s:=⟨[],(eI ws i).vc⟩) ⟨aHF _,q1,q2⟩ ((ws.getD i ⟨#[]⟩).size - 3);rw[eI];exact⟨h.2.1,h.2.2,by simp only[aFu,aFt,List.length_nil];omega⟩
def pqN (s:ByteArray):Nat:=min (aU 32 s).length 5
def pqQ (s:ByteArray):aX:=⟨(eI (aU 32 s) (pqN s)).vc,(eI (aU 32 s) (pqN s)).atoms⟩
def gP (s:ByteArray):aX × Bool:=if (((aU 32 s).take (pqN s)).all jR&&(bI (pqQ s)&&((vX (pqQ s)).toList==s.toList)))=true then (pqQ s,true) else (wZ,false)
theorem aCy {s:ByteArray}(h:(((aU 32 s).take (pqN s)).all jR&&(bI (pqQ s)&&((vX (pqQ s)).toList==s.toList)))=false):gP s=(wZ,false):=by rw[gP,if_neg (by rw[h];decide)]
theorem aJd {s:ByteArray}(h:(((aU 32 s).take (pqN s)).all jR&&(bI (pqQ s)&&((vX (pqQ s)).toList==s.toList)))=true):gP s=(pqQ s,true):=by rw[gP,if_pos h]
theorem aHJ {s w:ByteArray}{i:Nat}(hi:i<pqN s)(hw:(aU 32 s)[i]? =some w)(h:jR w=false):gP s=(wZ,false):=by
 refine aCy ?_;have:((aU 32 s).take (pqN s)).all jR=false:=gI (k:=i) (x:=w) (by rw[List.getElem?_take_of_lt hi];exact hw) h;rw[this];rfl
abbrev hY (l:List Int)(u:Cu)(xs:List ByteArray):List AV × List (Nat × Rs) × AV × List (Nat × Rs):=([.ptr 0 0,.own 1],[(0,.box 50 [.p none (.sl 5 1 (l.map aY)),vI (u.i:Int),vI u.h]),(1,.arr 9 1 true (xs.map eT))],.p none (.str ((cJ l u xs).1)),[(0,.box 50 [.p none (.sl 5 1 (l.map aY)),vI (((cJ l u xs).2.i:Nat):Int),vI ((cJ l u xs).2.h)])])
abbrev kS (l:List Int)(u:Cu)(xs:List ByteArray):Prop:=Cm 49 (hY l u xs).1 (hY l u xs).2.1 (hY l u xs).2.2.1 (hY l u xs).2.2.2
theorem sC (l:List Int)(u:Cu)(hl:l.length<=1048576)(xs:List ByteArray)(hx:0<xs.length):kS l u xs:=by
 refine cqx Try.func49 (.len xs.length<| aQ (cD l u (xs.length:Int)) [(0,0)]<| .len xs.length<| .elem _ eT xs (fun e11=> .fin [(0,0)])) (p:=Lm eT xs/\cK l u (xs.length:Int)/\(xs.length:Int)=(xs.length:Int)/\l.map aY=l.map aY/\(u.i:Int)=(u.i:Int)/\u.h=u.h/\0<=((aA l u (xs.length:Int)).1)/\Lm eT xs/\((aA l u (xs.length:Int)).1)<(xs.length:Int)/\Em eT xs (((aA l u (xs.length:Int)).1).toNat) fun e11=>e11=((cJ l u xs).1)/\l.map aY=l.map aY/\(((aA l u (xs.length:Int)).2.i:Nat):Int)=(((cJ l u xs).2.i:Nat):Int)/\((aA l u (xs.length:Int)).2.h)=((cJ l u xs).2.h)/\True) (by kernel_rfl) ?_;have hb:=cF l u (n:=xs.length) (by omega);refine⟨aA0 _,dR l u (by assumption) (xs.length:Int),rfl,rfl,rfl,rfl,by omega,aA0 _,by omega,rfl,by omega,fun e11 h11=>?_⟩;refine⟨?_,rfl,?_,?_,trivial⟩<;>(first|rfl|(rw[aNI (by assumption)]<;>rfl))
abbrev kD (l:List Int)(u:Cu)(nm:ByteArray)(ar:Int)(most:Int)(val:Int):List AV × List (Nat × Rs) × AV × List (Nat × Rs):=([.ptr 0 0,.p none (.str nm),vI ar,vI most,vI val],[(0,.box 50 [.p none (.sl 5 1 (l.map aY)),vI (u.i:Int),vI u.h])],.agg [.p none (.str ((dK l u nm ar most val).1.name)),vI ((dK l u nm ar most val).1.arity),.own 1],[(0,.box 50 [.p none (.sl 5 1 (l.map aY)),vI (((dK l u nm ar most val).2.i:Nat):Int),vI ((dK l u nm ar most val).2.h)]),(1,.arr 27 1 true ((dK l u nm ar most val).1.rows.map aD))])
abbrev nW (l:List Int)(u:Cu)(nm:ByteArray)(ar:Int)(most:Int)(val:Int):Prop:=Cm 63 (kD l u nm ar most val).1 (kD l u nm ar most val).2.1 (kD l u nm ar most val).2.2.1 (kD l u nm ar most val).2.2.2
theorem aAv (l:List Int)(u:Cu)(hl:l.length<=1048576)(nm:ByteArray)(ar most val:Int)(har:0<=ar/\ar<=3)(hm:0<=most/\most<=8):nW l u nm ar most val:=by
 refine cqx Try.func63 (aQ (cD l u (most+1)) [(0,0)]<| .loop Nat (Q1 Nat) ([12,13,14]++rg 22 21) [0,1100,2600,3600,3700,4100,9001] (fun j=>[(12,vI ((aA l u (most+1)).1 - (j:Int)))]) (fun j=>[(1100,some (.box 114 [.p none (.str nm),vI ar,.own 9001])),(9001,some (.arr 27 1 true ((eY l u ar.toNat most val j).rows.map aD))),(0,some (.box 50 [.p none (.sl 5 1 (l.map aY)),vI (((eY l u ar.toNat most val j).cu.i:Nat):Int),vI ((eY l u ar.toNat most val j).cu.h)]))]) (fun j=>(j:Int)<=(aA l u (most+1)).1) (fun j=>((aA l u (most+1)).1 - j).toNat) (fun j=> .br (.loop Nat (Q1 Nat) ([13,14]++rg 26 12) [0,2600,3600,3700] (fun i=>[(14,vI (i:Int)),(13,.own 2600)]) (fun i=>[(2600,some (.arr 3 1 true ((iK (jK l val) i (eY l u ar.toNat most val j).cu).1.map aC))),(0,some (.box 50 [.p none (.sl 5 1 (l.map aY)),vI (((iK (jK l val) i (eY l u ar.toNat most val j).cu).2.i:Nat):Int),vI ((iK (jK l val) i (eY l u ar.toNat most val j).cu).2.h)]))]) (fun i=>(i:Int)<=ar) (fun i=>(ar - i).toNat) (fun i=> .br (aQ (cD l ((iK (jK l val) i (eY l u ar.toNat most val j).cu).2) val) [(0,0)]<| .app Int aC ((iK (jK l val) i (eY l u ar.toNat most val j).cu).1) ([(aA l ((iK (jK l val) i (eY l u ar.toNat most val j).cu).2) val).1]:List Int)<| .back [(0,0),(2600,3700)]) (dT (oR ((eY l u ar.toNat most val j).rows) ((iK (jK l val) i (eY l u ar.toNat most val j).cu).1))<| .back [(0,0),(1100,1100),(9001,4100)]))) (.fin [(0,0),(1,9001)]))) (p:=bS (most+1)/\(cK l u (most+1)/\(most+1)=(most+1)/\l.map aY=l.map aY/\(u.i:Int)=(u.i:Int)/\u.h=u.h/\((∃(j:Nat),((aA l u (most+1)).1)=((aA l u (most+1)).1 - (j:Int))/\nm=nm/\ar=ar/\[]=(eY l u ar.toNat most val j).rows.map aD/\l.map aY=l.map aY/\(((aA l u (most+1)).2.i:Nat):Int)=(((eY l u ar.toNat most val j).cu.i:Nat):Int)/\((aA l u (most+1)).2.h)=((eY l u ar.toNat most val j).cu.h)/\(j:Int)<=(aA l u (most+1)).1)/\ ∀(j:Nat),(j:Int)<=(aA l u (most+1)).1->Br (0<((aA l u (most+1)).1 - (j:Int))) ((∃(i:Nat),0=(i:Int)/\[]=(iK (jK l val) i (eY l u ar.toNat most val j).cu).1.map aC/\l.map aY=l.map aY/\(((eY l u ar.toNat most val j).cu.i:Nat):Int)=(((iK (jK l val) i (eY l u ar.toNat most val j).cu).2.i:Nat):Int)/\((eY l u ar.toNat most val j).cu.h)=((iK (jK l val) i (eY l u ar.toNat most val j).cu).2.h)/\(i:Int)<=ar)/\ ∀(i:Nat),(i:Int)<=ar->Br ((i:Int)<ar) (cK l ((iK (jK l val) i (eY l u ar.toNat most val j).cu).2) val/\val=val/\l.map aY=l.map aY/\(((iK (jK l val) i (eY l u ar.toNat most val j).cu).2.i:Nat):Int)=(((iK (jK l val) i (eY l u ar.toNat most val j).cu).2.i:Nat):Int)/\((iK (jK l val) i (eY l u ar.toNat most val j).cu).2.h)=((iK (jK l val) i (eY l u ar.toNat most val j).cu).2.h)/\Ap aC ((iK (jK l val) i (eY l u ar.toNat most val j).cu).1) ([(aA l ((iK (jK l val) i (eY l u ar.toNat most val j).cu).2) val).1]:List Int) 8 (bS ((i:Int)+1)/\ ∃(i' :Nat),((i:Int)+1)=(i' :Int)/\(((iK (jK l val) i (eY l u ar.toNat most val j).cu).1)++[(aA l ((iK (jK l val) i (eY l u ar.toNat most val j).cu).2) val).1]).map aC=(iK (jK l val) i' (eY l u ar.toNat most val j).cu).1.map aC/\l.map aY=l.map aY/\(((aA l ((iK (jK l val) i (eY l u ar.toNat most val j).cu).2) val).2.i:Nat):Int)=(((iK (jK l val) i' (eY l u ar.toNat most val j).cu).2.i:Nat):Int)/\((aA l ((iK (jK l val) i (eY l u ar.toNat most val j).cu).2) val).2.h)=((iK (jK l val) i' (eY l u ar.toNat most val j).cu).2.h)/\(i' :Int)<=ar/\(ar - i').toNat<(ar - i).toNat)) (rU ((eY l u ar.toNat most val j).rows) ((iK (jK l val) i (eY l u ar.toNat most val j).cu).1)/\bS (((aA l u (most+1)).1 - (j:Int)) - 1)/\ ∃(j' :Nat),(((aA l u (most+1)).1 - (j:Int)) - 1)=((aA l u (most+1)).1 - ((j' :Nat):Int))/\nm=nm/\ar=ar/\(iI ((iK (jK l val) i (eY l u ar.toNat most val j).cu).1) ((eY l u ar.toNat most val j).rows)).map aD=(eY l u ar.toNat most val j').rows.map aD/\l.map aY=l.map aY/\(((iK (jK l val) i (eY l u ar.toNat most val j).cu).2.i:Nat):Int)=(((eY l u ar.toNat most val j').cu.i:Nat):Int)/\((iK (jK l val) i (eY l u ar.toNat most val j).cu).2.h)=((eY l u ar.toNat most val j').cu.h)/\(j' :Int)<=(aA l u (most+1)).1/\((aA l u (most+1)).1 - j').toNat<((aA l u (most+1)).1 - j).toNat)) (nm=((dK l u nm ar most val).1.name)/\ar=((dK l u nm ar most val).1.arity)/\l.map aY=l.map aY/\(((eY l u ar.toNat most val j).cu.i:Nat):Int)=(((dK l u nm ar most val).2.i:Nat):Int)/\((eY l u ar.toNat most val j).cu.h)=((dK l u nm ar most val).2.h)/\(eY l u ar.toNat most val j).rows.map aD=(dK l u nm ar most val).1.rows.map aD/\True)))) (by kernel_rfl) ?_;have w1:=cF l u (n:=most+1) (by omega);refine⟨⟨by omega,by omega⟩,dR l u (by assumption) (most+1),rfl,rfl,rfl,rfl,⟨0,(by first|rfl|omega|(rw[<-ei];rfl)),(by first|rfl|omega|(rw[<-ei];rfl)),(by first|rfl|omega|(rw[<-ei];rfl)),(by first|rfl|omega|(rw[<-ei];rfl)),(by first|rfl|omega|(rw[<-ei];rfl)),(by first|rfl|omega|(rw[<-ei];rfl)),(by first|rfl|omega|(rw[<-ei];rfl)),by omega⟩,fun j hj=>?_⟩;have hz0:=aCr l u ar.toNat most val j;have hzc:=aI0 l u (ar:=ar.toNat) (by omega) most val (j:=j) (by omega);refine dd (fun c0=>?_) fun c0=>?_
 ·refine⟨⟨0,rfl,rfl,rfl,rfl,rfl,by omega⟩,fun i hi=>?_⟩;have hz1:=aCo (jK l val) (eY l u ar.toNat most val j).cu i;refine dd (fun c1=>?_) fun c1=>?_
  ·refine⟨dR l ((iK (jK l val) i (eY l u ar.toNat most val j).cu).2) (by assumption) val,rfl,rfl,rfl,rfl,?_⟩;refine ap ?_ (fun _=>rfl) (by first|omega|(simp;omega));refine⟨⟨by omega,by omega⟩,?_⟩;exact⟨i+1,rfl,rfl,rfl,rfl,rfl,by omega,by omega⟩
  ·have ei:ar.toNat=i:=by omega
   refine⟨aC5 ((eY l u ar.toNat most val j).rows) ((iK (jK l val) i (eY l u ar.toNat most val j).cu).1) (by omega) (by omega) (by omega),⟨by omega,by omega⟩,?_⟩;exact⟨j+1,(by first|rfl|omega|(rw[<-ei];rfl)),(by first|rfl|omega|(rw[<-ei];rfl)),(by first|rfl|omega|(rw[<-ei];rfl)),(by first|rfl|omega|(rw[<-ei];rfl)),(by first|rfl|omega|(rw[<-ei];rfl)),(by first|rfl|omega|(rw[<-ei];rfl)),(by first|rfl|omega|(rw[<-ei];rfl)),by omega,by omega⟩
 ·have ej:(aA l u (most+1)).1.toNat=j:=by omega
  refine⟨?_,?_,rfl,?_,?_,?_,trivial⟩<;>(first|rfl|(simp only[dK,aRH,ej];done))
def knL:List ByteArray:=[⟨#[114,40,88,89,41]⟩,⟨#[114,40,88,89,41,32,115,40,89,90,41]⟩,⟨#[114,40,88,89,41,32,115,40,89,90,41,32,116,40,90,85,41]⟩,⟨#[114,40,88,89,41,32,115,40,89,90,41,32,116,40,90,88,41]⟩,⟨#[114,40,88,89,41,32,115,40,88,90,41,32,116,40,88,85,41]⟩,⟨#[114,40,88,89,41,32,115,40,89,90,41,32,118,40,89,41]⟩,⟨#[117,40,88,89,90,41,32,115,40,90,85,41]⟩,⟨#[117,40,88,89,90,41,32,114,40,88,89,41,32,118,40,90,41]⟩,⟨#[114,40,88,89,41,32,115,40,89,90,41,32,116,40,90,85,41,32,118,40,88,41]⟩,⟨#[114,40,88,89,41,32,114,40,89,90,41]⟩,⟨#[114,40,88,89,41,32,115,40,89,88,41]⟩,⟨#[118,40,88,41,32,114,40,88,89,41,32,115,40,89,90,41,32,116,40,90,85,41]⟩,⟨#[114,40,88,89,41,32,115,40,89,90,41,32,116,40,90,85,41,32,115,40,85,88,41]⟩]
def qyS (l:List Int)(u:Cu):ByteArray × Cu:=cJ l u knL
def qyO (l:List Int)(u:Cu):Int × Cu:=aA l (qyS l u).2 4
def qyN (l:List Int)(u:Cu):Int × Cu:=aA l (qyO l u).2 4
def qy0 (l:List Int)(u:Cu):aX:=(gP (qyS l u).1).1
def uI (v0:Int):Nat->List Int × Int
 | 0=>([],v0)
 | i+1=>((uI v0 i).1++[(uI v0 i).2],Int.tmod ((uI v0 i).2+1) 4)
def aBZ (c0 v0:Int):Nat->Int
 | 0=>c0
 | i+1=>aKu (aBZ c0 v0 i) ((uI v0 i).2+1)
theorem aBb {v0:Int}(h:0<=v0/\v0<4): ∀i,(uI v0 i).1.length=i/\0<=(uI v0 i).2/\(uI v0 i).2<4
 | 0=>⟨rfl,h⟩
 | i+1=>by
   obtain⟨q1,q2⟩:=aBb h i;have:=aF2 (x:=(uI v0 i).2+1) (n:=4) (by omega) (by omega);rw[uI];exact⟨by simp only[aFu,aFt,List.length_nil];omega,this⟩
theorem zM {c0 v0:Int}(h:0<=v0/\v0<4)(hc:0<=c0/\c0<=4): ∀i,0<=aBZ c0 v0 i/\aBZ c0 v0 i<=4
 | 0=>hc
 | i+1=>by
   have q:=zM h hc i;have q2:=(aBb h i).2;rw[aBZ];exact aHI q.1 q.2 (by omega)
structure QS where
 atoms:List bX
 vc:Int
 cu:Cu
def qsK (l:List Int)(c:Cu):Int × Cu:=aA l c 5
def rI (l:List Int)(c:Cu):Int × Cu:=aA l (qsK l c).2 4
def qsM (l:List Int)(c:Cu):Int:=aI1.getD (qsK l c).1.toNat 0
def qsN (l:List Int)(c:Cu):ByteArray:=nmL.getD (qsK l c).1.toNat ⟨#[]⟩
def qsF (l:List Int)(s:QS):QS:=⟨s.atoms++[⟨qsN l s.cu,(uI (rI l s.cu).1 (qsM l s.cu).toNat).1⟩],aBZ s.vc (rI l s.cu).1 (qsM l s.cu).toNat,(rI l s.cu).2⟩
def dV (l:List Int)(u:Cu)(j:Nat):QS:=qX (qsF l) j ⟨[],0,(qyN l u).2⟩
def qyE (l:List Int)(u:Cu):QS:=dV l u (1+(qyN l u).1).toNat
def qyX (l:List Int)(u:Cu):aX:=⟨(qyE l u).vc,(qyE l u).atoms⟩
def cG (l:List Int)(u:Cu):aX × Cu:=if (qyO l u).1=0 then (if bI (qyX l u)=true then qyX l u else qy0 l u,(qyE l u).cu) else (qy0 l u,(qyO l u).2)
theorem hZ {l:List Int}{u:Cu}{j i:Nat}{n:ByteArray}{m:Int}(hn:qsN l (dV l u j).cu=n)(hm:qsM l (dV l u j).cu=m)(ei:m.toNat=i):dV l u (j+1)=⟨(dV l u j).atoms++[⟨n,(uI (rI l (dV l u j).cu).1 i).1⟩],aBZ (dV l u j).vc (rI l (dV l u j).cu).1 i,(rI l (dV l u j).cu).2⟩:=by
 subst hn;subst hm;subst ei;rfl
theorem aJe (l:List Int)(u:Cu): ∀j,(dV l u j).atoms.length=j/\0<=(dV l u j).vc/\(dV l u j).vc<=4/\kH (dV l u j).atoms<=j*5
 | 0=>⟨rfl,Int.le_refl _,by show (0:Int)<=4;omega,aHF _⟩
 | j+1=>by
   obtain⟨q1,q2,q3,q4⟩:=aJe l u j;have hv:0<=(rI l (dV l u j).cu).1/\(rI l (dV l u j).cu).1<4:=cF l _ (by omega);have hm:=zL (qsK l (dV l u j).cu).1.toNat;have hl:=(aBb hv (qsM l (dV l u j).cu).toNat).1;have hs:(qsN l (dV l u j).cu).size<=1:=aCs _;have e: ∀a:bX,lT a=a.name.size+a.vars.length:=fun _=>rfl;have em:qsM l (dV l u j).cu=aI1.getD (qsK l (dV l u j).cu).1.toNat 0:=rfl;rw[hZ rfl rfl rfl];have e2:kH ((dV l u j).atoms++[⟨qsN l (dV l u j).cu,(uI (rI l (dV l u j).cu).1 (qsM l (dV l u j).cu).toNat).1⟩])=kH (dV l u j).atoms+1+lT ⟨qsN l (dV l u j).cu,(uI (rI l (dV l u j).cu).1 (qsM l (dV l u j).cu).toNat).1⟩:=vN _ _ _;refine⟨by simp only[aFu,aFt,List.length_nil];omega,(zM hv ⟨q2,q3⟩ _).1,(zM hv ⟨q2,q3⟩ _).2,?_⟩
   dsimp only
   rw[e2,e]
   dsimp only
   omega
theorem aNP {l:List Int}{u:Cu}(h: ¬(qyO l u).1=0):cG l u=(qy0 l u,(qyO l u).2):=by rw[cG,if_neg h]
theorem aEe {l:List Int}{u:Cu}(h:(qyO l u).1=0)(h2:bI (qyX l u)=true):cG l u=(qyX l u,(qyE l u).cu):=by rw[cG,if_pos h,if_pos h2]
theorem aEf {l:List Int}{u:Cu}(h:(qyO l u).1=0)(h2:bI (qyX l u)=false):cG l u=(qy0 l u,(qyE l u).cu):=by rw[cG,if_pos h,if_neg (by rw[h2];decide)]
theorem aRo: ∀s∈knL,bI (gP s).1=true:=by decide+kernel
theorem aP7: ∀s∈knL,s.size<=100:=by decide+kernel
theorem aF8 (l:List Int)(u:Cu):bI (cG l u).1=true:=by
 have h0:bI (qy0 l u)=true:=aRo _ (aAZ l u (xs:=knL) (by decide));unfold cG;split
 ·dsimp only
  split
  ·assumption
  exact h0
 exact h0
theorem aPx {q:aX}(h:bI q=true):rS q<=20:=by
 obtain⟨_,h2,h3⟩:=dQ h;have e:rS q=kH q.atoms:=rfl;have e1: ∀a:bX,lT a=a.name.size+a.vars.length:=fun _=>rfl
 have hb: ∀a∈q.atoms,lT a<=4:=fun a ha=>by
  obtain⟨p1,p2,_⟩:=jD (h3 a ha);have:=pQ p1;rw[e1];omega
 have:=qZ (c:=lT) hb;have e3:kH q.atoms=kX lT q.atoms:=rfl;omega
def zN (q:aX)(m:Int)(i v:Nat):Bool:=(List.range i).any fun j=>fK m j&&decide ((v:Int)∈(q.atoms.getD j jM).vars)
def inM (q:aX)(m:Int)(v:Nat):Bool:=zN q m q.atoms.length v
def aJf (q:aX)(m:Int):List Int:=gS (inM q m) q.variableCount.toNat
def lJ (q:aX)(m:Int):Bool:=bI q&&fB m 0 ((1:Int)*2^q.atoms.length - 1)
def oU (q:aX)(m:Int):List Int:=if lJ q m=true then aJf q m else []
def pR (m:Int):List Int:=if fB m 0 15=true then gS (fK m) 4 else []
def eZ (q:aX):Int:=if bI q=true then (1:Int)*2^q.atoms.length - 1 else 0
theorem aKv {q:aX}{m:Int}(h:lJ q m=true):oU q m=aJf q m:=by rw[oU,if_pos h]
theorem aNR {q:aX}{m:Int}(h:lJ q m=false):oU q m= []:=by rw[oU,if_neg (by rw[h];decide)]
theorem aEg {m:Int}(h:fB m 0 15=true):pR m=gS (fK m) 4:=by rw[pR,if_pos h]
theorem aNS {m:Int}(h:fB m 0 15=false):pR m= []:=by rw[pR,if_neg (by rw[h];decide)]
theorem aEh {q:aX}(h:bI q=true):eZ q=1*2^q.atoms.length - 1:=by rw[eZ,if_pos h]
theorem aNT {q:aX}(h:bI q=false):eZ q=0:=by rw[eZ,if_neg (by rw[h];decide)]
theorem aEi (q:aX)(m:Int)(i v:Nat):zN q m (i+1) v=(zN q m i v || (fK m i&&decide ((v:Int)∈(q.atoms.getD i jM).vars))):=by
 rw[zN,List.range_succ,List.any_append];simp[zN]
theorem aHM {q:aX}(h:bI q=true)(m:Int){v:Nat}(hv:q.variableCount.toNat<=v): ∀{i},i<=q.atoms.length->zN q m i v=false
 | 0,_=>rfl
 | i+1,hi=>by
   obtain⟨h1,_,h2⟩:=dQ h;obtain⟨a,ha⟩:=jJ (l:=q.atoms) (k:=i) (by omega);have ht:=(jD (h2 a (aAm ha))).2.2;rw[aEi,aHM h m hv (by omega),bB ha];have: ¬(v:Int)∈a.vars:=fun q=>by have:=ht _ q;omega
   simp[this]
theorem aP8 {q:aX}(h:bI q=true)(m:Int){v:Nat}(hv:q.variableCount.toNat<=v):inM q m v=false:=aHM h m hv (aHF _)
def aB0 (q:aX)(m:Int)(a:bX)(i k v:Nat):Bool:=zN q m i v || (fK m i&&decide ((v:Int)∈a.vars.take k))
theorem aKw (q:aX)(m:Int)(a:bX)(i:Nat):aB0 q m a i 0=zN q m i:=by funext v;simp[aB0]
theorem aKx {q:aX}{m:Int}{a:bX}{i k:Nat}{x:Int}(hb:fK m i=true)(h:a.vars[k]? =some x)(hx:0<=x):(fun v=>aB0 q m a i k v || decide (v=x.toNat))=aB0 q m a i (k+1):=by
 funext v;rw[aB0,aB0,bQ h,qW,hb,Bool.true_and,Bool.true_and,Bool.or_assoc]
 congr 2
 exact decide_eq_decide.2 (by omega)
theorem aEj {q:aX}{m:Int}{a:bX}{i k:Nat}(h:q.atoms[i]? =some a)(hk:fK m i=false\/a.vars.length<=k):aB0 q m a i k=zN q m (i+1):=by
 funext v;rw[aB0,aEi,bB h];rcases hk with hk | hk
 ·rw[hk];rfl
 rw[aCu hk]
theorem aI5 {q:aX}(h:bI q=true)(m:Int):gS (fK (m4 (inM q m))) 4=aJf q m:=by
 obtain⟨h1,_,_⟩:=dQ h;rw[aJf,aIU (q:=inM q m) fun v hv=>aRF hv];exact aCl (by omega) fun v hv _=>aP8 h m hv
theorem oV {n:Nat}(h:1<=n/\n<=4):1<=(1:Int)*2^n - 1/\(1:Int)*2^n - 1<=15:=by
 have:n=1\/n=2\/n=3\/n=4:=by omega
 rcases this with rfl | rfl | rfl | rfl<;>decide
theorem zO {q:aX}{m:Int}(h:lJ q m=true):bI q=true/\0<=m/\m<=15/\m<=1*2^q.atoms.length - 1:=by
 simp only[lJ,aA1] at h;have h1:=dS h.2;have h2:=oV (dQ h.1).2.1;exact⟨h.1,by omega,by omega,by omega⟩
theorem aNU {m:Int}{n i:Nat}(h:0<=m/\m<=1*2^n - 1)(hi:n<=i)(h4:i<4):fK m i=false:=by
 have hn:n=0\/n=1\/n=2\/n=3:=by omega
 have hi4:i=0\/i=1\/i=2\/i=3:=by omega
 have key:m/2^i=0:=by
  rcases hn with rfl | rfl | rfl | rfl<;>rcases hi4 with rfl | rfl | rfl | rfl<;>omega
 rw[fK,key];decide
theorem aNV {m:Int}{n:Nat}(h:0<=m/\m<=1*2^n - 1)(hn:n<=4):pR m=gS (fK m) n:=by
 have h15:m<=15:=by
  have:n=0\/n=1\/n=2\/n=3\/n=4:=by omega
  rcases this with rfl | rfl | rfl | rfl | rfl<;>simp at h<;>omega
 rw[aEg (zZ h.1 h15)];exact aCl hn fun v h1 h2=>aNU h h1 h2
abbrev wK (l:List Int):Prop:=l.Pairwise fun a b=>b<=a
def lK (l:List Int):List Int:=(aMv l).reverse
theorem xG (l:List Int):(lK l).Perm l:=(List.reverse_perm _).trans (aIS l)
theorem aKy (l:List Int):(lK l).length=l.length:=(xG l).length_eq
theorem aI6 (l:List Int):wK (lK l):=List.pairwise_reverse.2 (aIT l)
theorem aHN {l m:List Int}(hp:l.Perm m)(h1:wK l)(h2:wK m):l=m:=
 List.Perm.eq_of_pairwise (le:=fun a b:Int=>b<=a) (fun a b _ _ h1 h2=>by omega) h1 h2 hp
theorem aHO {l out:List Int}{k j:Nat}{x:Int}(hp:out.Perm (l.take k))(hx:l[k]? =some x):((([]:List Int)++out.take j)++[x]++out.drop j).Perm (l.take (k+1)):=by
 rw[bQ hx,aKt]
 have h1:(out.take j++[x]++out.drop j).Perm (out.take j++out.drop j++[x]):=by
  rw[aE2,aE2];exact List.Perm.append_left _ List.perm_append_comm
 rw[List.take_append_drop] at h1;exact h1.trans (hp.append_right _)
theorem aHP {out:List Int}{j:Nat}{x:Int}(hd:wK out)(hj:j<=out.length)(hs: ∀i,j<=i->i<out.length->out.getD i 0<x)(hx:j=0\/ ¬out.getD (j - 1) 0<x):wK ((([]:List Int)++out.take j)++[x]++out.drop j):=by
 rw[aKt,aE2];have hd' :=hd;rw[<-List.take_append_drop j out] at hd';obtain⟨d1,d2,d3⟩:=List.pairwise_append.1 hd'
 have hlo: ∀a∈out.drop j,a<=x:=fun a ha=>by
  obtain⟨i,hi,rfl⟩:=List.mem_iff_getElem.1 ha;have hi' :i<out.length - j:=by simpa using hi
  have:=hs (j+i) (by omega) (by omega);rw[List.getElem_drop];rw[aD6,aBM (by omega)] at this;simp only[Option.getD_some] at this;omega
 have hhi: ∀a∈out.take j,x<=a:=fun a ha=>by
  obtain⟨i,hi,rfl⟩:=List.mem_iff_getElem.1 ha
  have hi' :i<j:=by
   have:=hi;rw[aIx] at this;omega
  rcases hx with h | h
  ·omega
  have hp:=List.pairwise_iff_getElem.1 hd;rw[aD6,aBM (by omega)] at h;simp only[Option.getD_some] at h;rw[List.getElem_take];by_cases e:i=j - 1
  ·subst e;omega
  have:=hp i (j - 1) (by omega) (by omega) (by omega);omega
 refine List.pairwise_append.2 ⟨d1,List.pairwise_append.2 ⟨List.pairwise_singleton _ _,d2,fun a ha b hb=>?_⟩,fun a ha b hb=>?_⟩
 ·rw[aHr] at ha;subst ha;exact hlo b hb
 rcases aD5.1 hb with q | q
 ·rw[aHr] at q;subst q;exact hhi a ha
 exact d3 a ha b q
theorem aKz {out:List Int}{j:Nat}{x e:Int}(h:out[j - 1]? =some e)(hc:e<x)(hs: ∀i,j<=i->i<out.length->out.getD i 0<x): ∀i,j - 1<=i->i<out.length->out.getD i 0<x:=fun i h1 h2=>by
 by_cases q:i=j - 1
 ·rw[q,bB h];exact hc
 exact hs i (by omega) h2
abbrev aAw (l:List Int):Prop:=Cn 96 [.one (.sl 3 1 (l.map aC))] (.p none (.sl 3 1 ((lK l).map aC))) []
theorem aLA (l:List Int)(hc:l.length<=1048576):aAw l:=by
 refine cq Try.func96 (.stl 3<| .loop (Nat × (List Int)) (Q2 Nat (List Int)) ([3,4,5]++rg 7 39) [3100,3500,4000,4100,4500] (fun yy0=>[(4,vI (yy0.1:Int)),(3,.p none (.sl 3 1 (yy0.2.map aC)))]) (fun yy0=>[]) (fun yy0=>yy0.1<=l.length/\yy0.2.Perm (l.take yy0.1)/\wK yy0.2) (fun yy0=>l.length - yy0.1) (fun yy0=> .len l.length<| .br (.len yy0.2.length<| .loop Nat (Q1 Nat) ([5]++rg 15 16) [] (fun j=>[(5,vI (j:Int))]) (fun j=>[]) (fun j=>j<=yy0.2.length/\(∀i,j<=i->i<yy0.2.length->yy0.2.getD i 0<l.getD yy0.1 0)) (fun j=>j) (fun j=> .br (.elem _ aC yy0.2 (fun e21=> .elem _ aC l (fun e25=> .lit<| .lit<| .lit<| .br (.back []) (.sub Int aC yy0.2<| .app Int aC ([]:List Int) (yy0.2.take j)<| .elem _ aC l (fun e38=> .app Int aC (([]:List Int)++(yy0.2.take j)) ([e38]:List Int)<| .sub Int aC yy0.2<| .app Int aC ((([]:List Int)++(yy0.2.take j))++[e38]) (yy0.2.drop j)<| .stl 3<| .back []))))) (.sub Int aC yy0.2<| .app Int aC ([]:List Int) (yy0.2.take j)<| .elem _ aC l (fun e38=> .app Int aC (([]:List Int)++(yy0.2.take j)) ([e38]:List Int)<| .sub Int aC yy0.2<| .app Int aC ((([]:List Int)++(yy0.2.take j))++[e38]) (yy0.2.drop j)<| .stl 3<| .back [])))) (.fin []))) (p:=Lx (l.map aC)<| (∃(k:Nat) (out:List Int),0=(k:Int)/\[]=out.map aC/\k<=l.length/\out.Perm (l.take k)/\wK out)/\ ∀(k:Nat) (out:List Int),(k<=l.length/\out.Perm (l.take k)/\wK out)->Lm aC l/\Br ((k:Int)<(l.length:Int)) (Lm aC out/\((∃(j:Nat),(out.length:Int)=(j:Int)/\j<=out.length/\(∀i,j<=i->i<out.length->out.getD i 0<l.getD k 0))/\ ∀(j:Nat),(j<=out.length/\(∀i,j<=i->i<out.length->out.getD i 0<l.getD k 0))->Br (0<(j:Int)) (bS ((j:Int) - 1)/\(0<=((j:Int) - 1)/\Em aC out (((j:Int) - 1).toNat) fun e21=>0<=(k:Int)/\Em aC l k fun e25=>Br (e21<e25) (bS ((j:Int) - 1)/\ ∃(j' :Nat),((j:Int) - 1)=(j' :Int)/\(j' <=out.length/\(∀i,j' <=i->i<out.length->out.getD i 0<l.getD k 0))/\j' <j) (out.map aC=out.map aC/\0<=(j:Int)/\(j:Int)<=(out.length:Int)/\Ap aC ([]:List Int) (out.take j) 8 (0<=(k:Int)/\Em aC l k fun e38=>Ap aC (([]:List Int)++(out.take j)) ([e38]:List Int) 8 (out.map aC=out.map aC/\0<=(j:Int)/\(j:Int)<=(out.length:Int)/\Ap aC ((([]:List Int)++(out.take j))++[e38]) (out.drop j) 8 (bS ((k:Int)+1)/\ ∃(k' :Nat) (out' :List Int),((k:Int)+1)=(k' :Int)/\(((([]:List Int)++(out.take j))++[e38])++(out.drop j)).map aC=out'.map aC/\(k' <=l.length/\out'.Perm (l.take k')/\wK out')/\l.length - k' <l.length - k)))))) (out.map aC=out.map aC/\0<=(j:Int)/\(j:Int)<=(out.length:Int)/\Ap aC ([]:List Int) (out.take j) 8 (0<=(k:Int)/\Em aC l k fun e38=>Ap aC (([]:List Int)++(out.take j)) ([e38]:List Int) 8 (out.map aC=out.map aC/\0<=(j:Int)/\(j:Int)<=(out.length:Int)/\Ap aC ((([]:List Int)++(out.take j))++[e38]) (out.drop j) 8 (bS ((k:Int)+1)/\ ∃(k' :Nat) (out' :List Int),((k:Int)+1)=(k' :Int)/\(((([]:List Int)++(out.take j))++[e38])++(out.drop j)).map aC=out'.map aC/\(k' <=l.length/\out'.Perm (l.take k')/\wK out')/\l.length - k' <l.length - k)))))) (out.map aC=(lK l).map aC/\True)) (by kernel_rfl) ?_;refine lx fun n0=>?_;refine⟨⟨0,([]:List Int),rfl,rfl,aAc _,List.Perm.refl _,List.Pairwise.nil⟩,fun k out ⟨hk,hp,hd⟩=>?_⟩;have hpl:=hp.length_eq;rw[aIx] at hpl;refine⟨aA0 _,dd (fun c0=>?_) fun c0=>?_⟩
 ·refine⟨aA0 _,⟨out.length,(by rfl),aHF _,fun i h1 h2=>by omega⟩,fun j ⟨hj,hs⟩=>?_⟩;refine dd (fun g17=>?_) fun g17=>?_
  ·refine⟨⟨by omega,by omega⟩,by omega,rfl,by omega,fun e21 h21=>?_⟩;have i21:out[j - 1]? =some e21:=by rw[<-h21];congr 1;omega
   refine⟨by omega,rfl,by omega,fun e25 h25=>?_⟩;refine dd (fun c1=>?_) fun c1=>?_
   ·have hlt:=aKz i21 (by rw[bB h25];exact c1:e21<l.getD k 0) hs;refine⟨⟨by omega,by omega⟩,?_⟩;exact⟨j - 1,(by omega),⟨by omega,hlt⟩,by omega⟩
   ·have hx:j=0\/ ¬out.getD (j - 1) 0<l.getD k 0:=by (right;rw[bB i21,bB h25];exact c1)
    refine⟨rfl,by omega,by omega,?_⟩;refine ap ?_ (fun _=>rfl) (by (simp;omega));refine⟨by omega,rfl,by omega,fun e38 h38=>?_⟩;rw[bB h38] at hx hs;refine ap ?_ (fun _=>rfl) (by (simp;omega));refine⟨rfl,by omega,by omega,?_⟩;refine ap ?_ (fun _=>rfl) (by (simp;omega));refine⟨⟨by omega,by omega⟩,?_⟩;exact⟨k+1,((([]:List Int)++(out.take j))++[e38])++(out.drop j),rfl,rfl,⟨by omega,aHO hp h38,aHP hd hj hs hx⟩,by omega⟩
  ·have hx:j=0\/ ¬out.getD (j - 1) 0<l.getD k 0:=by (left;omega)
   refine⟨rfl,by omega,by omega,?_⟩;refine ap ?_ (fun _=>rfl) (by (simp;omega));refine⟨by omega,rfl,by omega,fun e38 h38=>?_⟩;rw[bB h38] at hx hs;refine ap ?_ (fun _=>rfl) (by (simp;omega));refine⟨rfl,by omega,by omega,?_⟩;refine ap ?_ (fun _=>rfl) (by (simp;omega));refine⟨⟨by omega,by omega⟩,?_⟩;exact⟨k+1,((([]:List Int)++(out.take j))++[e38])++(out.drop j),rfl,rfl,⟨by omega,aHO hp h38,aHP hd hj hs hx⟩,by omega⟩
 ·have hE:out=lK l:=aHN ((by rw[aCu (by omega)] at hp;exact hp:out.Perm l).trans (xG l).symm) hd (aI6 l);apply et1
  ·rw[hE]
abbrev uJ (name:ByteArray)(arity:Int)(rows:List (List Int)):AV × List (Nat × Rs):=(.tup [.agg [.p none (.str ((kW name arity rows).1.name)),vI ((kW name arity rows).1.arity),.own 0],vB ((kW name arity rows).2)],[(0,.arr 27 1 true ((kW name arity rows).1.rows.map aD))])
abbrev aAx (name:ByteArray)(arity:Int)(rows:List (List Int)):Prop:=Cn 90 [.one (.str name),.one (.int .i64 arity),.one (.sl 27 1 (rows.map aD))] (uJ name arity rows).1 (uJ name arity rows).2
theorem aLB (name:ByteArray)(arity:Int)(rows:List (List Int))(hc:cS rows<=1048576):aAx name arity rows:=by
 refine cq Try.func90 (.loop (Nat × (List (List Int))) (Q2 Nat (List (List Int))) ([9]++rg 13 20) [800,3100,9000] (fun yy0=>[(9,vI (yy0.1:Int))]) (fun yy0=>[(800,some (.box 114 [.p none (.str name),vI arity,.own 9000])),(9000,some (.arr 27 1 true (yy0.2.map aD)))]) (fun yy0=>yy0.1<=rows.length/\yy0.2=bP (rows.take yy0.1)) (fun yy0=>rows.length - yy0.1) (fun yy0=> .len rows.length<| .br (.len yy0.2.length<| .lit<| .lit<| .br (.elem _ aD rows (fun e29=>dT (oR yy0.2 e29)<| .back [(800,800),(9000,3100)])) (.call (vB (aT (⟨name,arity,yy0.2⟩:bA))) []<| .br (.fin []) (.fin [(0,9000)]))) (.call (vB (aT (⟨name,arity,yy0.2⟩:bA))) []<| .br (.fin []) (.fin [(0,9000)])))) (p:=Lx (rows.map aD)<| (∃(k:Nat) (acc:List (List Int)),0=(k:Int)/\name=name/\arity=arity/\[]=acc.map aD/\k<=rows.length/\acc=bP (rows.take k))/\ ∀(k:Nat) (acc:List (List Int)),(k<=rows.length/\acc=bP (rows.take k))->Lm aD rows/\Br ((k:Int)<(rows.length:Int)) (Lm aD acc/\Br ((acc.length:Int)<=8) (0<=(k:Int)/\Em aD rows k fun e29=>rU acc e29/\bS ((k:Int)+1)/\ ∃(k' :Nat) (acc' :List (List Int)),((k:Int)+1)=(k' :Int)/\name=name/\arity=arity/\(iI e29 acc).map aD=acc'.map aD/\(k' <=rows.length/\acc' =bP (rows.take k'))/\rows.length - k' <rows.length - k) (mJ (⟨name,arity,acc⟩:bA)/\Nr (aT (⟨name,arity,acc⟩:bA)) (ByteArray.empty=((kW name arity rows).1.name)/\0=((kW name arity rows).1.arity)/\(false)=((kW name arity rows).2)/\[]=(kW name arity rows).1.rows.map aD/\True) (name=((kW name arity rows).1.name)/\arity=((kW name arity rows).1.arity)/\(true)=((kW name arity rows).2)/\acc.map aD=(kW name arity rows).1.rows.map aD/\True))) (mJ (⟨name,arity,acc⟩:bA)/\Nr (aT (⟨name,arity,acc⟩:bA)) (ByteArray.empty=((kW name arity rows).1.name)/\0=((kW name arity rows).1.arity)/\(false)=((kW name arity rows).2)/\[]=(kW name arity rows).1.rows.map aD/\True) (name=((kW name arity rows).1.name)/\arity=((kW name arity rows).1.arity)/\(true)=((kW name arity rows).2)/\acc.map aD=(kW name arity rows).1.rows.map aD/\True))) (by kernel_rfl) ?_;refine lx fun n0=>?_;have hlen:=iY rows;refine⟨⟨0,([]:List (List Int)),rfl,rfl,rfl,rfl,aAc _,rfl⟩,fun k acc ⟨hk,ha⟩=>?_⟩;refine⟨aA0 _,dd (fun g17=>?_) fun g17=>?_⟩
 ·refine⟨aA0 _,dd (fun c0=>?_) fun c0=>?_⟩
  ·have hp:=aGp rows k;rw[<-ha] at hp;refine⟨by omega,rfl,by omega,fun e29 h29=>?_⟩;have hp3:=vH h29;refine⟨aC5 acc e29 (by omega) (by omega) (by omega),⟨by omega,by omega⟩,?_⟩;exact⟨k+1,_,rfl,rfl,rfl,rfl,⟨by omega,by rw[ha,bQ h29,zE]⟩,by omega⟩
  ·have hend:=aGq (name:=name) (arity:=arity) ha (by omega);refine⟨uC (⟨name,arity,acc⟩:bA),dm (fun c1=>?_) fun c1=>?_⟩
   ·have hbad:aT ⟨name,arity,bP rows⟩=false:=by rw[<-hend.1];simpa using c1
    apply et4<;>((rw[aFY hbad]<;>rfl))
   ·have hok0:aT ⟨name,arity,acc⟩=true:=by simpa using c1
    have hok:aT ⟨name,arity,bP rows⟩=true:=by rw[<-hend.1];exact hok0
    have hacc:=hend.2 hok0;apply et4<;>(first|(rw[qT hok]<;>rfl)|(rw[qT hok];exact congrArg (List.map aD) hacc))
 ·have hend:=aGq (name:=name) (arity:=arity) ha (by omega);refine⟨uC (⟨name,arity,acc⟩:bA),dm (fun c1=>?_) fun c1=>?_⟩
  ·have hbad:aT ⟨name,arity,bP rows⟩=false:=by rw[<-hend.1];simpa using c1
   apply et4<;>((rw[aFY hbad]<;>rfl))
  ·have hok0:aT ⟨name,arity,acc⟩=true:=by simpa using c1
   have hok:aT ⟨name,arity,bP rows⟩=true:=by rw[<-hend.1];exact hok0
   have hacc:=hend.2 hok0;apply et4<;>(first|(rw[qT hok]<;>rfl)|(rw[qT hok];exact congrArg (List.map aD) hacc))
abbrev uK (x:aL):AV × List (Nat × Rs):=(.tup [.agg [.p none (.str ((lD x).1.name)),vI ((lD x).1.arity),.own 0],vB ((lD x).2)],[(0,.arr 27 1 true ((lD x).1.rows.map aD))])
abbrev aAy (x:aL):Prop:=Cn 78 [.agg [.str x.name,.int .i64 x.arity,.int .i64 x.rowCount,.sl 145 3 (x.groups.map aJ)]] (uK x).1 (uK x).2
theorem aLC (x:aL)(hc:cO x<=1048576):aAy x:=by
 refine cq Try.func78 (.len x.groups.length<| .br (.fin []) (.len x.groups.length<| .elem _ aJ x.groups (fun e22=>dT (uJ x.name x.arity e22.values)<| .fin [(0,2500)]))) (p:=Lx (x.groups.map aJ)<| Lm aJ x.groups/\Br ((x.groups.length:Int)=0) (ByteArray.empty=((lD x).1.name)/\0=((lD x).1.arity)/\(false)=((lD x).2)/\[]=(lD x).1.rows.map aD/\True) (Lm aJ x.groups/\bS ((x.groups.length:Int) - 1)/\0<=((x.groups.length:Int) - 1)/\Em aJ x.groups (((x.groups.length:Int) - 1).toNat) fun e22=>aAx x.name x.arity e22.values/\((kW x.name x.arity e22.values).1.name)=((lD x).1.name)/\((kW x.name x.arity e22.values).1.arity)=((lD x).1.arity)/\((kW x.name x.arity e22.values).2)=((lD x).2)/\(kW x.name x.arity e22.values).1.rows.map aD=(lD x).1.rows.map aD/\True)) (by kernel_rfl) ?_;refine lx fun n0=>?_;have q2:cO x=x.name.size+iG x.groups:=rfl;have q5:=mH x.groups;refine⟨aA0 _,dd (fun c0=>?_) fun c0=>?_⟩
 ·have hT:lD x=(oM,false):=by rw[lD,if_pos (by omega)]
  apply et4<;>((rw[hT]<;>rfl))
 ·have hT:lD x=kW x.name x.arity (kP x):=by rw[lD,if_neg (by omega)]
  refine⟨aA0 _,⟨by omega,by omega⟩,by omega,rfl,by omega,fun e22 h22=>?_⟩;have i22:x.groups[x.groups.length - 1]? =some e22:=by rw[<-h22];congr 1;omega
  have hL:kP x=e22.values:=aMo i22;rw[hL] at hT;have q1:=kC i22;have q3:gL e22=dW e22.columns+cS e22.values+dW e22.counts:=rfl;have q6:dW e22.columns=e22.columns.length:=rfl;have q7:dW e22.counts=e22.counts.length:=rfl;have q8:=iY e22.values;refine⟨aLB _ _ _ (by omega),?_,?_,?_,?_,trivial⟩<;>((rw[hT]<;>rfl))
abbrev sD (x:aL):Prop:=Cn 54 [.agg [.str x.name,.int .i64 x.arity,.int .i64 x.rowCount,.sl 145 3 (x.groups.map aJ)]] (vB (dF x)) []
theorem aCz (x:aL)(hc:cO x<=1048576):sD x:=by
 refine cq Try.func54 (dT (uK x)<| .br (dT (vK ((lD x).1))<| .call (vB (decide ((bW ((lD x).1))=x))) []<| .fin []) (.fin [])) (p:=Lx (x.groups.map aJ)<| aAy x/\Bb ((lD x).2) (aAV ((lD x).1)/\oO (bW ((lD x).1)) x/\(decide ((bW ((lD x).1))=x))=(dF x)/\True) ((false)=(dF x)/\True)) (by kernel_rfl) ?_;refine lx fun n0=>?_;have hst:=aAs (lD x).1;have hsame:=aKe x;refine⟨aLC x (by omega),db (fun g11=>?_) fun g11=>?_⟩
 ·refine⟨aJ2 ((lD x).1),yV _ _ (by omega),?_,trivial⟩
  ·(rw[<-hsame,g11];simp;done)
 ·apply et1
  ·(rw[<-hsame,g11];simp;done)
theorem aEk:lK []= []:=aD7 (aKy [])
theorem aLD (a:Int):lK [a]= [a]:=List.perm_singleton.1 (xG [a])
def nQ (x:aL)(cols:List Int):List Int:=if dF x=true then lK (gN (gC x) cols).2 else []
theorem aNW {x:aL}{cols:List Int}(h:dF x=true):nQ x cols=lK (gN (gC x) cols).2:=by rw[nQ,if_pos h]
theorem aP9 {x:aL}{cols:List Int}(h:dF x=false):nQ x cols= []:=by rw[nQ,if_neg (by rw[h];decide)]
theorem aLE {x:aL}{cols:List Int}{k:Nat}{g:bG}(h:dF x=true)(hg:x.groups[k]? =some g)(hc:g.columns=cols):g.counts=(gN (gC x) cols).2:=by
 rw[aCc h,aL2] at hg;cases e:(cN x.arity)[k]? with
 | none=>rw[e] at hg;simp at hg
 | some c=>
   rw[e] at hg;simp only[Option.map_some,Option.some.injEq] at hg;subst hg;rw[show c=cols from hc];rfl
theorem aNX {n:Int}(hn:1<=n/\n<=3){cols:List Int}(h:eL (n - 1) cols=true)(hne:cols≠[]):cols∈cN n:=by
 have hl:=yY h (by omega);have hlow:=aC4 h;have hn3:n=1\/n=2\/n=3:=by omega
 match cols,hl with
 | [],_=>exact absurd rfl hne
 | [a],_=>
   have h0:=hlow 0 (by simp);simp at h0;have ha:a=0\/a=1\/a=2:=by omega
   rcases hn3 with rfl|rfl|rfl<;>rcases ha with rfl|rfl|rfl<;>first|decide|(exfalso;omega)
 | [a,b],_=>
   have h0:=hlow 0 (by simp);have h1:=hlow 1 (by simp);have h2:=aDW.1 h 1 (by simp);simp[lU] at h0 h1 h2;have ha:(a=0/\b=1)\/(a=0/\b=2)\/(a=1/\b=2):=by omega
   rcases hn3 with rfl|rfl|rfl<;>rcases ha with ⟨rfl,rfl⟩ | ⟨rfl,rfl⟩ | ⟨rfl,rfl⟩<;>first|decide|(exfalso;omega)
 | [a,b,c],_=>
   have h0:=hlow 0 (by simp);have h1:=hlow 1 (by simp);have h2:=hlow 2 (by simp);have h3:=aDW.1 h 1 (by simp);have h4:=aDW.1 h 2 (by simp);simp[lU] at h0 h1 h2 h3 h4;obtain⟨rfl,rfl,rfl⟩:a=0/\b=1/\c=2:=by omega
   rcases hn3 with rfl|rfl|rfl<;>first|decide|(exfalso;omega)
 | _::_::_::_::_,hl=>simp at hl
theorem aNY {x:aL}{cols:List Int}(h:dF x=true)(hall:x.groups.all (fun g=> !decide (g.columns=cols))=true)(hne: ¬(cols.length:Int)=0):(gN (gC x) cols).2= []:=by
 obtain⟨h1,h2⟩:=qU h;cases hc:eL ((gC x).arity - 1) cols with
 | false=>rw[aFU (by simp[hc])]
 | true=>
   exfalso;have hm:=aNX (n:=x.arity) (aAW h) hc (fun e=>hne (by rw[e];rfl));rw[aCc h] at hall;have:=aDW.1 hall _ (List.mem_map_of_mem hm);simp[vW] at this
theorem aJg {x:aL}(h:dF x=true):(x.rowCount=0->(gN (gC x) []).2= [])/\(¬x.rowCount=0->(gN (gC x) []).2= [x.rowCount]):=by
 obtain⟨h1,h2⟩:=qU h;have hc:=aKf h;have hrows:(gC x).rows=kP x:=rfl;rw[uE (t:=gC x) (cols:=[]) (by rw[h1];rfl)];have e:iO (gC x) []=List.replicate (kP x).length []:=by simp[iO,iN,aGf,hrows,List.map_const']
 have ev:aIJ (gC x) []=bP (List.replicate (kP x).length []):=by rw[aIJ,e,pM]
 show (x.rowCount=0->aIK (gC x) []= [])/\(¬x.rowCount=0->aIK (gC x) []= [x.rowCount]);rw[aIK,ev,e];constructor
 ·intro h0;rw[show (kP x).length=0 by omega];rfl
 intro h0;have hpos:(kP x).length≠0:=by omega
 have hf:bP (List.replicate (kP x).length ([]:List Int))= [[]]:=by
  obtain⟨p1,p2,_⟩:=pL (List.replicate (kP x).length ([]:List Int)) [] List.Pairwise.nil;refine aB7 p1 (List.pairwise_singleton _ _) fun y=>?_;have:=p2 y;rw[bP,this];simp[List.mem_replicate,hpos]
 rw[hf,hc];simp[jN]
abbrev wL (x:aL)(cols:List Int):Prop:=Cn 94 [.agg [.str x.name,.int .i64 x.arity,.int .i64 x.rowCount,.sl 145 3 (x.groups.map aJ)],.one (.sl 3 1 (cols.map aC))] (.p none (.sl 3 1 ((lK (gN (gC x) cols).2).map aC))) []
theorem aHQ (x:aL)(cols:List Int)(hc:cO x<=1048576)(hok:dF x=true):wL x cols:=by
 refine cq Try.func94 (.stl 4<| .len cols.length<| .br (.br (.stl 4<| .fin []) (.stl 4<| .fin [])) (.loop Nat (Q1 Nat) ([5]++rg 16 16) [] (fun k=>[(5,vI (k:Int))]) (fun k=>[]) (fun k=>k<=x.groups.length/\(x.groups.take k).all (fun g=> !decide (g.columns=cols))=true) (fun k=>x.groups.length - k) (fun k=> .len x.groups.length<| .br (.elem _ aJ x.groups (fun e26=> .call (vI (cM e26.columns cols)) []<| .br (.elem _ aJ x.groups (fun e35=> .call (.p none (.sl 3 1 ((lK e35.counts).map aC))) []<| .stl 4<| .fin [])) (.back []))) (.stl 4<| .fin [])))) (p:=Lx (x.groups.map aJ)<| Lx (cols.map aC)<| Lm aC cols/\Br ((cols.length:Int)=0) (Br (x.rowCount=0) ([]=(lK (gN (gC x) cols).2).map aC/\True) ([[.int .i64 x.rowCount]]=(lK (gN (gC x) cols).2).map aC/\True)) ((∃(k:Nat),0=(k:Int)/\k<=x.groups.length/\(x.groups.take k).all (fun g=> !decide (g.columns=cols))=true)/\ ∀(k:Nat),(k<=x.groups.length/\(x.groups.take k).all (fun g=> !decide (g.columns=cols))=true)->Lm aJ x.groups/\Br ((k:Int)<(x.groups.length:Int)) (0<=(k:Int)/\Em aJ x.groups k fun e26=>eK e26.columns cols/\Br ((cM e26.columns cols)=0) (0<=(k:Int)/\Em aJ x.groups k fun e35=>aAw e35.counts/\(lK e35.counts).map aC=(lK (gN (gC x) cols).2).map aC/\True) (bS ((k:Int)+1)/\ ∃(k' :Nat),((k:Int)+1)=(k' :Int)/\(k' <=x.groups.length/\(x.groups.take k').all (fun g=> !decide (g.columns=cols))=true)/\x.groups.length - k' <x.groups.length - k)) ([]=(lK (gN (gC x) cols).2).map aC/\True))) (by kernel_rfl) ?_;refine lx fun n0=>lx fun n1=>?_;have q2:cO x=x.name.size+iG x.groups:=rfl;have q5:=mH x.groups;refine⟨aA0 _,dd (fun c0=>?_) fun c0=>?_⟩
 ·have hcz:cols= []:=aD7 (by omega);refine dd (fun c1=>?_) fun c1=>?_
  ·have hE:(gN (gC x) cols).2= []:=by rw[hcz];exact(aJg hok).1 c1
   apply et1
   ·(rw[hE,aEk]<;>rfl)
  ·have hE:(gN (gC x) cols).2= [x.rowCount]:=by rw[hcz];exact(aJg hok).2 c1
   apply et1
   ·(rw[hE,aLD]<;>rfl)
 ·refine⟨⟨0,rfl,aAc _,rfl⟩,fun k ⟨hk,ha⟩=>?_⟩;refine⟨aA0 _,dd (fun c2=>?_) fun c2=>?_⟩
  ·refine⟨by omega,rfl,by omega,fun e26 h26=>?_⟩
   try (obtain rfl:=(bE h26 h26).symm)
   have q1:=kC h26;have q3:gL e26=dW e26.columns+cS e26.values+dW e26.counts:=rfl;have q6:dW e26.columns=e26.columns.length:=rfl;have q7:dW e26.counts=e26.counts.length:=rfl;have q8:=iY e26.values;refine⟨gM _ _,dd (fun c3=>?_) fun c3=>?_⟩
   ·have hE:=aLE hok h26 (dU.1 c3);refine⟨by omega,rfl,by omega,fun e35 h35=>?_⟩
    try (obtain rfl:=(bE h26 h35).symm)
    refine⟨aLA _ (by omega),?_,trivial⟩
    ·(rw[hE];done)
   ·refine⟨⟨by omega,by omega⟩,?_⟩;exact⟨k+1,rfl,⟨by omega,dB h26 ha (by simpa using fun q=>c3 (dU.2 q))⟩,by omega⟩
  ·have hE:=aNY hok (dZ (by omega) ha) c0;apply et1
   ·(rw[hE,aEk]<;>rfl)
abbrev aDA (x:aL)(cols:List Int):Prop:=Cn 81 [.agg [.str x.name,.int .i64 x.arity,.int .i64 x.rowCount,.sl 145 3 (x.groups.map aJ)],.one (.sl 3 1 (cols.map aC))] (.p none (.sl 3 1 ((nQ x cols).map aC))) []
theorem aNZ (x:aL)(cols:List Int)(hc:cO x<=1048576)(hl:cols.length<=1048576):aDA x cols:=by
 refine cq Try.func81 (.stl 4<| .call (vB (dF x)) []<| .br (.stl 4<| .fin []) (.call (.p none (.sl 3 1 ((lK (gN (gC x) cols).2).map aC))) []<| .stl 4<| .fin [])) (p:=Lx (x.groups.map aJ)<| Lx (cols.map aC)<| sD x/\Nr (dF x) ([]=(nQ x cols).map aC/\True) (wL x cols/\(lK (gN (gC x) cols).2).map aC=(nQ x cols).map aC/\True)) (by kernel_rfl) ?_;refine lx fun n0=>lx fun n1=>?_;refine⟨aCz _ (by omega),dm (fun c0=>?_) fun c0=>?_⟩
 ·have hE:nQ x cols= []:=aP9 (by simpa using c0);apply et1
  ·(rw[hE]<;>rfl)
 ·have hE:=aNW (cols:=cols) (by simpa using c0:dF x=true);refine⟨aHQ _ _ (by omega) (by assumption),?_,trivial⟩
  ·(rw[hE]<;>rfl)
abbrev aAz (x:aL)(cols:List Int):Prop:=Cn 58 [.agg [.str x.name,.int .i64 x.arity,.int .i64 x.rowCount,.sl 145 3 (x.groups.map aJ)],.one (.sl 3 1 (cols.map aC))] (vI ((nQ x cols).getD 0 0)) []
theorem aLF (x:aL)(cols:List Int)(hc:cO x<=1048576)(hl:cols.length<=1048576):aAz x cols:=by
 refine cq Try.func58 (.call (.p none (.sl 3 1 ((nQ x cols).map aC))) []<| .len ((nQ x cols).length)<| .br (.fin []) (.elem _ aC (nQ x cols) (fun e13=> .fin []))) (p:=Lx (x.groups.map aJ)<| Lx (cols.map aC)<| aDA x cols/\Lm aC (nQ x cols)/\Br ((((nQ x cols).length:Nat):Int)=0) (0=((nQ x cols).getD 0 0)/\True) (0<=(0:Int)/\Em aC (nQ x cols) 0 fun e13=>e13=((nQ x cols).getD 0 0)/\True)) (by kernel_rfl) ?_;refine lx fun n0=>lx fun n1=>?_;refine⟨aNZ _ _ (by omega) (by omega),aA0 _,dd (fun c0=>?_) fun c0=>?_⟩
 ·have hz:nQ x cols= []:=aD7 (by omega);apply et1
  ·(rw[hz]<;>rfl)
 ·refine⟨by omega,rfl,by omega,fun e13 h13=>?_⟩;apply et1
  ·(rw[bB h13])
end Go.Proofs.Ytafmaholhcgakaa
