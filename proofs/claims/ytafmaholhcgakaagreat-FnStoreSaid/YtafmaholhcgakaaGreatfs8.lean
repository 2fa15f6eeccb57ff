/-
  Contracts and plain laws, joined: part 9.
-/
import Derived.Test.YtafmaholhcgakaaGreatfs7
import Derived.Test.YtafmaholhcgakaaGreatfs6
import Derived.Test.YtafmaholhcgakaaGreatfs5
import Derived.Test.YtafmaholhcgakaaGreatfs4
import Derived.IntWalk
namespace Go.Proofs.YtafmaholhcgakaaGreat
open Go.ChangeShapes Go.WideShapes Go.ChangeAt Go.RowKit
set_option linter.unusedVariables false
set_option linter.unusedSimpArgs false
set_option maxRecDepth 100000
set_option maxHeartbeats 4000000
def dX {α:Type}(p:α->Bool)(l:List α):Int:=match l.findIdx? p with | some k=>(k:Int) | none=> -1
theorem aB8 {α:Type}{p:α->Bool}{l:List α}{k:Nat}{x:α}(h:l[k]? =some x)(ha:(l.take k).all (fun y=> !p y)=true)(hx:p x=true):dX p l=(k:Int):=by
 obtain⟨hk,rfl⟩:=aCk.1 h
 have:l.findIdx? p=some k:=by
  rw[List.findIdx?_eq_some_iff_getElem];refine⟨hk,hx,fun j hj=>?_⟩;have:=aDT.1 ha l[j] (List.mem_iff_getElem.2 ⟨j,by rw[aLz];omega,by rw[List.getElem_take]⟩);simpa using this
 rw[dX,this]
theorem wF {α:Type}{p:α->Bool}{l:List α}(ha:l.all (fun y=> !p y)=true):dX p l= -1:=by
 have:l.findIdx? p=none:=by
  rw[List.findIdx?_eq_none_iff];intro x hx;have:=aDT.1 ha x hx;simpa using this
 rw[dX,this]
theorem aGc {α:Type}{p:α->Bool}{l:List α}(h:0<=dX p l): ∃(k:Nat) (x:α),dX p l=(k:Int)/\l[k]? =some x/\p x=true/\k<l.length:=by
 unfold dX at*;cases e:l.findIdx? p with
 | none=>rw[e] at h;exact absurd h (by decide)
 | some k=>
   rw[List.findIdx?_eq_some_iff_getElem] at e;obtain⟨hk,hx,_⟩:=e;exact⟨k,l[k],rfl,aBI hk,hx,hk⟩
theorem aIg {α:Type}(p:α->Bool)(l:List α): -1<=dX p l/\dX p l<(l.length:Int):=by
 by_cases h:0<=dX p l
 ·obtain⟨k,x,h1,_,_,h4⟩:=aGc h;omega
 unfold dX at*;cases e:l.findIdx? p with
 | none=>simp only;omega
 | some k=>rw[e] at h;simp only at h;omega
abbrev kN (row:List Int):List Int->Bool:=fun x=>decide (x=row)
abbrev aE2 (x:List Int)(row:List Int):Prop:=Cn 184 [.one (.sl 3 1 (x.map intD)),.ref [.sl 3 1 (row.map intD)]] (vB (decide (x=row))) []
theorem aN7 (x row:List Int):aE2 x row:=by
 refine cq Tryz.func184 (.call (vB (decide (x=row))) []<| .fin []) (p:=Lx (x.map intD)<| Lx (row.map intD)<| kT x row/\(decide (x=row))=(decide (x=row))/\True) (by kernel_rfl) ?_;refine lx fun n0=>lx fun n1=>?_;refine⟨sE _ _,?_,trivial⟩
 ·rfl
abbrev aE3 (l:List (List Int))(row:List Int):Prop:=Cn 183 [.one (.sl 34 1 (l.map aE)),.fn 184 [[.sl 3 1 (row.map intD)]]] (vI (dX (kN row) l)) []
theorem aN8 (l:List (List Int))(row:List Int):aE3 l row:=by
 refine cq Tryz.func183 (.len l.length<| .loop Nat (Q1 Nat) ([5]++rg 8 9++[18]) [] (fun k=>[(8,vI (k:Int))]) (fun k=>[]) (fun k=>k<=l.length/\(l.take k).all (fun y=> !kN row y)=true) (fun k=>l.length - k) (fun k=> .br (.elem _ aE l (fun e14=> .call (vB (decide (e14=row))) []<| .br (.fin []) (.back []))) (.fin []))) (p:=Lx (l.map aE)<| Lm aE l/\((∃(k:Nat),0=(k:Int)/\k<=l.length/\(l.take k).all (fun y=> !kN row y)=true)/\ ∀(k:Nat),(k<=l.length/\(l.take k).all (fun y=> !kN row y)=true)->Br ((k:Int)<(l.length:Int)) (0<=(k:Int)/\Em aE l k fun e14=>aE2 e14 row/\Br (e14=row) ((k:Int)=(dX (kN row) l)/\True) (cW ((k:Int)+1)/\ ∃(k' :Nat),((k:Int)+1)=(k' :Int)/\(k' <=l.length/\(l.take k').all (fun y=> !kN row y)=true)/\l.length - k' <l.length - k)) ((-1:Int)=(dX (kN row) l)/\True))) (by kernel_rfl) ?_;refine lx fun n0=>?_;refine⟨aAK _,⟨0,rfl,aAd _,rfl⟩,fun k ⟨hk,ha⟩=>?_⟩;refine dd (fun c0=>?_) fun c0=>?_
 ·refine⟨by omega,rfl,by omega,fun e14 h14=>?_⟩;refine⟨aN7 _ _,dd (fun c1=>?_) fun c1=>?_⟩
  ·have hE:=aB8 (p:=kN row) h14 ha (by simpa [kN] using c1);apply et1
   ·rw[hE]
  ·refine⟨⟨by omega,by omega⟩,?_⟩;exact⟨k+1,rfl,⟨by omega,dP h14 ha (by simpa [kN] using c1)⟩,by omega⟩
 ·have hE:=wF (p:=kN row) (dQ (by omega) ha);apply et1
  ·rw[hE]
abbrev zS (t:aJ)(row:List Int):Prop:=Cn 142 [.agg [.str t.name,.int .i64 t.arity,.sl 34 1 (t.rows.map aE)],.one (.sl 3 1 (row.map intD))] (vI (dX (kN row) t.rows)) []
theorem aHc (t:aJ)(row:List Int):zS t row:=by
 refine cq Tryz.func142 (.call (vI (dX (kN row) t.rows)) []<| .fin []) (p:=Lx (t.rows.map aE)<| Lx (row.map intD)<| aE3 t.rows row/\(dX (kN row) t.rows)=(dX (kN row) t.rows)/\True) (by kernel_rfl) ?_;refine lx fun n0=>lx fun n1=>?_;refine⟨aN8 _ _,?_⟩;exact⟨rfl,trivial⟩
def gF (t:aJ)(row:List Int):Bool:=aP t&&decide (0<=dX (kN row) t.rows)
def eX (t:aJ)(row:List Int):Bool:=aP t&&(fG t.arity row&&(decide (dX (kN row) t.rows<0)&&decide ((t.rows.length:Int)<8)))
def dK (t:aJ)(row:List Int):aJ × Bool:=if eX t row=true then (⟨t.name,t.arity,iY row t.rows⟩,true) else (t,false)
def gV (t:aJ)(row:List Int):aJ × Bool:=if gF t row=true then (⟨t.name,t.arity,t.rows.eraseIdx (dX (kN row) t.rows).toNat⟩,true) else (t,false)
theorem fY {t:aJ}{row:List Int}(h:eX t row=true):dK t row=(⟨t.name,t.arity,iY row t.rows⟩,true):=by rw[dK,if_pos h]
theorem mS {t:aJ}{row:List Int}(h:eX t row=false):dK t row=(t,false):=by rw[dK,if_neg (by rw[h];decide)]
theorem rM {t:aJ}{row:List Int}(h:gF t row=true):gV t row=(⟨t.name,t.arity,t.rows.eraseIdx (dX (kN row) t.rows).toNat⟩,true):=by rw[gV,if_pos h]
theorem aB9 {t:aJ}{row:List Int}(h:gF t row=false):gV t row=(t,false):=by rw[gV,if_neg (by rw[h];decide)]
theorem xU {t:aJ}{row:List Int}(h:gF t row=true):aP t=true/\0<=dX (kN row) t.rows:=by
 simpa only [gF,aAO,aKQ] using h
theorem aBF {t:aJ}{row:List Int}(h:eX t row=true):aP t=true/\fG t.arity row=true/\dX (kN row) t.rows<0/\(t.rows.length:Int)<8:=by
 simpa only [eX,aAO,aKQ] using h
theorem aCi {t:aJ}(h:aP t=true):cM t.rows<=32:=by
 have hT:=bI h;have:=nV (l:=t.rows) (m:=3) fun r hr=>by have:=mR h hr;omega
 omega
theorem kB {t:aJ}(h:aP t=true):cY t<=64:=by
 have h1:=aCi h;have h2:=sJ h;have h3:cY t=t.name.size+cM t.rows:=rfl;omega
theorem aGd (l:List (List Int))(r:List Int):cM (l++[r])=cM l+1+r.length:=by
 induction l with
 | nil=>rw[aMU,uX]
 | cons a l ih=>rw[List.cons_append,uX,uX,ih];omega
theorem aJe {t:aJ}{row:List Int}(h:eX t row=true):cM (t.rows++[row])<=64:=by
 obtain⟨h1,h2,_,_⟩:=aBF h;have hT:=bI h1;have h3:=aCi h1;simp only[fG,aAO,aKQ] at h2;rw[aGd];omega
theorem aLe {t:aJ}{row:List Int}(h:aP t=true):eG (cF (t.rows++[row]))=iY row t.rows:=by
 rw[<-uR,zO,aGa (aG9 (mQ h).2.2)]
theorem aGe: ∀{l:List (List Int)} {k:Nat} {row:List Int},Asc l->l[k]? =some row->l.filter (fun x=> !kN row x)=l.eraseIdx k
 | [],k,row,_,hk=>by simp at hk
 | a::l,0,row,ha,hk=>by
   simp at hk;subst hk;rw[List.eraseIdx_cons_zero,List.filter_cons_of_neg (by simp[kN])];refine List.filter_eq_self.2 fun y hy=>?_;have:=(List.pairwise_cons.1 ha).1 y hy;have hne: ¬y=a:=fun e=>by rw[e,oD] at this;omega
   simp[kN,hne]
 | a::l,k+1,row,ha,hk=>by
   have hk' :l[k]? =some row:=by simpa using hk
   have:=(List.pairwise_cons.1 ha).1 row (aBA hk');have hne: ¬a=row:=fun e=>by rw[e,oD] at this;omega
   rw[List.eraseIdx_cons_succ,List.filter_cons_of_pos (by simp[kN,hne]),aGe (List.pairwise_cons.1 ha).2 hk']
theorem aLf {t:aJ}{row:List Int}(h:gF t row=true):t.rows.filter (fun x=> !kN row x)=t.rows.eraseIdx (dX (kN row) t.rows).toNat:=by
 obtain⟨h1,h2⟩:=xU h;obtain⟨k,x,e,hx,hp,_⟩:=aGc h2;have hxr:x=row:=by simpa [kN] using hp
 subst hxr;rw[e,Int.toNat_natCast];exact aGe (aG9 (mQ h1).2.2) hx
abbrev aCj (t:aJ)(row:List Int):Prop:=Cn 144 [.agg [.str t.name,.int .i64 t.arity,.sl 34 1 (t.rows.map aE)],.one (.sl 3 1 (row.map intD))] (vB (gF t row)) []
theorem aLg (t:aJ)(row:List Int):aCj t row:=by
 refine cq Tryz.func144 (.call (vB (aP t)) []<| .br (.call (vI (dX (kN row) t.rows)) []<| .fin []) (.fin [])) (p:=Lx (t.rows.map aE)<| Lx (row.map intD)<| kJ t/\Bb (aP t) (zS t row/\(decide (0<=(dX (kN row) t.rows)))=(gF t row)/\True) ((false)=(gF t row)/\True)) (by kernel_rfl) ?_;refine lx fun n0=>lx fun n1=>?_;refine⟨rG t,db (fun g7=>?_) fun g7=>?_⟩
 ·refine⟨aHc _ _,?_,trivial⟩
  ·first|(simp[gF, *];done)|(simp[gF,g7];done)
 ·apply et1
  ·first|(simp[gF, *];done)|(simp[gF,g7];done)
abbrev xV (t:aJ)(row:List Int):Prop:=Cn 153 [.agg [.str t.name,.int .i64 t.arity,.sl 34 1 (t.rows.map aE)],.one (.sl 3 1 (row.map intD))] (vB (gF t row)) []
theorem aGf (t:aJ)(row:List Int):xV t row:=by
 refine cq Tryz.func153 (.loop Nat (Q1 Nat) (rg 5 20) [] (fun k=>[(5,vI (k:Int))]) (fun k=>[]) (fun k=>k<=t.rows.length/\(t.rows.take k).all (fun y=> !kN row y)=true) (fun k=>t.rows.length - k) (fun k=> .len t.rows.length<| .br (.call (vB (aP t)) []<| .lit<| .br (.elem _ aE t.rows (fun e20=> .call (vI (bM e20 row)) []<| .br (.fin []) (.back []))) (.fin [])) (.fin []))) (p:=Lx (t.rows.map aE)<| Lx (row.map intD)<| (∃(k:Nat),0=(k:Int)/\k<=t.rows.length/\(t.rows.take k).all (fun y=> !kN row y)=true)/\ ∀(k:Nat),(k<=t.rows.length/\(t.rows.take k).all (fun y=> !kN row y)=true)->Lm aE t.rows/\Br ((k:Int)<(t.rows.length:Int)) (kK t/\Bb (aP t) (0<=(k:Int)/\Em aE t.rows k fun e20=>dA e20 row/\Br ((bM e20 row)=0) ((true)=(gF t row)/\True) (cW ((k:Int)+1)/\ ∃(k' :Nat),((k:Int)+1)=(k' :Int)/\(k' <=t.rows.length/\(t.rows.take k').all (fun y=> !kN row y)=true)/\t.rows.length - k' <t.rows.length - k)) ((false)=(gF t row)/\True)) ((false)=(gF t row)/\True)) (by kernel_rfl) ?_;refine lx fun n0=>lx fun n1=>?_;refine⟨⟨0,rfl,aAd _,rfl⟩,fun k ⟨hk,ha⟩=>?_⟩;refine⟨aAK _,dd (fun g11=>?_) fun g11=>?_⟩
 ·refine⟨rH t,db (fun c0=>?_) fun c0=>?_⟩
  ·refine⟨by omega,rfl,by omega,fun e20 h20=>?_⟩;refine⟨eI _ _,dd (fun c1=>?_) fun c1=>?_⟩
   ·have hE:=aB8 (p:=kN row) h20 ha (by simpa [kN] using cQ.1 c1);apply et1
    ·first|(rw[hE];done)|(rw[gF,hE,c0];simp)
   ·refine⟨⟨by omega,by omega⟩,?_⟩;exact⟨k+1,rfl,⟨by omega,dP h20 ha (by simpa [kN] using fun q=>c1 (cQ.2 q))⟩,by omega⟩
  ·have hE:gF t row=false:=by first|(rw[gF,wF (dQ (by omega) ha)];simp;done)|(rw[gF,c0];rfl)
   apply et1
   ·first|(rw[hE];done)|(rw[gF,hE,c0];simp)
 ·have hE:gF t row=false:=by first|(rw[gF,wF (dQ (by omega) ha)];simp;done)|(rw[gF,c0];rfl)
  apply et1
  ·first|(rw[hE];done)|(rw[gF,hE,c0];simp)
abbrev fZ (t:aJ):AV × List (Nat × Rs):=(.agg [.p none (.str t.name),vI t.arity,.own 0],[(0,.arr 34 1 true (t.rows.map aE))])
abbrev gW (t:aJ):Prop:=Cn 137 [.agg [.str t.name,.int .i64 t.arity,.sl 34 1 (t.rows.map aE)]] (fZ t).1 (fZ t).2
theorem lJ (t:aJ)(hc:cY t<=1048576):gW t:=by
 refine cq Tryz.func137 (bC (aGX t.rows)<| .fin [(0,500)]) (p:=Lx (t.rows.map aE)<| aIa t.rows/\t.name=t.name/\t.arity=t.arity/\t.rows.map aE=t.rows.map aE/\True) (by kernel_rfl) ?_;refine lx fun n0=>?_;have q1:cY t=t.name.size+cM t.rows:=rfl;have q2:=eV t.rows;refine⟨cpR _ (by omega),?_⟩;exact⟨rfl,rfl,rfl,trivial⟩
abbrev gA (t:aJ):AV × List (Nat × Rs):=(.agg [.p none (.str t.name),vI t.arity,.own 0],[(0,.arr 34 1 true (t.rows.map aE))])
abbrev gX (t:aJ):Prop:=Cn 150 [.agg [.str t.name,.int .i64 t.arity,.sl 34 1 (t.rows.map aE)]] (gA t).1 (gA t).2
theorem lK (t:aJ)(hc:cY t<=1048576):gX t:=by
 refine cq Tryz.func150 (.loop (Nat × (List (List Int))) (Q2 Nat (List (List Int))) ([4]++rg 10 19) [300,1900,2500,2600,2700,9000] (fun yy0=>[(4,vI (yy0.1:Int))]) (fun yy0=>[(300,some (.box 88 [.p none (.str t.name),vI t.arity,.own 9000])),(9000,some (.arr 34 1 true (yy0.2.map aE)))]) (fun yy0=>yy0.1<=t.rows.length/\yy0.2=t.rows.take yy0.1) (fun yy0=>t.rows.length - yy0.1) (fun yy0=> .len t.rows.length<| .br (.elem _ aE t.rows (fun e23=> .app Int intD ([]:List Int) e23<| .appx (List Int) aE yy0.2 (([]:List Int)++e23)<| .back [(300,300),(9000,2700)])) (.fin [(0,9000)]))) (p:=Lx (t.rows.map aE)<| (∃(k:Nat) (out:List (List Int)),0=(k:Int)/\t.name=t.name/\t.arity=t.arity/\[]=out.map aE/\k<=t.rows.length/\out=t.rows.take k)/\ ∀(k:Nat) (out:List (List Int)),(k<=t.rows.length/\out=t.rows.take k)->Lm aE t.rows/\Br ((k:Int)<(t.rows.length:Int)) (0<=(k:Int)/\Em aE t.rows k fun e23=>Ap intD ([]:List Int) e23 8 (out.map aE=out.map aE/\(([]:List Int)++e23).map intD=(([]:List Int)++e23).map intD/\(out.length+1)*24<=140737488355328/\cW ((k:Int)+1)/\ ∃(k' :Nat) (out' :List (List Int)),((k:Int)+1)=(k' :Int)/\t.name=t.name/\t.arity=t.arity/\(out++[([]:List Int)++e23]).map aE=out'.map aE/\(k' <=t.rows.length/\out' =t.rows.take k')/\t.rows.length - k' <t.rows.length - k)) (t.name=t.name/\t.arity=t.arity/\out.map aE=t.rows.map aE/\True)) (by kernel_rfl) ?_;refine lx fun n0=>?_;have q1:cY t=t.name.size+cM t.rows:=rfl;have q2:=eV t.rows;refine⟨⟨0,([]:List (List Int)),rfl,rfl,rfl,rfl,aAd _,rfl⟩,fun k out ⟨hk,ho⟩=>?_⟩;refine⟨aAK _,dd (fun c0=>?_) fun c0=>?_⟩
 ·refine⟨by omega,rfl,by omega,fun e23 h23=>?_⟩;have hp3:=oF h23;refine ap ?_ (fun _=>rfl) (by (simp;omega));refine⟨rfl,rfl,by (simp[ho];omega),⟨by omega,by omega⟩,?_⟩;exact⟨k+1,_,rfl,rfl,rfl,rfl,⟨by omega,by rw[ho,cC h23];rfl⟩,by omega⟩
 ·refine⟨rfl,rfl,?_,trivial⟩
  ·(rw[ho,aCv (by omega)])
abbrev xW (n:ByteArray):aJ->Bool:=fun t=>t.name.toList==n.toList
abbrev isI (v:Int):Int->Bool:=fun y=>decide (v=y)
theorem wG {α:Type}{p:α->Bool}{l:List α}:(dX p l<0->l.find? p=none)/\(0<=dX p l-> ∃(k:Nat) (x:α),dX p l=(k:Int)/\l[k]? =some x/\l.find? p=some x):=by
 unfold dX;cases e:l.findIdx? p with
 | none=>
   rw[List.findIdx?_eq_none_iff] at e;refine⟨fun _=>List.find?_eq_none.2 fun x hx=>by rw[e x hx];decide,fun h=>absurd h (by decide)⟩
 | some k=>
   rw[List.findIdx?_eq_some_iff_getElem] at e;obtain⟨hk,hx,hj⟩:=e;refine⟨fun h=>absurd h (by simp only;omega),fun _=>⟨k,l[k],rfl,aBI hk,?_⟩⟩;rw[List.find?_eq_some_iff_getElem];exact⟨hx,k,hk,rfl,fun j hjk=>by have:=hj j hjk;simpa using this⟩
theorem aGg {l:List Int}{v:Int}:decide (0<=dX (isI v) l)=decide (v∈l):=by
 apply Bool.eq_iff_iff.2;rw[aKQ,aKQ];constructor
 ·intro h;obtain⟨k,x,_,hx,hf⟩:=wG.2 h;have h1:=List.find?_some hf;have:v=x:=by simpa [isI] using h1
  rw[this];exact aBA hx
 intro h;rcases Int.lt_or_le (dX (isI v) l) 0 with q | q
 ·have:=wG.1 q;rw[List.find?_eq_none] at this;exact absurd (this v h) (by simp[isI])
 exact q
def aH (d:aI)(n:ByteArray):aJ × Bool:=if dT d=true then (match d.tables.find? (xW n) with | some t=>(t,true) | none=>(nK,false)) else (nK,false)
theorem zT {d:aI}{n:ByteArray}(h:dT d=false\/d.tables.find? (xW n)=none):aH d n=(nK,false):=by
 unfold aH;rcases h with h | h
 ·rw[if_neg (by rw[h];decide)]
 rw[h];split<;>rfl
theorem aE4 {d:aI}{n:ByteArray}{t:aJ}(h:dT d=true)(hf:d.tables.find? (xW n)=some t):aH d n=(t,true):=by rw[aH,if_pos h,hf]
theorem zU {d:aI}(h:dT d=true):d.tables.all aP=true:=by
 simp only[dT,aAO] at h;exact h.1
theorem iM {d:aI}{n:ByteArray}(h:(aH d n).2=true):aP (aH d n).1=true/\dT d=true:=by
 unfold aH at*;split at h
 ·rename_i hd;rw[if_pos hd];cases e:d.tables.find? (xW n) with
  | none=>rw[e] at h;cases h
  | some t=>exact⟨aDT.1 (zU hd) t (List.mem_of_find?_eq_some e),hd⟩
 cases h
abbrev aLh (t:aJ)(n:ByteArray):Prop:=Cn 140 [.agg [.str t.name,.int .i64 t.arity,.sl 34 1 (t.rows.map aE)],.ref [.str n]] (vB (xW n t)) []
theorem aQL (t:aJ)(n:ByteArray):aLh t n:=by
 refine cq Tryz.func140 (.fin []) (p:=Lx (t.rows.map aE)<| (t.name.toList==n.toList)=(xW n t)/\True) (by kernel_rfl) ?_;refine lx fun n0=>?_;apply et1
 ·rfl
abbrev aLi (l:List aJ)(n:ByteArray):Prop:=Cn 139 [.one (.sl 88 3 (l.map aB)),.fn 140 [[.str n]]] (vI (dX (xW n) l)) []
theorem aQM (l:List aJ)(n:ByteArray):aLi l n:=by
 refine cq Tryz.func139 (.len l.length<| .loop Nat (Q1 Nat) ([5]++rg 8 9++[18]) [] (fun k=>[(8,vI (k:Int))]) (fun k=>[]) (fun k=>k<=l.length/\(l.take k).all (fun y=> !xW n y)=true) (fun k=>l.length - k) (fun k=> .br (.elem _ aB l (fun e14=> .call (vB (xW n e14)) []<| .br (.fin []) (.back []))) (.fin []))) (p:=Lx (l.map aB)<| Lm aB l/\((∃(k:Nat),0=(k:Int)/\k<=l.length/\(l.take k).all (fun y=> !xW n y)=true)/\ ∀(k:Nat),(k<=l.length/\(l.take k).all (fun y=> !xW n y)=true)->Br ((k:Int)<(l.length:Int)) (0<=(k:Int)/\Em aB l k fun e14=>aLh e14 n/\Bb (xW n e14) ((k:Int)=(dX (xW n) l)/\True) (cW ((k:Int)+1)/\ ∃(k' :Nat),((k:Int)+1)=(k' :Int)/\(k' <=l.length/\(l.take k').all (fun y=> !xW n y)=true)/\l.length - k' <l.length - k)) ((-1:Int)=(dX (xW n) l)/\True))) (by kernel_rfl) ?_;refine lx fun n0=>?_;refine⟨aAK _,⟨0,rfl,aAd _,rfl⟩,fun k ⟨hk,ha⟩=>?_⟩;refine dd (fun c0=>?_) fun c0=>?_
 ·refine⟨by omega,rfl,by omega,fun e14 h14=>?_⟩;refine⟨aQL _ _,db (fun c1=>?_) fun c1=>?_⟩
  ·have hE:=aB8 (p:=xW n) h14 ha c1;apply et1
   ·rw[hE]
  ·refine⟨⟨by omega,by omega⟩,?_⟩;exact⟨k+1,rfl,⟨by omega,dP h14 ha (by simp[c1])⟩,by omega⟩
 ·have hE:=wF (p:=xW n) (dQ (by omega) ha);apply et1
  ·rw[hE]
abbrev xX (d:aI)(n:ByteArray):AV × List (Nat × Rs):=(.tup [.agg [.p none (.str ((aH d n).1.name)),vI ((aH d n).1.arity),.own 0],vB ((aH d n).2)],[(0,.arr 34 1 true ((aH d n).1.rows.map aE))])
abbrev aCl (d:aI)(n:ByteArray):Prop:=Cn 86 [.agg [.sl 88 3 (d.tables.map aB)],.one (.str n)] (xX d n).1 (xX d n).2
theorem pE (d:aI)(n:ByteArray)(hc:aT d<=1048576):aCl d n:=by
 refine cq Tryz.func86 (.call (vI (dX (xW n) d.tables)) []<| .br (.fin []) (.call (vB (dT d)) []<| .lit<| .lit<| .br (.fin []) (.elem _ aB d.tables (fun e22=>bC (fZ e22)<| .fin [(0,2400)])))) (p:=Lx (d.tables.map aB)<| aLi d.tables n/\Br ((dX (xW n) d.tables)<0) (ByteArray.empty=((aH d n).1.name)/\0=((aH d n).1.arity)/\(false)=((aH d n).2)/\[]=(aH d n).1.rows.map aE/\True) (wE d/\Nr (dT d) (ByteArray.empty=((aH d n).1.name)/\0=((aH d n).1.arity)/\(false)=((aH d n).2)/\[]=(aH d n).1.rows.map aE/\True) (0<=(dX (xW n) d.tables)/\Em aB d.tables ((dX (xW n) d.tables).toNat) fun e22=>gW e22/\e22.name=((aH d n).1.name)/\e22.arity=((aH d n).1.arity)/\(true)=((aH d n).2)/\e22.rows.map aE=(aH d n).1.rows.map aE/\True))) (by kernel_rfl) ?_;refine lx fun n0=>?_;have q1:aT d=lD d.tables:=rfl;have hg:=aIg (xW n) d.tables;refine⟨aQM _ _,dd (fun g13=>?_) fun g13=>?_⟩
 ·have hbad:aH d n=(nK,false):=zT (by (right;exact wG.1 (by omega)));apply et4<;>((rw[hbad]<;>rfl))
 ·refine⟨aFS d,dm (fun c0=>?_) fun c0=>?_⟩
  ·have hbad:aH d n=(nK,false):=zT (by (left;simpa using c0;done));apply et4<;>((rw[hbad]<;>rfl))
  ·have hd:dT d=true:=by simpa using c0
   obtain⟨k,y,hk,hy,hf⟩:=wG.2 (show 0<=dX (xW n) d.tables by omega);have hok:=aE4 hd hf;refine⟨by omega,rfl,by omega,fun e22 h22=>?_⟩;have hyx:y=e22:=by rw[hk] at h22;exact(bA (by simpa using h22) hy)
   have q2:=gT h22;rw[hyx] at hok;refine⟨lJ _ (by omega),?_,?_,?_,?_,trivial⟩<;>((rw[hok]<;>rfl))
abbrev xY (d:aI)(n:ByteArray):AV × List (Nat × Rs):=(.tup [.agg [.p none (.str ((aH d n).1.name)),vI ((aH d n).1.arity),.own 0],vB ((aH d n).2)],[(0,.arr 34 1 true ((aH d n).1.rows.map aE))])
abbrev aCm (d:aI)(n:ByteArray):Prop:=Cn 94 [.agg [.sl 88 3 (d.tables.map aB)],.one (.str n)] (xY d n).1 (xY d n).2
theorem pF (d:aI)(n:ByteArray)(hc:aT d<=1048576):aCm d n:=by
 refine cq Tryz.func94 (.loop Nat (Q1 Nat) (rg 6 20) [] (fun k=>[(6,vI (k:Int))]) (fun k=>[]) (fun k=>k<=d.tables.length/\(d.tables.take k).all (fun y=> !xW n y)=true) (fun k=>d.tables.length - k) (fun k=> .len d.tables.length<| .br (.call (vB (dT d)) []<| .lit<| .br (.elem _ aB d.tables (fun e21=> .br (.elem _ aB d.tables (fun e29=>bC (gA e29)<| .fin [(0,3100)])) (.back []))) (.fin [])) (.fin []))) (p:=Lx (d.tables.map aB)<| (∃(k:Nat),0=(k:Int)/\k<=d.tables.length/\(d.tables.take k).all (fun y=> !xW n y)=true)/\ ∀(k:Nat),(k<=d.tables.length/\(d.tables.take k).all (fun y=> !xW n y)=true)->Lm aB d.tables/\Br ((k:Int)<(d.tables.length:Int)) (oG d/\Bb (dT d) (0<=(k:Int)/\Em aB d.tables k fun e21=>Bb (e21.name.toList==n.toList) (0<=(k:Int)/\Em aB d.tables k fun e29=>gX e29/\e29.name=((aH d n).1.name)/\e29.arity=((aH d n).1.arity)/\(true)=((aH d n).2)/\e29.rows.map aE=(aH d n).1.rows.map aE/\True) (cW ((k:Int)+1)/\ ∃(k' :Nat),((k:Int)+1)=(k' :Int)/\(k' <=d.tables.length/\(d.tables.take k').all (fun y=> !xW n y)=true)/\d.tables.length - k' <d.tables.length - k)) (ByteArray.empty=((aH d n).1.name)/\0=((aH d n).1.arity)/\(false)=((aH d n).2)/\[]=(aH d n).1.rows.map aE/\True)) (ByteArray.empty=((aH d n).1.name)/\0=((aH d n).1.arity)/\(false)=((aH d n).2)/\[]=(aH d n).1.rows.map aE/\True)) (by kernel_rfl) ?_;refine lx fun n0=>?_;have q1:aT d=lD d.tables:=rfl;refine⟨⟨0,rfl,aAd _,rfl⟩,fun k ⟨hk,ha⟩=>?_⟩;refine⟨aAK _,dd (fun g12=>?_) fun g12=>?_⟩
 ·refine⟨zQ d,db (fun c0=>?_) fun c0=>?_⟩
  ·refine⟨by omega,rfl,by omega,fun e21 h21=>?_⟩
   try (obtain rfl:=(bA h21 h21).symm)
   have q2:=gT h21;refine db (fun c1=>?_) fun c1=>?_
   ·have hok:=aE4 (n:=n) c0 (aN5 (p:=xW n) h21 ha c1);refine⟨by omega,rfl,by omega,fun e29 h29=>?_⟩
    try (obtain rfl:=(bA h21 h29).symm)
    refine⟨lK _ (by omega),?_,?_,?_,?_,trivial⟩<;>((rw[hok]<;>rfl))
   ·refine⟨⟨by omega,by omega⟩,?_⟩;exact⟨k+1,rfl,⟨by omega,dP h21 ha (by simp[xW,c1])⟩,by omega⟩
  ·have hbad:aH d n=(nK,false):=zT (by (left;exact c0));apply et4<;>((rw[hbad]<;>rfl))
 ·have hbad:aH d n=(nK,false):=zT (by (right;exact aN6 (dQ (by omega) ha)));apply et4<;>((rw[hbad]<;>rfl))
abbrev aNs (l:List Int)(v:Int):Prop:=Cn 128 [.one (.sl 3 1 (l.map intD)),.one (.int .i64 v)] (vI (dX (isI v) l)) []
theorem ixI (l:List Int)(v:Int):aNs l v:=by
 refine cq Tryz.func128 (.len l.length<| .loop Nat (Q1 Nat) ([5]++rg 8 9++[18]) [] (fun k=>[(8,vI (k:Int))]) (fun k=>[]) (fun k=>k<=l.length/\(l.take k).all (fun y=> !isI v y)=true) (fun k=>l.length - k) (fun k=> .br (.elem _ intD l (fun e14=> .br (.fin []) (.back []))) (.fin []))) (p:=Lx (l.map intD)<| Lm intD l/\((∃(k:Nat),0=(k:Int)/\k<=l.length/\(l.take k).all (fun y=> !isI v y)=true)/\ ∀(k:Nat),(k<=l.length/\(l.take k).all (fun y=> !isI v y)=true)->Br ((k:Int)<(l.length:Int)) (0<=(k:Int)/\Em intD l k fun e14=>Br (v=e14) ((k:Int)=(dX (isI v) l)/\True) (cW ((k:Int)+1)/\ ∃(k' :Nat),((k:Int)+1)=(k' :Int)/\(k' <=l.length/\(l.take k').all (fun y=> !isI v y)=true)/\l.length - k' <l.length - k)) ((-1:Int)=(dX (isI v) l)/\True))) (by kernel_rfl) ?_;refine lx fun n0=>?_;refine⟨aAK _,⟨0,rfl,aAd _,rfl⟩,fun k ⟨hk,ha⟩=>?_⟩;refine dd (fun c0=>?_) fun c0=>?_
 ·refine⟨by omega,rfl,by omega,fun e14 h14=>?_⟩;refine dd (fun c1=>?_) fun c1=>?_
  ·have hE:=aB8 (p:=isI v) h14 ha (by simpa [isI] using c1);apply et1
   ·rw[hE]
  ·refine⟨⟨by omega,by omega⟩,?_⟩;exact⟨k+1,rfl,⟨by omega,dP h14 ha (by simpa [isI] using c1)⟩,by omega⟩
 ·have hE:=wF (p:=isI v) (dQ (by omega) ha);apply et1
  ·rw[hE]
abbrev aLj (l:List Int)(v:Int):Prop:=Cn 73 [.one (.sl 3 1 (l.map intD)),.one (.int .i64 v)] (vB (decide (v∈l))) []
theorem ctI (l:List Int)(v:Int):aLj l v:=by
 refine cq Tryz.func73 (.call (vI (dX (isI v) l)) []<| .fin []) (p:=Lx (l.map intD)<| aNs l v/\(decide (0<=(dX (isI v) l)))=(decide (v∈l))/\True) (by kernel_rfl) ?_;refine lx fun n0=>?_;refine⟨ixI _ _,?_,trivial⟩
 ·exact aGg
abbrev aNt (l:List Int)(v:Int):Prop:=Cn 176 [.one (.sl 3 1 (l.map intD)),.one (.int .i64 v)] (vB (decide (v∈l))) []
theorem hsI (l:List Int)(v:Int):aNt l v:=by
 refine cq Tryz.func176 (.loop Nat (Q1 Nat) (rg 5 13) [] (fun k=>[(5,vI (k:Int))]) (fun k=>[]) (fun k=>k<=l.length/\(l.take k).all (fun y=> !isI v y)=true) (fun k=>l.length - k) (fun k=> .len l.length<| .br (.elem _ intD l (fun e14=> .br (.fin []) (.back []))) (.fin []))) (p:=Lx (l.map intD)<| (∃(k:Nat),0=(k:Int)/\k<=l.length/\(l.take k).all (fun y=> !isI v y)=true)/\ ∀(k:Nat),(k<=l.length/\(l.take k).all (fun y=> !isI v y)=true)->Lm intD l/\Br ((k:Int)<(l.length:Int)) (0<=(k:Int)/\Em intD l k fun e14=>Br (e14=v) ((true)=(decide (v∈l))/\True) (cW ((k:Int)+1)/\ ∃(k' :Nat),((k:Int)+1)=(k' :Int)/\(k' <=l.length/\(l.take k').all (fun y=> !isI v y)=true)/\l.length - k' <l.length - k)) ((false)=(decide (v∈l))/\True)) (by kernel_rfl) ?_;refine lx fun n0=>?_;refine⟨⟨0,rfl,aAd _,rfl⟩,fun k ⟨hk,ha⟩=>?_⟩;refine⟨aAK _,dd (fun c0=>?_) fun c0=>?_⟩
 ·refine⟨by omega,rfl,by omega,fun e14 h14=>?_⟩;refine dd (fun c1=>?_) fun c1=>?_
  ·have hE:decide (v∈l)=true:=by rw[<-c1];exact decide_eq_true (aBA h14)
   apply et1
   ·rw[hE]
  ·refine⟨⟨by omega,by omega⟩,?_⟩;exact⟨k+1,rfl,⟨by omega,dP h14 ha (by simpa [isI] using fun q=>c1 (Eq.symm q))⟩,by omega⟩
 ·have hE:decide (v∈l)=false:=by rw[<-aGg,wF (p:=isI v) (dQ (by omega) ha)];rfl
  apply et1
  ·rw[hE]
def fN (d:aI)(f:aN):Bool:=(aH d f.name).2&&(cV ((aH d f.name).1.arity - 1) f.src&&(gZ f.dst 0 ((aH d f.name).1.arity - 1)&& !decide (f.dst∈f.src)))
def aHd (rows:List (List Int))(cols:List Int)(c:Int)(i k:Nat):Bool:=decide ((fC (rows.getD i []) cols).1=(fC (rows.getD k []) cols).1)&& !decide ((rows.getD i []).getD c.toNat 0=(rows.getD k []).getD c.toNat 0)
def iN (rows:List (List Int))(cols:List Int)(c:Int)(k:Nat):Nat->List Int
 | 0=>[]
 | i+1=>if iN rows cols c k i= []/\aHd rows cols c i k=true then [(i:Int),(k:Int)] else iN rows cols c k i
def iU (rows:List (List Int))(cols:List Int)(c:Int):Nat->List Int
 | 0=>[]
 | k+1=>if iU rows cols c k= [] then iN rows cols c k k else iU rows cols c k
def iG (d:aI)(f:aN):List Int:=if fN d f=true then iU (aH d f.name).1.rows f.src f.dst (aH d f.name).1.rows.length else []
theorem zV {rows:List (List Int)}{cols:List Int}{c:Int}{k i:Nat}(h:iN rows cols c k i= [])(hb:aHd rows cols c i k=false):iN rows cols c k (i+1)= []:=by rw[iN,if_neg (by simp[hb]),h]
theorem aCn {rows:List (List Int)}{cols:List Int}{c:Int}{k i:Nat}(h: ¬iN rows cols c k i= []): ∀j,iN rows cols c k (i+j)=iN rows cols c k i
 | 0=>rfl
 | j+1=>by rw[Nat.add_succ,iN,aCn h j,if_neg (by simp[h])]
theorem aCo {rows:List (List Int)}{cols:List Int}{c:Int}{k:Nat}(h: ¬iU rows cols c k= []): ∀j,iU rows cols c (k+j)=iU rows cols c k
 | 0=>rfl
 | j+1=>by rw[Nat.add_succ,iU,aCo h j,if_neg h]
theorem aCp {rows:List (List Int)}{cols:List Int}{c:Int}{k i n:Nat}(hk:iU rows cols c k= [])(hi:iN rows cols c k i= [])(hb:aHd rows cols c i k=true)(hik:i<k)(hkn:k<n):iU rows cols c n= [(i:Int),(k:Int)]:=by
 have h1:iN rows cols c k (i+1)= [(i:Int),(k:Int)]:=by rw[iN,if_pos ⟨hi,hb⟩]
 have h2:iN rows cols c k k= [(i:Int),(k:Int)]:=by
  have:=aCn (rows:=rows) (cols:=cols) (c:=c) (k:=k) (i:=i+1) (by rw[h1];simp) (k - (i+1));rw[show i+1+(k - (i+1))=k by omega,h1] at this;exact this
 have h3:iU rows cols c (k+1)= [(i:Int),(k:Int)]:=by rw[iU,if_pos hk,h2]
 have:=aCo (rows:=rows) (cols:=cols) (c:=c) (k:=k+1) (by rw[h3];simp) (n - (k+1));rw[show k+1+(n - (k+1))=n by omega,h3] at this;exact this
theorem aCq {rows:List (List Int)}{cols:List Int}{c:Int}{k:Nat}(hk:iU rows cols c k= [])(hi:iN rows cols c k k= []):iU rows cols c (k+1)= []:=by rw[iU,if_pos hk,hi]
theorem aBG {d:aI}{f:aN}(h:fN d f=true):aP (aH d f.name).1=true/\0<=f.dst/\f.dst<=(aH d f.name).1.arity - 1/\f.src.length<=3:=by
 simp only[fN,aAO] at h;obtain⟨h1,h2,h3,_⟩:=h;have hT:=(iM h1).1;have ha:=bI hT;have:=jQ h3;exact⟨hT,this.1,this.2,zM h2 (by omega)⟩
theorem aIh {rows:List (List Int)}{cols:List Int}{c:Int}{i k:Nat}{x y:List Int}(hx:rows[i]? =some x)(hy:rows[k]? =some y):aHd rows cols c i k=(decide ((fC x cols).1=(fC y cols).1)&& !decide (x.getD c.toNat 0=y.getD c.toNat 0)):=by
 rw[aHd,bP hx,bP hy]
def gB (d:aI)(f:aN):Bool:=fN d f&&decide (iG d f= [])
theorem aGh {α:Type}[DecidableEq α](l:List α):decide ((l.length:Int)=0)=decide (l= []):=by
 cases l with
 | nil=>rfl
 | cons a l=>simp;omega
abbrev sK (d:aI)(f:aN):Prop:=Cn 146 [.agg [.sl 88 3 (d.tables.map aB)],.agg [.str f.name,.sl 3 1 (f.src.map intD),.int .i64 f.dst]] (vB (fN d f)) []
theorem aCr (d:aI)(f:aN)(hc:aT d<=1048576):sK d f:=by
 refine cq Tryz.func146 (.call (.tup [.agg [.p none (.str ((aH d f.name).1.name)),vI ((aH d f.name).1.arity),.p none (.sl 34 1 ((aH d f.name).1.rows.map aE))],vB ((aH d f.name).2)]) []<| .br (.call (vB (cV (((aH d f.name).1.arity) - 1) f.src)) []<| .lit<| .br (.raw<| .call (vB (gZ f.dst (0:Int) (IntKind.i64.wrap (((aH d f.name).1.arity) - 1)))) []<| .lit<| .br (.call (vB (decide (f.dst∈f.src))) []<| .fin []) (.fin [])) (.fin [])) (.fin [])) (p:=Lx (d.tables.map aB)<| Lx (f.src.map intD)<| Con Tryz.prog 86 [.agg [.sl 88 3 (d.tables.map aB)],.one (.str f.name)] (.tup [.agg [.p none (.str ((aH d f.name).1.name)),vI ((aH d f.name).1.arity),.p none (.sl 34 1 ((aH d f.name).1.rows.map aE))],vB ((aH d f.name).2)]) []/\Bb ((aH d f.name).2) (uM f.src ((aH d f.name).1.arity)/\Bb (cV (((aH d f.name).1.arity) - 1) f.src) (iP f.dst (0:Int) (IntKind.i64.wrap (((aH d f.name).1.arity) - 1))/\Bb (gZ f.dst (0:Int) (IntKind.i64.wrap (((aH d f.name).1.arity) - 1))) (aLj f.src f.dst/\(!(decide (f.dst∈f.src)))=(fN d f)/\True) ((false)=(fN d f)/\True)) ((false)=(fN d f)/\True)) ((false)=(fN d f)/\True)) (by kernel_rfl) ?_;refine lx fun n0=>lx fun n1=>?_;refine⟨kD (pE _ f.name (by omega)) rfl,db (fun g15=>?_) fun g15=>?_⟩
 ·have hT:=(iM g15).1;have hA:=bI hT;have hw:IntKind.i64.wrap ((aH d f.name).1.arity - 1)=(aH d f.name).1.arity - 1:=IntWalk.i64_in _ ⟨by omega,by omega⟩
  try rw[hw]
  refine⟨aES _ _ (by omega),db (fun g22=>?_) fun g22=>?_⟩
  ·refine⟨nT _ _ _,db (fun g30=>?_) fun g30=>?_⟩
   ·refine⟨ctI _ _,?_,trivial⟩
    ·(simp[fN, *];done)
   ·apply et1
    ·(simp[fN, *];done)
  ·apply et1
   ·(simp[fN, *];done)
 ·apply et1
  ·(simp[fN, *];done)
abbrev sL (d:aI)(f:aN):Prop:=Cn 155 [.agg [.sl 88 3 (d.tables.map aB)],.agg [.str f.name,.sl 3 1 (f.src.map intD),.int .i64 f.dst]] (vB (fN d f)) []
theorem aCs (d:aI)(f:aN)(hc:aT d<=1048576):sL d f:=by
 refine cq Tryz.func155 (.call (.tup [.agg [.p none (.str ((aH d f.name).1.name)),vI ((aH d f.name).1.arity),.p none (.sl 34 1 ((aH d f.name).1.rows.map aE))],vB ((aH d f.name).2)]) []<| .br (.call (vB (aP ((aH d f.name).1)&&cV ((aH d f.name).1.arity - 1) f.src)) []<| .lit<| .br (.raw<| .call (vB (gZ f.dst (0:Int) (IntKind.i64.wrap (((aH d f.name).1.arity) - 1)))) []<| .lit<| .br (.call (vB (decide (f.dst∈f.src))) []<| .fin []) (.fin [])) (.fin [])) (.fin [])) (p:=Lx (d.tables.map aB)<| Lx (f.src.map intD)<| Con Tryz.prog 94 [.agg [.sl 88 3 (d.tables.map aB)],.one (.str f.name)] (.tup [.agg [.p none (.str ((aH d f.name).1.name)),vI ((aH d f.name).1.arity),.p none (.sl 34 1 ((aH d f.name).1.rows.map aE))],vB ((aH d f.name).2)]) []/\Bb ((aH d f.name).2) (uN ((aH d f.name).1) f.src/\Bb (aP ((aH d f.name).1)&&cV ((aH d f.name).1.arity - 1) f.src) (iQ f.dst (0:Int) (IntKind.i64.wrap (((aH d f.name).1.arity) - 1))/\Bb (gZ f.dst (0:Int) (IntKind.i64.wrap (((aH d f.name).1.arity) - 1))) (aNt f.src f.dst/\(!(decide (f.dst∈f.src)))=(fN d f)/\True) ((false)=(fN d f)/\True)) ((false)=(fN d f)/\True)) ((false)=(fN d f)/\True)) (by kernel_rfl) ?_;refine lx fun n0=>lx fun n1=>?_;refine⟨kD (pF _ f.name (by omega)) rfl,db (fun g15=>?_) fun g15=>?_⟩
 ·have hT:=(iM g15).1;have hA:=bI hT;have hw:IntKind.i64.wrap ((aH d f.name).1.arity - 1)=(aH d f.name).1.arity - 1:=IntWalk.i64_in _ ⟨by omega,by omega⟩
  try rw[hw]
  refine⟨aET ((aH d f.name).1) _,db (fun g21=>?_) fun g21=>?_⟩
  ·refine⟨nU _ _ _,db (fun g29=>?_) fun g29=>?_⟩
   ·refine⟨hsI _ _,?_,trivial⟩
    ·(simp[fN, *] at*;simp[*];done)
   ·apply et1
    ·(simp[fN, *];done)
  ·apply et1
   ·(simp[fN, *] at*;simp[*];done)
 ·apply et1
  ·(simp[fN, *];done)
end Go.Proofs.YtafmaholhcgakaaGreat
