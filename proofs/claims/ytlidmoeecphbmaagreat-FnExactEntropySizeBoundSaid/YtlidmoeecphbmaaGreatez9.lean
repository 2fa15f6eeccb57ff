/-
  Contracts and plain laws, joined: part 10.
-/
import Derived.Test.YtlidmoeecphbmaaGreatez8
import Derived.Test.YtlidmoeecphbmaaGreatez7
import Derived.Test.YtlidmoeecphbmaaGreatez4
import Derived.Shelf.SlicesE.Reverse
import Derived.Ground.SlgnProg
namespace Go.Proofs.YtlidmoeecphbmaaGreat
open Go.ChangeShapes Go.WideShapes Go.ChangeAt Go.RowKit
set_option linter.unusedVariables false
set_option linter.unusedSimpArgs false
set_option maxRecDepth 100000
set_option maxHeartbeats 4000000
def gP (d:aU)(x:bA):Bool:=(aL d x.name).2&&((aL d x.into).2&&(eB x.column 0 ((aL d x.name).1.arity - 1)&&eB x.intoColumn 0 ((aL d x.into).1.arity - 1)))
def iG (rows:List (List Int))(c:Int):List Int:=rows.map fun r=>r.getD c.toNat 0
def aE5 (d:aU)(x:bA):List Int:=(iG (aL d x.name).1.rows x.column).filter fun v=> !decide (v∈iG (aL d x.into).1.rows x.intoColumn)
def wV (d:aU)(x:bA):List Int:=if gP d x=true then sY (jT (aE5 d x)) else []
def aDB (d:aU)(x:bA)(v:Nat):Bool:=decide ((v:Int)∈iG (aL d x.name).1.rows x.column)&& !decide ((v:Int)∈iG (aL d x.into).1.rows x.intoColumn)
def oA (d:aU)(x:bA)(n:Nat):List Int:=((List.range n).filter (aDB d x)).map fun v:Nat=>(v:Int)
def wW (d:aU)(x:bA):List Int:=if gP d x=true then oA d x 10 else []
def kQ (d:aU)(x:bA):Bool:=gP d x&&decide (aE5 d x= [])
theorem aRh {d:aU}{x:bA}{v:Nat}(h:aDB d x v=true):oA d x (v+1)=oA d x v++[(v:Int)]:=by
 rw[oA,List.range_succ,List.filter_append,aLt];simp[oA,h]
theorem aN5 {d:aU}{x:bA}{v:Nat}(h:aDB d x v=false):oA d x (v+1)=oA d x v:=by
 rw[oA,List.range_succ,List.filter_append,aLt];simp[oA,h]
theorem aRi (d:aU)(x:bA)(v:Nat):(oA d x v).length<=v:=by
 rw[oA,aAq];have:=List.length_filter_le (aDB d x) (List.range v)
 rwa [List.length_range] at this
theorem mK (rows:List (List Int))(c:Int){k:Nat}{r:List Int}(h:rows[k]? =some r):iG (rows.take (k+1)) c=iG (rows.take k) c++[r.getD c.toNat 0]:=by rw[bR h,iG,aLt];rfl
theorem uE {l:List Int}{v y:Int}:decide (v∈l++[y])=(decide (v∈l) || decide (v=y)):=by simp[Bool.decide_or]
theorem aRj {t:aY}{c:Int}{v:Int}(h:aV t=true)(hc:0<=c/\c<=t.arity - 1)(hv:v∈iG t.rows c):0<=v/\v<=9:=by
 obtain⟨r,hr,rfl⟩:=aPy.1 hv;have hl:=pD h hr;have hk:=aIt.1 (pC h).1 r hr;simp only[jY,aBH,aWB] at hk;have hlt:c.toNat<r.length:=by omega
 have hm:r.getD c.toNat 0∈r:=by rw[aJL,aEY hlt];exact aZK hlt
 exact eC (aIt.1 hk.1 _ hm)
theorem zF {d:aU}{x:bA}(h:gP d x=true):aV (aL d x.name).1=true/\aV (aL d x.into).1=true/\(0<=x.column/\x.column<=(aL d x.name).1.arity - 1)/\(0<=x.intoColumn/\x.intoColumn<=(aL d x.into).1.arity - 1):=by
 simp only[gP,aBH] at h;obtain⟨h1,h2,h3,h4⟩:=h;exact⟨(lK h1).1,(lK h2).1,eC h3,eC h4⟩
theorem aRk {d:aU}{x:bA}(h:gP d x=true):decide (wV d x= [])=decide (aE5 d x= []):=by
 rw[wV,if_pos h];apply Bool.eq_iff_iff.2;rw[aWB,aWB,aKX];constructor
 ·intro q;have:=uD (aE5 d x);rw[q] at this;exact aKD this.symm
 intro q;have:=uD (aE5 d x);rw[q] at this;rw[q];exact aKD this
theorem aRl {d:aU}{x:bA}(h:gP d x=true):decide (wW d x= [])=decide (aE5 d x= []):=by
 obtain⟨h1,_,h3,_⟩:=zF h;rw[wW,if_pos h];apply Bool.eq_iff_iff.2;rw[aWB,aWB,oA,List.map_eq_nil_iff,List.filter_eq_nil_iff,aE5,List.filter_eq_nil_iff];constructor
 ·intro q v hv hb;have hr:=aRj h1 h3 hv;refine q v.toNat (aSv.2 (by omega)) ?_;rw[aDB,Int.toNat_of_nonneg hr.1];simp only[aBH,aWB];exact⟨hv,hb⟩
 intro q v _ hb;rw[aDB,aBH,aWB] at hb;exact q _ hb.1 hb.2
abbrev vS (d:aU)(x:bA):Prop:=Cn 233 [.agg [.sl 142 3 (d.tables.map aS)],.agg [.str x.name,.int .i64 x.column,.str x.into,.int .i64 x.intoColumn]] (vB (gP d x)) []
theorem aHO (d:aU)(x:bA)(hc:bL d<=1048576):vS d x:=by
 refine cq Tryz.func233 (.call (.tup [.agg [.p none (.str ((aL d x.name).1.name)),vI ((aL d x.name).1.arity),.p none (.sl 91 1 ((aL d x.name).1.rows.map aC))],vB ((aL d x.name).2)]) []<| .call (.tup [.agg [.p none (.str ((aL d x.into).1.name)),vI ((aL d x.into).1.arity),.p none (.sl 91 1 ((aL d x.into).1.rows.map aC))],vB ((aL d x.into).2)]) []<| .br (.lit<| .br (.raw<| .call (vB (eB x.column (0:Int) (IntKind.i64.wrap (((aL d x.name).1.arity) - 1)))) []<| .lit<| .br (.raw<| .call (vB (eB x.intoColumn (0:Int) (IntKind.i64.wrap (((aL d x.into).1.arity) - 1)))) []<| .fin []) (.fin [])) (.fin [])) (.fin [])) (p:=Lx (d.tables.map aS)<| qJ Tryz.prog 86 [.agg [.sl 142 3 (d.tables.map aS)],.one (.str x.name)] (.tup [.agg [.p none (.str ((aL d x.name).1.name)),vI ((aL d x.name).1.arity),.p none (.sl 91 1 ((aL d x.name).1.rows.map aC))],vB ((aL d x.name).2)]) []/\qJ Tryz.prog 86 [.agg [.sl 142 3 (d.tables.map aS)],.one (.str x.into)] (.tup [.agg [.p none (.str ((aL d x.into).1.name)),vI ((aL d x.into).1.arity),.p none (.sl 91 1 ((aL d x.into).1.rows.map aC))],vB ((aL d x.into).2)]) []/\Bb ((aL d x.name).2) (Bb ((aL d x.into).2) (eK x.column (0:Int) (IntKind.i64.wrap (((aL d x.name).1.arity) - 1))/\Bb (eB x.column (0:Int) (IntKind.i64.wrap (((aL d x.name).1.arity) - 1))) (eK x.intoColumn (0:Int) (IntKind.i64.wrap (((aL d x.into).1.arity) - 1))/\(eB x.intoColumn (0:Int) (IntKind.i64.wrap (((aL d x.into).1.arity) - 1)))=(gP d x)/\True) ((false)=(gP d x)/\True)) ((false)=(gP d x)/\True)) ((false)=(gP d x)/\True)) (by kernel_rfl) ?_;refine lx fun n0=>?_;refine⟨jG (pW _ x.name (by omega)) rfl,jG (pW _ x.into (by omega)) rfl,db (fun g24=>?_) fun g24=>?_⟩
 ·have hT:=(lK g24).1;have hA:=cA hT;have hw:IntKind.i64.wrap ((aL d x.name).1.arity - 1)=(aL d x.name).1.arity - 1:=IntWalk.i64_in _ ⟨by omega,by omega⟩
  try rw[hw]
  refine db (fun g27=>?_) fun g27=>?_
  ·have hT2:=(lK g27).1;have hA2:=cA hT2;have hw2:IntKind.i64.wrap ((aL d x.into).1.arity - 1)=(aL d x.into).1.arity - 1:=IntWalk.i64_in _ ⟨by omega,by omega⟩
   try rw[hw2]
   refine⟨iD _ _ _,db (fun g35=>?_) fun g35=>?_⟩
   ·refine⟨iD _ _ _,?_,trivial⟩
    ·(simp[gP, *];done)
   ·apply et1
    ·(simp[gP, *];done)
  ·apply et1
   ·(simp[gP, *];done)
 ·apply et1
  ·(simp[gP, *];done)
abbrev vT (d:aU)(x:bA):Prop:=Cn 224 [.agg [.sl 142 3 (d.tables.map aS)],.agg [.str x.name,.int .i64 x.column,.str x.into,.int .i64 x.intoColumn]] (vB (gP d x)) []
theorem aHP (d:aU)(x:bA)(hc:bL d<=1048576):vT d x:=by
 refine cq Tryz.func224 (.call (.tup [.agg [.p none (.str ((aL d x.name).1.name)),vI ((aL d x.name).1.arity),.p none (.sl 91 1 ((aL d x.name).1.rows.map aC))],vB ((aL d x.name).2)]) []<| .call (.tup [.agg [.p none (.str ((aL d x.into).1.name)),vI ((aL d x.into).1.arity),.p none (.sl 91 1 ((aL d x.into).1.rows.map aC))],vB ((aL d x.into).2)]) []<| .br (.lit<| .br (.raw<| .call (vB (eB x.column (0:Int) (IntKind.i64.wrap (((aL d x.name).1.arity) - 1)))) []<| .lit<| .br (.raw<| .call (vB (eB x.intoColumn (0:Int) (IntKind.i64.wrap (((aL d x.into).1.arity) - 1)))) []<| .fin []) (.fin [])) (.fin [])) (.fin [])) (p:=Lx (d.tables.map aS)<| qJ Tryz.prog 126 [.agg [.sl 142 3 (d.tables.map aS)],.one (.str x.name)] (.tup [.agg [.p none (.str ((aL d x.name).1.name)),vI ((aL d x.name).1.arity),.p none (.sl 91 1 ((aL d x.name).1.rows.map aC))],vB ((aL d x.name).2)]) []/\qJ Tryz.prog 126 [.agg [.sl 142 3 (d.tables.map aS)],.one (.str x.into)] (.tup [.agg [.p none (.str ((aL d x.into).1.name)),vI ((aL d x.into).1.arity),.p none (.sl 91 1 ((aL d x.into).1.rows.map aC))],vB ((aL d x.into).2)]) []/\Bb ((aL d x.name).2) (Bb ((aL d x.into).2) (eV x.column (0:Int) (IntKind.i64.wrap (((aL d x.name).1.arity) - 1))/\Bb (eB x.column (0:Int) (IntKind.i64.wrap (((aL d x.name).1.arity) - 1))) (eV x.intoColumn (0:Int) (IntKind.i64.wrap (((aL d x.into).1.arity) - 1))/\(eB x.intoColumn (0:Int) (IntKind.i64.wrap (((aL d x.into).1.arity) - 1)))=(gP d x)/\True) ((false)=(gP d x)/\True)) ((false)=(gP d x)/\True)) ((false)=(gP d x)/\True)) (by kernel_rfl) ?_;refine lx fun n0=>?_;refine⟨jG (rV _ x.name (by omega)) rfl,jG (rV _ x.into (by omega)) rfl,db (fun g24=>?_) fun g24=>?_⟩
 ·have hT:=(lK g24).1;have hA:=cA hT;have hw:IntKind.i64.wrap ((aL d x.name).1.arity - 1)=(aL d x.name).1.arity - 1:=IntWalk.i64_in _ ⟨by omega,by omega⟩
  try rw[hw]
  refine db (fun g27=>?_) fun g27=>?_
  ·have hT2:=(lK g27).1;have hA2:=cA hT2;have hw2:IntKind.i64.wrap ((aL d x.into).1.arity - 1)=(aL d x.into).1.arity - 1:=IntWalk.i64_in _ ⟨by omega,by omega⟩
   try rw[hw2]
   refine⟨iV _ _ _,db (fun g35=>?_) fun g35=>?_⟩
   ·refine⟨iV _ _ _,?_,trivial⟩
    ·(simp[gP, *];done)
   ·apply et1
    ·(simp[gP, *];done)
  ·apply et1
   ·(simp[gP, *];done)
 ·apply et1
  ·(simp[gP, *];done)
def b4 (a b c d:Bool):Int:=(if a then 1 else 0)+(if b then 2 else 0)+(if c then 4 else 0)+(if d then 8 else 0)
def m4 (p:Nat->Bool):Int:=b4 (p 0) (p 1) (p 2) (p 3)
theorem lt4 {P:Nat->Prop}(h0:P 0)(h1:P 1)(h2:P 2)(h3:P 3){i:Nat}(hi:i<4):P i:=by
 have h:i=0\/i=1\/i=2\/i=3:=by omega
 rcases h with rfl | rfl | rfl | rfl<;>assumption
theorem aYu (a b c d:Bool):fE (b4 a b c d) 0=a/\fE (b4 a b c d) 1=b/\fE (b4 a b c d) 2=c/\fE (b4 a b c d) 3=d:=by
 cases a<;>cases b<;>cases c<;>cases d<;>decide
theorem aYv {p:Nat->Bool}{v:Nat}(hv:v<4):fE (m4 p) v=p v:=by
 have h:=aYu (p 0) (p 1) (p 2) (p 3);exact lt4 (P:=fun v=>fE (m4 p) v=p v) h.1 h.2.1 h.2.2.1 h.2.2.2 hv
theorem aU8 (a b c d:Bool):0<=b4 a b c d/\b4 a b c d<=15:=by cases a<;>cases b<;>cases c<;>cases d<;>decide
theorem aU9 (p:Nat->Bool):0<=m4 p/\m4 p<=15:=aU8 _ _ _ _
theorem aZ4 (a b c d:Bool):cH .or .i64 (b4 a b c d) (1*2^0)=b4 true b c d/\cH .or .i64 (b4 a b c d) (1*2^1)=b4 a true c d/\cH .or .i64 (b4 a b c d) (1*2^2)=b4 a b true d/\cH .or .i64 (b4 a b c d) (1*2^3)=b4 a b c true:=by
 cases a<;>cases b<;>cases c<;>cases d<;>decide
theorem aUa {p:Nat->Bool}{v:Nat}(hv:v<4):cH .or .i64 (m4 p) ((1:Int)*2^v)=m4 (fun i=>p i || decide (i=v)):=by
 have h:=aZ4 (p 0) (p 1) (p 2) (p 3);refine lt4 (P:=fun v=>cH .or .i64 (m4 p) ((1:Int)*2^v)=m4 (fun i=>p i || decide (i=v))) ?_ ?_ ?_ ?_ hv
 ·simpa [m4] using h.1
 ·simpa [m4] using h.2.1
 ·simpa [m4] using h.2.2.1
 simpa [m4] using h.2.2.2
theorem aXA (a b c d:Bool):decide (b4 a b c d=1*2^(4:Int).toNat - 1)=(a&&(b&&(c&&(d&&true)))):=by cases a<;>cases b<;>cases c<;>cases d<;>decide
theorem aXB {p:Nat->Bool}{n:Int}(hn:1<=n/\n<=4)(hp: ∀i,n.toNat<=i->p i=false):decide (m4 p=1*2^n.toNat - 1)=(List.range n.toNat).all p:=by
 have h:n=1\/n=2\/n=3\/n=4:=by omega
 rcases h with rfl | rfl | rfl | rfl
 ·have h1:=hp 1 (by decide);have h2:=hp 2 (by decide);have h3:=hp 3 (by decide);simp only[m4,h1,h2,h3];show _=(List.range 1).all p;simp only[List.range,List.range.loop,List.all_cons,List.all_nil];cases p 0<;>decide
 ·have h2:=hp 2 (by decide);have h3:=hp 3 (by decide);simp only[m4,h2,h3];show _=(List.range 2).all p;simp only[List.range,List.range.loop,List.all_cons,List.all_nil];cases p 0<;>cases p 1<;>decide
 ·have h3:=hp 3 (by decide);simp only[m4,h3];show _=(List.range 3).all p;simp only[List.range,List.range.loop,List.all_cons,List.all_nil];cases p 0<;>cases p 1<;>cases p 2<;>decide
 simp only[m4];show _=(List.range 4).all p;simp only[List.range,List.range.loop,List.all_cons,List.all_nil];exact aXA _ _ _ _
theorem aYw {m:Int}{v:Nat}(h:0<=m/\m<=15)(hv:v<4):cH .and .i64 (m/2^v) 1=if fE m v=true then 1 else 0:=by
 have h1:m=0\/m=1\/m=2\/m=3\/m=4\/m=5\/m=6\/m=7\/m=8\/m=9\/m=10\/m=11\/m=12\/m=13\/m=14\/m=15:=by omega
 refine lt4 (P:=fun v=>cH .and .i64 (m/2^v) 1=if fE m v=true then 1 else 0) ?_ ?_ ?_ ?_ hv<;>rcases h1 with rfl | rfl | rfl | rfl | rfl | rfl | rfl | rfl | rfl | rfl | rfl | rfl | rfl | rfl | rfl | rfl<;>decide
theorem aAn {m:Int}{v:Nat}(h:cH .and .i64 (m/2^v) 1=1):fE m v=true:=by rw[fE,h];rfl
theorem aBi {m:Int}{v:Nat}(h: ¬cH .and .i64 (m/2^v) 1=1):fE m v=false:=by rw[fE];simpa using h
theorem aUb {m:Int}{v:Nat}(h:0<=m/\m<=15)(hv:v<4):decide (cH .and .i64 (m/2^v) 1=0)= !fE m v:=by
 rw[aYw h hv];cases fE m v<;>rfl
def gB (p:Nat->Bool)(k:Nat):List Int:=((List.range k).filter p).map fun v:Nat=>(v:Int)
theorem uF {p:Nat->Bool}{k:Nat}(h:p k=true):gB p (k+1)=gB p k++[(k:Int)]:=by
 rw[gB,List.range_succ,List.filter_append,aLt];simp[gB,h]
theorem vU {p:Nat->Bool}{k:Nat}(h:p k=false):gB p (k+1)=gB p k:=by
 rw[gB,List.range_succ,List.filter_append,aLt];simp[gB,h]
theorem zG (p:Nat->Bool)(k:Nat):(gB p k).length<=k:=by
 rw[gB,aAq];have:=(List.filter_sublist (l:=List.range k) (p:=p)).length_le;rw[List.length_range] at this;exact this
theorem aPR {p q:Nat->Bool}{k:Nat}(h: ∀v,v<k->p v=q v):gB p k=gB q k:=by
 rw[gB,gB,List.filter_congr fun v hv=>h v (aSv.1 hv)]
theorem aHQ {p:Nat->Bool}{k:Nat}{x:Int}:x∈gB p k↔0<=x/\x.toNat<k/\p x.toNat=true:=by
 rw[gB,aPy];constructor
 ·rintro⟨v,hv,rfl⟩;rw[aZJ,aSv] at hv;exact⟨by omega,by simpa using hv.1,by simpa using hv.2⟩
 rintro⟨h0,h1,h2⟩;exact⟨x.toNat,aZJ.2 ⟨aSv.2 h1,h2⟩,by omega⟩
theorem aHR {p:Nat->Bool}{n:Nat}: ∀{k:Nat},n<=k->(∀v,n<=v->v<k->p v=false)->gB p k=gB p n
 | 0,h,_=>by rw[show n=0 by omega]
 | k+1,h,hp=>by
   by_cases e:n=k+1
   ·rw[e]
   rw[vU (hp k (by omega) (by omega)),aHR (by omega) fun v h1 h2=>hp v h1 (by omega)]
def lQ (n:Int)(l:List Int)(k:Nat):Bool:=eB (l.getD k 0) 0 (n - 1)&& !decide (l.getD k 0∈l.take k)
def zH (n:Int)(l:List Int):Bool:=(List.range l.length).all (lQ n l)
def eN (n:Int)(a:dC):Bool:=gJ a.name&&(eB (a.vars.length:Nat) 1 3&&zH n a.vars)
def aFY (l:List dC)(v:Nat):Bool:=l.any fun a=>decide ((v:Int)∈a.vars)
def cO (q:QueryD):Bool:=(eB q.variableCount 1 4&&eB (q.atoms.length:Nat) 1 4)&&(q.atoms.all (eN q.variableCount)&&(List.range q.variableCount.toNat).all (aFY q.atoms))
def hZ (l:List dC)(k:Nat)(a:List Int)(i v:Nat):Bool:=aFY (l.take k) v || decide ((v:Int)∈a.take i)
theorem aHS (l:List dC)(k:Nat)(a b:List Int):hZ l k a 0=hZ l k b 0:=by funext v;simp[hZ]
theorem aHT {l:List dC}{k i:Nat}{a:List Int}{x:Int}(h:a[i]? =some x)(hx:0<=x):(fun v=>hZ l k a i v || decide (v=x.toNat))=hZ l k a (i+1):=by
 funext v;rw[hZ,hZ,bR h,uE,Bool.or_assoc]
 congr 2
 exact decide_eq_decide.2 (by omega)
theorem aRm {l:List dC}{k:Nat}{a:dC}(h:l[k]? =some a)(v:Nat):aFY (l.take (k+1)) v=(aFY (l.take k) v || decide ((v:Int)∈a.vars)):=by
 rw[aFY,bR h,List.any_append];simp[aFY]
theorem aHU {l:List dC}{k i:Nat}{a:dC}(h:l[k]? =some a)(hi:a.vars.length<=i)(b:List Int):hZ l k a.vars i=hZ l (k+1) b 0:=by
 funext v;rw[hZ,hZ,aRm h,aIs hi];simp
theorem aKY {l:List dC}{k:Nat}(hk:l.length<=k)(b:List Int):hZ l k b 0=aFY l:=by
 funext v;rw[hZ,aIs hk];simp
theorem aUc {n v:Nat}(p:Nat->Bool):((List.range n).map p).set v true=(List.range n).map fun i=>p i || decide (i=v):=by
 apply List.ext_getElem?;intro i;rw[List.getElem?_set,aZH,aZH];by_cases hi:i<n
 ·rw[List.getElem?_range hi,aAq,List.length_range];by_cases e:v=i
  ·subst e;simp[hi]
  simp[e,show ¬i=v from fun q=>e q.symm]
 rw[show (List.range n)[i]? =none from List.getElem?_eq_none (by simp;omega)];by_cases e:v=i
 ·subst e;simp[hi]
 simp[e]
theorem aUd {n:Nat}(p:Nat->Bool):(!decide (false∈(List.range n).map p))=(List.range n).all p:=by
 apply Bool.eq_iff_iff.2;rw[Bool.not_eq_true',decide_eq_false_iff_not,aIt];constructor
 ·intro h x hx;cases e:p x with
  | true=>rfl
  | false=>exact absurd (aPy.2 ⟨x,hx,e⟩) h
 intro h hm;obtain⟨x,hx,e⟩:=aPy.1 hm;rw[h x hx] at e;cases e
theorem aLq {q:QueryD}(h:(eB q.variableCount 1 4&&eB (q.atoms.length:Nat) 1 4)=false):cO q=false:=by rw[cO,h];rfl
theorem pX {q:QueryD}{k:Nat}{a:dC}(h:q.atoms[k]? =some a)(ha:eN q.variableCount a=false):cO q=false:=by rw[cO,eL h ha];simp
theorem aQd {q:QueryD}(h:(eB q.variableCount 1 4&&eB (q.atoms.length:Nat) 1 4)=true)(ha:q.atoms.all (eN q.variableCount)=true):cO q=(List.range q.variableCount.toNat).all (aFY q.atoms):=by rw[cO,h,ha];rfl
theorem aRn {n:Int}{l:List Int}(h:zH n l=true){x:Int}(hx:x∈l):0<=x/\x<=n - 1:=by
 obtain⟨i,hi,rfl⟩:=List.mem_iff_getElem.1 hx;have:=aIt.1 h i (aSv.2 hi);simp only[lQ,aBH] at this;have:=eC this.1
 rwa [aJL,aEY hi,Option.getD_some] at this
theorem aBj {n:Int}{a:dC}(h:eN n a=true):gJ a.name=true/\(1<=a.vars.length/\a.vars.length<=3)/\ ∀x∈a.vars,0<=x/\x<=n - 1:=by
 simp only[eN,aBH] at h;have h2:=eC h.2.1;exact⟨h.1,⟨by omega,by omega⟩,fun x hx=>aRn h.2.2 hx⟩
theorem fZ {q:QueryD}(h:cO q=true):(1<=q.variableCount/\q.variableCount<=4)/\(1<=q.atoms.length/\q.atoms.length<=4)/\ ∀a∈q.atoms,eN q.variableCount a=true:=by
 simp only[cO,aBH] at h;have h1:=eC h.1.1;have h2:=eC h.1.2;exact⟨h1,⟨by omega,by omega⟩,fun a ha=>aIt.1 h.2.1 a ha⟩
theorem aUe {n:Int}{l:List dC}(h:l.all (eN n)=true)(h0:1<=n){v:Nat}(hv:n.toNat<=v):aFY l v=false:=by
 rw[aFY,List.any_eq_false];intro a ha hm;have:=(aBj (aIt.1 h a ha)).2.2 v (by simpa using hm);omega
def vV (q:QueryD)(m:Int)(i v:Nat):Bool:=(List.range i).any fun j=>fE m j&&decide ((v:Int)∈(q.atoms.getD j iP).vars)
def inM (q:QueryD)(m:Int)(v:Nat):Bool:=vV q m q.atoms.length v
def aE6 (q:QueryD)(m:Int):List Int:=gB (inM q m) q.variableCount.toNat
def jQ (q:QueryD)(m:Int):Bool:=cO q&&eB m 0 ((1:Int)*2^q.atoms.length - 1)
def eA (q:QueryD)(m:Int):List Int:=if jQ q m=true then aE6 q m else []
def dM (m:Int):List Int:=if eB m 0 15=true then gB (fE m) 4 else []
def lL (q:QueryD):Int:=if cO q=true then (1:Int)*2^q.atoms.length - 1 else 0
theorem aKZ {q:QueryD}{m:Int}(h:jQ q m=true):eA q m=aE6 q m:=by rw[eA,if_pos h]
theorem aN6 {q:QueryD}{m:Int}(h:jQ q m=false):eA q m= []:=by rw[eA,if_neg (by rw[h];decide)]
theorem aDw {m:Int}(h:eB m 0 15=true):dM m=gB (fE m) 4:=by rw[dM,if_pos h]
theorem aN7 {m:Int}(h:eB m 0 15=false):dM m= []:=by rw[dM,if_neg (by rw[h];decide)]
theorem aDx {q:QueryD}(h:cO q=true):lL q=1*2^q.atoms.length - 1:=by rw[lL,if_pos h]
theorem aN8 {q:QueryD}(h:cO q=false):lL q=0:=by rw[lL,if_neg (by rw[h];decide)]
theorem aAo (q:QueryD)(m:Int)(i v:Nat):vV q m (i+1) v=(vV q m i v || (fE m i&&decide ((v:Int)∈(q.atoms.getD i iP).vars))):=by
 rw[vV,List.range_succ,List.any_append];simp[vV]
theorem aN9 {q:QueryD}(h:cO q=true)(m:Int){v:Nat}(hv:q.variableCount.toNat<=v): ∀{i},i<=q.atoms.length->vV q m i v=false
 | 0,_=>rfl
 | i+1,hi=>by
   obtain⟨h1,_,h2⟩:=fZ h;obtain⟨a,ha⟩:=dB (l:=q.atoms) (k:=i) (by omega);have ht:=(aBj (h2 a (aCX ha))).2.2;rw[aAo,aN9 h m hv (by omega),bM ha];have: ¬(v:Int)∈a.vars:=fun q=>by have:=ht _ q;omega
   simp[this]
theorem aXC {q:QueryD}(h:cO q=true)(m:Int){v:Nat}(hv:q.variableCount.toNat<=v):inM q m v=false:=aN9 h m hv (aSw _)
def aFZ (q:QueryD)(m:Int)(a:dC)(i k v:Nat):Bool:=vV q m i v || (fE m i&&decide ((v:Int)∈a.vars.take k))
theorem aRo (q:QueryD)(m:Int)(a:dC)(i:Nat):aFZ q m a i 0=vV q m i:=by funext v;simp[aFZ]
theorem aRp {q:QueryD}{m:Int}{a:dC}{i k:Nat}{x:Int}(hb:fE m i=true)(h:a.vars[k]? =some x)(hx:0<=x):(fun v=>aFZ q m a i k v || decide (v=x.toNat))=aFZ q m a i (k+1):=by
 funext v;rw[aFZ,aFZ,bR h,uE,hb,Bool.true_and,Bool.true_and,Bool.or_assoc]
 congr 2
 exact decide_eq_decide.2 (by omega)
theorem aK0 {q:QueryD}{m:Int}{a:dC}{i k:Nat}(h:q.atoms[i]? =some a)(hk:fE m i=false\/a.vars.length<=k):aFZ q m a i k=vV q m (i+1):=by
 funext v;rw[aFZ,aAo,bM h];rcases hk with hk | hk
 ·rw[hk];rfl
 rw[aIs hk]
theorem aPS {q:QueryD}(h:cO q=true)(m:Int):gB (fE (m4 (inM q m))) 4=aE6 q m:=by
 obtain⟨h1,_,_⟩:=fZ h;rw[aE6,aPR (q:=inM q m) fun v hv=>aYv hv];exact aHR (by omega) fun v hv _=>aXC h m hv
theorem aXD {q:QueryD}{m:Int}{i v:Nat}{a:dC}(h:q.atoms[i]? =some a)(hb:fE m i=true)(hv:decide ((v:Int)∈a.vars)=true):inM q m v=true:=
 List.any_eq_true.2 ⟨i,aSv.2 (aHE.1 h).1,by rw[hb,bM h,hv];rfl⟩
theorem mL {n:Nat}(h:1<=n/\n<=4):1<=(1:Int)*2^n - 1/\(1:Int)*2^n - 1<=15:=by
 have:n=1\/n=2\/n=3\/n=4:=by omega
 rcases this with rfl | rfl | rfl | rfl<;>decide
theorem vW {q:QueryD}{m:Int}(h:jQ q m=true):cO q=true/\0<=m/\m<=15/\m<=1*2^q.atoms.length - 1:=by
 simp only[jQ,aBH] at h;have h1:=eC h.2;have h2:=mL (fZ h.1).2.1;exact⟨h.1,by omega,by omega,by omega⟩
theorem aUf {m:Int}{n i:Nat}(h:0<=m/\m<=1*2^n - 1)(hi:n<=i)(h4:i<4):fE m i=false:=by
 have hn:n=0\/n=1\/n=2\/n=3:=by omega
 have hi4:i=0\/i=1\/i=2\/i=3:=by omega
 have key:m/2^i=0:=by
  rcases hn with rfl | rfl | rfl | rfl<;>rcases hi4 with rfl | rfl | rfl | rfl<;>omega
 rw[fE,key];decide
theorem aUg {m:Int}{n:Nat}(h:0<=m/\m<=1*2^n - 1)(hn:n<=4):dM m=gB (fE m) n:=by
 have h15:m<=15:=by
  have:n=0\/n=1\/n=2\/n=3\/n=4:=by omega
  rcases this with rfl | rfl | rfl | rfl | rfl<;>simp at h<;>omega
 rw[aDw (qA h.1 h15)];exact aHR hn fun v h1 h2=>aUf h h1 h2
end Go.Proofs.YtlidmoeecphbmaaGreat
namespace Go.Proofs
open Go.Shelf
namespace YtlidmoeecphbmaaGreat
def Tryz.revInts_ren:Go.Shelf.Ren:=⟨fun | 35=>264 | n=>n,fun | 22=>91 | 23=>3 | 3=>3 | 4=>4 | 0=>0 | n=>n,fun | n=>n⟩
theorem Tryz.revInts:Go.Proofs.SlLaysE.n35 Tryz.prog Tryz.revInts_ren:={
 mixed:=by kernel_rfl
 f35:=⟨Tryz.f264.name,by decide,Tryz.func264.trans (congrArg some (by kernel_rfl))⟩
 t0:=Tryz.underlying0
 a0:=Tryz.isAgg0
 z0:=Tryz.sizeOf0
 v0:=Tryz.zeroValue0
 t3:=Tryz.underlying3
 a3:=Tryz.isAgg3
 z3:=Tryz.sizeOf3
 v3:=Tryz.zeroValue3
 t4:=Tryz.underlying4
 a4:=Tryz.isAgg4
 z4:=Tryz.sizeOf4
 v4:=Tryz.zeroValue4
 t22:=Tryz.underlying91
 a22:=Tryz.isAgg91
 z22:=Tryz.sizeOf91
 v22:=Tryz.zeroValue91
 a23:=Tryz.isAgg3
 z23:=Tryz.sizeOf3 }
end YtlidmoeecphbmaaGreat
end Go.Proofs
namespace Go.Proofs.YtlidmoeecphbmaaGreat
open Go.ChangeShapes Go.WideShapes Go.ChangeAt Go.RowKit
set_option linter.unusedVariables false
theorem aUh (l:List Int)(hl:l.length<4611686018427387904):tG Tryz.prog 264 [.own 0] [(0,.arr 3 1 true (l.map intD))] (.tup []) [(0,.arr 3 1 true (l.reverse.map intD))]:=
 aKV l l.reverse (by kernel_rfl) List.length_reverse
  (fun h w=>AnyE.slices_Reverse_empty Tryz.revInts none 0 w)
  (fun blk cap w hH hblk hn=>(AnyE.slices_Reverse Tryz.revInts (Value.int .i64) (fun _=>rfl) blk 0 cap l w hH (by omega)).mono fun e w' ⟨he,q,hw⟩=>⟨he,q,#[],by rw[hw,Go.Sort.grow_empty]⟩)
end Go.Proofs.YtlidmoeecphbmaaGreat
namespace Go.Proofs.YtlidmoeecphbmaaGreat
open Go.ChangeShapes Go.WideShapes Go.ChangeAt Go.RowKit
set_option linter.unusedVariables false
set_option linter.unusedSimpArgs false
set_option maxRecDepth 100000
set_option maxHeartbeats 4000000
abbrev aBI (l:List Int):Prop:=l.Pairwise fun a b=>b<=a
def lR (l:List Int):List Int:=(jT l).reverse
theorem aBk (l:List Int):(lR l).Perm l:=(List.reverse_perm _).trans (aHN l)
theorem aRq (l:List Int):(lR l).length=l.length:=(aBk l).length_eq
theorem aPT (l:List Int):aBI (lR l):=List.pairwise_reverse.2 (aPP l)
theorem aNa {l m:List Int}(hp:l.Perm m)(h1:aBI l)(h2:aBI m):l=m:=
 List.Perm.eq_of_pairwise (le:=fun a b:Int=>b<=a) (fun a b _ _ h1 h2=>by omega) h1 h2 hp
theorem aNb {l out:List Int}{k j:Nat}{x:Int}(hp:out.Perm (l.take k))(hx:l[k]? =some x):((([]:List Int)++out.take j)++[x]++out.drop j).Perm (l.take (k+1)):=by
 rw[bR hx,aYN]
 have h1:(out.take j++[x]++out.drop j).Perm (out.take j++out.drop j++[x]):=by
  rw[aNG,aNG];exact List.Perm.append_left _ List.perm_append_comm
 rw[List.take_append_drop] at h1;exact h1.trans (hp.append_right _)
theorem aNc {out:List Int}{j:Nat}{x:Int}(hd:aBI out)(hj:j<=out.length)(hs: ∀i,j<=i->i<out.length->out.getD i 0<x)(hx:j=0\/ ¬out.getD (j - 1) 0<x):aBI ((([]:List Int)++out.take j)++[x]++out.drop j):=by
 rw[aYN,aNG];have hd' :=hd;rw[<-List.take_append_drop j out] at hd';obtain⟨d1,d2,d3⟩:=List.pairwise_append.1 hd'
 have hlo: ∀a∈out.drop j,a<=x:=fun a ha=>by
  obtain⟨i,hi,rfl⟩:=List.mem_iff_getElem.1 ha;have hi' :i<out.length - j:=by simpa using hi
  have:=hs (j+i) (by omega) (by omega);rw[List.getElem_drop];rw[aJL,aEY (by omega)] at this;simp only[Option.getD_some] at this;omega
 have hhi: ∀a∈out.take j,x<=a:=fun a ha=>by
  obtain⟨i,hi,rfl⟩:=List.mem_iff_getElem.1 ha
  have hi' :i<j:=by
   have:=hi;rw[aXd] at this;omega
  rcases hx with h | h
  ·omega
  have hp:=List.pairwise_iff_getElem.1 hd;rw[aJL,aEY (by omega)] at h;simp only[Option.getD_some] at h;rw[List.getElem_take];by_cases e:i=j - 1
  ·subst e;omega
  have:=hp i (j - 1) (by omega) (by omega) (by omega);omega
 refine List.pairwise_append.2 ⟨d1,List.pairwise_append.2 ⟨List.pairwise_singleton _ _,d2,fun a ha b hb=>?_⟩,fun a ha b hb=>?_⟩
 ·rw[aX9] at ha;subst ha;exact hlo b hb
 rcases aIv.1 hb with q | q
 ·rw[aX9] at q;subst q;exact hhi a ha
 exact d3 a ha b q
theorem aRr {out:List Int}{j:Nat}{x e:Int}(h:out[j - 1]? =some e)(hc:e<x)(hs: ∀i,j<=i->i<out.length->out.getD i 0<x): ∀i,j - 1<=i->i<out.length->out.getD i 0<x:=fun i h1 h2=>by
 by_cases q:i=j - 1
 ·rw[q,bM h];exact hc
 exact hs i (by omega) h2
abbrev aBl (t:aY)(cols:List Int):AV × List (Nat × Rs):=(.own 0,[(0,.arr 3 1 true ((lR (dX t cols).2).map intD))])
abbrev aHV (t:aY)(cols:List Int):Prop:=Cn 254 [.agg [.str t.name,.int .i64 t.arity,.sl 91 1 (t.rows.map aC)],.one (.sl 3 1 (cols.map intD))] (aBl t cols).1 (aBl t cols).2
theorem aUi (t:aY)(cols:List Int)(hl:cols.length<=1048576):aHV t cols:=by
 refine cq Tryz.func254 (bI (vM t cols)<| bI (aEW ((dX t cols).2))<| .callx [.own 0] [(0,.arr 3 1 true ((dX t cols).2.map intD))] [(0,1500)] (.tup []) [(0,.arr 3 1 true ((jT ((dX t cols).2)).map intD))]<| .callx [.own 0] [(0,.arr 3 1 true ((jT ((dX t cols).2)).map intD))] [(0,1500)] (.tup []) [(0,.arr 3 1 true (((jT ((dX t cols).2)).reverse).map intD))]<| .fin [(0,1500)]) (p:=Lx (t.rows.map aC)<| Lx (cols.map intD)<| aB7 t cols/\aGj ((dX t cols).2)/\tG Tryz.prog 250 [.own 0] [(0,.arr 3 1 true ((dX t cols).2.map intD))] (.tup []) [(0,.arr 3 1 true ((jT ((dX t cols).2)).map intD))]/\(dX t cols).2.map intD=(dX t cols).2.map intD/\tG Tryz.prog 264 [.own 0] [(0,.arr 3 1 true ((jT ((dX t cols).2)).map intD))] (.tup []) [(0,.arr 3 1 true (((jT ((dX t cols).2)).reverse).map intD))]/\(jT ((dX t cols).2)).map intD=(jT ((dX t cols).2)).map intD/\((jT ((dX t cols).2)).reverse).map intD=(lR (dX t cols).2).map intD/\True) (by kernel_rfl) ?_;refine lx fun n0=>lx fun n1=>?_;have hg:=aKT t cols;refine⟨aNN t cols (by omega),cpI _ (by omega),aKW ((dX t cols).2) (by omega),rfl,aUh (jT ((dX t cols).2)) (by (rw[uD];omega)),rfl,?_,trivial⟩
 ·rfl
abbrev aE7 (l:List Int):Prop:=Cn 263 [.one (.sl 3 1 (l.map intD))] (.p none (.sl 3 1 ((lR l).map intD))) []
theorem aRs (l:List Int)(hc:l.length<=1048576):aE7 l:=by
 refine cq Tryz.func263 (.stl 3<| .loop (Nat × (List Int)) (Q2 Nat (List Int)) ([3,4,5]++rg 7 39) [3100,3500,4000,4100,4500] (fun yy0=>[(4,vI (yy0.1:Int)),(3,.p none (.sl 3 1 (yy0.2.map intD)))]) (fun yy0=>[]) (fun yy0=>yy0.1<=l.length/\yy0.2.Perm (l.take yy0.1)/\aBI yy0.2) (fun yy0=>l.length - yy0.1) (fun yy0=> .len l.length<| .br (.len yy0.2.length<| .loop Nat (Q1 Nat) ([5]++rg 15 16) [] (fun j=>[(5,vI (j:Int))]) (fun j=>[]) (fun j=>j<=yy0.2.length/\(∀i,j<=i->i<yy0.2.length->yy0.2.getD i 0<l.getD yy0.1 0)) (fun j=>j) (fun j=> .br (.elem _ intD yy0.2 (fun e21=> .elem _ intD l (fun e25=> .lit<| .lit<| .lit<| .br (.back []) (.sub Int intD yy0.2<| .app Int intD ([]:List Int) (yy0.2.take j)<| .elem _ intD l (fun e38=> .app Int intD (([]:List Int)++(yy0.2.take j)) ([e38]:List Int)<| .sub Int intD yy0.2<| .app Int intD ((([]:List Int)++(yy0.2.take j))++[e38]) (yy0.2.drop j)<| .stl 3<| .back []))))) (.sub Int intD yy0.2<| .app Int intD ([]:List Int) (yy0.2.take j)<| .elem _ intD l (fun e38=> .app Int intD (([]:List Int)++(yy0.2.take j)) ([e38]:List Int)<| .sub Int intD yy0.2<| .app Int intD ((([]:List Int)++(yy0.2.take j))++[e38]) (yy0.2.drop j)<| .stl 3<| .back [])))) (.fin []))) (p:=Lx (l.map intD)<| (∃(k:Nat) (out:List Int),0=(k:Int)/\[]=out.map intD/\k<=l.length/\out.Perm (l.take k)/\aBI out)/\ ∀(k:Nat) (out:List Int),(k<=l.length/\out.Perm (l.take k)/\aBI out)->Lm intD l/\Br ((k:Int)<(l.length:Int)) (Lm intD out/\((∃(j:Nat),(out.length:Int)=(j:Int)/\j<=out.length/\(∀i,j<=i->i<out.length->out.getD i 0<l.getD k 0))/\ ∀(j:Nat),(j<=out.length/\(∀i,j<=i->i<out.length->out.getD i 0<l.getD k 0))->Br (0<(j:Int)) (bJ ((j:Int) - 1)/\(0<=((j:Int) - 1)/\Em intD out (((j:Int) - 1).toNat) fun e21=>0<=(k:Int)/\Em intD l k fun e25=>Br (e21<e25) (bJ ((j:Int) - 1)/\ ∃(j' :Nat),((j:Int) - 1)=(j' :Int)/\(j' <=out.length/\(∀i,j' <=i->i<out.length->out.getD i 0<l.getD k 0))/\j' <j) (out.map intD=out.map intD/\0<=(j:Int)/\(j:Int)<=(out.length:Int)/\Ap intD ([]:List Int) (out.take j) 8 (0<=(k:Int)/\Em intD l k fun e38=>Ap intD (([]:List Int)++(out.take j)) ([e38]:List Int) 8 (out.map intD=out.map intD/\0<=(j:Int)/\(j:Int)<=(out.length:Int)/\Ap intD ((([]:List Int)++(out.take j))++[e38]) (out.drop j) 8 (bJ ((k:Int)+1)/\ ∃(k' :Nat) (out' :List Int),((k:Int)+1)=(k' :Int)/\(((([]:List Int)++(out.take j))++[e38])++(out.drop j)).map intD=out'.map intD/\(k' <=l.length/\out'.Perm (l.take k')/\aBI out')/\l.length - k' <l.length - k)))))) (out.map intD=out.map intD/\0<=(j:Int)/\(j:Int)<=(out.length:Int)/\Ap intD ([]:List Int) (out.take j) 8 (0<=(k:Int)/\Em intD l k fun e38=>Ap intD (([]:List Int)++(out.take j)) ([e38]:List Int) 8 (out.map intD=out.map intD/\0<=(j:Int)/\(j:Int)<=(out.length:Int)/\Ap intD ((([]:List Int)++(out.take j))++[e38]) (out.drop j) 8 (bJ ((k:Int)+1)/\ ∃(k' :Nat) (out' :List Int),((k:Int)+1)=(k' :Int)/\(((([]:List Int)++(out.take j))++[e38])++(out.drop j)).map intD=out'.map intD/\(k' <=l.length/\out'.Perm (l.take k')/\aBI out')/\l.length - k' <l.length - k)))))) (out.map intD=(lR l).map intD/\True)) (by kernel_rfl) ?_;refine lx fun n0=>?_;refine⟨⟨0,([]:List Int),rfl,rfl,aBn _,List.Perm.refl _,List.Pairwise.nil⟩,fun k out ⟨hk,hp,hd⟩=>?_⟩;have hpl:=hp.length_eq;rw[aXd] at hpl;refine⟨aAq _,dd (fun c0=>?_) fun c0=>?_⟩
 ·refine⟨aAq _,⟨out.length,(by rfl),aSw _,fun i h1 h2=>by omega⟩,fun j ⟨hj,hs⟩=>?_⟩;refine dd (fun g17=>?_) fun g17=>?_
  ·refine⟨⟨by omega,by omega⟩,by omega,rfl,by omega,fun e21 h21=>?_⟩;have i21:out[j - 1]? =some e21:=by rw[<-h21];congr 1;omega
   refine⟨by omega,rfl,by omega,fun e25 h25=>?_⟩;refine dd (fun c1=>?_) fun c1=>?_
   ·have hlt:=aRr i21 (by rw[bM h25];exact c1:e21<l.getD k 0) hs;refine⟨⟨by omega,by omega⟩,?_⟩;exact⟨j - 1,(by omega),⟨by omega,hlt⟩,by omega⟩
   ·have hx:j=0\/ ¬out.getD (j - 1) 0<l.getD k 0:=by (right;rw[bM i21,bM h25];exact c1)
    refine⟨rfl,by omega,by omega,?_⟩;refine ap ?_ (fun _=>rfl) (by (simp;omega));refine⟨by omega,rfl,by omega,fun e38 h38=>?_⟩;rw[bM h38] at hx hs;refine ap ?_ (fun _=>rfl) (by (simp;omega));refine⟨rfl,by omega,by omega,?_⟩;refine ap ?_ (fun _=>rfl) (by (simp;omega));refine⟨⟨by omega,by omega⟩,?_⟩;exact⟨k+1,((([]:List Int)++(out.take j))++[e38])++(out.drop j),rfl,rfl,⟨by omega,aNb hp h38,aNc hd hj hs hx⟩,by omega⟩
  ·have hx:j=0\/ ¬out.getD (j - 1) 0<l.getD k 0:=by (left;omega)
   refine⟨rfl,by omega,by omega,?_⟩;refine ap ?_ (fun _=>rfl) (by (simp;omega));refine⟨by omega,rfl,by omega,fun e38 h38=>?_⟩;rw[bM h38] at hx hs;refine ap ?_ (fun _=>rfl) (by (simp;omega));refine⟨rfl,by omega,by omega,?_⟩;refine ap ?_ (fun _=>rfl) (by (simp;omega));refine⟨⟨by omega,by omega⟩,?_⟩;exact⟨k+1,((([]:List Int)++(out.take j))++[e38])++(out.drop j),rfl,rfl,⟨by omega,aNb hp h38,aNc hd hj hs hx⟩,by omega⟩
 ·have hE:out=lR l:=aNa ((by rw[aIs (by omega)] at hp;exact hp:out.Perm l).trans (aBk l).symm) hd (aPT l);apply et1
  ·rw[hE]
abbrev zI (name:ByteArray)(arity:Int)(rows:List (List Int)):AV × List (Nat × Rs):=(.tup [.agg [.p none (.str ((nH name arity rows).1.name)),vI ((nH name arity rows).1.arity),.own 0],vB ((nH name arity rows).2)],[(0,.arr 91 1 true ((nH name arity rows).1.rows.map aC))])
abbrev aE8 (name:ByteArray)(arity:Int)(rows:List (List Int)):Prop:=Cn 226 [.one (.str name),.one (.int .i64 arity),.one (.sl 91 1 (rows.map aC))] (zI name arity rows).1 (zI name arity rows).2
theorem aRt (name:ByteArray)(arity:Int)(rows:List (List Int))(hc:cR rows<=1048576):aE8 name arity rows:=by
 refine cq Tryz.func226 (.loop (Nat × (List (List Int))) (Q2 Nat (List (List Int))) ([9]++rg 13 20) [800,3100,9000] (fun yy0=>[(9,vI (yy0.1:Int))]) (fun yy0=>[(800,some (.box 142 [.p none (.str name),vI arity,.own 9000])),(9000,some (.arr 91 1 true (yy0.2.map aC)))]) (fun yy0=>yy0.1<=rows.length/\yy0.2=cK (rows.take yy0.1)) (fun yy0=>rows.length - yy0.1) (fun yy0=> .len rows.length<| .br (.len yy0.2.length<| .lit<| .lit<| .br (.elem _ aC rows (fun e29=>bI (vN yy0.2 e29)<| .back [(800,800),(9000,3100)])) (.call (vB (aV (⟨name,arity,yy0.2⟩:aY))) []<| .br (.fin []) (.fin [(0,9000)]))) (.call (vB (aV (⟨name,arity,yy0.2⟩:aY))) []<| .br (.fin []) (.fin [(0,9000)])))) (p:=Lx (rows.map aC)<| (∃(k:Nat) (acc:List (List Int)),0=(k:Int)/\name=name/\arity=arity/\[]=acc.map aC/\k<=rows.length/\acc=cK (rows.take k))/\ ∀(k:Nat) (acc:List (List Int)),(k<=rows.length/\acc=cK (rows.take k))->Lm aC rows/\Br ((k:Int)<(rows.length:Int)) (Lm aC acc/\Br ((acc.length:Int)<=8) (0<=(k:Int)/\Em aC rows k fun e29=>aB8 acc e29/\bJ ((k:Int)+1)/\ ∃(k' :Nat) (acc' :List (List Int)),((k:Int)+1)=(k' :Int)/\name=name/\arity=arity/\(kV e29 acc).map aC=acc'.map aC/\(k' <=rows.length/\acc' =cK (rows.take k'))/\rows.length - k' <rows.length - k) (oL (⟨name,arity,acc⟩:aY)/\Nr (aV (⟨name,arity,acc⟩:aY)) (ByteArray.empty=((nH name arity rows).1.name)/\0=((nH name arity rows).1.arity)/\(false)=((nH name arity rows).2)/\[]=(nH name arity rows).1.rows.map aC/\True) (name=((nH name arity rows).1.name)/\arity=((nH name arity rows).1.arity)/\(true)=((nH name arity rows).2)/\acc.map aC=(nH name arity rows).1.rows.map aC/\True))) (oL (⟨name,arity,acc⟩:aY)/\Nr (aV (⟨name,arity,acc⟩:aY)) (ByteArray.empty=((nH name arity rows).1.name)/\0=((nH name arity rows).1.arity)/\(false)=((nH name arity rows).2)/\[]=(nH name arity rows).1.rows.map aC/\True) (name=((nH name arity rows).1.name)/\arity=((nH name arity rows).1.arity)/\(true)=((nH name arity rows).2)/\acc.map aC=(nH name arity rows).1.rows.map aC/\True))) (by kernel_rfl) ?_;refine lx fun n0=>?_;have hlen:=fH rows;refine⟨⟨0,([]:List (List Int)),rfl,rfl,rfl,rfl,aBn _,rfl⟩,fun k acc ⟨hk,ha⟩=>?_⟩;refine⟨aAq _,dd (fun g17=>?_) fun g17=>?_⟩
 ·refine⟨aAq _,dd (fun c0=>?_) fun c0=>?_⟩
  ·have hp:=aNX rows k;rw[<-ha] at hp;refine⟨by omega,rfl,by omega,fun e29 h29=>?_⟩;have hp3:=aAj h29;refine⟨aNP acc e29 (by omega) (by omega) (by omega),⟨by omega,by omega⟩,?_⟩;exact⟨k+1,_,rfl,rfl,rfl,rfl,⟨by omega,by rw[ha,bR h29,aCz]⟩,by omega⟩
  ·have hend:=aNY (name:=name) (arity:=arity) ha (by omega);refine⟨yU (⟨name,arity,acc⟩:aY),dm (fun c1=>?_) fun c1=>?_⟩
   ·have hbad:aV ⟨name,arity,cK rows⟩=false:=by rw[<-hend.1];simpa using c1
    apply et4<;>((rw[aLk hbad]<;>rfl))
   ·have hok0:aV ⟨name,arity,acc⟩=true:=by simpa using c1
    have hok:aV ⟨name,arity,cK rows⟩=true:=by rw[<-hend.1];exact hok0
    have hacc:=hend.2 hok0;apply et4<;>(first|(rw[uA hok]<;>rfl)|(rw[uA hok];exact congrArg (List.map aC) hacc))
 ·have hend:=aNY (name:=name) (arity:=arity) ha (by omega);refine⟨yU (⟨name,arity,acc⟩:aY),dm (fun c1=>?_) fun c1=>?_⟩
  ·have hbad:aV ⟨name,arity,cK rows⟩=false:=by rw[<-hend.1];simpa using c1
   apply et4<;>((rw[aLk hbad]<;>rfl))
  ·have hok0:aV ⟨name,arity,acc⟩=true:=by simpa using c1
   have hok:aV ⟨name,arity,cK rows⟩=true:=by rw[<-hend.1];exact hok0
   have hacc:=hend.2 hok0;apply et4<;>(first|(rw[uA hok]<;>rfl)|(rw[uA hok];exact congrArg (List.map aC) hacc))
abbrev zJ (x:aM):AV × List (Nat × Rs):=(.tup [.agg [.p none (.str ((nO x).1.name)),vI ((nO x).1.arity),.own 0],vB ((nO x).2)],[(0,.arr 91 1 true ((nO x).1.rows.map aC))])
abbrev aE9 (x:aM):Prop:=Cn 185 [.agg [.str x.name,.int .i64 x.arity,.int .i64 x.rowCount,.sl 220 3 (x.groups.map aD)]] (zJ x).1 (zJ x).2
theorem aRu (x:aM)(hc:bH x<=1048576):aE9 x:=by
 refine cq Tryz.func185 (.len x.groups.length<| .br (.fin []) (.len x.groups.length<| .elem _ aD x.groups (fun e22=>bI (zI x.name x.arity e22.values)<| .fin [(0,2500)]))) (p:=Lx (x.groups.map aD)<| Lm aD x.groups/\Br ((x.groups.length:Int)=0) (ByteArray.empty=((nO x).1.name)/\0=((nO x).1.arity)/\(false)=((nO x).2)/\[]=(nO x).1.rows.map aC/\True) (Lm aD x.groups/\bJ ((x.groups.length:Int) - 1)/\0<=((x.groups.length:Int) - 1)/\Em aD x.groups (((x.groups.length:Int) - 1).toNat) fun e22=>aE8 x.name x.arity e22.values/\((nH x.name x.arity e22.values).1.name)=((nO x).1.name)/\((nH x.name x.arity e22.values).1.arity)=((nO x).1.arity)/\((nH x.name x.arity e22.values).2)=((nO x).2)/\(nH x.name x.arity e22.values).1.rows.map aC=(nO x).1.rows.map aC/\True)) (by kernel_rfl) ?_;refine lx fun n0=>?_;have q2:bH x=x.name.size+dN x.groups:=rfl;have q5:=gI x.groups;refine⟨aAq _,dd (fun c0=>?_) fun c0=>?_⟩
 ·have hT:nO x=(gH,false):=by rw[nO,if_pos (by omega)]
  apply et4<;>((rw[hT]<;>rfl))
 ·have hT:nO x=nH x.name x.arity (lB x):=by rw[nO,if_neg (by omega)]
  refine⟨aAq _,⟨by omega,by omega⟩,by omega,rfl,by omega,fun e22 h22=>?_⟩;have i22:x.groups[x.groups.length - 1]? =some e22:=by rw[<-h22];congr 1;omega
  have hL:lB x=e22.values:=aNS i22;rw[hL] at hT;have q1:=gY i22;have q3:bW e22=cE e22.columns+cR e22.values+cE e22.counts:=rfl;have q6:cE e22.columns=e22.columns.length:=rfl;have q7:cE e22.counts=e22.counts.length:=rfl;have q8:=fH e22.values;refine⟨aRt _ _ _ (by omega),?_,?_,?_,?_,trivial⟩<;>((rw[hT]<;>rfl))
abbrev vX (x:aM):Prop:=Cn 127 [.agg [.str x.name,.int .i64 x.arity,.int .i64 x.rowCount,.sl 220 3 (x.groups.map aD)]] (vB (cG x)) []
theorem aHW (x:aM)(hc:bH x<=1048576):vX x:=by
 refine cq Tryz.func127 (bI (zJ x)<| .br (bI (aAl ((nO x).1))<| .call (vB (decide ((bD ((nO x).1))=x))) []<| .fin []) (.fin [])) (p:=Lx (x.groups.map aD)<| aE9 x/\Bb ((nO x).2) (aDq ((nO x).1)/\rO (bD ((nO x).1)) x/\(decide ((bD ((nO x).1))=x))=(cG x)/\True) ((false)=(cG x)/\True)) (by kernel_rfl) ?_;refine lx fun n0=>?_;have hst:=aE3 (nO x).1;have hsame:=aRe x;refine⟨aRu x (by omega),db (fun g11=>?_) fun g11=>?_⟩
 ·refine⟨aQ8 ((nO x).1),aCl _ _ (by omega),?_,trivial⟩
  ·(rw[<-hsame,g11];simp;done)
 ·apply et1
  ·(rw[<-hsame,g11];simp;done)
end Go.Proofs.YtlidmoeecphbmaaGreat
