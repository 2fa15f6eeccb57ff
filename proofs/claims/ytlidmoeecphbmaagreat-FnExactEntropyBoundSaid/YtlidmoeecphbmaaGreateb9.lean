/-
  Contracts and plain laws, joined: part 10.
-/
import Derived.Test.YtlidmoeecphbmaaGreateb8
import Derived.Test.YtlidmoeecphbmaaGreateb7
import Derived.Test.YtlidmoeecphbmaaGreateb4
import Derived.Shelf.SlicesE.Reverse
import Derived.Ground.SlgnProg
namespace Go.Proofs.YtlidmoeecphbmaaGreat
open Go.ChangeShapes Go.WideShapes Go.ChangeAt Go.RowKit
set_option linter.unusedVariables false
set_option linter.unusedSimpArgs false
set_option maxRecDepth 100000
set_option maxHeartbeats 4000000
def gK (d:aU)(x:aZ):Bool:=(aL d x.name).2&&((aL d x.into).2&&(eC x.column 0 ((aL d x.name).1.arity - 1)&&eC x.intoColumn 0 ((aL d x.into).1.arity - 1)))
def iD (rows:List (List Int))(c:Int):List Int:=rows.map fun r=>r.getD c.toNat 0
def aEI (d:aU)(x:aZ):List Int:=(iD (aL d x.name).1.rows x.column).filter fun v=> !decide (v∈iD (aL d x.into).1.rows x.intoColumn)
def wH (d:aU)(x:aZ):List Int:=if gK d x=true then sO (jN (aEI d x)) else []
def aCi (d:aU)(x:aZ)(v:Nat):Bool:=decide ((v:Int)∈iD (aL d x.name).1.rows x.column)&& !decide ((v:Int)∈iD (aL d x.into).1.rows x.intoColumn)
def nV (d:aU)(x:aZ)(n:Nat):List Int:=((List.range n).filter (aCi d x)).map fun v:Nat=>(v:Int)
def wI (d:aU)(x:aZ):List Int:=if gK d x=true then nV d x 10 else []
def kN (d:aU)(x:aZ):Bool:=gK d x&&decide (aEI d x= [])
theorem aRB {d:aU}{x:aZ}{v:Nat}(h:aCi d x v=true):nV d x (v+1)=nV d x v++[(v:Int)]:=by
 rw[nV,List.range_succ,List.filter_append,aKc];simp[nV,h]
theorem aMw {d:aU}{x:aZ}{v:Nat}(h:aCi d x v=false):nV d x (v+1)=nV d x v:=by
 rw[nV,List.range_succ,List.filter_append,aKc];simp[nV,h]
theorem aRC (d:aU)(x:aZ)(v:Nat):(nV d x v).length<=v:=by
 rw[nV,aA8];have:=List.length_filter_le (aCi d x) (List.range v)
 rwa [List.length_range] at this
theorem mE (rows:List (List Int))(c:Int){k:Nat}{r:List Int}(h:rows[k]? =some r):iD (rows.take (k+1)) c=iD (rows.take k) c++[r.getD c.toNat 0]:=by rw[bQ h,iD,aKc];rfl
theorem tU {l:List Int}{v y:Int}:decide (v∈l++[y])=(decide (v∈l) || decide (v=y)):=by simp[Bool.decide_or]
theorem aRD {t:aY}{c:Int}{v:Int}(h:aV t=true)(hc:0<=c/\c<=t.arity - 1)(hv:v∈iD t.rows c):0<=v/\v<=9:=by
 obtain⟨r,hr,rfl⟩:=aON.1 hv;have hl:=oY h hr;have hk:=aIZ.1 (oX h).1 r hr;simp only[jU,aB4,aTb] at hk;have hlt:c.toNat<r.length:=by omega
 have hm:r.getD c.toNat 0∈r:=by rw[aI2,aEA hlt];exact aYS hlt
 exact eA (aIZ.1 hk.1 _ hm)
theorem yQ {d:aU}{x:aZ}(h:gK d x=true):aV (aL d x.name).1=true/\aV (aL d x.into).1=true/\(0<=x.column/\x.column<=(aL d x.name).1.arity - 1)/\(0<=x.intoColumn/\x.intoColumn<=(aL d x.into).1.arity - 1):=by
 simp only[gK,aB4] at h;obtain⟨h1,h2,h3,h4⟩:=h;exact⟨(nJ h1).1,(nJ h2).1,eA h3,eA h4⟩
theorem aRE {d:aU}{x:aZ}(h:gK d x=true):decide (wH d x= [])=decide (aEI d x= []):=by
 rw[wH,if_pos h];apply Bool.eq_iff_iff.2;rw[aTb,aTb,aJv];constructor
 ·intro q;have:=tT (aEI d x);rw[q] at this;exact aIi this.symm
 intro q;have:=tT (aEI d x);rw[q] at this;rw[q];exact aIi this
theorem aRF {d:aU}{x:aZ}(h:gK d x=true):decide (wI d x= [])=decide (aEI d x= []):=by
 obtain⟨h1,_,h3,_⟩:=yQ h;rw[wI,if_pos h];apply Bool.eq_iff_iff.2;rw[aTb,aTb,nV,List.map_eq_nil_iff,List.filter_eq_nil_iff,aEI,List.filter_eq_nil_iff];constructor
 ·intro q v hv hb;have hr:=aRD h1 h3 hv;refine q v.toNat (aSN.2 (by omega)) ?_;rw[aCi,Int.toNat_of_nonneg hr.1];simp only[aB4,aTb];exact⟨hv,hb⟩
 intro q v _ hb;rw[aCi,aB4,aTb] at hb;exact q _ hb.1 hb.2
abbrev vF (d:aU)(x:aZ):Prop:=Cn 233 [.agg [.sl 142 3 (d.tables.map aS)],.agg [.str x.name,.int .i64 x.column,.str x.into,.int .i64 x.intoColumn]] (vB (gK d x)) []
theorem aGt (d:aU)(x:aZ)(hc:bN d<=1048576):vF d x:=by
 refine cq Tryz.func233 (.call (.tup [.agg [.p none (.str ((aL d x.name).1.name)),vI ((aL d x.name).1.arity),.p none (.sl 91 1 ((aL d x.name).1.rows.map aC))],vB ((aL d x.name).2)]) []<| .call (.tup [.agg [.p none (.str ((aL d x.into).1.name)),vI ((aL d x.into).1.arity),.p none (.sl 91 1 ((aL d x.into).1.rows.map aC))],vB ((aL d x.into).2)]) []<| .br (.lit<| .br (.raw<| .call (vB (eC x.column (0:Int) (IntKind.i64.wrap (((aL d x.name).1.arity) - 1)))) []<| .lit<| .br (.raw<| .call (vB (eC x.intoColumn (0:Int) (IntKind.i64.wrap (((aL d x.into).1.arity) - 1)))) []<| .fin []) (.fin [])) (.fin [])) (.fin [])) (p:=Lx (d.tables.map aS)<| qI Tryz.prog 86 [.agg [.sl 142 3 (d.tables.map aS)],.one (.str x.name)] (.tup [.agg [.p none (.str ((aL d x.name).1.name)),vI ((aL d x.name).1.arity),.p none (.sl 91 1 ((aL d x.name).1.rows.map aC))],vB ((aL d x.name).2)]) []/\qI Tryz.prog 86 [.agg [.sl 142 3 (d.tables.map aS)],.one (.str x.into)] (.tup [.agg [.p none (.str ((aL d x.into).1.name)),vI ((aL d x.into).1.arity),.p none (.sl 91 1 ((aL d x.into).1.rows.map aC))],vB ((aL d x.into).2)]) []/\Bb ((aL d x.name).2) (Bb ((aL d x.into).2) (eQ x.column (0:Int) (IntKind.i64.wrap (((aL d x.name).1.arity) - 1))/\Bb (eC x.column (0:Int) (IntKind.i64.wrap (((aL d x.name).1.arity) - 1))) (eQ x.intoColumn (0:Int) (IntKind.i64.wrap (((aL d x.into).1.arity) - 1))/\(eC x.intoColumn (0:Int) (IntKind.i64.wrap (((aL d x.into).1.arity) - 1)))=(gK d x)/\True) ((false)=(gK d x)/\True)) ((false)=(gK d x)/\True)) ((false)=(gK d x)/\True)) (by kernel_rfl) ?_;refine lx fun n0=>?_;refine⟨jP (rK _ x.name (by omega)) rfl,jP (rK _ x.into (by omega)) rfl,db (fun g24=>?_) fun g24=>?_⟩
 ·have hT:=(nJ g24).1;have hA:=cA hT;have hw:IntKind.i64.wrap ((aL d x.name).1.arity - 1)=(aL d x.name).1.arity - 1:=IntWalk.i64_in _ ⟨by omega,by omega⟩
  try rw[hw]
  refine db (fun g27=>?_) fun g27=>?_
  ·have hT2:=(nJ g27).1;have hA2:=cA hT2;have hw2:IntKind.i64.wrap ((aL d x.into).1.arity - 1)=(aL d x.into).1.arity - 1:=IntWalk.i64_in _ ⟨by omega,by omega⟩
   try rw[hw2]
   refine⟨iR _ _ _,db (fun g35=>?_) fun g35=>?_⟩
   ·refine⟨iR _ _ _,?_,trivial⟩
    ·(simp[gK, *];done)
   ·apply et1
    ·(simp[gK, *];done)
  ·apply et1
   ·(simp[gK, *];done)
 ·apply et1
  ·(simp[gK, *];done)
abbrev vG (d:aU)(x:aZ):Prop:=Cn 224 [.agg [.sl 142 3 (d.tables.map aS)],.agg [.str x.name,.int .i64 x.column,.str x.into,.int .i64 x.intoColumn]] (vB (gK d x)) []
theorem aGu (d:aU)(x:aZ)(hc:bN d<=1048576):vG d x:=by
 refine cq Tryz.func224 (.call (.tup [.agg [.p none (.str ((aL d x.name).1.name)),vI ((aL d x.name).1.arity),.p none (.sl 91 1 ((aL d x.name).1.rows.map aC))],vB ((aL d x.name).2)]) []<| .call (.tup [.agg [.p none (.str ((aL d x.into).1.name)),vI ((aL d x.into).1.arity),.p none (.sl 91 1 ((aL d x.into).1.rows.map aC))],vB ((aL d x.into).2)]) []<| .br (.lit<| .br (.raw<| .call (vB (eC x.column (0:Int) (IntKind.i64.wrap (((aL d x.name).1.arity) - 1)))) []<| .lit<| .br (.raw<| .call (vB (eC x.intoColumn (0:Int) (IntKind.i64.wrap (((aL d x.into).1.arity) - 1)))) []<| .fin []) (.fin [])) (.fin [])) (.fin [])) (p:=Lx (d.tables.map aS)<| qI Tryz.prog 126 [.agg [.sl 142 3 (d.tables.map aS)],.one (.str x.name)] (.tup [.agg [.p none (.str ((aL d x.name).1.name)),vI ((aL d x.name).1.arity),.p none (.sl 91 1 ((aL d x.name).1.rows.map aC))],vB ((aL d x.name).2)]) []/\qI Tryz.prog 126 [.agg [.sl 142 3 (d.tables.map aS)],.one (.str x.into)] (.tup [.agg [.p none (.str ((aL d x.into).1.name)),vI ((aL d x.into).1.arity),.p none (.sl 91 1 ((aL d x.into).1.rows.map aC))],vB ((aL d x.into).2)]) []/\Bb ((aL d x.name).2) (Bb ((aL d x.into).2) (eR x.column (0:Int) (IntKind.i64.wrap (((aL d x.name).1.arity) - 1))/\Bb (eC x.column (0:Int) (IntKind.i64.wrap (((aL d x.name).1.arity) - 1))) (eR x.intoColumn (0:Int) (IntKind.i64.wrap (((aL d x.into).1.arity) - 1))/\(eC x.intoColumn (0:Int) (IntKind.i64.wrap (((aL d x.into).1.arity) - 1)))=(gK d x)/\True) ((false)=(gK d x)/\True)) ((false)=(gK d x)/\True)) ((false)=(gK d x)/\True)) (by kernel_rfl) ?_;refine lx fun n0=>?_;refine⟨jP (rL _ x.name (by omega)) rfl,jP (rL _ x.into (by omega)) rfl,db (fun g24=>?_) fun g24=>?_⟩
 ·have hT:=(nJ g24).1;have hA:=cA hT;have hw:IntKind.i64.wrap ((aL d x.name).1.arity - 1)=(aL d x.name).1.arity - 1:=IntWalk.i64_in _ ⟨by omega,by omega⟩
  try rw[hw]
  refine db (fun g27=>?_) fun g27=>?_
  ·have hT2:=(nJ g27).1;have hA2:=cA hT2;have hw2:IntKind.i64.wrap ((aL d x.into).1.arity - 1)=(aL d x.into).1.arity - 1:=IntWalk.i64_in _ ⟨by omega,by omega⟩
   try rw[hw2]
   refine⟨iS _ _ _,db (fun g35=>?_) fun g35=>?_⟩
   ·refine⟨iS _ _ _,?_,trivial⟩
    ·(simp[gK, *];done)
   ·apply et1
    ·(simp[gK, *];done)
  ·apply et1
   ·(simp[gK, *];done)
 ·apply et1
  ·(simp[gK, *];done)
def b4 (a b c d:Bool):Int:=(if a then 1 else 0)+(if b then 2 else 0)+(if c then 4 else 0)+(if d then 8 else 0)
def m4 (p:Nat->Bool):Int:=b4 (p 0) (p 1) (p 2) (p 3)
theorem lt4 {P:Nat->Prop}(h0:P 0)(h1:P 1)(h2:P 2)(h3:P 3){i:Nat}(hi:i<4):P i:=by
 have h:i=0\/i=1\/i=2\/i=3:=by omega
 rcases h with rfl | rfl | rfl | rfl<;>assumption
theorem aYF (a b c d:Bool):fL (b4 a b c d) 0=a/\fL (b4 a b c d) 1=b/\fL (b4 a b c d) 2=c/\fL (b4 a b c d) 3=d:=by
 cases a<;>cases b<;>cases c<;>cases d<;>decide
theorem aYG {p:Nat->Bool}{v:Nat}(hv:v<4):fL (m4 p) v=p v:=by
 have h:=aYF (p 0) (p 1) (p 2) (p 3);exact lt4 (P:=fun v=>fL (m4 p) v=p v) h.1 h.2.1 h.2.2.1 h.2.2.2 hv
theorem aTs (a b c d:Bool):0<=b4 a b c d/\b4 a b c d<=15:=by cases a<;>cases b<;>cases c<;>cases d<;>decide
theorem aTt (p:Nat->Bool):0<=m4 p/\m4 p<=15:=aTs _ _ _ _
theorem aYd (a b c d:Bool):cD .or .i64 (b4 a b c d) (1*2^0)=b4 true b c d/\cD .or .i64 (b4 a b c d) (1*2^1)=b4 a true c d/\cD .or .i64 (b4 a b c d) (1*2^2)=b4 a b true d/\cD .or .i64 (b4 a b c d) (1*2^3)=b4 a b c true:=by
 cases a<;>cases b<;>cases c<;>cases d<;>decide
theorem aTu {p:Nat->Bool}{v:Nat}(hv:v<4):cD .or .i64 (m4 p) ((1:Int)*2^v)=m4 (fun i=>p i || decide (i=v)):=by
 have h:=aYd (p 0) (p 1) (p 2) (p 3);refine lt4 (P:=fun v=>cD .or .i64 (m4 p) ((1:Int)*2^v)=m4 (fun i=>p i || decide (i=v))) ?_ ?_ ?_ ?_ hv
 ·simpa [m4] using h.1
 ·simpa [m4] using h.2.1
 ·simpa [m4] using h.2.2.1
 simpa [m4] using h.2.2.2
theorem aWQ (a b c d:Bool):decide (b4 a b c d=1*2^(4:Int).toNat - 1)=(a&&(b&&(c&&(d&&true)))):=by cases a<;>cases b<;>cases c<;>cases d<;>decide
theorem aWR {p:Nat->Bool}{n:Int}(hn:1<=n/\n<=4)(hp: ∀i,n.toNat<=i->p i=false):decide (m4 p=1*2^n.toNat - 1)=(List.range n.toNat).all p:=by
 have h:n=1\/n=2\/n=3\/n=4:=by omega
 rcases h with rfl | rfl | rfl | rfl
 ·have h1:=hp 1 (by decide);have h2:=hp 2 (by decide);have h3:=hp 3 (by decide);simp only[m4,h1,h2,h3];show _=(List.range 1).all p;simp only[List.range,List.range.loop,List.all_cons,List.all_nil];cases p 0<;>decide
 ·have h2:=hp 2 (by decide);have h3:=hp 3 (by decide);simp only[m4,h2,h3];show _=(List.range 2).all p;simp only[List.range,List.range.loop,List.all_cons,List.all_nil];cases p 0<;>cases p 1<;>decide
 ·have h3:=hp 3 (by decide);simp only[m4,h3];show _=(List.range 3).all p;simp only[List.range,List.range.loop,List.all_cons,List.all_nil];cases p 0<;>cases p 1<;>cases p 2<;>decide
 simp only[m4];show _=(List.range 4).all p;simp only[List.range,List.range.loop,List.all_cons,List.all_nil];exact aWQ _ _ _ _
theorem aYH {m:Int}{v:Nat}(h:0<=m/\m<=15)(hv:v<4):cD .and .i64 (m/2^v) 1=if fL m v=true then 1 else 0:=by
 have h1:m=0\/m=1\/m=2\/m=3\/m=4\/m=5\/m=6\/m=7\/m=8\/m=9\/m=10\/m=11\/m=12\/m=13\/m=14\/m=15:=by omega
 refine lt4 (P:=fun v=>cD .and .i64 (m/2^v) 1=if fL m v=true then 1 else 0) ?_ ?_ ?_ ?_ hv<;>rcases h1 with rfl | rfl | rfl | rfl | rfl | rfl | rfl | rfl | rfl | rfl | rfl | rfl | rfl | rfl | rfl | rfl<;>decide
theorem aFV {m:Int}{v:Nat}(h:cD .and .i64 (m/2^v) 1=1):fL m v=true:=by rw[fL,h];rfl
theorem aD8 {m:Int}{v:Nat}(h: ¬cD .and .i64 (m/2^v) 1=1):fL m v=false:=by rw[fL];simpa using h
theorem aTv {m:Int}{v:Nat}(h:0<=m/\m<=15)(hv:v<4):decide (cD .and .i64 (m/2^v) 1=0)= !fL m v:=by
 rw[aYH h hv];cases fL m v<;>rfl
def gL (p:Nat->Bool)(k:Nat):List Int:=((List.range k).filter p).map fun v:Nat=>(v:Int)
theorem yR {p:Nat->Bool}{k:Nat}(h:p k=true):gL p (k+1)=gL p k++[(k:Int)]:=by
 rw[gL,List.range_succ,List.filter_append,aKc];simp[gL,h]
theorem aA6 {p:Nat->Bool}{k:Nat}(h:p k=false):gL p (k+1)=gL p k:=by
 rw[gL,List.range_succ,List.filter_append,aKc];simp[gL,h]
theorem yS (p:Nat->Bool)(k:Nat):(gL p k).length<=k:=by
 rw[gL,aA8];have:=(List.filter_sublist (l:=List.range k) (p:=p)).length_le;rw[List.length_range] at this;exact this
theorem aOd {p q:Nat->Bool}{k:Nat}(h: ∀v,v<k->p v=q v):gL p k=gL q k:=by
 rw[gL,gL,List.filter_congr fun v hv=>h v (aSN.1 hv)]
theorem aMx {p:Nat->Bool}{k:Nat}{x:Int}:x∈gL p k↔0<=x/\x.toNat<k/\p x.toNat=true:=by
 rw[gL,aON];constructor
 ·rintro⟨v,hv,rfl⟩;rw[aYR,aSN] at hv;exact⟨by omega,by simpa using hv.1,by simpa using hv.2⟩
 rintro⟨h0,h1,h2⟩;exact⟨x.toNat,aYR.2 ⟨aSN.2 h1,h2⟩,by omega⟩
theorem aGv {p:Nat->Bool}{n:Nat}: ∀{k:Nat},n<=k->(∀v,n<=v->v<k->p v=false)->gL p k=gL p n
 | 0,h,_=>by rw[show n=0 by omega]
 | k+1,h,hp=>by
   by_cases e:n=k+1
   ·rw[e]
   rw[aA6 (hp k (by omega) (by omega)),aGv (by omega) fun v h1 h2=>hp v h1 (by omega)]
def lL (n:Int)(l:List Int)(k:Nat):Bool:=eC (l.getD k 0) 0 (n - 1)&& !decide (l.getD k 0∈l.take k)
def yT (n:Int)(l:List Int):Bool:=(List.range l.length).all (lL n l)
def eL (n:Int)(a:dC):Bool:=gD a.name&&(eC (a.vars.length:Nat) 1 3&&yT n a.vars)
def aFC (l:List dC)(v:Nat):Bool:=l.any fun a=>decide ((v:Int)∈a.vars)
def cK (q:QueryD):Bool:=(eC q.variableCount 1 4&&eC (q.atoms.length:Nat) 1 4)&&(q.atoms.all (eL q.variableCount)&&(List.range q.variableCount.toNat).all (aFC q.atoms))
def hZ (l:List dC)(k:Nat)(a:List Int)(i v:Nat):Bool:=aFC (l.take k) v || decide ((v:Int)∈a.take i)
theorem aGw (l:List dC)(k:Nat)(a b:List Int):hZ l k a 0=hZ l k b 0:=by funext v;simp[hZ]
theorem aGx {l:List dC}{k i:Nat}{a:List Int}{x:Int}(h:a[i]? =some x)(hx:0<=x):(fun v=>hZ l k a i v || decide (v=x.toNat))=hZ l k a (i+1):=by
 funext v;rw[hZ,hZ,bQ h,tU,Bool.or_assoc]
 congr 2
 exact decide_eq_decide.2 (by omega)
theorem aRG {l:List dC}{k:Nat}{a:dC}(h:l[k]? =some a)(v:Nat):aFC (l.take (k+1)) v=(aFC (l.take k) v || decide ((v:Int)∈a.vars)):=by
 rw[aFC,bQ h,List.any_append];simp[aFC]
theorem aGy {l:List dC}{k i:Nat}{a:dC}(h:l[k]? =some a)(hi:a.vars.length<=i)(b:List Int):hZ l k a.vars i=hZ l (k+1) b 0:=by
 funext v;rw[hZ,hZ,aRG h,aGj hi];simp
theorem aJw {l:List dC}{k:Nat}(hk:l.length<=k)(b:List Int):hZ l k b 0=aFC l:=by
 funext v;rw[hZ,aGj hk];simp
theorem aTw {n v:Nat}(p:Nat->Bool):((List.range n).map p).set v true=(List.range n).map fun i=>p i || decide (i=v):=by
 apply List.ext_getElem?;intro i;rw[List.getElem?_set,aXY,aXY];by_cases hi:i<n
 ·rw[List.getElem?_range hi,aA8,List.length_range];by_cases e:v=i
  ·subst e;simp[hi]
  simp[e,show ¬i=v from fun q=>e q.symm]
 rw[show (List.range n)[i]? =none from List.getElem?_eq_none (by simp;omega)];by_cases e:v=i
 ·subst e;simp[hi]
 simp[e]
theorem aTx {n:Nat}(p:Nat->Bool):(!decide (false∈(List.range n).map p))=(List.range n).all p:=by
 apply Bool.eq_iff_iff.2;rw[Bool.not_eq_true',decide_eq_false_iff_not,aIZ];constructor
 ·intro h x hx;cases e:p x with
  | true=>rfl
  | false=>exact absurd (aON.2 ⟨x,hx,e⟩) h
 intro h hm;obtain⟨x,hx,e⟩:=aON.1 hm;rw[h x hx] at e;cases e
theorem aLR {q:QueryD}(h:(eC q.variableCount 1 4&&eC (q.atoms.length:Nat) 1 4)=false):cK q=false:=by rw[cK,h];rfl
theorem pR {q:QueryD}{k:Nat}{a:dC}(h:q.atoms[k]? =some a)(ha:eL q.variableCount a=false):cK q=false:=by rw[cK,eJ h ha];simp
theorem aPx {q:QueryD}(h:(eC q.variableCount 1 4&&eC (q.atoms.length:Nat) 1 4)=true)(ha:q.atoms.all (eL q.variableCount)=true):cK q=(List.range q.variableCount.toNat).all (aFC q.atoms):=by rw[cK,h,ha];rfl
theorem aRH {n:Int}{l:List Int}(h:yT n l=true){x:Int}(hx:x∈l):0<=x/\x<=n - 1:=by
 obtain⟨i,hi,rfl⟩:=List.mem_iff_getElem.1 hx;have:=aIZ.1 h i (aSN.2 hi);simp only[lL,aB4] at this;have:=eA this.1
 rwa [aI2,aEA hi,Option.getD_some] at this
theorem aB0 {n:Int}{a:dC}(h:eL n a=true):gD a.name=true/\(1<=a.vars.length/\a.vars.length<=3)/\ ∀x∈a.vars,0<=x/\x<=n - 1:=by
 simp only[eL,aB4] at h;have h2:=eA h.2.1;exact⟨h.1,⟨by omega,by omega⟩,fun x hx=>aRH h.2.2 hx⟩
theorem fU {q:QueryD}(h:cK q=true):(1<=q.variableCount/\q.variableCount<=4)/\(1<=q.atoms.length/\q.atoms.length<=4)/\ ∀a∈q.atoms,eL q.variableCount a=true:=by
 simp only[cK,aB4] at h;have h1:=eA h.1.1;have h2:=eA h.1.2;exact⟨h1,⟨by omega,by omega⟩,fun a ha=>aIZ.1 h.2.1 a ha⟩
theorem aTy {n:Int}{l:List dC}(h:l.all (eL n)=true)(h0:1<=n){v:Nat}(hv:n.toNat<=v):aFC l v=false:=by
 rw[aFC,List.any_eq_false];intro a ha hm;have:=(aB0 (aIZ.1 h a ha)).2.2 v (by simpa using hm);omega
def vH (q:QueryD)(m:Int)(i v:Nat):Bool:=(List.range i).any fun j=>fL m j&&decide ((v:Int)∈(q.atoms.getD j iL).vars)
def inM (q:QueryD)(m:Int)(v:Nat):Bool:=vH q m q.atoms.length v
def aEJ (q:QueryD)(m:Int):List Int:=gL (inM q m) q.variableCount.toNat
def jK (q:QueryD)(m:Int):Bool:=cK q&&eC m 0 ((1:Int)*2^q.atoms.length - 1)
def dZ (q:QueryD)(m:Int):List Int:=if jK q m=true then aEJ q m else []
def fA (m:Int):List Int:=if eC m 0 15=true then gL (fL m) 4 else []
def nK (q:QueryD):Int:=if cK q=true then (1:Int)*2^q.atoms.length - 1 else 0
theorem aJx {q:QueryD}{m:Int}(h:jK q m=true):dZ q m=aEJ q m:=by rw[dZ,if_pos h]
theorem aMy {q:QueryD}{m:Int}(h:jK q m=false):dZ q m= []:=by rw[dZ,if_neg (by rw[h];decide)]
theorem aD9 {m:Int}(h:eC m 0 15=true):fA m=gL (fL m) 4:=by rw[fA,if_pos h]
theorem aMz {m:Int}(h:eC m 0 15=false):fA m= []:=by rw[fA,if_neg (by rw[h];decide)]
theorem aDa {q:QueryD}(h:cK q=true):nK q=1*2^q.atoms.length - 1:=by rw[nK,if_pos h]
theorem aNA {q:QueryD}(h:cK q=false):nK q=0:=by rw[nK,if_neg (by rw[h];decide)]
theorem aA7 (q:QueryD)(m:Int)(i v:Nat):vH q m (i+1) v=(vH q m i v || (fL m i&&decide ((v:Int)∈(q.atoms.getD i iL).vars))):=by
 rw[vH,List.range_succ,List.any_append];simp[vH]
theorem aNB {q:QueryD}(h:cK q=true)(m:Int){v:Nat}(hv:q.variableCount.toNat<=v): ∀{i},i<=q.atoms.length->vH q m i v=false
 | 0,_=>rfl
 | i+1,hi=>by
   obtain⟨h1,_,h2⟩:=fU h;obtain⟨a,ha⟩:=dA (l:=q.atoms) (k:=i) (by omega);have ht:=(aB0 (h2 a (aCf ha))).2.2;rw[aA7,aNB h m hv (by omega),bM ha];have: ¬(v:Int)∈a.vars:=fun q=>by have:=ht _ q;omega
   simp[this]
theorem aWS {q:QueryD}(h:cK q=true)(m:Int){v:Nat}(hv:q.variableCount.toNat<=v):inM q m v=false:=aNB h m hv (aSO _)
def aFD (q:QueryD)(m:Int)(a:dC)(i k v:Nat):Bool:=vH q m i v || (fL m i&&decide ((v:Int)∈a.vars.take k))
theorem aRI (q:QueryD)(m:Int)(a:dC)(i:Nat):aFD q m a i 0=vH q m i:=by funext v;simp[aFD]
theorem aRJ {q:QueryD}{m:Int}{a:dC}{i k:Nat}{x:Int}(hb:fL m i=true)(h:a.vars[k]? =some x)(hx:0<=x):(fun v=>aFD q m a i k v || decide (v=x.toNat))=aFD q m a i (k+1):=by
 funext v;rw[aFD,aFD,bQ h,tU,hb,Bool.true_and,Bool.true_and,Bool.or_assoc]
 congr 2
 exact decide_eq_decide.2 (by omega)
theorem aJy {q:QueryD}{m:Int}{a:dC}{i k:Nat}(h:q.atoms[i]? =some a)(hk:fL m i=false\/a.vars.length<=k):aFD q m a i k=vH q m (i+1):=by
 funext v;rw[aFD,aA7,bM h];rcases hk with hk | hk
 ·rw[hk];rfl
 rw[aGj hk]
theorem aOe {q:QueryD}(h:cK q=true)(m:Int):gL (fL (m4 (inM q m))) 4=aEJ q m:=by
 obtain⟨h1,_,_⟩:=fU h;rw[aEJ,aOd (q:=inM q m) fun v hv=>aYG hv];exact aGv (by omega) fun v hv _=>aWS h m hv
theorem aWT {q:QueryD}{m:Int}{i v:Nat}{a:dC}(h:q.atoms[i]? =some a)(hb:fL m i=true)(hv:decide ((v:Int)∈a.vars)=true):inM q m v=true:=
 List.any_eq_true.2 ⟨i,aSN.2 (aEa.1 h).1,by rw[hb,bM h,hv];rfl⟩
theorem mF {n:Nat}(h:1<=n/\n<=4):1<=(1:Int)*2^n - 1/\(1:Int)*2^n - 1<=15:=by
 have:n=1\/n=2\/n=3\/n=4:=by omega
 rcases this with rfl | rfl | rfl | rfl<;>decide
theorem vJ {q:QueryD}{m:Int}(h:jK q m=true):cK q=true/\0<=m/\m<=15/\m<=1*2^q.atoms.length - 1:=by
 simp only[jK,aB4] at h;have h1:=eA h.2;have h2:=mF (fU h.1).2.1;exact⟨h.1,by omega,by omega,by omega⟩
theorem aTz {m:Int}{n i:Nat}(h:0<=m/\m<=1*2^n - 1)(hi:n<=i)(h4:i<4):fL m i=false:=by
 have hn:n=0\/n=1\/n=2\/n=3:=by omega
 have hi4:i=0\/i=1\/i=2\/i=3:=by omega
 have key:m/2^i=0:=by
  rcases hn with rfl | rfl | rfl | rfl<;>rcases hi4 with rfl | rfl | rfl | rfl<;>omega
 rw[fL,key];decide
theorem aUA {m:Int}{n:Nat}(h:0<=m/\m<=1*2^n - 1)(hn:n<=4):fA m=gL (fL m) n:=by
 have h15:m<=15:=by
  have:n=0\/n=1\/n=2\/n=3\/n=4:=by omega
  rcases this with rfl | rfl | rfl | rfl | rfl<;>simp at h<;>omega
 rw[aD9 (pU h.1 h15)];exact aGv hn fun v h1 h2=>aTz h h1 h2
end Go.Proofs.YtlidmoeecphbmaaGreat
namespace Go.Proofs
open Go.Shelf
namespace YtlidmoeecphbmaaGreat
def Tryz.revInts_ren:Go.Shelf.Ren:=⟨fun | 35=>264 | n=>n,fun | 22=>91 | 23=>3 | 3=>3 | 4=>4 | 0=>0 | n=>n,fun | n=>n⟩
theorem Tryz.revInts:Go.Proofs.SlLaysE.n35 Tryz.prog Tryz.revInts_ren:={
 mixed:=by kernel_rfl
 f35:=⟨Tryz.f264.name,by decide,Tryz.func264.trans (congrArg some (by kernel_rfl))⟩
 t0:=Tryz.underlying0
 a0:=Tryz.isAgg0
 z0:=Tryz.sizeOf0
 v0:=Tryz.zeroValue0
 t3:=Tryz.underlying3
 a3:=Tryz.isAgg3
 z3:=Tryz.sizeOf3
 v3:=Tryz.zeroValue3
 t4:=Tryz.underlying4
 a4:=Tryz.isAgg4
 z4:=Tryz.sizeOf4
 v4:=Tryz.zeroValue4
 t22:=Tryz.underlying91
 a22:=Tryz.isAgg91
 z22:=Tryz.sizeOf91
 v22:=Tryz.zeroValue91
 a23:=Tryz.isAgg3
 z23:=Tryz.sizeOf3 }
end YtlidmoeecphbmaaGreat
end Go.Proofs
namespace Go.Proofs.YtlidmoeecphbmaaGreat
open Go.ChangeShapes Go.WideShapes Go.ChangeAt Go.RowKit
set_option linter.unusedVariables false
theorem aUB (l:List Int)(hl:l.length<4611686018427387904):sW Tryz.prog 264 [.own 0] [(0,.arr 3 1 true (l.map intD))] (.tup []) [(0,.arr 3 1 true (l.reverse.map intD))]:=
 aJt l l.reverse (by kernel_rfl) List.length_reverse
  (fun h w=>AnyE.slices_Reverse_empty Tryz.revInts none 0 w)
  (fun blk cap w hH hblk hn=>(AnyE.slices_Reverse Tryz.revInts (Value.int .i64) (fun _=>rfl) blk 0 cap l w hH (by omega)).mono fun e w' ⟨he,q,hw⟩=>⟨he,q,#[],by rw[hw,Go.Sort.grow_empty]⟩)
end Go.Proofs.YtlidmoeecphbmaaGreat
namespace Go.Proofs.YtlidmoeecphbmaaGreat
open Go.ChangeShapes Go.WideShapes Go.ChangeAt Go.RowKit
set_option linter.unusedVariables false
set_option linter.unusedSimpArgs false
set_option maxRecDepth 100000
set_option maxHeartbeats 4000000
abbrev aAp (l:List Int):Prop:=l.Pairwise fun a b=>b<=a
def lM (l:List Int):List Int:=(jN l).reverse
theorem aB1 (l:List Int):(lM l).Perm l:=(List.reverse_perm _).trans (aGs l)
theorem aRK (l:List Int):(lM l).length=l.length:=(aB1 l).length_eq
theorem aOf (l:List Int):aAp (lM l):=List.pairwise_reverse.2 (aOb l)
theorem aNC {l m:List Int}(hp:l.Perm m)(h1:aAp l)(h2:aAp m):l=m:=
 List.Perm.eq_of_pairwise (le:=fun a b:Int=>b<=a) (fun a b _ _ h1 h2=>by omega) h1 h2 hp
theorem aND {l out:List Int}{k j:Nat}{x:Int}(hp:out.Perm (l.take k))(hx:l[k]? =some x):((([]:List Int)++out.take j)++[x]++out.drop j).Perm (l.take (k+1)):=by
 rw[bQ hx,aWs]
 have h1:(out.take j++[x]++out.drop j).Perm (out.take j++out.drop j++[x]):=by
  rw[aLV,aLV];exact List.Perm.append_left _ List.perm_append_comm
 rw[List.take_append_drop] at h1;exact h1.trans (hp.append_right _)
theorem aNE {out:List Int}{j:Nat}{x:Int}(hd:aAp out)(hj:j<=out.length)(hs: ∀i,j<=i->i<out.length->out.getD i 0<x)(hx:j=0\/ ¬out.getD (j - 1) 0<x):aAp ((([]:List Int)++out.take j)++[x]++out.drop j):=by
 rw[aWs,aLV];have hd' :=hd;rw[<-List.take_append_drop j out] at hd';obtain⟨d1,d2,d3⟩:=List.pairwise_append.1 hd'
 have hlo: ∀a∈out.drop j,a<=x:=fun a ha=>by
  obtain⟨i,hi,rfl⟩:=List.mem_iff_getElem.1 ha;have hi' :i<out.length - j:=by simpa using hi
  have:=hs (j+i) (by omega) (by omega);rw[List.getElem_drop];rw[aI2,aEA (by omega)] at this;simp only[Option.getD_some] at this;omega
 have hhi: ∀a∈out.take j,x<=a:=fun a ha=>by
  obtain⟨i,hi,rfl⟩:=List.mem_iff_getElem.1 ha
  have hi' :i<j:=by
   have:=hi;rw[aWm] at this;omega
  rcases hx with h | h
  ·omega
  have hp:=List.pairwise_iff_getElem.1 hd;rw[aI2,aEA (by omega)] at h;simp only[Option.getD_some] at h;rw[List.getElem_take];by_cases e:i=j - 1
  ·subst e;omega
  have:=hp i (j - 1) (by omega) (by omega) (by omega);omega
 refine List.pairwise_append.2 ⟨d1,List.pairwise_append.2 ⟨List.pairwise_singleton _ _,d2,fun a ha b hb=>?_⟩,fun a ha b hb=>?_⟩
 ·rw[aV1] at ha;subst ha;exact hlo b hb
 rcases aI1.1 hb with q | q
 ·rw[aV1] at q;subst q;exact hhi a ha
 exact d3 a ha b q
theorem aRL {out:List Int}{j:Nat}{x e:Int}(h:out[j - 1]? =some e)(hc:e<x)(hs: ∀i,j<=i->i<out.length->out.getD i 0<x): ∀i,j - 1<=i->i<out.length->out.getD i 0<x:=fun i h1 h2=>by
 by_cases q:i=j - 1
 ·rw[q,bM h];exact hc
 exact hs i (by omega) h2
abbrev aB2 (t:aY)(cols:List Int):AV × List (Nat × Rs):=(.own 0,[(0,.arr 3 1 true ((lM (dV t cols).2).map intD))])
abbrev aGz (t:aY)(cols:List Int):Prop:=Cn 254 [.agg [.str t.name,.int .i64 t.arity,.sl 91 1 (t.rows.map aC)],.one (.sl 3 1 (cols.map intD))] (aB2 t cols).1 (aB2 t cols).2
theorem aUC (t:aY)(cols:List Int)(hl:cols.length<=1048576):aGz t cols:=by
 refine cq Tryz.func254 (bH (uY t cols)<| bH (aDy ((dV t cols).2))<| .callx [.own 0] [(0,.arr 3 1 true ((dV t cols).2.map intD))] [(0,1500)] (.tup []) [(0,.arr 3 1 true ((jN ((dV t cols).2)).map intD))]<| .callx [.own 0] [(0,.arr 3 1 true ((jN ((dV t cols).2)).map intD))] [(0,1500)] (.tup []) [(0,.arr 3 1 true (((jN ((dV t cols).2)).reverse).map intD))]<| .fin [(0,1500)]) (p:=Lx (t.rows.map aC)<| Lx (cols.map intD)<| aBP t cols/\aGY ((dV t cols).2)/\sW Tryz.prog 250 [.own 0] [(0,.arr 3 1 true ((dV t cols).2.map intD))] (.tup []) [(0,.arr 3 1 true ((jN ((dV t cols).2)).map intD))]/\(dV t cols).2.map intD=(dV t cols).2.map intD/\sW Tryz.prog 264 [.own 0] [(0,.arr 3 1 true ((jN ((dV t cols).2)).map intD))] (.tup []) [(0,.arr 3 1 true (((jN ((dV t cols).2)).reverse).map intD))]/\(jN ((dV t cols).2)).map intD=(jN ((dV t cols).2)).map intD/\((jN ((dV t cols).2)).reverse).map intD=(lM (dV t cols).2).map intD/\True) (by kernel_rfl) ?_;refine lx fun n0=>lx fun n1=>?_;have hg:=aJq t cols;refine⟨aMf t cols (by omega),cpI _ (by omega),aJu ((dV t cols).2) (by omega),rfl,aUB (jN ((dV t cols).2)) (by (rw[tT];omega)),rfl,?_,trivial⟩
 ·rfl
abbrev aEK (l:List Int):Prop:=Cn 263 [.one (.sl 3 1 (l.map intD))] (.p none (.sl 3 1 ((lM l).map intD))) []
theorem aRM (l:List Int)(hc:l.length<=1048576):aEK l:=by
 refine cq Tryz.func263 (.stl 3<| .loop (Nat × (List Int)) (Q2 Nat (List Int)) ([3,4,5]++rg 7 39) [3100,3500,4000,4100,4500] (fun yy0=>[(4,vI (yy0.1:Int)),(3,.p none (.sl 3 1 (yy0.2.map intD)))]) (fun yy0=>[]) (fun yy0=>yy0.1<=l.length/\yy0.2.Perm (l.take yy0.1)/\aAp yy0.2) (fun yy0=>l.length - yy0.1) (fun yy0=> .len l.length<| .br (.len yy0.2.length<| .loop Nat (Q1 Nat) ([5]++rg 15 16) [] (fun j=>[(5,vI (j:Int))]) (fun j=>[]) (fun j=>j<=yy0.2.length/\(∀i,j<=i->i<yy0.2.length->yy0.2.getD i 0<l.getD yy0.1 0)) (fun j=>j) (fun j=> .br (.elem _ intD yy0.2 (fun e21=> .elem _ intD l (fun e25=> .lit<| .lit<| .lit<| .br (.back []) (.sub Int intD yy0.2<| .app Int intD ([]:List Int) (yy0.2.take j)<| .elem _ intD l (fun e38=> .app Int intD (([]:List Int)++(yy0.2.take j)) ([e38]:List Int)<| .sub Int intD yy0.2<| .app Int intD ((([]:List Int)++(yy0.2.take j))++[e38]) (yy0.2.drop j)<| .stl 3<| .back []))))) (.sub Int intD yy0.2<| .app Int intD ([]:List Int) (yy0.2.take j)<| .elem _ intD l (fun e38=> .app Int intD (([]:List Int)++(yy0.2.take j)) ([e38]:List Int)<| .sub Int intD yy0.2<| .app Int intD ((([]:List Int)++(yy0.2.take j))++[e38]) (yy0.2.drop j)<| .stl 3<| .back [])))) (.fin []))) (p:=Lx (l.map intD)<| (∃(k:Nat) (out:List Int),0=(k:Int)/\[]=out.map intD/\k<=l.length/\out.Perm (l.take k)/\aAp out)/\ ∀(k:Nat) (out:List Int),(k<=l.length/\out.Perm (l.take k)/\aAp out)->Lm intD l/\Br ((k:Int)<(l.length:Int)) (Lm intD out/\((∃(j:Nat),(out.length:Int)=(j:Int)/\j<=out.length/\(∀i,j<=i->i<out.length->out.getD i 0<l.getD k 0))/\ ∀(j:Nat),(j<=out.length/\(∀i,j<=i->i<out.length->out.getD i 0<l.getD k 0))->Br (0<(j:Int)) (bK ((j:Int) - 1)/\(0<=((j:Int) - 1)/\Em intD out (((j:Int) - 1).toNat) fun e21=>0<=(k:Int)/\Em intD l k fun e25=>Br (e21<e25) (bK ((j:Int) - 1)/\ ∃(j' :Nat),((j:Int) - 1)=(j' :Int)/\(j' <=out.length/\(∀i,j' <=i->i<out.length->out.getD i 0<l.getD k 0))/\j' <j) (out.map intD=out.map intD/\0<=(j:Int)/\(j:Int)<=(out.length:Int)/\Ap intD ([]:List Int) (out.take j) 8 (0<=(k:Int)/\Em intD l k fun e38=>Ap intD (([]:List Int)++(out.take j)) ([e38]:List Int) 8 (out.map intD=out.map intD/\0<=(j:Int)/\(j:Int)<=(out.length:Int)/\Ap intD ((([]:List Int)++(out.take j))++[e38]) (out.drop j) 8 (bK ((k:Int)+1)/\ ∃(k' :Nat) (out' :List Int),((k:Int)+1)=(k' :Int)/\(((([]:List Int)++(out.take j))++[e38])++(out.drop j)).map intD=out'.map intD/\(k' <=l.length/\out'.Perm (l.take k')/\aAp out')/\l.length - k' <l.length - k)))))) (out.map intD=out.map intD/\0<=(j:Int)/\(j:Int)<=(out.length:Int)/\Ap intD ([]:List Int) (out.take j) 8 (0<=(k:Int)/\Em intD l k fun e38=>Ap intD (([]:List Int)++(out.take j)) ([e38]:List Int) 8 (out.map intD=out.map intD/\0<=(j:Int)/\(j:Int)<=(out.length:Int)/\Ap intD ((([]:List Int)++(out.take j))++[e38]) (out.drop j) 8 (bK ((k:Int)+1)/\ ∃(k' :Nat) (out' :List Int),((k:Int)+1)=(k' :Int)/\(((([]:List Int)++(out.take j))++[e38])++(out.drop j)).map intD=out'.map intD/\(k' <=l.length/\out'.Perm (l.take k')/\aAp out')/\l.length - k' <l.length - k)))))) (out.map intD=(lM l).map intD/\True)) (by kernel_rfl) ?_;refine lx fun n0=>?_;refine⟨⟨0,([]:List Int),rfl,rfl,aCC _,List.Perm.refl _,List.Pairwise.nil⟩,fun k out ⟨hk,hp,hd⟩=>?_⟩;have hpl:=hp.length_eq;rw[aWm] at hpl;refine⟨aA8 _,dd (fun c0=>?_) fun c0=>?_⟩
 ·refine⟨aA8 _,⟨out.length,(by rfl),aSO _,fun i h1 h2=>by omega⟩,fun j ⟨hj,hs⟩=>?_⟩;refine dd (fun g17=>?_) fun g17=>?_
  ·refine⟨⟨by omega,by omega⟩,by omega,rfl,by omega,fun e21 h21=>?_⟩;have i21:out[j - 1]? =some e21:=by rw[<-h21];congr 1;omega
   refine⟨by omega,rfl,by omega,fun e25 h25=>?_⟩;refine dd (fun c1=>?_) fun c1=>?_
   ·have hlt:=aRL i21 (by rw[bM h25];exact c1:e21<l.getD k 0) hs;refine⟨⟨by omega,by omega⟩,?_⟩;exact⟨j - 1,(by omega),⟨by omega,hlt⟩,by omega⟩
   ·have hx:j=0\/ ¬out.getD (j - 1) 0<l.getD k 0:=by (right;rw[bM i21,bM h25];exact c1)
    refine⟨rfl,by omega,by omega,?_⟩;refine ap ?_ (fun _=>rfl) (by (simp;omega));refine⟨by omega,rfl,by omega,fun e38 h38=>?_⟩;rw[bM h38] at hx hs;refine ap ?_ (fun _=>rfl) (by (simp;omega));refine⟨rfl,by omega,by omega,?_⟩;refine ap ?_ (fun _=>rfl) (by (simp;omega));refine⟨⟨by omega,by omega⟩,?_⟩;exact⟨k+1,((([]:List Int)++(out.take j))++[e38])++(out.drop j),rfl,rfl,⟨by omega,aND hp h38,aNE hd hj hs hx⟩,by omega⟩
  ·have hx:j=0\/ ¬out.getD (j - 1) 0<l.getD k 0:=by (left;omega)
   refine⟨rfl,by omega,by omega,?_⟩;refine ap ?_ (fun _=>rfl) (by (simp;omega));refine⟨by omega,rfl,by omega,fun e38 h38=>?_⟩;rw[bM h38] at hx hs;refine ap ?_ (fun _=>rfl) (by (simp;omega));refine⟨rfl,by omega,by omega,?_⟩;refine ap ?_ (fun _=>rfl) (by (simp;omega));refine⟨⟨by omega,by omega⟩,?_⟩;exact⟨k+1,((([]:List Int)++(out.take j))++[e38])++(out.drop j),rfl,rfl,⟨by omega,aND hp h38,aNE hd hj hs hx⟩,by omega⟩
 ·have hE:out=lM l:=aNC ((by rw[aGj (by omega)] at hp;exact hp:out.Perm l).trans (aB1 l).symm) hd (aOf l);apply et1
  ·rw[hE]
abbrev yU (name:ByteArray)(arity:Int)(rows:List (List Int)):AV × List (Nat × Rs):=(.tup [.agg [.p none (.str ((nB name arity rows).1.name)),vI ((nB name arity rows).1.arity),.own 0],vB ((nB name arity rows).2)],[(0,.arr 91 1 true ((nB name arity rows).1.rows.map aC))])
abbrev aEL (name:ByteArray)(arity:Int)(rows:List (List Int)):Prop:=Cn 226 [.one (.str name),.one (.int .i64 arity),.one (.sl 91 1 (rows.map aC))] (yU name arity rows).1 (yU name arity rows).2
theorem aRN (name:ByteArray)(arity:Int)(rows:List (List Int))(hc:cO rows<=1048576):aEL name arity rows:=by
 refine cq Tryz.func226 (.loop (Nat × (List (List Int))) (Q2 Nat (List (List Int))) ([9]++rg 13 20) [800,3100,9000] (fun yy0=>[(9,vI (yy0.1:Int))]) (fun yy0=>[(800,some (.box 142 [.p none (.str name),vI arity,.own 9000])),(9000,some (.arr 91 1 true (yy0.2.map aC)))]) (fun yy0=>yy0.1<=rows.length/\yy0.2=cF (rows.take yy0.1)) (fun yy0=>rows.length - yy0.1) (fun yy0=> .len rows.length<| .br (.len yy0.2.length<| .lit<| .lit<| .br (.elem _ aC rows (fun e29=>bH (uZ yy0.2 e29)<| .back [(800,800),(9000,3100)])) (.call (vB (aV (⟨name,arity,yy0.2⟩:aY))) []<| .br (.fin []) (.fin [(0,9000)]))) (.call (vB (aV (⟨name,arity,yy0.2⟩:aY))) []<| .br (.fin []) (.fin [(0,9000)])))) (p:=Lx (rows.map aC)<| (∃(k:Nat) (acc:List (List Int)),0=(k:Int)/\name=name/\arity=arity/\[]=acc.map aC/\k<=rows.length/\acc=cF (rows.take k))/\ ∀(k:Nat) (acc:List (List Int)),(k<=rows.length/\acc=cF (rows.take k))->Lm aC rows/\Br ((k:Int)<(rows.length:Int)) (Lm aC acc/\Br ((acc.length:Int)<=8) (0<=(k:Int)/\Em aC rows k fun e29=>aBQ acc e29/\bK ((k:Int)+1)/\ ∃(k' :Nat) (acc' :List (List Int)),((k:Int)+1)=(k' :Int)/\name=name/\arity=arity/\(kT e29 acc).map aC=acc'.map aC/\(k' <=rows.length/\acc' =cF (rows.take k'))/\rows.length - k' <rows.length - k) (oG (⟨name,arity,acc⟩:aY)/\Nr (aV (⟨name,arity,acc⟩:aY)) (ByteArray.empty=((nB name arity rows).1.name)/\0=((nB name arity rows).1.arity)/\(false)=((nB name arity rows).2)/\[]=(nB name arity rows).1.rows.map aC/\True) (name=((nB name arity rows).1.name)/\arity=((nB name arity rows).1.arity)/\(true)=((nB name arity rows).2)/\acc.map aC=(nB name arity rows).1.rows.map aC/\True))) (oG (⟨name,arity,acc⟩:aY)/\Nr (aV (⟨name,arity,acc⟩:aY)) (ByteArray.empty=((nB name arity rows).1.name)/\0=((nB name arity rows).1.arity)/\(false)=((nB name arity rows).2)/\[]=(nB name arity rows).1.rows.map aC/\True) (name=((nB name arity rows).1.name)/\arity=((nB name arity rows).1.arity)/\(true)=((nB name arity rows).2)/\acc.map aC=(nB name arity rows).1.rows.map aC/\True))) (by kernel_rfl) ?_;refine lx fun n0=>?_;have hlen:=fD rows;refine⟨⟨0,([]:List (List Int)),rfl,rfl,rfl,rfl,aCC _,rfl⟩,fun k acc ⟨hk,ha⟩=>?_⟩;refine⟨aA8 _,dd (fun g17=>?_) fun g17=>?_⟩
 ·refine⟨aA8 _,dd (fun c0=>?_) fun c0=>?_⟩
  ·have hp:=aMp rows k;rw[<-ha] at hp;refine⟨by omega,rfl,by omega,fun e29 h29=>?_⟩;have hp3:=aA2 h29;refine⟨aMh acc e29 (by omega) (by omega) (by omega),⟨by omega,by omega⟩,?_⟩;exact⟨k+1,_,rfl,rfl,rfl,rfl,⟨by omega,by rw[ha,bQ h29,aCe]⟩,by omega⟩
  ·have hend:=aMq (name:=name) (arity:=arity) ha (by omega);refine⟨yG (⟨name,arity,acc⟩:aY),dm (fun c1=>?_) fun c1=>?_⟩
   ·have hbad:aV ⟨name,arity,cF rows⟩=false:=by rw[<-hend.1];simpa using c1
    apply et4<;>((rw[aLL hbad]<;>rfl))
   ·have hok0:aV ⟨name,arity,acc⟩=true:=by simpa using c1
    have hok:aV ⟨name,arity,cF rows⟩=true:=by rw[<-hend.1];exact hok0
    have hacc:=hend.2 hok0;apply et4<;>(first|(rw[tQ hok]<;>rfl)|(rw[tQ hok];exact congrArg (List.map aC) hacc))
 ·have hend:=aMq (name:=name) (arity:=arity) ha (by omega);refine⟨yG (⟨name,arity,acc⟩:aY),dm (fun c1=>?_) fun c1=>?_⟩
  ·have hbad:aV ⟨name,arity,cF rows⟩=false:=by rw[<-hend.1];simpa using c1
   apply et4<;>((rw[aLL hbad]<;>rfl))
  ·have hok0:aV ⟨name,arity,acc⟩=true:=by simpa using c1
   have hok:aV ⟨name,arity,cF rows⟩=true:=by rw[<-hend.1];exact hok0
   have hacc:=hend.2 hok0;apply et4<;>(first|(rw[tQ hok]<;>rfl)|(rw[tQ hok];exact congrArg (List.map aC) hacc))
abbrev yV (x:aM):AV × List (Nat × Rs):=(.tup [.agg [.p none (.str ((nI x).1.name)),vI ((nI x).1.arity),.own 0],vB ((nI x).2)],[(0,.arr 91 1 true ((nI x).1.rows.map aC))])
abbrev aEM (x:aM):Prop:=Cn 185 [.agg [.str x.name,.int .i64 x.arity,.int .i64 x.rowCount,.sl 220 3 (x.groups.map aD)]] (yV x).1 (yV x).2
theorem aRO (x:aM)(hc:bF x<=1048576):aEM x:=by
 refine cq Tryz.func185 (.len x.groups.length<| .br (.fin []) (.len x.groups.length<| .elem _ aD x.groups (fun e22=>bH (yU x.name x.arity e22.values)<| .fin [(0,2500)]))) (p:=Lx (x.groups.map aD)<| Lm aD x.groups/\Br ((x.groups.length:Int)=0) (ByteArray.empty=((nI x).1.name)/\0=((nI x).1.arity)/\(false)=((nI x).2)/\[]=(nI x).1.rows.map aC/\True) (Lm aD x.groups/\bK ((x.groups.length:Int) - 1)/\0<=((x.groups.length:Int) - 1)/\Em aD x.groups (((x.groups.length:Int) - 1).toNat) fun e22=>aEL x.name x.arity e22.values/\((nB x.name x.arity e22.values).1.name)=((nI x).1.name)/\((nB x.name x.arity e22.values).1.arity)=((nI x).1.arity)/\((nB x.name x.arity e22.values).2)=((nI x).2)/\(nB x.name x.arity e22.values).1.rows.map aC=(nI x).1.rows.map aC/\True)) (by kernel_rfl) ?_;refine lx fun n0=>?_;have q2:bF x=x.name.size+dK x.groups:=rfl;have q5:=gC x.groups;refine⟨aA8 _,dd (fun c0=>?_) fun c0=>?_⟩
 ·have hT:nI x=(gB,false):=by rw[nI,if_pos (by omega)]
  apply et4<;>((rw[hT]<;>rfl))
 ·have hT:nI x=nB x.name x.arity (kY x):=by rw[nI,if_neg (by omega)]
  refine⟨aA8 _,⟨by omega,by omega⟩,by omega,rfl,by omega,fun e22 h22=>?_⟩;have i22:x.groups[x.groups.length - 1]? =some e22:=by rw[<-h22];congr 1;omega
  have hL:kY x=e22.values:=aMk i22;rw[hL] at hT;have q1:=gY i22;have q3:bV e22=cC e22.columns+cO e22.values+cC e22.counts:=rfl;have q6:cC e22.columns=e22.columns.length:=rfl;have q7:cC e22.counts=e22.counts.length:=rfl;have q8:=fD e22.values;refine⟨aRN _ _ _ (by omega),?_,?_,?_,?_,trivial⟩<;>((rw[hT]<;>rfl))
abbrev vK (x:aM):Prop:=Cn 127 [.agg [.str x.name,.int .i64 x.arity,.int .i64 x.rowCount,.sl 220 3 (x.groups.map aD)]] (vB (cJ x)) []
theorem aHA (x:aM)(hc:bF x<=1048576):vK x:=by
 refine cq Tryz.func127 (bH (yV x)<| .br (bH (aA4 ((nI x).1))<| .call (vB (decide ((bG ((nI x).1))=x))) []<| .fin []) (.fin [])) (p:=Lx (x.groups.map aD)<| aEM x/\Bb ((nI x).2) (aD3 ((nI x).1)/\rD (bG ((nI x).1)) x/\(decide ((bG ((nI x).1))=x))=(cJ x)/\True) ((false)=(cJ x)/\True)) (by kernel_rfl) ?_;refine lx fun n0=>?_;have hst:=aEG (nI x).1;have hsame:=aQy x;refine⟨aRO x (by omega),db (fun g11=>?_) fun g11=>?_⟩
 ·refine⟨aPs ((nI x).1),aC0 _ _ (by omega),?_,trivial⟩
  ·(rw[<-hsame,g11];simp;done)
 ·apply et1
  ·(rw[<-hsame,g11];simp;done)
end Go.Proofs.YtlidmoeecphbmaaGreat
