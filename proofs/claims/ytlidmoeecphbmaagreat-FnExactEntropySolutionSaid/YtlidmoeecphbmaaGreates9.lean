/-
  Contracts and plain laws, joined: part 10.
-/
import Derived.Test.YtlidmoeecphbmaaGreates8
import Derived.Test.YtlidmoeecphbmaaGreates7
import Derived.Test.YtlidmoeecphbmaaGreates4
import Derived.Shelf.SlicesE.Reverse
import Derived.Ground.SlgnProg
namespace Go.Proofs.YtlidmoeecphbmaaGreat
open Go.ChangeShapes Go.WideShapes Go.ChangeAt Go.RowKit
set_option linter.unusedVariables false
set_option linter.unusedSimpArgs false
set_option maxRecDepth 100000
set_option maxHeartbeats 4000000
def iC (d:aX)(x:aP):Bool:=(aO d x.name).2&&((aO d x.into).2&&(eQ x.column 0 ((aO d x.name).1.arity - 1)&&eQ x.intoColumn 0 ((aO d x.into).1.arity - 1)))
def jB (rows:List (List Int))(c:Int):List Int:=rows.map fun r=>r.getD c.toNat 0
def aFr (d:aX)(x:aP):List Int:=(jB (aO d x.name).1.rows x.column).filter fun v=> !decide (v∈jB (aO d x.into).1.rows x.intoColumn)
def zM (d:aX)(x:aP):List Int:=if iC d x=true then vL (kV (aFr d x)) else []
def aES (d:aX)(x:aP)(v:Nat):Bool:=decide ((v:Int)∈jB (aO d x.name).1.rows x.column)&& !decide ((v:Int)∈jB (aO d x.into).1.rows x.intoColumn)
def pV (d:aX)(x:aP)(n:Nat):List Int:=((List.range n).filter (aES d x)).map fun v:Nat=>(v:Int)
def zN (d:aX)(x:aP):List Int:=if iC d x=true then pV d x 10 else []
def mB (d:aX)(x:aP):Bool:=iC d x&&decide (aFr d x= [])
theorem aTN {d:aX}{x:aP}{v:Nat}(h:aES d x v=true):pV d x (v+1)=pV d x v++[(v:Int)]:=by
 rw[pV,List.range_succ,List.filter_append,aMQ];simp[pV,h]
theorem aPA {d:aX}{x:aP}{v:Nat}(h:aES d x v=false):pV d x (v+1)=pV d x v:=by
 rw[pV,List.range_succ,List.filter_append,aMQ];simp[pV,h]
theorem aTO (d:aX)(x:aP)(v:Nat):(pV d x v).length<=v:=by
 rw[pV,aAH];have:=List.length_filter_le (aES d x) (List.range v)
 rwa [List.length_range] at this
theorem oD (rows:List (List Int))(c:Int){k:Nat}{r:List Int}(h:rows[k]? =some r):jB (rows.take (k+1)) c=jB (rows.take k) c++[r.getD c.toNat 0]:=by rw[bT h,jB,aMQ];rfl
theorem wX {l:List Int}{v y:Int}:decide (v∈l++[y])=(decide (v∈l) || decide (v=y)):=by simp[Bool.decide_or]
theorem aTP {t:aV}{c:Int}{v:Int}(h:aZ t=true)(hc:0<=c/\c<=t.arity - 1)(hv:v∈jB t.rows c):0<=v/\v<=9:=by
 obtain⟨r,hr,rfl⟩:=aQO.1 hv;have hl:=rC h hr;have hk:=aI4.1 (rB h).1 r hr;simp only[lA,aCA,aUa] at hk;have hlt:c.toNat<r.length:=by omega
 have hm:r.getD c.toNat 0∈r:=by rw[aKU,aFZ hlt];exact bA7 hlt
 exact eN (aI4.1 hk.1 _ hm)
theorem aAr {d:aX}{x:aP}(h:iC d x=true):aZ (aO d x.name).1=true/\aZ (aO d x.into).1=true/\(0<=x.column/\x.column<=(aO d x.name).1.arity - 1)/\(0<=x.intoColumn/\x.intoColumn<=(aO d x.into).1.arity - 1):=by
 simp only[iC,aCA] at h;obtain⟨h1,h2,h3,h4⟩:=h;exact⟨(pH h1).1,(pH h2).1,eN h3,eN h4⟩
theorem aTQ {d:aX}{x:aP}(h:iC d x=true):decide (zM d x= [])=decide (aFr d x= []):=by
 rw[zM,if_pos h];apply Bool.eq_iff_iff.2;rw[aUa,aUa,aLr];constructor
 ·intro q;have:=wW (aFr d x);rw[q] at this;exact aKV this.symm
 intro q;have:=wW (aFr d x);rw[q] at this;rw[q];exact aKV this
theorem aTR {d:aX}{x:aP}(h:iC d x=true):decide (zN d x= [])=decide (aFr d x= []):=by
 obtain⟨h1,_,h3,_⟩:=aAr h;rw[zN,if_pos h];apply Bool.eq_iff_iff.2;rw[aUa,aUa,pV,List.map_eq_nil_iff,List.filter_eq_nil_iff,aFr,List.filter_eq_nil_iff];constructor
 ·intro q v hv hb;have hr:=aTP h1 h3 hv;refine q v.toNat (aR2.2 (by omega)) ?_;rw[aES,Int.toNat_of_nonneg hr.1];simp only[aCA,aUa];exact⟨hv,hb⟩
 intro q v _ hb;rw[aES,aCA,aUa] at hb;exact q _ hb.1 hb.2
abbrev yK (d:aX)(x:aP):Prop:=Cn 233 [.agg [.sl 142 3 (d.tables.map aS)],.agg [.str x.name,.int .i64 x.column,.str x.into,.int .i64 x.intoColumn]] (vB (iC d x)) []
theorem aIe (d:aX)(x:aP)(hc:bM d<=1048576):yK d x:=by
 refine cq Tryz.func233 (.call (.tup [.agg [.p none (.str ((aO d x.name).1.name)),vI ((aO d x.name).1.arity),.p none (.sl 91 1 ((aO d x.name).1.rows.map aE))],vB ((aO d x.name).2)]) []<| .call (.tup [.agg [.p none (.str ((aO d x.into).1.name)),vI ((aO d x.into).1.arity),.p none (.sl 91 1 ((aO d x.into).1.rows.map aE))],vB ((aO d x.into).2)]) []<| .br (.lit<| .br (.raw<| .call (vB (eQ x.column (0:Int) (IntKind.i64.wrap (((aO d x.name).1.arity) - 1)))) []<| .lit<| .br (.raw<| .call (vB (eQ x.intoColumn (0:Int) (IntKind.i64.wrap (((aO d x.into).1.arity) - 1)))) []<| .fin []) (.fin [])) (.fin [])) (.fin [])) (p:=Lx (d.tables.map aS)<| rM Tryz.prog 86 [.agg [.sl 142 3 (d.tables.map aS)],.one (.str x.name)] (.tup [.agg [.p none (.str ((aO d x.name).1.name)),vI ((aO d x.name).1.arity),.p none (.sl 91 1 ((aO d x.name).1.rows.map aE))],vB ((aO d x.name).2)]) []/\rM Tryz.prog 86 [.agg [.sl 142 3 (d.tables.map aS)],.one (.str x.into)] (.tup [.agg [.p none (.str ((aO d x.into).1.name)),vI ((aO d x.into).1.arity),.p none (.sl 91 1 ((aO d x.into).1.rows.map aE))],vB ((aO d x.into).2)]) []/\Bb ((aO d x.name).2) (Bb ((aO d x.into).2) (fH x.column (0:Int) (IntKind.i64.wrap (((aO d x.name).1.arity) - 1))/\Bb (eQ x.column (0:Int) (IntKind.i64.wrap (((aO d x.name).1.arity) - 1))) (fH x.intoColumn (0:Int) (IntKind.i64.wrap (((aO d x.into).1.arity) - 1))/\(eQ x.intoColumn (0:Int) (IntKind.i64.wrap (((aO d x.into).1.arity) - 1)))=(iC d x)/\True) ((false)=(iC d x)/\True)) ((false)=(iC d x)/\True)) ((false)=(iC d x)/\True)) (by kernel_rfl) ?_;refine lx fun n0=>?_;refine⟨kX (tZ _ x.name (by omega)) rfl,kX (tZ _ x.into (by omega)) rfl,db (fun g24=>?_) fun g24=>?_⟩
 ·have hT:=(pH g24).1;have hA:=cH hT;have hw:IntKind.i64.wrap ((aO d x.name).1.arity - 1)=(aO d x.name).1.arity - 1:=IntWalk.i64_in _ ⟨by omega,by omega⟩
  try rw[hw]
  refine db (fun g27=>?_) fun g27=>?_
  ·have hT2:=(pH g27).1;have hA2:=cH hT2;have hw2:IntKind.i64.wrap ((aO d x.into).1.arity - 1)=(aO d x.into).1.arity - 1:=IntWalk.i64_in _ ⟨by omega,by omega⟩
   try rw[hw2]
   refine⟨jT _ _ _,db (fun g35=>?_) fun g35=>?_⟩
   ·refine⟨jT _ _ _,?_,trivial⟩
    ·(simp[iC, *];done)
   ·apply et1
    ·(simp[iC, *];done)
  ·apply et1
   ·(simp[iC, *];done)
 ·apply et1
  ·(simp[iC, *];done)
abbrev yL (d:aX)(x:aP):Prop:=Cn 224 [.agg [.sl 142 3 (d.tables.map aS)],.agg [.str x.name,.int .i64 x.column,.str x.into,.int .i64 x.intoColumn]] (vB (iC d x)) []
theorem aIf (d:aX)(x:aP)(hc:bM d<=1048576):yL d x:=by
 refine cq Tryz.func224 (.call (.tup [.agg [.p none (.str ((aO d x.name).1.name)),vI ((aO d x.name).1.arity),.p none (.sl 91 1 ((aO d x.name).1.rows.map aE))],vB ((aO d x.name).2)]) []<| .call (.tup [.agg [.p none (.str ((aO d x.into).1.name)),vI ((aO d x.into).1.arity),.p none (.sl 91 1 ((aO d x.into).1.rows.map aE))],vB ((aO d x.into).2)]) []<| .br (.lit<| .br (.raw<| .call (vB (eQ x.column (0:Int) (IntKind.i64.wrap (((aO d x.name).1.arity) - 1)))) []<| .lit<| .br (.raw<| .call (vB (eQ x.intoColumn (0:Int) (IntKind.i64.wrap (((aO d x.into).1.arity) - 1)))) []<| .fin []) (.fin [])) (.fin [])) (.fin [])) (p:=Lx (d.tables.map aS)<| rM Tryz.prog 126 [.agg [.sl 142 3 (d.tables.map aS)],.one (.str x.name)] (.tup [.agg [.p none (.str ((aO d x.name).1.name)),vI ((aO d x.name).1.arity),.p none (.sl 91 1 ((aO d x.name).1.rows.map aE))],vB ((aO d x.name).2)]) []/\rM Tryz.prog 126 [.agg [.sl 142 3 (d.tables.map aS)],.one (.str x.into)] (.tup [.agg [.p none (.str ((aO d x.into).1.name)),vI ((aO d x.into).1.arity),.p none (.sl 91 1 ((aO d x.into).1.rows.map aE))],vB ((aO d x.into).2)]) []/\Bb ((aO d x.name).2) (Bb ((aO d x.into).2) (fI x.column (0:Int) (IntKind.i64.wrap (((aO d x.name).1.arity) - 1))/\Bb (eQ x.column (0:Int) (IntKind.i64.wrap (((aO d x.name).1.arity) - 1))) (fI x.intoColumn (0:Int) (IntKind.i64.wrap (((aO d x.into).1.arity) - 1))/\(eQ x.intoColumn (0:Int) (IntKind.i64.wrap (((aO d x.into).1.arity) - 1)))=(iC d x)/\True) ((false)=(iC d x)/\True)) ((false)=(iC d x)/\True)) ((false)=(iC d x)/\True)) (by kernel_rfl) ?_;refine lx fun n0=>?_;refine⟨kX (uA _ x.name (by omega)) rfl,kX (uA _ x.into (by omega)) rfl,db (fun g24=>?_) fun g24=>?_⟩
 ·have hT:=(pH g24).1;have hA:=cH hT;have hw:IntKind.i64.wrap ((aO d x.name).1.arity - 1)=(aO d x.name).1.arity - 1:=IntWalk.i64_in _ ⟨by omega,by omega⟩
  try rw[hw]
  refine db (fun g27=>?_) fun g27=>?_
  ·have hT2:=(pH g27).1;have hA2:=cH hT2;have hw2:IntKind.i64.wrap ((aO d x.into).1.arity - 1)=(aO d x.into).1.arity - 1:=IntWalk.i64_in _ ⟨by omega,by omega⟩
   try rw[hw2]
   refine⟨jU _ _ _,db (fun g35=>?_) fun g35=>?_⟩
   ·refine⟨jU _ _ _,?_,trivial⟩
    ·(simp[iC, *];done)
   ·apply et1
    ·(simp[iC, *];done)
  ·apply et1
   ·(simp[iC, *];done)
 ·apply et1
  ·(simp[iC, *];done)
def b4 (a b c d:Bool):Int:=(if a then 1 else 0)+(if b then 2 else 0)+(if c then 4 else 0)+(if d then 8 else 0)
def m4 (p:Nat->Bool):Int:=b4 (p 0) (p 1) (p 2) (p 3)
theorem lt4 {P:Nat->Prop}(h0:P 0)(h1:P 1)(h2:P 2)(h3:P 3){i:Nat}(hi:i<4):P i:=by
 have h:i=0\/i=1\/i=2\/i=3:=by omega
 rcases h with rfl | rfl | rfl | rfl<;>assumption
theorem bAU (a b c d:Bool):gG (b4 a b c d) 0=a/\gG (b4 a b c d) 1=b/\gG (b4 a b c d) 2=c/\gG (b4 a b c d) 3=d:=by
 cases a<;>cases b<;>cases c<;>cases d<;>decide
theorem bAV {p:Nat->Bool}{v:Nat}(hv:v<4):gG (m4 p) v=p v:=by
 have h:=bAU (p 0) (p 1) (p 2) (p 3);exact lt4 (P:=fun v=>gG (m4 p) v=p v) h.1 h.2.1 h.2.2.1 h.2.2.2 hv
theorem aWD (a b c d:Bool):0<=b4 a b c d/\b4 a b c d<=15:=by cases a<;>cases b<;>cases c<;>cases d<;>decide
theorem aWE (p:Nat->Bool):0<=m4 p/\m4 p<=15:=aWD _ _ _ _
theorem bAu (a b c d:Bool):cL .or .i64 (b4 a b c d) (1*2^0)=b4 true b c d/\cL .or .i64 (b4 a b c d) (1*2^1)=b4 a true c d/\cL .or .i64 (b4 a b c d) (1*2^2)=b4 a b true d/\cL .or .i64 (b4 a b c d) (1*2^3)=b4 a b c true:=by
 cases a<;>cases b<;>cases c<;>cases d<;>decide
theorem aWF {p:Nat->Bool}{v:Nat}(hv:v<4):cL .or .i64 (m4 p) ((1:Int)*2^v)=m4 (fun i=>p i || decide (i=v)):=by
 have h:=bAu (p 0) (p 1) (p 2) (p 3);refine lt4 (P:=fun v=>cL .or .i64 (m4 p) ((1:Int)*2^v)=m4 (fun i=>p i || decide (i=v))) ?_ ?_ ?_ ?_ hv
 ·simpa [m4] using h.1
 ·simpa [m4] using h.2.1
 ·simpa [m4] using h.2.2.1
 simpa [m4] using h.2.2.2
theorem aY6 (a b c d:Bool):decide (b4 a b c d=1*2^(4:Int).toNat - 1)=(a&&(b&&(c&&(d&&true)))):=by cases a<;>cases b<;>cases c<;>cases d<;>decide
theorem aY7 {p:Nat->Bool}{n:Int}(hn:1<=n/\n<=4)(hp: ∀i,n.toNat<=i->p i=false):decide (m4 p=1*2^n.toNat - 1)=(List.range n.toNat).all p:=by
 have h:n=1\/n=2\/n=3\/n=4:=by omega
 rcases h with rfl | rfl | rfl | rfl
 ·have h1:=hp 1 (by decide);have h2:=hp 2 (by decide);have h3:=hp 3 (by decide);simp only[m4,h1,h2,h3];show _=(List.range 1).all p;simp only[List.range,List.range.loop,List.all_cons,List.all_nil];cases p 0<;>decide
 ·have h2:=hp 2 (by decide);have h3:=hp 3 (by decide);simp only[m4,h2,h3];show _=(List.range 2).all p;simp only[List.range,List.range.loop,List.all_cons,List.all_nil];cases p 0<;>cases p 1<;>decide
 ·have h3:=hp 3 (by decide);simp only[m4,h3];show _=(List.range 3).all p;simp only[List.range,List.range.loop,List.all_cons,List.all_nil];cases p 0<;>cases p 1<;>cases p 2<;>decide
 simp only[m4];show _=(List.range 4).all p;simp only[List.range,List.range.loop,List.all_cons,List.all_nil];exact aY6 _ _ _ _
theorem bAW {m:Int}{v:Nat}(h:0<=m/\m<=15)(hv:v<4):cL .and .i64 (m/2^v) 1=if gG m v=true then 1 else 0:=by
 have h1:m=0\/m=1\/m=2\/m=3\/m=4\/m=5\/m=6\/m=7\/m=8\/m=9\/m=10\/m=11\/m=12\/m=13\/m=14\/m=15:=by omega
 refine lt4 (P:=fun v=>cL .and .i64 (m/2^v) 1=if gG m v=true then 1 else 0) ?_ ?_ ?_ ?_ hv<;>rcases h1 with rfl | rfl | rfl | rfl | rfl | rfl | rfl | rfl | rfl | rfl | rfl | rfl | rfl | rfl | rfl | rfl<;>decide
theorem aHE {m:Int}{v:Nat}(h:cL .and .i64 (m/2^v) 1=1):gG m v=true:=by rw[gG,h];rfl
theorem aFQ {m:Int}{v:Nat}(h: ¬cL .and .i64 (m/2^v) 1=1):gG m v=false:=by rw[gG];simpa using h
theorem aWG {m:Int}{v:Nat}(h:0<=m/\m<=15)(hv:v<4):decide (cL .and .i64 (m/2^v) 1=0)= !gG m v:=by
 rw[bAW h hv];cases gG m v<;>rfl
def iD (p:Nat->Bool)(k:Nat):List Int:=((List.range k).filter p).map fun v:Nat=>(v:Int)
theorem aAs {p:Nat->Bool}{k:Nat}(h:p k=true):iD p (k+1)=iD p k++[(k:Int)]:=by
 rw[iD,List.range_succ,List.filter_append,aMQ];simp[iD,h]
theorem aBy {p:Nat->Bool}{k:Nat}(h:p k=false):iD p (k+1)=iD p k:=by
 rw[iD,List.range_succ,List.filter_append,aMQ];simp[iD,h]
theorem aAt (p:Nat->Bool)(k:Nat):(iD p k).length<=k:=by
 rw[iD,aAH];have:=(List.filter_sublist (l:=List.range k) (p:=p)).length_le;rw[List.length_range] at this;exact this
theorem aQj {p q:Nat->Bool}{k:Nat}(h: ∀v,v<k->p v=q v):iD p k=iD q k:=by
 rw[iD,iD,List.filter_congr fun v hv=>h v (aR2.1 hv)]
theorem aPB {p:Nat->Bool}{k:Nat}{x:Int}:x∈iD p k↔0<=x/\x.toNat<k/\p x.toNat=true:=by
 rw[iD,aQO];constructor
 ·rintro⟨v,hv,rfl⟩;rw[aZe,aR2] at hv;exact⟨by omega,by simpa using hv.1,by simpa using hv.2⟩
 rintro⟨h0,h1,h2⟩;exact⟨x.toNat,aZe.2 ⟨aR2.2 h1,h2⟩,by omega⟩
theorem aIg {p:Nat->Bool}{n:Nat}: ∀{k:Nat},n<=k->(∀v,n<=v->v<k->p v=false)->iD p k=iD p n
 | 0,h,_=>by rw[show n=0 by omega]
 | k+1,h,hp=>by
   by_cases e:n=k+1
   ·rw[e]
   rw[aBy (hp k (by omega) (by omega)),aIg (by omega) fun v h1 h2=>hp v h1 (by omega)]
def nI (n:Int)(l:List Int)(k:Nat):Bool:=eQ (l.getD k 0) 0 (n - 1)&& !decide (l.getD k 0∈l.take k)
def aAu (n:Int)(l:List Int):Bool:=(List.range l.length).all (nI n l)
def eZ (n:Int)(a:bX):Bool:=gZ a.name&&(eQ (a.vars.length:Nat) 1 3&&aAu n a.vars)
def aGl (l:List bX)(v:Nat):Bool:=l.any fun a=>decide ((v:Int)∈a.vars)
def cT (q:QueryD):Bool:=(eQ q.variableCount 1 4&&eQ (q.atoms.length:Nat) 1 4)&&(q.atoms.all (eZ q.variableCount)&&(List.range q.variableCount.toNat).all (aGl q.atoms))
def iV (l:List bX)(k:Nat)(a:List Int)(i v:Nat):Bool:=aGl (l.take k) v || decide ((v:Int)∈a.take i)
theorem aIh (l:List bX)(k:Nat)(a b:List Int):iV l k a 0=iV l k b 0:=by funext v;simp[iV]
theorem aIi {l:List bX}{k i:Nat}{a:List Int}{x:Int}(h:a[i]? =some x)(hx:0<=x):(fun v=>iV l k a i v || decide (v=x.toNat))=iV l k a (i+1):=by
 funext v;rw[iV,iV,bT h,wX,Bool.or_assoc]
 congr 2
 exact decide_eq_decide.2 (by omega)
theorem aTS {l:List bX}{k:Nat}{a:bX}(h:l[k]? =some a)(v:Nat):aGl (l.take (k+1)) v=(aGl (l.take k) v || decide ((v:Int)∈a.vars)):=by
 rw[aGl,bT h,List.any_append];simp[aGl]
theorem aIj {l:List bX}{k i:Nat}{a:bX}(h:l[k]? =some a)(hi:a.vars.length<=i)(b:List Int):iV l k a.vars i=iV l (k+1) b 0:=by
 funext v;rw[iV,iV,aTS h,aGT hi];simp
theorem aLs {l:List bX}{k:Nat}(hk:l.length<=k)(b:List Int):iV l k b 0=aGl l:=by
 funext v;rw[iV,aGT hk];simp
theorem aWH {n v:Nat}(p:Nat->Bool):((List.range n).map p).set v true=(List.range n).map fun i=>p i || decide (i=v):=by
 apply List.ext_getElem?;intro i;rw[List.getElem?_set,aZH,aZH];by_cases hi:i<n
 ·rw[List.getElem?_range hi,aAH,List.length_range];by_cases e:v=i
  ·subst e;simp[hi]
  simp[e,show ¬i=v from fun q=>e q.symm]
 rw[show (List.range n)[i]? =none from List.getElem?_eq_none (by simp;omega)];by_cases e:v=i
 ·subst e;simp[hi]
 simp[e]
theorem aWI {n:Nat}(p:Nat->Bool):(!decide (false∈(List.range n).map p))=(List.range n).all p:=by
 apply Bool.eq_iff_iff.2;rw[Bool.not_eq_true',decide_eq_false_iff_not,aI4];constructor
 ·intro h x hx;cases e:p x with
  | true=>rfl
  | false=>exact absurd (aQO.2 ⟨x,hx,e⟩) h
 intro h hm;obtain⟨x,hx,e⟩:=aQO.1 hm;rw[h x hx] at e;cases e
theorem aNS {q:QueryD}(h:(eQ q.variableCount 1 4&&eQ (q.atoms.length:Nat) 1 4)=false):cT q=false:=by rw[cT,h];rfl
theorem rZ {q:QueryD}{k:Nat}{a:bX}(h:q.atoms[k]? =some a)(ha:eZ q.variableCount a=false):cT q=false:=by rw[cT,eX h ha];simp
theorem aSH {q:QueryD}(h:(eQ q.variableCount 1 4&&eQ (q.atoms.length:Nat) 1 4)=true)(ha:q.atoms.all (eZ q.variableCount)=true):cT q=(List.range q.variableCount.toNat).all (aGl q.atoms):=by rw[cT,h,ha];rfl
theorem aTT {n:Int}{l:List Int}(h:aAu n l=true){x:Int}(hx:x∈l):0<=x/\x<=n - 1:=by
 obtain⟨i,hi,rfl⟩:=List.mem_iff_getElem.1 hx;have:=aI4.1 h i (aR2.2 hi);simp only[nI,aCA] at this;have:=eN this.1
 rwa [aKU,aFZ hi,Option.getD_some] at this
theorem aCx {n:Int}{a:bX}(h:eZ n a=true):gZ a.name=true/\(1<=a.vars.length/\a.vars.length<=3)/\ ∀x∈a.vars,0<=x/\x<=n - 1:=by
 simp only[eZ,aCA] at h;have h2:=eN h.2.1;exact⟨h.1,⟨by omega,by omega⟩,fun x hx=>aTT h.2.2 hx⟩
theorem gR {q:QueryD}(h:cT q=true):(1<=q.variableCount/\q.variableCount<=4)/\(1<=q.atoms.length/\q.atoms.length<=4)/\ ∀a∈q.atoms,eZ q.variableCount a=true:=by
 simp only[cT,aCA] at h;have h1:=eN h.1.1;have h2:=eN h.1.2;exact⟨h1,⟨by omega,by omega⟩,fun a ha=>aI4.1 h.2.1 a ha⟩
theorem aWJ {n:Int}{l:List bX}(h:l.all (eZ n)=true)(h0:1<=n){v:Nat}(hv:n.toNat<=v):aGl l v=false:=by
 rw[aGl,List.any_eq_false];intro a ha hm;have:=(aCx (aI4.1 h a ha)).2.2 v (by simpa using hm);omega
def yM (q:QueryD)(m:Int)(i v:Nat):Bool:=(List.range i).any fun j=>gG m j&&decide ((v:Int)∈(q.atoms.getD j jK).vars)
def inM (q:QueryD)(m:Int)(v:Nat):Bool:=yM q m q.atoms.length v
def aFs (q:QueryD)(m:Int):List Int:=iD (inM q m) q.variableCount.toNat
def kS (q:QueryD)(m:Int):Bool:=cT q&&eQ m 0 ((1:Int)*2^q.atoms.length - 1)
def eM (q:QueryD)(m:Int):List Int:=if kS q m=true then aFs q m else []
def fU (m:Int):List Int:=if eQ m 0 15=true then iD (gG m) 4 else []
def pI (q:QueryD):Int:=if cT q=true then (1:Int)*2^q.atoms.length - 1 else 0
theorem aLt {q:QueryD}{m:Int}(h:kS q m=true):eM q m=aFs q m:=by rw[eM,if_pos h]
theorem aPC {q:QueryD}{m:Int}(h:kS q m=false):eM q m= []:=by rw[eM,if_neg (by rw[h];decide)]
theorem aFR {m:Int}(h:eQ m 0 15=true):fU m=iD (gG m) 4:=by rw[fU,if_pos h]
theorem aPD {m:Int}(h:eQ m 0 15=false):fU m= []:=by rw[fU,if_neg (by rw[h];decide)]
theorem aFS {q:QueryD}(h:cT q=true):pI q=1*2^q.atoms.length - 1:=by rw[pI,if_pos h]
theorem aPE {q:QueryD}(h:cT q=false):pI q=0:=by rw[pI,if_neg (by rw[h];decide)]
theorem aBz (q:QueryD)(m:Int)(i v:Nat):yM q m (i+1) v=(yM q m i v || (gG m i&&decide ((v:Int)∈(q.atoms.getD i jK).vars))):=by
 rw[yM,List.range_succ,List.any_append];simp[yM]
theorem aPF {q:QueryD}(h:cT q=true)(m:Int){v:Nat}(hv:q.variableCount.toNat<=v): ∀{i},i<=q.atoms.length->yM q m i v=false
 | 0,_=>rfl
 | i+1,hi=>by
   obtain⟨h1,_,h2⟩:=gR h;obtain⟨a,ha⟩:=cK (l:=q.atoms) (k:=i) (by omega);have ht:=(aCx (h2 a (aDd ha))).2.2;rw[aBz,aPF h m hv (by omega),bO ha];have: ¬(v:Int)∈a.vars:=fun q=>by have:=ht _ q;omega
   simp[this]
theorem aY8 {q:QueryD}(h:cT q=true)(m:Int){v:Nat}(hv:q.variableCount.toNat<=v):inM q m v=false:=aPF h m hv (aUX _)
def aGm (q:QueryD)(m:Int)(a:bX)(i k v:Nat):Bool:=yM q m i v || (gG m i&&decide ((v:Int)∈a.vars.take k))
theorem aTU (q:QueryD)(m:Int)(a:bX)(i:Nat):aGm q m a i 0=yM q m i:=by funext v;simp[aGm]
theorem aTV {q:QueryD}{m:Int}{a:bX}{i k:Nat}{x:Int}(hb:gG m i=true)(h:a.vars[k]? =some x)(hx:0<=x):(fun v=>aGm q m a i k v || decide (v=x.toNat))=aGm q m a i (k+1):=by
 funext v;rw[aGm,aGm,bT h,wX,hb,Bool.true_and,Bool.true_and,Bool.or_assoc]
 congr 2
 exact decide_eq_decide.2 (by omega)
theorem aLu {q:QueryD}{m:Int}{a:bX}{i k:Nat}(h:q.atoms[i]? =some a)(hk:gG m i=false\/a.vars.length<=k):aGm q m a i k=yM q m (i+1):=by
 funext v;rw[aGm,aBz,bO h];rcases hk with hk | hk
 ·rw[hk];rfl
 rw[aGT hk]
theorem aQk {q:QueryD}(h:cT q=true)(m:Int):iD (gG (m4 (inM q m))) 4=aFs q m:=by
 obtain⟨h1,_,_⟩:=gR h;rw[aFs,aQj (q:=inM q m) fun v hv=>bAV hv];exact aIg (by omega) fun v hv _=>aY8 h m hv
theorem aY9 {q:QueryD}{m:Int}{i v:Nat}{a:bX}(h:q.atoms[i]? =some a)(hb:gG m i=true)(hv:decide ((v:Int)∈a.vars)=true):inM q m v=true:=
 List.any_eq_true.2 ⟨i,aR2.2 (aGL.1 h).1,by rw[hb,bO h,hv];rfl⟩
theorem oE {n:Nat}(h:1<=n/\n<=4):1<=(1:Int)*2^n - 1/\(1:Int)*2^n - 1<=15:=by
 have:n=1\/n=2\/n=3\/n=4:=by omega
 rcases this with rfl | rfl | rfl | rfl<;>decide
theorem yN {q:QueryD}{m:Int}(h:kS q m=true):cT q=true/\0<=m/\m<=15/\m<=1*2^q.atoms.length - 1:=by
 simp only[kS,aCA] at h;have h1:=eN h.2;have h2:=oE (gR h.1).2.1;exact⟨h.1,by omega,by omega,by omega⟩
theorem aWK {m:Int}{n i:Nat}(h:0<=m/\m<=1*2^n - 1)(hi:n<=i)(h4:i<4):gG m i=false:=by
 have hn:n=0\/n=1\/n=2\/n=3:=by omega
 have hi4:i=0\/i=1\/i=2\/i=3:=by omega
 have key:m/2^i=0:=by
  rcases hn with rfl | rfl | rfl | rfl<;>rcases hi4 with rfl | rfl | rfl | rfl<;>omega
 rw[gG,key];decide
theorem aWL {m:Int}{n:Nat}(h:0<=m/\m<=1*2^n - 1)(hn:n<=4):fU m=iD (gG m) n:=by
 have h15:m<=15:=by
  have:n=0\/n=1\/n=2\/n=3\/n=4:=by omega
  rcases this with rfl | rfl | rfl | rfl | rfl<;>simp at h<;>omega
 rw[aFR (sE h.1 h15)];exact aIg hn fun v h1 h2=>aWK h h1 h2
end Go.Proofs.YtlidmoeecphbmaaGreat
namespace Go.Proofs
open Go.Shelf
namespace YtlidmoeecphbmaaGreat
def Tryz.revInts_ren:Go.Shelf.Ren:=⟨fun | 35=>264 | n=>n,fun | 22=>91 | 23=>3 | 3=>3 | 4=>4 | 0=>0 | n=>n,fun | n=>n⟩
theorem Tryz.revInts:Go.Proofs.SlLaysE.n35 Tryz.prog Tryz.revInts_ren:={
 mixed:=by kernel_rfl
 f35:=⟨Tryz.f264.name,by decide,Tryz.func264.trans (congrArg some (by kernel_rfl))⟩
 t0:=Tryz.underlying0
 a0:=Tryz.isAgg0
 z0:=Tryz.sizeOf0
 v0:=Tryz.zeroValue0
 t3:=Tryz.underlying3
 a3:=Tryz.isAgg3
 z3:=Tryz.sizeOf3
 v3:=Tryz.zeroValue3
 t4:=Tryz.underlying4
 a4:=Tryz.isAgg4
 z4:=Tryz.sizeOf4
 v4:=Tryz.zeroValue4
 t22:=Tryz.underlying91
 a22:=Tryz.isAgg91
 z22:=Tryz.sizeOf91
 v22:=Tryz.zeroValue91
 a23:=Tryz.isAgg3
 z23:=Tryz.sizeOf3 }
end YtlidmoeecphbmaaGreat
end Go.Proofs
namespace Go.Proofs.YtlidmoeecphbmaaGreat
open Go.ChangeShapes Go.WideShapes Go.ChangeAt Go.RowKit
set_option linter.unusedVariables false
theorem aWM (l:List Int)(hl:l.length<4611686018427387904):vX Tryz.prog 264 [.own 0] [(0,.arr 3 1 true (l.map intD))] (.tup []) [(0,.arr 3 1 true (l.reverse.map intD))]:=
 aLp l l.reverse (by kernel_rfl) List.length_reverse
  (fun h w=>AnyE.slices_Reverse_empty Tryz.revInts none 0 w)
  (fun blk cap w hH hblk hn=>(AnyE.slices_Reverse Tryz.revInts (Value.int .i64) (fun _=>rfl) blk 0 cap l w hH (by omega)).mono fun e w' ⟨he,q,hw⟩=>⟨he,q,#[],by rw[hw,Go.Sort.grow_empty]⟩)
end Go.Proofs.YtlidmoeecphbmaaGreat
namespace Go.Proofs.YtlidmoeecphbmaaGreat
open Go.ChangeShapes Go.WideShapes Go.ChangeAt Go.RowKit
set_option linter.unusedVariables false
set_option linter.unusedSimpArgs false
set_option maxRecDepth 100000
set_option maxHeartbeats 4000000
abbrev aCT (l:List Int):Prop:=l.Pairwise fun a b=>b<=a
def nJ (l:List Int):List Int:=(kV l).reverse
theorem aCy (l:List Int):(nJ l).Perm l:=(List.reverse_perm _).trans (aId l)
theorem aTW (l:List Int):(nJ l).length=l.length:=(aCy l).length_eq
theorem aQl (l:List Int):aCT (nJ l):=List.pairwise_reverse.2 (aQh l)
theorem aPG {l m:List Int}(hp:l.Perm m)(h1:aCT l)(h2:aCT m):l=m:=
 List.Perm.eq_of_pairwise (le:=fun a b:Int=>b<=a) (fun a b _ _ h1 h2=>by omega) h1 h2 hp
theorem aPH {l out:List Int}{k j:Nat}{x:Int}(hp:out.Perm (l.take k))(hx:l[k]? =some x):((([]:List Int)++out.take j)++[x]++out.drop j).Perm (l.take (k+1)):=by
 rw[bT hx,aZG]
 have h1:(out.take j++[x]++out.drop j).Perm (out.take j++out.drop j++[x]):=by
  rw[aMd,aMd];exact List.Perm.append_left _ List.perm_append_comm
 rw[List.take_append_drop] at h1;exact h1.trans (hp.append_right _)
theorem aPI {out:List Int}{j:Nat}{x:Int}(hd:aCT out)(hj:j<=out.length)(hs: ∀i,j<=i->i<out.length->out.getD i 0<x)(hx:j=0\/ ¬out.getD (j - 1) 0<x):aCT ((([]:List Int)++out.take j)++[x]++out.drop j):=by
 rw[aZG,aMd];have hd' :=hd;rw[<-List.take_append_drop j out] at hd';obtain⟨d1,d2,d3⟩:=List.pairwise_append.1 hd'
 have hlo: ∀a∈out.drop j,a<=x:=fun a ha=>by
  obtain⟨i,hi,rfl⟩:=List.mem_iff_getElem.1 ha;have hi' :i<out.length - j:=by simpa using hi
  have:=hs (j+i) (by omega) (by omega);rw[List.getElem_drop];rw[aKU,aFZ (by omega)] at this;simp only[Option.getD_some] at this;omega
 have hhi: ∀a∈out.take j,x<=a:=fun a ha=>by
  obtain⟨i,hi,rfl⟩:=List.mem_iff_getElem.1 ha
  have hi' :i<j:=by
   have:=hi;rw[aXg] at this;omega
  rcases hx with h | h
  ·omega
  have hp:=List.pairwise_iff_getElem.1 hd;rw[aKU,aFZ (by omega)] at h;simp only[Option.getD_some] at h;rw[List.getElem_take];by_cases e:i=j - 1
  ·subst e;omega
  have:=hp i (j - 1) (by omega) (by omega) (by omega);omega
 refine List.pairwise_append.2 ⟨d1,List.pairwise_append.2 ⟨List.pairwise_singleton _ _,d2,fun a ha b hb=>?_⟩,fun a ha b hb=>?_⟩
 ·rw[aX7] at ha;subst ha;exact hlo b hb
 rcases aKT.1 hb with q | q
 ·rw[aX7] at q;subst q;exact hhi a ha
 exact d3 a ha b q
theorem aTX {out:List Int}{j:Nat}{x e:Int}(h:out[j - 1]? =some e)(hc:e<x)(hs: ∀i,j<=i->i<out.length->out.getD i 0<x): ∀i,j - 1<=i->i<out.length->out.getD i 0<x:=fun i h1 h2=>by
 by_cases q:i=j - 1
 ·rw[q,bO h];exact hc
 exact hs i (by omega) h2
abbrev aCz (t:aV)(cols:List Int):AV × List (Nat × Rs):=(.own 0,[(0,.arr 3 1 true ((nJ (eK t cols).2).map intD))])
abbrev aIk (t:aV)(cols:List Int):Prop:=Cn 254 [.agg [.str t.name,.int .i64 t.arity,.sl 91 1 (t.rows.map aE)],.one (.sl 3 1 (cols.map intD))] (aCz t cols).1 (aCz t cols).2
theorem aWN (t:aV)(cols:List Int)(hl:cols.length<=1048576):aIk t cols:=by
 refine cq Tryz.func254 (bJ (yE t cols)<| bJ (aFh ((eK t cols).2))<| .callx [.own 0] [(0,.arr 3 1 true ((eK t cols).2.map intD))] [(0,1500)] (.tup []) [(0,.arr 3 1 true ((kV ((eK t cols).2)).map intD))]<| .callx [.own 0] [(0,.arr 3 1 true ((kV ((eK t cols).2)).map intD))] [(0,1500)] (.tup []) [(0,.arr 3 1 true (((kV ((eK t cols).2)).reverse).map intD))]<| .fin [(0,1500)]) (p:=Lx (t.rows.map aE)<| Lx (cols.map intD)<| aCm t cols/\aIJ ((eK t cols).2)/\vX Tryz.prog 250 [.own 0] [(0,.arr 3 1 true ((eK t cols).2.map intD))] (.tup []) [(0,.arr 3 1 true ((kV ((eK t cols).2)).map intD))]/\(eK t cols).2.map intD=(eK t cols).2.map intD/\vX Tryz.prog 264 [.own 0] [(0,.arr 3 1 true ((kV ((eK t cols).2)).map intD))] (.tup []) [(0,.arr 3 1 true (((kV ((eK t cols).2)).reverse).map intD))]/\(kV ((eK t cols).2)).map intD=(kV ((eK t cols).2)).map intD/\((kV ((eK t cols).2)).reverse).map intD=(nJ (eK t cols).2).map intD/\True) (by kernel_rfl) ?_;refine lx fun n0=>lx fun n1=>?_;have hg:=aLm t cols;refine⟨aOj t cols (by omega),cpI _ (by omega),aLq ((eK t cols).2) (by omega),rfl,aWM (kV ((eK t cols).2)) (by (rw[wW];omega)),rfl,?_,trivial⟩
 ·rfl
abbrev aFt (l:List Int):Prop:=Cn 263 [.one (.sl 3 1 (l.map intD))] (.p none (.sl 3 1 ((nJ l).map intD))) []
theorem aTY (l:List Int)(hc:l.length<=1048576):aFt l:=by
 refine cq Tryz.func263 (.stl 3<| .loop (Nat × (List Int)) (Q2 Nat (List Int)) ([3,4,5]++rg 7 39) [3100,3500,4000,4100,4500] (fun yy0=>[(4,vI (yy0.1:Int)),(3,.p none (.sl 3 1 (yy0.2.map intD)))]) (fun yy0=>[]) (fun yy0=>yy0.1<=l.length/\yy0.2.Perm (l.take yy0.1)/\aCT yy0.2) (fun yy0=>l.length - yy0.1) (fun yy0=> .len l.length<| .br (.len yy0.2.length<| .loop Nat (Q1 Nat) ([5]++rg 15 16) [] (fun j=>[(5,vI (j:Int))]) (fun j=>[]) (fun j=>j<=yy0.2.length/\(∀i,j<=i->i<yy0.2.length->yy0.2.getD i 0<l.getD yy0.1 0)) (fun j=>j) (fun j=> .br (.elem _ intD yy0.2 (fun e21=> .elem _ intD l (fun e25=> .lit<| .lit<| .lit<| .br (.back []) (.sub Int intD yy0.2<| .app Int intD ([]:List Int) (yy0.2.take j)<| .elem _ intD l (fun e38=> .app Int intD (([]:List Int)++(yy0.2.take j)) ([e38]:List Int)<| .sub Int intD yy0.2<| .app Int intD ((([]:List Int)++(yy0.2.take j))++[e38]) (yy0.2.drop j)<| .stl 3<| .back []))))) (.sub Int intD yy0.2<| .app Int intD ([]:List Int) (yy0.2.take j)<| .elem _ intD l (fun e38=> .app Int intD (([]:List Int)++(yy0.2.take j)) ([e38]:List Int)<| .sub Int intD yy0.2<| .app Int intD ((([]:List Int)++(yy0.2.take j))++[e38]) (yy0.2.drop j)<| .stl 3<| .back [])))) (.fin []))) (p:=Lx (l.map intD)<| (∃(k:Nat) (out:List Int),0=(k:Int)/\[]=out.map intD/\k<=l.length/\out.Perm (l.take k)/\aCT out)/\ ∀(k:Nat) (out:List Int),(k<=l.length/\out.Perm (l.take k)/\aCT out)->Lm intD l/\Br ((k:Int)<(l.length:Int)) (Lm intD out/\((∃(j:Nat),(out.length:Int)=(j:Int)/\j<=out.length/\(∀i,j<=i->i<out.length->out.getD i 0<l.getD k 0))/\ ∀(j:Nat),(j<=out.length/\(∀i,j<=i->i<out.length->out.getD i 0<l.getD k 0))->Br (0<(j:Int)) (bK ((j:Int) - 1)/\(0<=((j:Int) - 1)/\Em intD out (((j:Int) - 1).toNat) fun e21=>0<=(k:Int)/\Em intD l k fun e25=>Br (e21<e25) (bK ((j:Int) - 1)/\ ∃(j' :Nat),((j:Int) - 1)=(j' :Int)/\(j' <=out.length/\(∀i,j' <=i->i<out.length->out.getD i 0<l.getD k 0))/\j' <j) (out.map intD=out.map intD/\0<=(j:Int)/\(j:Int)<=(out.length:Int)/\Ap intD ([]:List Int) (out.take j) 8 (0<=(k:Int)/\Em intD l k fun e38=>Ap intD (([]:List Int)++(out.take j)) ([e38]:List Int) 8 (out.map intD=out.map intD/\0<=(j:Int)/\(j:Int)<=(out.length:Int)/\Ap intD ((([]:List Int)++(out.take j))++[e38]) (out.drop j) 8 (bK ((k:Int)+1)/\ ∃(k' :Nat) (out' :List Int),((k:Int)+1)=(k' :Int)/\(((([]:List Int)++(out.take j))++[e38])++(out.drop j)).map intD=out'.map intD/\(k' <=l.length/\out'.Perm (l.take k')/\aCT out')/\l.length - k' <l.length - k)))))) (out.map intD=out.map intD/\0<=(j:Int)/\(j:Int)<=(out.length:Int)/\Ap intD ([]:List Int) (out.take j) 8 (0<=(k:Int)/\Em intD l k fun e38=>Ap intD (([]:List Int)++(out.take j)) ([e38]:List Int) 8 (out.map intD=out.map intD/\0<=(j:Int)/\(j:Int)<=(out.length:Int)/\Ap intD ((([]:List Int)++(out.take j))++[e38]) (out.drop j) 8 (bK ((k:Int)+1)/\ ∃(k' :Nat) (out' :List Int),((k:Int)+1)=(k' :Int)/\(((([]:List Int)++(out.take j))++[e38])++(out.drop j)).map intD=out'.map intD/\(k' <=l.length/\out'.Perm (l.take k')/\aCT out')/\l.length - k' <l.length - k)))))) (out.map intD=(nJ l).map intD/\True)) (by kernel_rfl) ?_;refine lx fun n0=>?_;refine⟨⟨0,([]:List Int),rfl,rfl,aDB _,List.Perm.refl _,List.Pairwise.nil⟩,fun k out ⟨hk,hp,hd⟩=>?_⟩;have hpl:=hp.length_eq;rw[aXg] at hpl;refine⟨aAH _,dd (fun c0=>?_) fun c0=>?_⟩
 ·refine⟨aAH _,⟨out.length,(by rfl),aUX _,fun i h1 h2=>by omega⟩,fun j ⟨hj,hs⟩=>?_⟩;refine dd (fun g17=>?_) fun g17=>?_
  ·refine⟨⟨by omega,by omega⟩,by omega,rfl,by omega,fun e21 h21=>?_⟩;have i21:out[j - 1]? =some e21:=by rw[<-h21];congr 1;omega
   refine⟨by omega,rfl,by omega,fun e25 h25=>?_⟩;refine dd (fun c1=>?_) fun c1=>?_
   ·have hlt:=aTX i21 (by rw[bO h25];exact c1:e21<l.getD k 0) hs;refine⟨⟨by omega,by omega⟩,?_⟩;exact⟨j - 1,(by omega),⟨by omega,hlt⟩,by omega⟩
   ·have hx:j=0\/ ¬out.getD (j - 1) 0<l.getD k 0:=by (right;rw[bO i21,bO h25];exact c1)
    refine⟨rfl,by omega,by omega,?_⟩;refine ap ?_ (fun _=>rfl) (by (simp;omega));refine⟨by omega,rfl,by omega,fun e38 h38=>?_⟩;rw[bO h38] at hx hs;refine ap ?_ (fun _=>rfl) (by (simp;omega));refine⟨rfl,by omega,by omega,?_⟩;refine ap ?_ (fun _=>rfl) (by (simp;omega));refine⟨⟨by omega,by omega⟩,?_⟩;exact⟨k+1,((([]:List Int)++(out.take j))++[e38])++(out.drop j),rfl,rfl,⟨by omega,aPH hp h38,aPI hd hj hs hx⟩,by omega⟩
  ·have hx:j=0\/ ¬out.getD (j - 1) 0<l.getD k 0:=by (left;omega)
   refine⟨rfl,by omega,by omega,?_⟩;refine ap ?_ (fun _=>rfl) (by (simp;omega));refine⟨by omega,rfl,by omega,fun e38 h38=>?_⟩;rw[bO h38] at hx hs;refine ap ?_ (fun _=>rfl) (by (simp;omega));refine⟨rfl,by omega,by omega,?_⟩;refine ap ?_ (fun _=>rfl) (by (simp;omega));refine⟨⟨by omega,by omega⟩,?_⟩;exact⟨k+1,((([]:List Int)++(out.take j))++[e38])++(out.drop j),rfl,rfl,⟨by omega,aPH hp h38,aPI hd hj hs hx⟩,by omega⟩
 ·have hE:out=nJ l:=aPG ((by rw[aGT (by omega)] at hp;exact hp:out.Perm l).trans (aCy l).symm) hd (aQl l);apply et1
  ·rw[hE]
abbrev aAv (name:ByteArray)(arity:Int)(rows:List (List Int)):AV × List (Nat × Rs):=(.tup [.agg [.p none (.str ((oZ name arity rows).1.name)),vI ((oZ name arity rows).1.arity),.own 0],vB ((oZ name arity rows).2)],[(0,.arr 91 1 true ((oZ name arity rows).1.rows.map aE))])
abbrev aFu (name:ByteArray)(arity:Int)(rows:List (List Int)):Prop:=Cn 226 [.one (.str name),.one (.int .i64 arity),.one (.sl 91 1 (rows.map aE))] (aAv name arity rows).1 (aAv name arity rows).2
theorem aTZ (name:ByteArray)(arity:Int)(rows:List (List Int))(hc:cM rows<=1048576):aFu name arity rows:=by
 refine cq Tryz.func226 (.loop (Nat × (List (List Int))) (Q2 Nat (List (List Int))) ([9]++rg 13 20) [800,3100,9000] (fun yy0=>[(9,vI (yy0.1:Int))]) (fun yy0=>[(800,some (.box 142 [.p none (.str name),vI arity,.own 9000])),(9000,some (.arr 91 1 true (yy0.2.map aE)))]) (fun yy0=>yy0.1<=rows.length/\yy0.2=cN (rows.take yy0.1)) (fun yy0=>rows.length - yy0.1) (fun yy0=> .len rows.length<| .br (.len yy0.2.length<| .lit<| .lit<| .br (.elem _ aE rows (fun e29=>bJ (yF yy0.2 e29)<| .back [(800,800),(9000,3100)])) (.call (vB (aZ (⟨name,arity,yy0.2⟩:aV))) []<| .br (.fin []) (.fin [(0,9000)]))) (.call (vB (aZ (⟨name,arity,yy0.2⟩:aV))) []<| .br (.fin []) (.fin [(0,9000)])))) (p:=Lx (rows.map aE)<| (∃(k:Nat) (acc:List (List Int)),0=(k:Int)/\name=name/\arity=arity/\[]=acc.map aE/\k<=rows.length/\acc=cN (rows.take k))/\ ∀(k:Nat) (acc:List (List Int)),(k<=rows.length/\acc=cN (rows.take k))->Lm aE rows/\Br ((k:Int)<(rows.length:Int)) (Lm aE acc/\Br ((acc.length:Int)<=8) (0<=(k:Int)/\Em aE rows k fun e29=>aCn acc e29/\bK ((k:Int)+1)/\ ∃(k' :Nat) (acc' :List (List Int)),((k:Int)+1)=(k' :Int)/\name=name/\arity=arity/\(mJ e29 acc).map aE=acc'.map aE/\(k' <=rows.length/\acc' =cN (rows.take k'))/\rows.length - k' <rows.length - k) (qG (⟨name,arity,acc⟩:aV)/\Nr (aZ (⟨name,arity,acc⟩:aV)) (ByteArray.empty=((oZ name arity rows).1.name)/\0=((oZ name arity rows).1.arity)/\(false)=((oZ name arity rows).2)/\[]=(oZ name arity rows).1.rows.map aE/\True) (name=((oZ name arity rows).1.name)/\arity=((oZ name arity rows).1.arity)/\(true)=((oZ name arity rows).2)/\acc.map aE=(oZ name arity rows).1.rows.map aE/\True))) (qG (⟨name,arity,acc⟩:aV)/\Nr (aZ (⟨name,arity,acc⟩:aV)) (ByteArray.empty=((oZ name arity rows).1.name)/\0=((oZ name arity rows).1.arity)/\(false)=((oZ name arity rows).2)/\[]=(oZ name arity rows).1.rows.map aE/\True) (name=((oZ name arity rows).1.name)/\arity=((oZ name arity rows).1.arity)/\(true)=((oZ name arity rows).2)/\acc.map aE=(oZ name arity rows).1.rows.map aE/\True))) (by kernel_rfl) ?_;refine lx fun n0=>?_;have hlen:=fX rows;refine⟨⟨0,([]:List (List Int)),rfl,rfl,rfl,rfl,aDB _,rfl⟩,fun k acc ⟨hk,ha⟩=>?_⟩;refine⟨aAH _,dd (fun g17=>?_) fun g17=>?_⟩
 ·refine⟨aAH _,dd (fun c0=>?_) fun c0=>?_⟩
  ·have hp:=aOt rows k;rw[<-ha] at hp;refine⟨by omega,rfl,by omega,fun e29 h29=>?_⟩;have hp3:=aBu h29;refine⟨aOl acc e29 (by omega) (by omega) (by omega),⟨by omega,by omega⟩,?_⟩;exact⟨k+1,_,rfl,rfl,rfl,rfl,⟨by omega,by rw[ha,bT h29,aEO]⟩,by omega⟩
  ·have hend:=aOu (name:=name) (arity:=arity) ha (by omega);refine⟨aAh (⟨name,arity,acc⟩:aV),dm (fun c1=>?_) fun c1=>?_⟩
   ·have hbad:aZ ⟨name,arity,cN rows⟩=false:=by rw[<-hend.1];simpa using c1
    apply et4<;>((rw[aNM hbad]<;>rfl))
   ·have hok0:aZ ⟨name,arity,acc⟩=true:=by simpa using c1
    have hok:aZ ⟨name,arity,cN rows⟩=true:=by rw[<-hend.1];exact hok0
    have hacc:=hend.2 hok0;apply et4<;>(first|(rw[wT hok]<;>rfl)|(rw[wT hok];exact congrArg (List.map aE) hacc))
 ·have hend:=aOu (name:=name) (arity:=arity) ha (by omega);refine⟨aAh (⟨name,arity,acc⟩:aV),dm (fun c1=>?_) fun c1=>?_⟩
  ·have hbad:aZ ⟨name,arity,cN rows⟩=false:=by rw[<-hend.1];simpa using c1
   apply et4<;>((rw[aNM hbad]<;>rfl))
  ·have hok0:aZ ⟨name,arity,acc⟩=true:=by simpa using c1
   have hok:aZ ⟨name,arity,cN rows⟩=true:=by rw[<-hend.1];exact hok0
   have hacc:=hend.2 hok0;apply et4<;>(first|(rw[wT hok]<;>rfl)|(rw[wT hok];exact congrArg (List.map aE) hacc))
abbrev aAw (x:aD):AV × List (Nat × Rs):=(.tup [.agg [.p none (.str ((pG x).1.name)),vI ((pG x).1.arity),.own 0],vB ((pG x).2)],[(0,.arr 91 1 true ((pG x).1.rows.map aE))])
abbrev aFv (x:aD):Prop:=Cn 185 [.agg [.str x.name,.int .i64 x.arity,.int .i64 x.rowCount,.sl 220 3 (x.groups.map aC)]] (aAw x).1 (aAw x).2
theorem aT0 (x:aD)(hc:bD x<=1048576):aFv x:=by
 refine cq Tryz.func185 (.len x.groups.length<| .br (.fin []) (.len x.groups.length<| .elem _ aC x.groups (fun e22=>bJ (aAv x.name x.arity e22.values)<| .fin [(0,2500)]))) (p:=Lx (x.groups.map aC)<| Lm aC x.groups/\Br ((x.groups.length:Int)=0) (ByteArray.empty=((pG x).1.name)/\0=((pG x).1.arity)/\(false)=((pG x).2)/\[]=(pG x).1.rows.map aE/\True) (Lm aC x.groups/\bK ((x.groups.length:Int) - 1)/\0<=((x.groups.length:Int) - 1)/\Em aC x.groups (((x.groups.length:Int) - 1).toNat) fun e22=>aFu x.name x.arity e22.values/\((oZ x.name x.arity e22.values).1.name)=((pG x).1.name)/\((oZ x.name x.arity e22.values).1.arity)=((pG x).1.arity)/\((oZ x.name x.arity e22.values).2)=((pG x).2)/\(oZ x.name x.arity e22.values).1.rows.map aE=(pG x).1.rows.map aE/\True)) (by kernel_rfl) ?_;refine lx fun n0=>?_;have q2:bD x=x.name.size+dB x.groups:=rfl;have q5:=gY x.groups;refine⟨aAH _,dd (fun c0=>?_) fun c0=>?_⟩
 ·have hT:pG x=(gX,false):=by rw[pG,if_pos (by omega)]
  apply et4<;>((rw[hT]<;>rfl))
 ·have hT:pG x=oZ x.name x.arity (mN x):=by rw[pG,if_neg (by omega)]
  refine⟨aAH _,⟨by omega,by omega⟩,by omega,rfl,by omega,fun e22 h22=>?_⟩;have i22:x.groups[x.groups.length - 1]? =some e22:=by rw[<-h22];congr 1;omega
  have hL:mN x=e22.values:=aOo i22;rw[hL] at hT;have q1:=iP i22;have q3:bP e22=cD e22.columns+cM e22.values+cD e22.counts:=rfl;have q6:cD e22.columns=e22.columns.length:=rfl;have q7:cD e22.counts=e22.counts.length:=rfl;have q8:=fX e22.values;refine⟨aTZ _ _ _ (by omega),?_,?_,?_,?_,trivial⟩<;>((rw[hT]<;>rfl))
abbrev yO (x:aD):Prop:=Cn 127 [.agg [.str x.name,.int .i64 x.arity,.int .i64 x.rowCount,.sl 220 3 (x.groups.map aC)]] (vB (cS x)) []
theorem aIl (x:aD)(hc:bD x<=1048576):yO x:=by
 refine cq Tryz.func127 (bJ (aAw x)<| .br (bJ (aBw ((pG x).1))<| .call (vB (decide ((bI ((pG x).1))=x))) []<| .fin []) (.fin [])) (p:=Lx (x.groups.map aC)<| aFv x/\Bb ((pG x).2) (aFL ((pG x).1)/\tS (bI ((pG x).1)) x/\(decide ((bI ((pG x).1))=x))=(cS x)/\True) ((false)=(cS x)/\True)) (by kernel_rfl) ?_;refine lx fun n0=>?_;have hst:=aFp (pG x).1;have hsame:=aTK x;refine⟨aT0 x (by omega),db (fun g11=>?_) fun g11=>?_⟩
 ·refine⟨aSC ((pG x).1),aEA _ _ (by omega),?_,trivial⟩
  ·(rw[<-hsame,g11];simp;done)
 ·apply et1
  ·(rw[<-hsame,g11];simp;done)
end Go.Proofs.YtlidmoeecphbmaaGreat
