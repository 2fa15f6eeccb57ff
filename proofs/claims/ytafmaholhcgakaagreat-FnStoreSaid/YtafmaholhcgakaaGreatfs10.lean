/-
  Contracts and plain laws, joined: part 11.
-/
import Derived.Test.YtafmaholhcgakaaGreatfs8
import Derived.Test.YtafmaholhcgakaaGreatfs9
namespace Go.Proofs.YtafmaholhcgakaaGreat
open Go.ChangeShapes Go.WideShapes Go.ChangeAt Go.RowKit
set_option linter.unusedVariables false
set_option linter.unusedSimpArgs false
set_option maxRecDepth 100000
set_option maxHeartbeats 4000000
def eY (d:aI)(x:aO):Bool:=(aH d x.name).2&&((aH d x.into).2&&(gZ x.column 0 ((aH d x.name).1.arity - 1)&&gZ x.intoColumn 0 ((aH d x.into).1.arity - 1)))
def fP (rows:List (List Int))(c:Int):List Int:=rows.map fun r=>r.getD c.toNat 0
def aBJ (d:aI)(x:aO):List Int:=(fP (aH d x.name).1.rows x.column).filter fun v=> !decide (v∈fP (aH d x.into).1.rows x.intoColumn)
def tB (d:aI)(x:aO):List Int:=if eY d x=true then pU (nQ (aBJ d x)) else []
def zY (d:aI)(x:aO)(v:Nat):Bool:=decide ((v:Int)∈fP (aH d x.name).1.rows x.column)&& !decide ((v:Int)∈fP (aH d x.into).1.rows x.intoColumn)
def lT (d:aI)(x:aO)(n:Nat):List Int:=((List.range n).filter (zY d x)).map fun v:Nat=>(v:Int)
def tC (d:aI)(x:aO):List Int:=if eY d x=true then lT d x 10 else []
def gC (d:aI)(x:aO):Bool:=eY d x&&decide (aBJ d x= [])
theorem aJn {d:aI}{x:aO}{v:Nat}(h:zY d x v=true):lT d x (v+1)=lT d x v++[(v:Int)]:=by
 rw[lT,List.range_succ,List.filter_append,aG0];simp[lT,h]
theorem aGr {d:aI}{x:aO}{v:Nat}(h:zY d x v=false):lT d x (v+1)=lT d x v:=by
 rw[lT,List.range_succ,List.filter_append,aG0];simp[lT,h]
theorem aJo (d:aI)(x:aO)(v:Nat):(lT d x v).length<=v:=by
 rw[lT,aAK];have:=List.length_filter_le (zY d x) (List.range v)
 rwa [List.length_range] at this
theorem kO (rows:List (List Int))(c:Int){k:Nat}{r:List Int}(h:rows[k]? =some r):fP (rows.take (k+1)) c=fP (rows.take k) c++[r.getD c.toNat 0]:=by rw[cC h,fP,aG0];rfl
theorem zZ {l:List Int}{v y:Int}:decide (v∈l++[y])=(decide (v∈l) || decide (v=y)):=by simp[Bool.decide_or]
theorem aJp {t:aJ}{c:Int}{v:Int}(h:aP t=true)(hc:0<=c/\c<=t.arity - 1)(hv:v∈fP t.rows c):0<=v/\v<=9:=by
 obtain⟨r,hr,rfl⟩:=aID.1 hv;have hl:=mR h hr;have hk:=aDT.1 (mQ h).1 r hr;simp only[fG,aAO,aKQ] at hk;have hlt:c.toNat<r.length:=by omega
 have hm:r.getD c.toNat 0∈r:=by rw[aEP,aBI hlt];exact aMZ hlt
 exact jQ (aDT.1 hk.1 _ hm)
theorem vD {d:aI}{x:aO}(h:eY d x=true):aP (aH d x.name).1=true/\aP (aH d x.into).1=true/\(0<=x.column/\x.column<=(aH d x.name).1.arity - 1)/\(0<=x.intoColumn/\x.intoColumn<=(aH d x.into).1.arity - 1):=by
 simp only[eY,aAO] at h;obtain⟨h1,h2,h3,h4⟩:=h;exact⟨(iM h1).1,(iM h2).1,jQ h3,jQ h4⟩
theorem aJq {d:aI}{x:aO}(h:eY d x=true):decide (tB d x= [])=decide (aBJ d x= []):=by
 rw[tB,if_pos h];apply Bool.eq_iff_iff.2;rw[aKQ,aKQ,aE7];constructor
 ·intro q;have:=wH (aBJ d x);rw[q] at this;exact aE6 this.symm
 intro q;have:=wH (aBJ d x);rw[q] at this;rw[q];exact aE6 this
theorem aJr {d:aI}{x:aO}(h:eY d x=true):decide (tC d x= [])=decide (aBJ d x= []):=by
 obtain⟨h1,_,h3,_⟩:=vD h;rw[tC,if_pos h];apply Bool.eq_iff_iff.2;rw[aKQ,aKQ,lT,List.map_eq_nil_iff,List.filter_eq_nil_iff,aBJ,List.filter_eq_nil_iff];constructor
 ·intro q v hv hb;have hr:=aJp h1 h3 hv;refine q v.toNat (aJy.2 (by omega)) ?_;rw[zY,Int.toNat_of_nonneg hr.1];simp only[aAO,aKQ];exact⟨hv,hb⟩
 intro q v _ hb;rw[zY,aAO,aKQ] at hb;exact q _ hb.1 hb.2
abbrev sN (d:aI)(x:aO):Prop:=Cn 148 [.agg [.sl 88 3 (d.tables.map aB)],.agg [.str x.name,.int .i64 x.column,.str x.into,.int .i64 x.intoColumn]] (vB (eY d x)) []
theorem aCz (d:aI)(x:aO)(hc:aT d<=1048576):sN d x:=by
 refine cq Tryz.func148 (.call (.tup [.agg [.p none (.str ((aH d x.name).1.name)),vI ((aH d x.name).1.arity),.p none (.sl 34 1 ((aH d x.name).1.rows.map aE))],vB ((aH d x.name).2)]) []<| .call (.tup [.agg [.p none (.str ((aH d x.into).1.name)),vI ((aH d x.into).1.arity),.p none (.sl 34 1 ((aH d x.into).1.rows.map aE))],vB ((aH d x.into).2)]) []<| .br (.lit<| .br (.raw<| .call (vB (gZ x.column (0:Int) (IntKind.i64.wrap (((aH d x.name).1.arity) - 1)))) []<| .lit<| .br (.raw<| .call (vB (gZ x.intoColumn (0:Int) (IntKind.i64.wrap (((aH d x.into).1.arity) - 1)))) []<| .fin []) (.fin [])) (.fin [])) (.fin [])) (p:=Lx (d.tables.map aB)<| Con Tryz.prog 86 [.agg [.sl 88 3 (d.tables.map aB)],.one (.str x.name)] (.tup [.agg [.p none (.str ((aH d x.name).1.name)),vI ((aH d x.name).1.arity),.p none (.sl 34 1 ((aH d x.name).1.rows.map aE))],vB ((aH d x.name).2)]) []/\Con Tryz.prog 86 [.agg [.sl 88 3 (d.tables.map aB)],.one (.str x.into)] (.tup [.agg [.p none (.str ((aH d x.into).1.name)),vI ((aH d x.into).1.arity),.p none (.sl 34 1 ((aH d x.into).1.rows.map aE))],vB ((aH d x.into).2)]) []/\Bb ((aH d x.name).2) (Bb ((aH d x.into).2) (iP x.column (0:Int) (IntKind.i64.wrap (((aH d x.name).1.arity) - 1))/\Bb (gZ x.column (0:Int) (IntKind.i64.wrap (((aH d x.name).1.arity) - 1))) (iP x.intoColumn (0:Int) (IntKind.i64.wrap (((aH d x.into).1.arity) - 1))/\(gZ x.intoColumn (0:Int) (IntKind.i64.wrap (((aH d x.into).1.arity) - 1)))=(eY d x)/\True) ((false)=(eY d x)/\True)) ((false)=(eY d x)/\True)) ((false)=(eY d x)/\True)) (by kernel_rfl) ?_;refine lx fun n0=>?_;refine⟨kD (pE _ x.name (by omega)) rfl,kD (pE _ x.into (by omega)) rfl,db (fun g24=>?_) fun g24=>?_⟩
 ·have hT:=(iM g24).1;have hA:=bI hT;have hw:IntKind.i64.wrap ((aH d x.name).1.arity - 1)=(aH d x.name).1.arity - 1:=IntWalk.i64_in _ ⟨by omega,by omega⟩
  try rw[hw]
  refine db (fun g27=>?_) fun g27=>?_
  ·have hT2:=(iM g27).1;have hA2:=bI hT2;have hw2:IntKind.i64.wrap ((aH d x.into).1.arity - 1)=(aH d x.into).1.arity - 1:=IntWalk.i64_in _ ⟨by omega,by omega⟩
   try rw[hw2]
   refine⟨nT _ _ _,db (fun g35=>?_) fun g35=>?_⟩
   ·refine⟨nT _ _ _,?_,trivial⟩
    ·(simp[eY, *];done)
   ·apply et1
    ·(simp[eY, *];done)
  ·apply et1
   ·(simp[eY, *];done)
 ·apply et1
  ·(simp[eY, *];done)
abbrev sO (d:aI)(x:aO):Prop:=Cn 157 [.agg [.sl 88 3 (d.tables.map aB)],.agg [.str x.name,.int .i64 x.column,.str x.into,.int .i64 x.intoColumn]] (vB (eY d x)) []
theorem aDA (d:aI)(x:aO)(hc:aT d<=1048576):sO d x:=by
 refine cq Tryz.func157 (.call (.tup [.agg [.p none (.str ((aH d x.name).1.name)),vI ((aH d x.name).1.arity),.p none (.sl 34 1 ((aH d x.name).1.rows.map aE))],vB ((aH d x.name).2)]) []<| .call (.tup [.agg [.p none (.str ((aH d x.into).1.name)),vI ((aH d x.into).1.arity),.p none (.sl 34 1 ((aH d x.into).1.rows.map aE))],vB ((aH d x.into).2)]) []<| .br (.lit<| .br (.raw<| .call (vB (gZ x.column (0:Int) (IntKind.i64.wrap (((aH d x.name).1.arity) - 1)))) []<| .lit<| .br (.raw<| .call (vB (gZ x.intoColumn (0:Int) (IntKind.i64.wrap (((aH d x.into).1.arity) - 1)))) []<| .fin []) (.fin [])) (.fin [])) (.fin [])) (p:=Lx (d.tables.map aB)<| Con Tryz.prog 94 [.agg [.sl 88 3 (d.tables.map aB)],.one (.str x.name)] (.tup [.agg [.p none (.str ((aH d x.name).1.name)),vI ((aH d x.name).1.arity),.p none (.sl 34 1 ((aH d x.name).1.rows.map aE))],vB ((aH d x.name).2)]) []/\Con Tryz.prog 94 [.agg [.sl 88 3 (d.tables.map aB)],.one (.str x.into)] (.tup [.agg [.p none (.str ((aH d x.into).1.name)),vI ((aH d x.into).1.arity),.p none (.sl 34 1 ((aH d x.into).1.rows.map aE))],vB ((aH d x.into).2)]) []/\Bb ((aH d x.name).2) (Bb ((aH d x.into).2) (iQ x.column (0:Int) (IntKind.i64.wrap (((aH d x.name).1.arity) - 1))/\Bb (gZ x.column (0:Int) (IntKind.i64.wrap (((aH d x.name).1.arity) - 1))) (iQ x.intoColumn (0:Int) (IntKind.i64.wrap (((aH d x.into).1.arity) - 1))/\(gZ x.intoColumn (0:Int) (IntKind.i64.wrap (((aH d x.into).1.arity) - 1)))=(eY d x)/\True) ((false)=(eY d x)/\True)) ((false)=(eY d x)/\True)) ((false)=(eY d x)/\True)) (by kernel_rfl) ?_;refine lx fun n0=>?_;refine⟨kD (pF _ x.name (by omega)) rfl,kD (pF _ x.into (by omega)) rfl,db (fun g24=>?_) fun g24=>?_⟩
 ·have hT:=(iM g24).1;have hA:=bI hT;have hw:IntKind.i64.wrap ((aH d x.name).1.arity - 1)=(aH d x.name).1.arity - 1:=IntWalk.i64_in _ ⟨by omega,by omega⟩
  try rw[hw]
  refine db (fun g27=>?_) fun g27=>?_
  ·have hT2:=(iM g27).1;have hA2:=bI hT2;have hw2:IntKind.i64.wrap ((aH d x.into).1.arity - 1)=(aH d x.into).1.arity - 1:=IntWalk.i64_in _ ⟨by omega,by omega⟩
   try rw[hw2]
   refine⟨nU _ _ _,db (fun g35=>?_) fun g35=>?_⟩
   ·refine⟨nU _ _ _,?_,trivial⟩
    ·(simp[eY, *];done)
   ·apply et1
    ·(simp[eY, *];done)
  ·apply et1
   ·(simp[eY, *];done)
 ·apply et1
  ·(simp[eY, *];done)
abbrev vE (d:aI)(f:aN):AV × List (Nat × Rs):=(.own 0,[(0,.arr 3 1 true ((iG d f).map intD))])
abbrev aBK (d:aI)(f:aN):Prop:=Cn 147 [.agg [.sl 88 3 (d.tables.map aB)],.agg [.str f.name,.sl 3 1 (f.src.map intD),.int .i64 f.dst]] (vE d f).1 (vE d f).2
theorem aJs (d:aI)(f:aN)(hc:aT d<=1048576):aBK d f:=by
 refine cq Tryz.func147 (.call (vB (fN d f)) []<| .br (.fin []) (.call (.tup [.agg [.p none (.str ((aH d f.name).1.name)),vI ((aH d f.name).1.arity),.p none (.sl 34 1 ((aH d f.name).1.rows.map aE))],vB ((aH d f.name).2)]) []<| .len ((aH d f.name).1.rows.length)<| .loop Nat (Q1 Nat) (rg 7 8++rg 29 45++[77,78]) [4800,5500] (fun k=>[(29,vI (k:Int))]) (fun k=>[]) (fun k=>k<=(aH d f.name).1.rows.length/\iU (aH d f.name).1.rows f.src f.dst k= []) (fun k=>(aH d f.name).1.rows.length - k) (fun k=> .br (.elem _ aE ((aH d f.name).1.rows) (fun e32=> .sub (List Int) aE ((aH d f.name).1.rows)<| .len (((aH d f.name).1.rows.take k).length)<| .loop Nat (Q1 Nat) ([9,10,11,12,13,14]++rg 39 35++[77]) [4800,5500] (fun i=>[(39,vI (i:Int))]) (fun i=>[]) (fun i=>i<=k/\iN (aH d f.name).1.rows f.src f.dst k i= []) (fun i=>k - i) (fun i=> .br (.elem _ aE ((aH d f.name).1.rows.take k) (fun e42=>bC (oX e42 f.src)<| bC (oX e32 f.src)<| .call (vB (decide (((fC e42 f.src).1)=((fC e32 f.src).1)))) []<| .br (.elem _ intD e42 (fun e65=> .elem _ intD e32 (fun e70=> .lit<| .lit<| .lit<| .br (.fin [(0,7600)]) (.back [])))) (.back []))) (.back [])))) (.fin [])))) (p:=Lx (d.tables.map aB)<| Lx (f.src.map intD)<| sK d f/\Nr (fN d f) ([]=(iG d f).map intD/\True) (Con Tryz.prog 86 [.agg [.sl 88 3 (d.tables.map aB)],.one (.str f.name)] (.tup [.agg [.p none (.str ((aH d f.name).1.name)),vI ((aH d f.name).1.arity),.p none (.sl 34 1 ((aH d f.name).1.rows.map aE))],vB ((aH d f.name).2)]) []/\(Lm aE ((aH d f.name).1.rows)/\((∃(k:Nat),0=(k:Int)/\k<=(aH d f.name).1.rows.length/\iU (aH d f.name).1.rows f.src f.dst k= [])/\ ∀(k:Nat),(k<=(aH d f.name).1.rows.length/\iU (aH d f.name).1.rows f.src f.dst k= [])->Br ((k:Int)<(((aH d f.name).1.rows.length:Nat):Int)) (0<=(k:Int)/\Em aE ((aH d f.name).1.rows) k fun e32=>(aH d f.name).1.rows.map aE=(aH d f.name).1.rows.map aE/\0<=(k:Int)/\(k:Int)<=(((aH d f.name).1.rows.length:Nat):Int)/\(Lm aE ((aH d f.name).1.rows.take k)/\((∃(i:Nat),0=(i:Int)/\i<=k/\iN (aH d f.name).1.rows f.src f.dst k i= [])/\ ∀(i:Nat),(i<=k/\iN (aH d f.name).1.rows f.src f.dst k i= [])->Br ((i:Int)<((((aH d f.name).1.rows.take k).length:Nat):Int)) (0<=(i:Int)/\Em aE ((aH d f.name).1.rows.take k) i fun e42=>sH e42 f.src/\sH e32 f.src/\kT ((fC e42 f.src).1) ((fC e32 f.src).1)/\Br (((fC e42 f.src).1)=((fC e32 f.src).1)) (0<=f.dst/\Em intD e42 ((f.dst).toNat) fun e65=>0<=f.dst/\Em intD e32 ((f.dst).toNat) fun e70=>Nb (e65=e70) ([[.int .i64 (i:Int)],[.int .i64 (k:Int)]]=(iG d f).map intD/\True) (cW ((i:Int)+1)/\ ∃(i' :Nat),((i:Int)+1)=(i' :Int)/\(i' <=k/\iN (aH d f.name).1.rows f.src f.dst k i' = [])/\k - i' <k - i)) (cW ((i:Int)+1)/\ ∃(i' :Nat),((i:Int)+1)=(i' :Int)/\(i' <=k/\iN (aH d f.name).1.rows f.src f.dst k i' = [])/\k - i' <k - i)) (cW ((k:Int)+1)/\ ∃(k' :Nat),((k:Int)+1)=(k' :Int)/\(k' <=(aH d f.name).1.rows.length/\iU (aH d f.name).1.rows f.src f.dst k' = [])/\(aH d f.name).1.rows.length - k' <(aH d f.name).1.rows.length - k)))) ([]=(iG d f).map intD/\True))))) (by kernel_rfl) ?_;refine lx fun n0=>lx fun n1=>?_;refine⟨aCr _ _ (by omega),dm (fun c0=>?_) fun c0=>?_⟩
 ·have hbad:iG d f= []:=by rw[iG,if_neg (by simpa using c0)]
  apply et1
  ·(rw[hbad]<;>rfl)
 ·have hok:fN d f=true:=by simpa using c0
  obtain⟨hT,hd0,hd1,hsl⟩:=aBG hok;have hT8:=bI hT;have hV:iG d f=iU (aH d f.name).1.rows f.src f.dst (aH d f.name).1.rows.length:=by rw[iG,if_pos hok]
  refine⟨kD (pE _ f.name (by omega)) rfl,aAK _,⟨0,rfl,aAd _,rfl⟩,fun k ⟨hk,hv⟩=>?_⟩;refine dd (fun c1=>?_) fun c1=>?_
  ·refine⟨by omega,rfl,by omega,fun e32 h32=>?_⟩;have hl32:=mR hT (aBA h32);refine⟨rfl,by omega,by omega,aAK _,⟨0,rfl,aAd _,rfl⟩,fun i ⟨hi,hw⟩=>?_⟩;have htl:((aH d f.name).1.rows.take k).length=k:=by rw[aLz];omega
   refine dd (fun c2=>?_) fun c2=>?_
   ·refine⟨by omega,rfl,by omega,fun e42 h42=>?_⟩;have hx:(aH d f.name).1.rows[i]? =some e42:=by rw[List.getElem?_take_of_lt (by omega)] at h42;exact h42
    have hl42:=mR hT (aBA hx);have hb:=aIh (cols:=f.src) (c:=f.dst) hx h32;refine⟨aC4 _ _ (by omega),aC4 _ _ (by omega),sE _ _,dd (fun g61=>?_) fun g61=>?_⟩
    ·refine⟨by omega,rfl,by omega,fun e65 h65=>?_⟩;refine⟨by omega,rfl,by omega,fun e70 h70=>?_⟩;refine dn (fun c3=>?_) fun c3=>?_
     ·have hB:aHd (aH d f.name).1.rows f.src f.dst i k=true:=by rw[hb,bP h65,bP h70];simp[*]
      have hE:=aCp hv hw hB (by omega) (by omega:k<(aH d f.name).1.rows.length);apply et1
      ·(rw[hV,hE]<;>rfl)
     ·refine⟨⟨by omega,by omega⟩,?_⟩;exact⟨i+1,rfl,⟨by omega,zV hw (by rw[hb];(rw[bP h65,bP h70];simp[*];done))⟩,by omega⟩
    ·refine⟨⟨by omega,by omega⟩,?_⟩;exact⟨i+1,rfl,⟨by omega,zV hw (by rw[hb];(simp[g61];done))⟩,by omega⟩
   ·refine⟨⟨by omega,by omega⟩,?_⟩;exact⟨k+1,rfl,⟨by omega,aCq hv (by obtain rfl:i=k:=(by omega);exact hw)⟩,by omega⟩
  ·have hE:iG d f= []:=by rw[hV,show (aH d f.name).1.rows.length=k by omega,hv]
   apply et1
   ·(rw[hE]<;>rfl)
abbrev vF (d:aI)(f:aN):AV × List (Nat × Rs):=(.own 0,[(0,.arr 3 1 true ((iG d f).map intD))])
abbrev aBL (d:aI)(f:aN):Prop:=Cn 156 [.agg [.sl 88 3 (d.tables.map aB)],.agg [.str f.name,.sl 3 1 (f.src.map intD),.int .i64 f.dst]] (vF d f).1 (vF d f).2
theorem aJt (d:aI)(f:aN)(hc:aT d<=1048576):aBL d f:=by
 refine cq Tryz.func156 (.call (.tup [.agg [.p none (.str ((aH d f.name).1.name)),vI ((aH d f.name).1.arity),.p none (.sl 34 1 ((aH d f.name).1.rows.map aE))],vB ((aH d f.name).2)]) []<| .loop Nat (Q1 Nat) ([7,8,9,10,11,12]++rg 20 64) [4000,5600] (fun k=>[(7,vI (k:Int))]) (fun k=>[]) (fun k=>k<=(aH d f.name).1.rows.length/\iU (aH d f.name).1.rows f.src f.dst k= []) (fun k=>(aH d f.name).1.rows.length - k) (fun k=> .len ((aH d f.name).1.rows.length)<| .br (.call (vB (fN d f)) []<| .lit<| .br (.elem _ aE ((aH d f.name).1.rows) (fun e36=>bC (mD e36 f.src)<| .loop Nat (Q1 Nat) ([10,11,12]++rg 43 41) [5600] (fun i=>[(10,vI (i:Int))]) (fun i=>[]) (fun i=>i<=k/\iN (aH d f.name).1.rows f.src f.dst k i= []) (fun i=>k - i) (fun i=> .br (.elem _ aE ((aH d f.name).1.rows) (fun e52=>bC (mD e52 f.src)<| .call (vI (bM ((fC e52 f.src).1) ((fC e36 f.src).1))) []<| .br (.elem _ aE ((aH d f.name).1.rows) (fun e67=> .elem _ intD e67 (fun e71=> .elem _ aE ((aH d f.name).1.rows) (fun e76=> .elem _ intD e76 (fun e80=> .lit<| .lit<| .lit<| .br (.fin [(0,8600)]) (.back [])))))) (.back []))) (.back [])))) (.fin [(0,8700)])) (.fin [(0,8700)]))) (p:=Lx (d.tables.map aB)<| Lx (f.src.map intD)<| Con Tryz.prog 94 [.agg [.sl 88 3 (d.tables.map aB)],.one (.str f.name)] (.tup [.agg [.p none (.str ((aH d f.name).1.name)),vI ((aH d f.name).1.arity),.p none (.sl 34 1 ((aH d f.name).1.rows.map aE))],vB ((aH d f.name).2)]) []/\((∃(k:Nat),0=(k:Int)/\k<=(aH d f.name).1.rows.length/\iU (aH d f.name).1.rows f.src f.dst k= [])/\ ∀(k:Nat),(k<=(aH d f.name).1.rows.length/\iU (aH d f.name).1.rows f.src f.dst k= [])->Lm aE ((aH d f.name).1.rows)/\Br ((k:Int)<(((aH d f.name).1.rows.length:Nat):Int)) (sL d f/\Bb (fN d f) (0<=(k:Int)/\Em aE ((aH d f.name).1.rows) k fun e36=>oY e36 f.src/\((∃(i:Nat),0=(i:Int)/\i<=k/\iN (aH d f.name).1.rows f.src f.dst k i= [])/\ ∀(i:Nat),(i<=k/\iN (aH d f.name).1.rows f.src f.dst k i= [])->Br ((i:Int)<(k:Int)) (0<=(i:Int)/\Em aE ((aH d f.name).1.rows) i fun e52=>oY e52 f.src/\dA ((fC e52 f.src).1) ((fC e36 f.src).1)/\Br ((bM ((fC e52 f.src).1) ((fC e36 f.src).1))=0) (0<=(i:Int)/\Em aE ((aH d f.name).1.rows) i fun e67=>0<=f.dst/\Em intD e67 ((f.dst).toNat) fun e71=>0<=(k:Int)/\Em aE ((aH d f.name).1.rows) k fun e76=>0<=f.dst/\Em intD e76 ((f.dst).toNat) fun e80=>Nb (e71=e80) ([[.int .i64 (i:Int)],[.int .i64 (k:Int)]]=(iG d f).map intD/\True) (cW ((i:Int)+1)/\ ∃(i' :Nat),((i:Int)+1)=(i' :Int)/\(i' <=k/\iN (aH d f.name).1.rows f.src f.dst k i' = [])/\k - i' <k - i)) (cW ((i:Int)+1)/\ ∃(i' :Nat),((i:Int)+1)=(i' :Int)/\(i' <=k/\iN (aH d f.name).1.rows f.src f.dst k i' = [])/\k - i' <k - i)) (cW ((k:Int)+1)/\ ∃(k' :Nat),((k:Int)+1)=(k' :Int)/\(k' <=(aH d f.name).1.rows.length/\iU (aH d f.name).1.rows f.src f.dst k' = [])/\(aH d f.name).1.rows.length - k' <(aH d f.name).1.rows.length - k))) ([]=(iG d f).map intD/\True)) ([]=(iG d f).map intD/\True))) (by kernel_rfl) ?_;refine lx fun n0=>lx fun n1=>?_;refine⟨kD (pF _ f.name (by omega)) rfl,⟨0,rfl,aAd _,rfl⟩,fun k ⟨hk,hv⟩=>?_⟩;refine⟨aAK _,dd (fun g25=>?_) fun g25=>?_⟩
 ·refine⟨aCs _ _ (by omega),db (fun c0=>?_) fun c0=>?_⟩
  ·have hok:fN d f=true:=c0;obtain⟨hT,hd0,hd1,hsl⟩:=aBG hok;have hT8:=bI hT;have hV:iG d f=iU (aH d f.name).1.rows f.src f.dst (aH d f.name).1.rows.length:=by rw[iG,if_pos hok]
   refine⟨by omega,rfl,by omega,fun e36 h36=>?_⟩;have hl36:=mR hT (aBA h36);refine⟨zJ _ _ (by omega),⟨0,rfl,aAd _,rfl⟩,fun i ⟨hi,hw⟩=>?_⟩;refine dd (fun c1=>?_) fun c1=>?_
   ·refine⟨by omega,rfl,by omega,fun e52 h52=>?_⟩;have hl52:=mR hT (aBA h52);have hb:=aIh (cols:=f.src) (c:=f.dst) h52 h36;refine⟨zJ _ _ (by omega),eI _ _,dd (fun g63=>?_) fun g63=>?_⟩
    ·refine⟨by omega,rfl,by omega,fun e67 h67=>?_⟩;obtain rfl:=(bA h52 h67).symm;refine⟨by omega,rfl,by omega,fun e71 h71=>?_⟩;refine⟨by omega,rfl,by omega,fun e76 h76=>?_⟩;obtain rfl:=(bA h36 h76).symm;refine⟨by omega,rfl,by omega,fun e80 h80=>?_⟩;refine dn (fun c2=>?_) fun c2=>?_
     ·have hB:aHd (aH d f.name).1.rows f.src f.dst i k=true:=by rw[hb,bP h71,bP h80,cQ.1 g63];simp[c2]
      have hE:=aCp hv hw hB (by omega) (by omega:k<(aH d f.name).1.rows.length);apply et1
      ·(rw[hV,hE]<;>rfl)
     ·refine⟨⟨by omega,by omega⟩,?_⟩;exact⟨i+1,rfl,⟨by omega,zV hw (by rw[hb];(rw[bP h71,bP h80];simp[c2];done))⟩,by omega⟩
    ·refine⟨⟨by omega,by omega⟩,?_⟩;exact⟨i+1,rfl,⟨by omega,zV hw (by rw[hb];(simp[show ¬(fC e52 f.src).1=(fC e36 f.src).1 from fun q=>g63 (cQ.2 q)];done))⟩,by omega⟩
   ·refine⟨⟨by omega,by omega⟩,?_⟩;exact⟨k+1,rfl,⟨by omega,aCq hv (by obtain rfl:i=k:=(by omega);exact hw)⟩,by omega⟩
  ·have hE:iG d f= []:=by (rw[iG,if_neg (by rw[c0];decide)];done)
   apply et1
   ·(rw[hE]<;>rfl)
 ·have hE:iG d f= []:=by (rw[iG];split<;>first|(rw[show (aH d f.name).1.rows.length=k by omega,hv];done)|rfl)
  apply et1
  ·(rw[hE]<;>rfl)
abbrev aAA (d:aI)(f:aN):Prop:=Cn 90 [.agg [.sl 88 3 (d.tables.map aB)],.agg [.str f.name,.sl 3 1 (f.src.map intD),.int .i64 f.dst]] (vB (gB d f)) []
theorem aHk (d:aI)(f:aN)(hc:aT d<=1048576):aAA d f:=by
 refine cq Tryz.func90 (.call (vB (fN d f)) []<| .br (bC (vE d f)<| .len ((iG d f).length)<| .fin []) (.fin [])) (p:=Lx (d.tables.map aB)<| Lx (f.src.map intD)<| sK d f/\Bb (fN d f) (aBK d f/\Lm intD (iG d f)/\(decide ((((iG d f).length:Nat):Int)=0))=(gB d f)/\True) ((false)=(gB d f)/\True)) (by kernel_rfl) ?_;refine lx fun n0=>lx fun n1=>?_;refine⟨aCr _ _ (by omega),db (fun g8=>?_) fun g8=>?_⟩
 ·refine⟨aJs _ _ (by omega),aAK _,?_,trivial⟩
  ·(simp[gB, *];done)
 ·apply et1
  ·(simp[gB, *];done)
abbrev sP (d:aI)(f:aN):Prop:=Cn 98 [.agg [.sl 88 3 (d.tables.map aB)],.agg [.str f.name,.sl 3 1 (f.src.map intD),.int .i64 f.dst]] (vB (gB d f)) []
theorem aDB (d:aI)(f:aN)(hc:aT d<=1048576):sP d f:=by
 refine cq Tryz.func98 (.call (vB (fN d f)) []<| .br (bC (vF d f)<| .len ((iG d f).length)<| .fin []) (.fin [])) (p:=Lx (d.tables.map aB)<| Lx (f.src.map intD)<| sL d f/\Bb (fN d f) (aBL d f/\Lm intD (iG d f)/\(decide ((((iG d f).length:Nat):Int)=0))=(gB d f)/\True) ((false)=(gB d f)/\True)) (by kernel_rfl) ?_;refine lx fun n0=>lx fun n1=>?_;refine⟨aCs _ _ (by omega),db (fun g8=>?_) fun g8=>?_⟩
 ·refine⟨aJt _ _ (by omega),aAK _,?_,trivial⟩
  ·(simp[gB, *];done)
 ·apply et1
  ·(simp[gB, *];done)
abbrev vG (d:aI)(x:aO):AV × List (Nat × Rs):=(.own 0,[(0,.arr 3 1 true ((tB d x).map intD))])
abbrev aBM (d:aI)(x:aO):Prop:=Cn 149 [.agg [.sl 88 3 (d.tables.map aB)],.agg [.str x.name,.int .i64 x.column,.str x.into,.int .i64 x.intoColumn]] (vG d x).1 (vG d x).2
theorem aJu (d:aI)(x:aO)(hc:aT d<=1048576):aBM d x:=by
 refine cq Tryz.func149 (.call (vB (eY d x)) []<| .br (.fin []) (.call (.tup [.agg [.p none (.str ((aH d x.name).1.name)),vI ((aH d x.name).1.arity),.p none (.sl 34 1 ((aH d x.name).1.rows.map aE))],vB ((aH d x.name).2)]) []<| .call (.tup [.agg [.p none (.str ((aH d x.into).1.name)),vI ((aH d x.into).1.arity),.p none (.sl 34 1 ((aH d x.into).1.rows.map aE))],vB ((aH d x.into).2)]) []<| .len ((aH d x.into).1.rows.length)<| .loop (Nat × (List Int)) (Q2 Nat (List Int)) ([9,11,34]++rg 38 13) [3400,4800,4900] (fun yy0=>[(38,vI (yy0.1:Int)),(9,.own 3400)]) (fun yy0=>[(3400,some (.arr 3 1 true (yy0.2.map intD)))]) (fun yy0=>yy0.1<=(aH d x.into).1.rows.length/\yy0.2=fP ((aH d x.into).1.rows.take yy0.1) x.intoColumn) (fun yy0=>(aH d x.into).1.rows.length - yy0.1) (fun yy0=> .br (.elem _ aE ((aH d x.into).1.rows) (fun e40=> .elem _ intD e40 (fun e46=> .app Int intD yy0.2 ([e46]:List Int)<| .back [(3400,4900)]))) (.len ((aH d x.name).1.rows.length)<| .loop (Nat × (List Int)) (Q2 Nat (List Int)) ([12,14,15,51]++rg 55 18) [5100,7000,7100] (fun yy1=>[(55,vI (yy1.1:Int)),(12,.own 5100)]) (fun yy1=>[(5100,some (.arr 3 1 true (yy1.2.map intD)))]) (fun yy1=>yy1.1<=(aH d x.name).1.rows.length/\yy1.2=(fP ((aH d x.name).1.rows.take yy1.1) x.column).filter fun v=> !decide (v∈yy0.2)) (fun yy1=>(aH d x.name).1.rows.length - yy1.1) (fun yy1=> .br (.elem _ aE ((aH d x.name).1.rows) (fun e57=> .elem _ intD e57 (fun e62=> .call (vB (decide (e62∈yy0.2))) []<| .br (.app Int intD yy1.2 ([e62]:List Int)<| .back [(5100,7100)]) (.back [(5100,5100)])))) (.callx [.own 0] [(0,.arr 3 1 true (yy1.2.map intD))] [(0,5100)] (.tup []) [(0,.arr 3 1 true ((nQ yy1.2).map intD))]<| .callx [.own 0] [(0,.arr 3 1 true ((nQ yy1.2).map intD))] [(0,5100)] (.own 1) [(1,.arr 3 1 true ((pU (nQ yy1.2)).map intD))]<| .fin [(0,7601)])))))) (p:=Lx (d.tables.map aB)<| sN d x/\Nr (eY d x) ([]=(tB d x).map intD/\True) (Con Tryz.prog 86 [.agg [.sl 88 3 (d.tables.map aB)],.one (.str x.name)] (.tup [.agg [.p none (.str ((aH d x.name).1.name)),vI ((aH d x.name).1.arity),.p none (.sl 34 1 ((aH d x.name).1.rows.map aE))],vB ((aH d x.name).2)]) []/\(Con Tryz.prog 86 [.agg [.sl 88 3 (d.tables.map aB)],.one (.str x.into)] (.tup [.agg [.p none (.str ((aH d x.into).1.name)),vI ((aH d x.into).1.arity),.p none (.sl 34 1 ((aH d x.into).1.rows.map aE))],vB ((aH d x.into).2)]) []/\(Lm aE ((aH d x.into).1.rows)/\((∃(k:Nat) (there:List Int),0=(k:Int)/\[]=there.map intD/\k<=(aH d x.into).1.rows.length/\there=fP ((aH d x.into).1.rows.take k) x.intoColumn)/\ ∀(k:Nat) (there:List Int),(k<=(aH d x.into).1.rows.length/\there=fP ((aH d x.into).1.rows.take k) x.intoColumn)->Br ((k:Int)<(((aH d x.into).1.rows.length:Nat):Int)) (0<=(k:Int)/\Em aE ((aH d x.into).1.rows) k fun e40=>0<=x.intoColumn/\Em intD e40 ((x.intoColumn).toNat) fun e46=>Ap intD there ([e46]:List Int) 8 (cW ((k:Int)+1)/\ ∃(k' :Nat) (there' :List Int),((k:Int)+1)=(k' :Int)/\(there++[e46]).map intD=there'.map intD/\(k' <=(aH d x.into).1.rows.length/\there' =fP ((aH d x.into).1.rows.take k') x.intoColumn)/\(aH d x.into).1.rows.length - k' <(aH d x.into).1.rows.length - k)) (Lm aE ((aH d x.name).1.rows)/\((∃(j:Nat) (out:List Int),0=(j:Int)/\[]=out.map intD/\j<=(aH d x.name).1.rows.length/\out=(fP ((aH d x.name).1.rows.take j) x.column).filter fun v=> !decide (v∈there))/\ ∀(j:Nat) (out:List Int),(j<=(aH d x.name).1.rows.length/\out=(fP ((aH d x.name).1.rows.take j) x.column).filter fun v=> !decide (v∈there))->Br ((j:Int)<(((aH d x.name).1.rows.length:Nat):Int)) (0<=(j:Int)/\Em aE ((aH d x.name).1.rows) j fun e57=>0<=x.column/\Em intD e57 ((x.column).toNat) fun e62=>aLj there e62/\Nr (decide (e62∈there)) (Ap intD out ([e62]:List Int) 8 (cW ((j:Int)+1)/\ ∃(j' :Nat) (out' :List Int),((j:Int)+1)=(j' :Int)/\(out++[e62]).map intD=out'.map intD/\(j' <=(aH d x.name).1.rows.length/\out' =(fP ((aH d x.name).1.rows.take j') x.column).filter fun v=> !decide (v∈there))/\(aH d x.name).1.rows.length - j' <(aH d x.name).1.rows.length - j)) (cW ((j:Int)+1)/\ ∃(j' :Nat) (out' :List Int),((j:Int)+1)=(j' :Int)/\out.map intD=out'.map intD/\(j' <=(aH d x.name).1.rows.length/\out' =(fP ((aH d x.name).1.rows.take j') x.column).filter fun v=> !decide (v∈there))/\(aH d x.name).1.rows.length - j' <(aH d x.name).1.rows.length - j)) (rA Tryz.prog 189 [.own 0] [(0,.arr 3 1 true (out.map intD))] (.tup []) [(0,.arr 3 1 true ((nQ out).map intD))]/\out.map intD=out.map intD/\rA Tryz.prog 190 [.own 0] [(0,.arr 3 1 true ((nQ out).map intD))] (.own 1) [(1,.arr 3 1 true ((pU (nQ out)).map intD))]/\(nQ out).map intD=(nQ out).map intD/\(pU (nQ out)).map intD=(tB d x).map intD/\True)))))))) (by kernel_rfl) ?_;refine lx fun n0=>?_;refine⟨aCz _ _ (by omega),dm (fun c0=>?_) fun c0=>?_⟩
 ·have hbad:tB d x= []:=by rw[tB,if_neg (by simpa using c0)]
  apply et1
  ·(rw[hbad]<;>rfl)
 ·have hok:eY d x=true:=by simpa using c0
  obtain⟨hTa,hTb,hca,hcb⟩:=vD hok;have hA8:=bI hTa;have hB8:=bI hTb;refine⟨kD (pE _ x.name (by omega)) rfl,kD (pE _ x.into (by omega)) rfl,aAK _,⟨0,([]:List Int),rfl,rfl,aAd _,rfl⟩,fun k there ⟨hk,hth⟩=>?_⟩;have htl:there.length=k:=by rw[hth,fP,aAK,aLz];omega
  refine dd (fun c1=>?_) fun c1=>?_
  ·refine⟨by omega,rfl,by omega,fun e40 h40=>?_⟩;have hl40:=mR hTb (aBA h40);refine⟨by omega,rfl,by omega,fun e46 h46=>?_⟩;refine ap ?_ (fun _=>rfl) (by (simp;omega));refine⟨⟨by omega,by omega⟩,?_⟩;exact⟨k+1,_,rfl,rfl,⟨by omega,by rw[kO _ _ h40,<-hth,bP h46]⟩,by omega⟩
  ·have hTH:there=fP (aH d x.into).1.rows x.intoColumn:=by rw[hth,aCv (by omega)]
   refine⟨aAK _,⟨0,([]:List Int),rfl,rfl,aAd _,rfl⟩,fun j out ⟨hj,ho⟩=>?_⟩;have hol:out.length<=j:=by rw[ho];refine Nat.le_trans (List.length_filter_le _ _) ?_;simp[fP];omega
   refine dd (fun c2=>?_) fun c2=>?_
   ·refine⟨by omega,rfl,by omega,fun e57 h57=>?_⟩;have hl57:=mR hTa (aBA h57);refine⟨by omega,rfl,by omega,fun e62 h62=>?_⟩;refine⟨ctI _ _,dm (fun c3=>?_) fun c3=>?_⟩
    ·refine ap ?_ (fun _=>rfl) (by (simp[hth];omega));refine⟨⟨by omega,by omega⟩,?_⟩;exact⟨j+1,_,rfl,rfl,⟨by omega,by rw[kO _ _ h57,List.filter_append,<-ho,bP h62,List.filter_cons_of_pos (by simpa using c3)];rfl⟩,by omega⟩
    ·refine⟨⟨by omega,by omega⟩,?_⟩;exact⟨j+1,_,rfl,rfl,⟨by omega,by rw[kO _ _ h57,List.filter_append,<-ho,bP h62,List.filter_cons_of_neg (by simpa using c3)];simp⟩,by omega⟩
   ·have hE:tB d x=pU (nQ out):=by rw[tB,if_pos hok,aBJ,ho,hTH,aCv (by omega)]
    refine⟨aJl out (by omega),rfl,aJm (nQ out) (by (rw[wH];omega)),rfl,?_,trivial⟩
    ·(rw[hE]<;>rfl)
abbrev aAB (d:aI)(x:aO):Prop:=Cn 91 [.agg [.sl 88 3 (d.tables.map aB)],.agg [.str x.name,.int .i64 x.column,.str x.into,.int .i64 x.intoColumn]] (vB (gC d x)) []
theorem aHl (d:aI)(x:aO)(hc:aT d<=1048576):aAB d x:=by
 refine cq Tryz.func91 (.call (vB (eY d x)) []<| .br (bC (vG d x)<| .len ((tB d x).length)<| .fin []) (.fin [])) (p:=Lx (d.tables.map aB)<| sN d x/\Bb (eY d x) (aBM d x/\Lm intD (tB d x)/\(decide ((((tB d x).length:Nat):Int)=0))=(gC d x)/\True) ((false)=(gC d x)/\True)) (by kernel_rfl) ?_;refine lx fun n0=>?_;refine⟨aCz _ _ (by omega),db (fun g8=>?_) fun g8=>?_⟩
 ·refine⟨aJu _ _ (by omega),aAK _,?_,trivial⟩
  ·(rw[gC,g8,aGh,aJq g8];rfl)
 ·apply et1
  ·(simp[gC, *];done)
abbrev vH (d:aI)(x:aO):AV × List (Nat × Rs):=(.own 0,[(0,.arr 3 1 true ((tC d x).map intD))])
abbrev aBN (d:aI)(x:aO):Prop:=Cn 158 [.agg [.sl 88 3 (d.tables.map aB)],.agg [.str x.name,.int .i64 x.column,.str x.into,.int .i64 x.intoColumn]] (vH d x).1 (vH d x).2
theorem aJv (d:aI)(x:aO)(hc:aT d<=1048576):aBN d x:=by
 refine cq Tryz.func158 (.call (vB (eY d x)) []<| .br (.fin [(0,1500)]) (.call (.tup [.agg [.p none (.str ((aH d x.name).1.name)),vI ((aH d x.name).1.arity),.p none (.sl 34 1 ((aH d x.name).1.rows.map aE))],vB ((aH d x.name).2)]) []<| .call (.tup [.agg [.p none (.str ((aH d x.into).1.name)),vI ((aH d x.into).1.arity),.p none (.sl 34 1 ((aH d x.into).1.rows.map aE))],vB ((aH d x.into).2)]) []<| .loop (Nat × (List Int)) (Q2 Nat (List Int)) ([5,10,11,12,13,14,15]++rg 35 55) [1500,8800,8900] (fun yy0=>[(10,vI (yy0.1:Int)),(5,.own 1500)]) (fun yy0=>[(1500,some (.arr 3 1 true (yy0.2.map intD)))]) (fun yy0=>yy0.1<=10/\yy0.2=lT d x yy0.1) (fun yy0=>10 - yy0.1) (fun yy0=> .br (.loop (Nat × Bool) (Q2 Nat Bool) ([11,13]++rg 39 21) [] (fun yy1=>[(13,vI (yy1.1:Int)),(11,vB yy1.2)]) (fun yy1=>[]) (fun yy1=>yy1.1<=(aH d x.name).1.rows.length/\yy1.2=decide ((yy0.1:Int)∈fP ((aH d x.name).1.rows.take yy1.1) x.column)) (fun yy1=>(aH d x.name).1.rows.length - yy1.1) (fun yy1=> .len ((aH d x.name).1.rows.length)<| .br (.br (.back []) (.elem _ aE ((aH d x.name).1.rows) (fun e51=> .elem _ intD e51 (fun e55=> .back [])))) (.loop (Nat × Bool) (Q2 Nat Bool) ([12,14]++rg 60 21) [] (fun yy2=>[(14,vI (yy2.1:Int)),(12,vB yy2.2)]) (fun yy2=>[]) (fun yy2=>yy2.1<=(aH d x.into).1.rows.length/\yy2.2=decide ((yy0.1:Int)∈fP ((aH d x.into).1.rows.take yy2.1) x.intoColumn)) (fun yy2=>(aH d x.into).1.rows.length - yy2.1) (fun yy2=> .len ((aH d x.into).1.rows.length)<| .br (.br (.back []) (.elem _ aE ((aH d x.into).1.rows) (fun e72=> .elem _ intD e72 (fun e76=> .back [])))) (.br (.lit<| .lit<| .br (.app Int intD yy0.2 ([(yy0.1:Int)]:List Int)<| .back [(1500,8900)]) (.back [(1500,1500)])) (.back [(1500,1500)])))))) (.fin [(0,1500)])))) (p:=Lx (d.tables.map aB)<| sO d x/\Nr (eY d x) ([]=(tC d x).map intD/\True) (Con Tryz.prog 94 [.agg [.sl 88 3 (d.tables.map aB)],.one (.str x.name)] (.tup [.agg [.p none (.str ((aH d x.name).1.name)),vI ((aH d x.name).1.arity),.p none (.sl 34 1 ((aH d x.name).1.rows.map aE))],vB ((aH d x.name).2)]) []/\(Con Tryz.prog 94 [.agg [.sl 88 3 (d.tables.map aB)],.one (.str x.into)] (.tup [.agg [.p none (.str ((aH d x.into).1.name)),vI ((aH d x.into).1.arity),.p none (.sl 34 1 ((aH d x.into).1.rows.map aE))],vB ((aH d x.into).2)]) []/\((∃(v:Nat) (out:List Int),0=(v:Int)/\[]=out.map intD/\v<=10/\out=lT d x v)/\ ∀(v:Nat) (out:List Int),(v<=10/\out=lT d x v)->Br ((v:Int)<=9) ((∃(k:Nat) (p:Bool),0=(k:Int)/\(false)=p/\k<=(aH d x.name).1.rows.length/\p=decide ((v:Int)∈fP ((aH d x.name).1.rows.take k) x.column))/\ ∀(k:Nat) (p:Bool),(k<=(aH d x.name).1.rows.length/\p=decide ((v:Int)∈fP ((aH d x.name).1.rows.take k) x.column))->Lm aE ((aH d x.name).1.rows)/\Br ((k:Int)<(((aH d x.name).1.rows.length:Nat):Int)) (Bb (p) (cW ((k:Int)+1)/\ ∃(k' :Nat) (p' :Bool),((k:Int)+1)=(k' :Int)/\(true)=p' /\(k' <=(aH d x.name).1.rows.length/\p' =decide ((v:Int)∈fP ((aH d x.name).1.rows.take k') x.column))/\(aH d x.name).1.rows.length - k' <(aH d x.name).1.rows.length - k) (0<=(k:Int)/\Em aE ((aH d x.name).1.rows) k fun e51=>0<=x.column/\Em intD e51 ((x.column).toNat) fun e55=>cW ((k:Int)+1)/\ ∃(k' :Nat) (p' :Bool),((k:Int)+1)=(k' :Int)/\(decide (e55=(v:Int)))=p' /\(k' <=(aH d x.name).1.rows.length/\p' =decide ((v:Int)∈fP ((aH d x.name).1.rows.take k') x.column))/\(aH d x.name).1.rows.length - k' <(aH d x.name).1.rows.length - k)) ((∃(j:Nat) (q:Bool),0=(j:Int)/\(false)=q/\j<=(aH d x.into).1.rows.length/\q=decide ((v:Int)∈fP ((aH d x.into).1.rows.take j) x.intoColumn))/\ ∀(j:Nat) (q:Bool),(j<=(aH d x.into).1.rows.length/\q=decide ((v:Int)∈fP ((aH d x.into).1.rows.take j) x.intoColumn))->Lm aE ((aH d x.into).1.rows)/\Br ((j:Int)<(((aH d x.into).1.rows.length:Nat):Int)) (Bb (q) (cW ((j:Int)+1)/\ ∃(j' :Nat) (q' :Bool),((j:Int)+1)=(j' :Int)/\(true)=q' /\(j' <=(aH d x.into).1.rows.length/\q' =decide ((v:Int)∈fP ((aH d x.into).1.rows.take j') x.intoColumn))/\(aH d x.into).1.rows.length - j' <(aH d x.into).1.rows.length - j) (0<=(j:Int)/\Em aE ((aH d x.into).1.rows) j fun e72=>0<=x.intoColumn/\Em intD e72 ((x.intoColumn).toNat) fun e76=>cW ((j:Int)+1)/\ ∃(j' :Nat) (q' :Bool),((j:Int)+1)=(j' :Int)/\(decide (e76=(v:Int)))=q' /\(j' <=(aH d x.into).1.rows.length/\q' =decide ((v:Int)∈fP ((aH d x.into).1.rows.take j') x.intoColumn))/\(aH d x.into).1.rows.length - j' <(aH d x.into).1.rows.length - j)) (Bb (p) (Nr (q) (Ap intD out ([(v:Int)]:List Int) 8 (cW ((v:Int)+1)/\ ∃(v' :Nat) (out' :List Int),((v:Int)+1)=(v' :Int)/\(out++[(v:Int)]).map intD=out'.map intD/\(v' <=10/\out' =lT d x v')/\10 - v' <10 - v)) (cW ((v:Int)+1)/\ ∃(v' :Nat) (out' :List Int),((v:Int)+1)=(v' :Int)/\out.map intD=out'.map intD/\(v' <=10/\out' =lT d x v')/\10 - v' <10 - v)) (cW ((v:Int)+1)/\ ∃(v' :Nat) (out' :List Int),((v:Int)+1)=(v' :Int)/\out.map intD=out'.map intD/\(v' <=10/\out' =lT d x v')/\10 - v' <10 - v)))) (out.map intD=(tC d x).map intD/\True))))) (by kernel_rfl) ?_;refine lx fun n0=>?_;refine⟨aDA _ _ (by omega),dm (fun c0=>?_) fun c0=>?_⟩
 ·have hbad:tC d x= []:=by rw[tC,if_neg (by simpa using c0)]
  apply et1
  ·(rw[hbad]<;>rfl)
 ·have hok:eY d x=true:=by simpa using c0
  obtain⟨hTa,hTb,hca,hcb⟩:=vD hok;have hA8:=bI hTa;have hB8:=bI hTb;refine⟨kD (pF _ x.name (by omega)) rfl,kD (pF _ x.into (by omega)) rfl,⟨0,([]:List Int),rfl,rfl,by omega,rfl⟩,fun v out ⟨hvv,ho⟩=>?_⟩;have hol:=aJo d x v;rw[<-ho] at hol;refine dd (fun c1=>?_) fun c1=>?_
  ·refine⟨⟨0,false,rfl,rfl,aAd _,rfl⟩,fun k p ⟨hk,hp⟩=>?_⟩;refine⟨aAK _,dd (fun c2=>?_) fun c2=>?_⟩
   ·obtain⟨ra,hra⟩:=cT (l:=(aH d x.name).1.rows) (k:=k) (by omega);refine db (fun g47=>?_) fun g47=>?_
    ·refine⟨⟨by omega,by omega⟩,?_⟩;exact⟨k+1,_,rfl,rfl,⟨by omega,by rw[kO _ _ hra,zZ,<-hp,g47];rfl⟩,by omega⟩
    ·refine⟨by omega,rfl,by omega,fun e51 h51=>?_⟩;have hl51:=mR hTa (aBA h51);refine⟨by omega,rfl,by omega,fun e55 h55=>?_⟩;refine⟨⟨by omega,by omega⟩,?_⟩;exact⟨k+1,_,rfl,rfl,⟨by omega,by obtain rfl:=bA h51 hra;rw[kO _ _ hra,zZ,<-hp,g47,bP h55,Bool.false_or];exact decide_eq_decide.2 ⟨Eq.symm,Eq.symm⟩⟩,by omega⟩
   ·have hP:p=decide ((v:Int)∈fP (aH d x.name).1.rows x.column):=by rw[hp,aCv (by omega)]
    refine⟨⟨0,false,rfl,rfl,aAd _,rfl⟩,fun j q ⟨hj,hq⟩=>?_⟩;refine⟨aAK _,dd (fun c3=>?_) fun c3=>?_⟩
    ·obtain⟨rb,hrb⟩:=cT (l:=(aH d x.into).1.rows) (k:=j) (by omega);refine db (fun g68=>?_) fun g68=>?_
     ·refine⟨⟨by omega,by omega⟩,?_⟩;exact⟨j+1,_,rfl,rfl,⟨by omega,by rw[kO _ _ hrb,zZ,<-hq,g68];rfl⟩,by omega⟩
     ·refine⟨by omega,rfl,by omega,fun e72 h72=>?_⟩;have hl72:=mR hTb (aBA h72);refine⟨by omega,rfl,by omega,fun e76 h76=>?_⟩;refine⟨⟨by omega,by omega⟩,?_⟩;exact⟨j+1,_,rfl,rfl,⟨by omega,by obtain rfl:=bA h72 hrb;rw[kO _ _ hrb,zZ,<-hq,g68,bP h76,Bool.false_or];exact decide_eq_decide.2 ⟨Eq.symm,Eq.symm⟩⟩,by omega⟩
    ·have hQ:q=decide ((v:Int)∈fP (aH d x.into).1.rows x.intoColumn):=by rw[hq,aCv (by omega)]
     refine db (fun g82=>?_) fun g82=>?_
     ·refine dm (fun c4=>?_) fun c4=>?_
      ·refine ap ?_ (fun _=>rfl) (by (simp;omega));refine⟨⟨by omega,by omega⟩,?_⟩;exact⟨v+1,_,rfl,rfl,⟨by omega,by rw[ho,aJn (by rw[zY,<-hP,<-hQ,g82,c4];rfl)]⟩,by omega⟩
      ·refine⟨⟨by omega,by omega⟩,?_⟩;exact⟨v+1,_,rfl,rfl,⟨by omega,by rw[ho,aGr (by rw[zY,<-hP,<-hQ,g82,c4];rfl)]⟩,by omega⟩
     ·refine⟨⟨by omega,by omega⟩,?_⟩;exact⟨v+1,_,rfl,rfl,⟨by omega,by rw[ho,aGr (by rw[zY,<-hP,<-hQ,g82];rfl)]⟩,by omega⟩
  ·have hE:tC d x=out:=by rw[tC,if_pos hok,ho,show v=10 by omega]
   apply et1
   ·(rw[hE]<;>rfl)
abbrev sQ (d:aI)(x:aO):Prop:=Cn 99 [.agg [.sl 88 3 (d.tables.map aB)],.agg [.str x.name,.int .i64 x.column,.str x.into,.int .i64 x.intoColumn]] (vB (gC d x)) []
theorem aDC (d:aI)(x:aO)(hc:aT d<=1048576):sQ d x:=by
 refine cq Tryz.func99 (.call (vB (eY d x)) []<| .br (bC (vH d x)<| .len ((tC d x).length)<| .fin []) (.fin [])) (p:=Lx (d.tables.map aB)<| sO d x/\Bb (eY d x) (aBN d x/\Lm intD (tC d x)/\(decide ((((tC d x).length:Nat):Int)=0))=(gC d x)/\True) ((false)=(gC d x)/\True)) (by kernel_rfl) ?_;refine lx fun n0=>?_;refine⟨aDA _ _ (by omega),db (fun g8=>?_) fun g8=>?_⟩
 ·refine⟨aJv _ _ (by omega),aAK _,?_,trivial⟩
  ·(rw[gC,g8,aGh,aJr g8];rfl)
 ·apply et1
  ·(simp[gC, *];done)
end Go.Proofs.YtafmaholhcgakaaGreat
