/-
  Contracts and plain laws, joined: part 26.
-/
import Derived.Test.YtlidmoeecphbmaaGreatez3
import Derived.Test.YtlidmoeecphbmaaGreatez23
import Derived.Test.YtlidmoeecphbmaaGreatez24
import Derived.Test.YtlidmoeecphbmaaGreatez0
namespace Go.Proofs.YtlidmoeecphbmaaGreat
open Go.ChangeShapes Go.WideShapes Go.ChangeAt Go.RowKit
set_option linter.unusedVariables false
set_option linter.unusedSimpArgs false
set_option maxRecDepth 100000
set_option maxHeartbeats 4000000
abbrev rB (x:List Int)(m:Int):Prop:=Cn 115 [.one (.sl 3 1 (x.map intD)),.one (.int .i64 m)] (vI (aT (cE x) m)) []
theorem aD0 (x:List Int)(m:Int)(hf:aET x)(h0:0<=m)(h1:m<=1048576):rB x m:=by
 refine cq Tryz.func115 (.len x.length<| .br (.fin []) (.fin [])) (p:=Lx (x.map intD)<| Lm intD x/\bJ (m - (x.length:Int))/\Br ((m - (x.length:Int))<0) ((-1:Int)=(aT (cE x) m)/\True) ((m - (x.length:Int))=(aT (cE x) m)/\True)) (by kernel_rfl) ?_;refine lx fun n0=>?_;refine⟨aAq _,⟨by omega,by omega⟩,dd (fun c0=>?_) fun c0=>?_⟩
 ·apply et1
  ·unfold cE;(rw[cM (by omega)];done)
 ·apply et1
  ·unfold cE;(rw[bS (by omega)];done)
abbrev aCV (x:List (List Int))(m:Int):Prop:=Cn 171 [.one (.sl 91 1 (x.map aC)),.one (.int .i64 m)] (vI (aT (cR x) m)) []
theorem aO7 (x:List (List Int))(m:Int)(hf:aG8 x)(h0:0<=m)(h1:m<=1048576):aCV x m:=by
 refine cq Tryz.func171 (.len x.length<| .br (.fin []) (.loop (Nat × Int) (Q2 Nat Int) ([1,5]++rg 12 14) [] (fun yy0=>[(5,vI (yy0.1:Int)),(1,vI yy0.2)]) (fun yy0=>[]) (fun yy0=>yy0.1<=x.length/\yy0.2=m - x.length - (fD cE (x.take yy0.1):Nat)/\0<=yy0.2) (fun yy0=>x.length - yy0.1) (fun yy0=> .len x.length<| .br (.elem _ aC x (fun e20=> .call (vI (aT (cE e20) yy0.2)) []<| .br (.fin []) (.back []))) (.fin [])))) (p:=Lx (x.map aC)<| Lm aC x/\(bJ (m - (x.length:Int))/\Br ((m - (x.length:Int))<0) ((-1:Int)=(aT (cR x) m)/\True) ((∃(k:Nat) (z:Int),0=(k:Int)/\(m - (x.length:Int))=z/\k<=x.length/\z=m - x.length - (fD cE (x.take k):Nat)/\0<=z)/\ ∀(k:Nat) (z:Int),(k<=x.length/\z=m - x.length - (fD cE (x.take k):Nat)/\0<=z)->Lm aC x/\Br ((k:Int)<(x.length:Int)) (0<=(k:Int)/\Em aC x k fun e20=>rB e20 z/\Br ((aT (cE e20) z)<0) ((-1:Int)=(aT (cR x) m)/\True) (bJ ((k:Int)+1)/\ ∃(k' :Nat) (z' :Int),((k:Int)+1)=(k' :Int)/\(aT (cE e20) z)=z' /\(k' <=x.length/\z' =m - x.length - (fD cE (x.take k'):Nat)/\0<=z')/\x.length - k' <x.length - k)) (z=(aT (cR x) m)/\True)))) (by kernel_rfl) ?_;refine lx fun n0=>?_;have hS:cR x=x.length+fD cE x:=rfl;refine⟨aAq _,⟨by omega,by omega⟩,dd (fun c0=>?_) fun c0=>?_⟩
 ·apply et1
  ·(rw[cM (by omega)];done)
 ·refine⟨⟨0,m - (x.length:Int),rfl,rfl,aBn _,by simp[fD],by omega⟩,fun k z ⟨hk,hz,hz0⟩=>?_⟩;refine⟨aAq _,dd (fun c1=>?_) fun c1=>?_⟩
  ·obtain⟨y,hy⟩:=dB (l:=x) (k:=k) (by omega);have hfy:=hf y (aCX hy);refine⟨by omega,rfl,by omega,fun e20 h20=>?_⟩;obtain rfl:=aX hy h20;refine⟨aD0 e20 _ (by assumption) (by omega) (by omega),dd (fun c2=>?_) fun c2=>?_⟩
   ·have y3:=jO c2;have y4:=gS cE ‹x[k]? =some _›;have y5:=uZ cE x (k+1);apply et1
    ·(rw[cM (by omega)];done)
   ·have y2:=bS (iY c2);have y3:=iY c2;have y4:=gS cE ‹x[k]? =some _›;refine⟨⟨by omega,by omega⟩,?_⟩;exact⟨k+1,aT (cE e20) z,rfl,rfl,⟨by omega,by rw[y2,y4,hz];omega,by rw[y2];omega⟩,by omega⟩
  ·have y6:k=x.length:=by omega
   rw[y6,aTG] at hz;apply et1
   ·(rw[bS (by omega)];omega)
abbrev aIh (x:aY)(m:Int):Prop:=Cn 113 [.agg [.str x.name,.int .i64 x.arity,.sl 91 1 (x.rows.map aC)],.one (.int .i64 m)] (vI (aT (gG x) m)) []
theorem aVt (x:aY)(m:Int)(hf:aPC x)(h0:0<=m)(h1:m<=1048576):aIh x m:=by
 refine cq Tryz.func113 (.br (.fin []) (.call (vI (aT (cR x.rows) (m - (x.name.size:Int)))) []<| .br (.fin []) (.fin []))) (p:=Lx (x.rows.map aC)<| bJ (m - (x.name.size:Int))/\Br ((m - (x.name.size:Int))<0) ((-1:Int)=(aT (gG x) m)/\True) (aCV x.rows (m - (x.name.size:Int))/\Br ((aT (cR x.rows) (m - (x.name.size:Int)))<0) ((-1:Int)=(aT (gG x) m)/\True) ((aT (cR x.rows) (m - (x.name.size:Int)))=(aT (gG x) m)/\True))) (by kernel_rfl) ?_;refine lx fun n0=>?_;obtain⟨f_name,f_arity,f_rows⟩:=hf;have hmx:maxLen=9223372036854775807:=rfl;have g_name:x.name.size<=maxLen:=f_name;refine⟨⟨by omega,by omega⟩,dd (fun c0=>?_) fun c0=>?_⟩
 ·apply et1
  ·unfold gG;(rw[cM (by omega)];done)
 ·refine⟨aO7 x.rows _ (by assumption) (by omega) (by omega),dd (fun c1=>?_) fun c1=>?_⟩
  ·have y1:=jO c1;apply et1
   ·unfold gG;(rw[cM (by omega)];done)
  ·have y1:=iY c1;rw[bS y1] at*;apply et1
   ·unfold gG;(rw[bS (by omega)];omega)
abbrev aFP (x:List aY)(m:Int):Prop:=Cn 57 [.one (.sl 142 3 (x.map aS)),.one (.int .i64 m)] (vI (aT (lA x) m)) []
theorem aSp (x:List aY)(m:Int)(hf:aFd x)(h0:0<=m)(h1:m<=1048576):aFP x m:=by
 refine cq Tryz.func57 (.len x.length<| .br (.fin []) (.loop (Nat × Int) (Q2 Nat Int) ([1,5]++rg 12 14) [] (fun yy0=>[(5,vI (yy0.1:Int)),(1,vI yy0.2)]) (fun yy0=>[]) (fun yy0=>yy0.1<=x.length/\yy0.2=m - x.length - (fD gG (x.take yy0.1):Nat)/\0<=yy0.2) (fun yy0=>x.length - yy0.1) (fun yy0=> .len x.length<| .br (.elem _ aS x (fun e20=> .call (vI (aT (gG e20) yy0.2)) []<| .br (.fin []) (.back []))) (.fin [])))) (p:=Lx (x.map aS)<| Lm aS x/\(bJ (m - (x.length:Int))/\Br ((m - (x.length:Int))<0) ((-1:Int)=(aT (lA x) m)/\True) ((∃(k:Nat) (z:Int),0=(k:Int)/\(m - (x.length:Int))=z/\k<=x.length/\z=m - x.length - (fD gG (x.take k):Nat)/\0<=z)/\ ∀(k:Nat) (z:Int),(k<=x.length/\z=m - x.length - (fD gG (x.take k):Nat)/\0<=z)->Lm aS x/\Br ((k:Int)<(x.length:Int)) (0<=(k:Int)/\Em aS x k fun e20=>aIh e20 z/\Br ((aT (gG e20) z)<0) ((-1:Int)=(aT (lA x) m)/\True) (bJ ((k:Int)+1)/\ ∃(k' :Nat) (z' :Int),((k:Int)+1)=(k' :Int)/\(aT (gG e20) z)=z' /\(k' <=x.length/\z' =m - x.length - (fD gG (x.take k'):Nat)/\0<=z')/\x.length - k' <x.length - k)) (z=(aT (lA x) m)/\True)))) (by kernel_rfl) ?_;refine lx fun n0=>?_;have hS:lA x=x.length+fD gG x:=rfl;refine⟨aAq _,⟨by omega,by omega⟩,dd (fun c0=>?_) fun c0=>?_⟩
 ·apply et1
  ·(rw[cM (by omega)];done)
 ·refine⟨⟨0,m - (x.length:Int),rfl,rfl,aBn _,by simp[fD],by omega⟩,fun k z ⟨hk,hz,hz0⟩=>?_⟩;refine⟨aAq _,dd (fun c1=>?_) fun c1=>?_⟩
  ·obtain⟨y,hy⟩:=dB (l:=x) (k:=k) (by omega);have hfy:=hf y (aCX hy);refine⟨by omega,rfl,by omega,fun e20 h20=>?_⟩;obtain rfl:=aX hy h20;refine⟨aVt e20 _ (by assumption) (by omega) (by omega),dd (fun c2=>?_) fun c2=>?_⟩
   ·have y3:=jO c2;have y4:=gS gG ‹x[k]? =some _›;have y5:=uZ gG x (k+1);apply et1
    ·(rw[cM (by omega)];done)
   ·have y2:=bS (iY c2);have y3:=iY c2;have y4:=gS gG ‹x[k]? =some _›;refine⟨⟨by omega,by omega⟩,?_⟩;exact⟨k+1,aT (gG e20) z,rfl,rfl,⟨by omega,by rw[y2,y4,hz];omega,by rw[y2];omega⟩,by omega⟩
  ·have y6:k=x.length:=by omega
   rw[y6,aTG] at hz;apply et1
   ·(rw[bS (by omega)];omega)
abbrev aBN (x:aU)(m:Int):Prop:=Cn 24 [.agg [.sl 142 3 (x.tables.map aS)],.one (.int .i64 m)] (vI (aT (bL x) m)) []
theorem aO8 (x:aU)(m:Int)(hf:aDi x)(h0:0<=m)(h1:m<=1048576):aBN x m:=by
 refine cq Tryz.func24 (.call (vI (aT (lA x.tables) m)) []<| .br (.fin []) (.fin [])) (p:=Lx (x.tables.map aS)<| aFP x.tables m/\Br ((aT (lA x.tables) m)<0) ((-1:Int)=(aT (bL x) m)/\True) ((aT (lA x.tables) m)=(aT (bL x) m)/\True)) (by kernel_rfl) ?_;refine lx fun n0=>?_;have f_tables:=hf;have hmx:maxLen=9223372036854775807:=rfl;refine⟨aSp x.tables _ (by assumption) (by omega) (by omega),dd (fun c0=>?_) fun c0=>?_⟩
 ·have y0:=jO c0;apply et1
  ·unfold bL;(rw[cM (by omega)];done)
 ·have y0:=iY c0;rw[bS y0] at*;apply et1
  ·unfold bL;(rw[bS (by omega)];done)
abbrev aLJ (x:dC)(m:Int):Prop:=Cn 61 [.agg [.str x.name,.sl 3 1 (x.vars.map intD)],.one (.int .i64 m)] (vI (aT (jW x) m)) []
theorem aX6 (x:dC)(m:Int)(hf:aTz x)(h0:0<=m)(h1:m<=1048576):aLJ x m:=by
 refine cq Tryz.func61 (.br (.fin []) (.call (vI (aT (cE x.vars) (m - (x.name.size:Int)))) []<| .br (.fin []) (.fin []))) (p:=Lx (x.vars.map intD)<| bJ (m - (x.name.size:Int))/\Br ((m - (x.name.size:Int))<0) ((-1:Int)=(aT (jW x) m)/\True) (rB x.vars (m - (x.name.size:Int))/\Br ((aT (cE x.vars) (m - (x.name.size:Int)))<0) ((-1:Int)=(aT (jW x) m)/\True) ((aT (cE x.vars) (m - (x.name.size:Int)))=(aT (jW x) m)/\True))) (by kernel_rfl) ?_;refine lx fun n0=>?_;obtain⟨f_name,f_vars⟩:=hf;have hmx:maxLen=9223372036854775807:=rfl;have g_name:x.name.size<=maxLen:=f_name;refine⟨⟨by omega,by omega⟩,dd (fun c0=>?_) fun c0=>?_⟩
 ·apply et1
  ·unfold jW;(rw[cM (by omega)];done)
 ·refine⟨aD0 x.vars _ (by assumption) (by omega) (by omega),dd (fun c1=>?_) fun c1=>?_⟩
  ·have y1:=jO c1;apply et1
   ·unfold jW;(rw[cM (by omega)];done)
  ·have y1:=iY c1;rw[bS y1] at*;apply et1
   ·unfold jW;(rw[bS (by omega)];omega)
abbrev aIi (x:List dC)(m:Int):Prop:=Cn 28 [.one (.sl 125 2 (x.map bF)),.one (.int .i64 m)] (vI (aT (jB x) m)) []
theorem aVu (x:List dC)(m:Int)(hf:aL9 x)(h0:0<=m)(h1:m<=1048576):aIi x m:=by
 refine cq Tryz.func28 (.len x.length<| .br (.fin []) (.loop (Nat × Int) (Q2 Nat Int) ([1,5]++rg 12 14) [] (fun yy0=>[(5,vI (yy0.1:Int)),(1,vI yy0.2)]) (fun yy0=>[]) (fun yy0=>yy0.1<=x.length/\yy0.2=m - x.length - (fD jW (x.take yy0.1):Nat)/\0<=yy0.2) (fun yy0=>x.length - yy0.1) (fun yy0=> .len x.length<| .br (.elem _ bF x (fun e20=> .call (vI (aT (jW e20) yy0.2)) []<| .br (.fin []) (.back []))) (.fin [])))) (p:=Lx (x.map bF)<| Lm bF x/\(bJ (m - (x.length:Int))/\Br ((m - (x.length:Int))<0) ((-1:Int)=(aT (jB x) m)/\True) ((∃(k:Nat) (z:Int),0=(k:Int)/\(m - (x.length:Int))=z/\k<=x.length/\z=m - x.length - (fD jW (x.take k):Nat)/\0<=z)/\ ∀(k:Nat) (z:Int),(k<=x.length/\z=m - x.length - (fD jW (x.take k):Nat)/\0<=z)->Lm bF x/\Br ((k:Int)<(x.length:Int)) (0<=(k:Int)/\Em bF x k fun e20=>aLJ e20 z/\Br ((aT (jW e20) z)<0) ((-1:Int)=(aT (jB x) m)/\True) (bJ ((k:Int)+1)/\ ∃(k' :Nat) (z' :Int),((k:Int)+1)=(k' :Int)/\(aT (jW e20) z)=z' /\(k' <=x.length/\z' =m - x.length - (fD jW (x.take k'):Nat)/\0<=z')/\x.length - k' <x.length - k)) (z=(aT (jB x) m)/\True)))) (by kernel_rfl) ?_;refine lx fun n0=>?_;have hS:jB x=x.length+fD jW x:=rfl;refine⟨aAq _,⟨by omega,by omega⟩,dd (fun c0=>?_) fun c0=>?_⟩
 ·apply et1
  ·(rw[cM (by omega)];done)
 ·refine⟨⟨0,m - (x.length:Int),rfl,rfl,aBn _,by simp[fD],by omega⟩,fun k z ⟨hk,hz,hz0⟩=>?_⟩;refine⟨aAq _,dd (fun c1=>?_) fun c1=>?_⟩
  ·obtain⟨y,hy⟩:=dB (l:=x) (k:=k) (by omega);have hfy:=hf y (aCX hy);refine⟨by omega,rfl,by omega,fun e20 h20=>?_⟩;obtain rfl:=aX hy h20;refine⟨aX6 e20 _ (by assumption) (by omega) (by omega),dd (fun c2=>?_) fun c2=>?_⟩
   ·have y3:=jO c2;have y4:=gS jW ‹x[k]? =some _›;have y5:=uZ jW x (k+1);apply et1
    ·(rw[cM (by omega)];done)
   ·have y2:=bS (iY c2);have y3:=iY c2;have y4:=gS jW ‹x[k]? =some _›;refine⟨⟨by omega,by omega⟩,?_⟩;exact⟨k+1,aT (jW e20) z,rfl,rfl,⟨by omega,by rw[y2,y4,hz];omega,by rw[y2];omega⟩,by omega⟩
  ·have y6:k=x.length:=by omega
   rw[y6,aTG] at hz;apply et1
   ·(rw[bS (by omega)];omega)
abbrev aIj (x:QueryD)(m:Int):Prop:=Cn 7 [.agg [.int .i64 x.variableCount,.sl 125 2 (x.atoms.map bF)],.one (.int .i64 m)] (vI (aT (fR x) m)) []
theorem aVv (x:QueryD)(m:Int)(hf:aPD x)(h0:0<=m)(h1:m<=1048576):aIj x m:=by
 refine cq Tryz.func7 (.call (vI (aT (jB x.atoms) m)) []<| .br (.fin []) (.fin [])) (p:=Lx (x.atoms.map bF)<| aIi x.atoms m/\Br ((aT (jB x.atoms) m)<0) ((-1:Int)=(aT (fR x) m)/\True) ((aT (jB x.atoms) m)=(aT (fR x) m)/\True)) (by kernel_rfl) ?_;refine lx fun n0=>?_;obtain⟨f_variableCount,f_atoms⟩:=hf;have hmx:maxLen=9223372036854775807:=rfl;refine⟨aVu x.atoms _ (by assumption) (by omega) (by omega),dd (fun c0=>?_) fun c0=>?_⟩
 ·have y0:=jO c0;apply et1
  ·unfold fR;(rw[cM (by omega)];done)
 ·have y0:=iY c0;rw[bS y0] at*;apply et1
  ·unfold fR;(rw[bS (by omega)];done)
abbrev xG (x:aR)(m:Int):Prop:=Cn 215 [.agg [.sl 3 1 (x.columns.map intD),.sl 91 1 (x.values.map aC),.sl 3 1 (x.counts.map intD)],.one (.int .i64 m)] (vI (aT (bW x) m)) []
theorem aJY (x:aR)(m:Int)(hf:yL x)(h0:0<=m)(h1:m<=1048576):xG x m:=by
 refine cq Tryz.func215 (.call (vI (aT (cE x.columns) m)) []<| .br (.fin []) (.call (vI (aT (cR x.values) (aT (cE x.columns) m))) []<| .br (.fin []) (.call (vI (aT (cE x.counts) (aT (cR x.values) (aT (cE x.columns) m)))) []<| .br (.fin []) (.fin [])))) (p:=Lx (x.columns.map intD)<| Lx (x.values.map aC)<| Lx (x.counts.map intD)<| rB x.columns m/\Br ((aT (cE x.columns) m)<0) ((-1:Int)=(aT (bW x) m)/\True) (aCV x.values (aT (cE x.columns) m)/\Br ((aT (cR x.values) (aT (cE x.columns) m))<0) ((-1:Int)=(aT (bW x) m)/\True) (rB x.counts (aT (cR x.values) (aT (cE x.columns) m))/\Br ((aT (cE x.counts) (aT (cR x.values) (aT (cE x.columns) m)))<0) ((-1:Int)=(aT (bW x) m)/\True) ((aT (cE x.counts) (aT (cR x.values) (aT (cE x.columns) m)))=(aT (bW x) m)/\True)))) (by kernel_rfl) ?_;refine lx fun n0=>lx fun n1=>lx fun n2=>?_;obtain⟨f_columns,f_values,f_counts⟩:=hf;have hmx:maxLen=9223372036854775807:=rfl;refine⟨aD0 x.columns _ (by assumption) (by omega) (by omega),dd (fun c0=>?_) fun c0=>?_⟩
 ·have y0:=jO c0;apply et1
  ·unfold bW;(rw[cM (by omega)];done)
 ·have y0:=iY c0;rw[bS y0] at*;refine⟨aO7 x.values _ (by assumption) (by omega) (by omega),dd (fun c1=>?_) fun c1=>?_⟩
  ·have y1:=jO c1;apply et1
   ·unfold bW;(rw[cM (by omega)];done)
  ·have y1:=iY c1;rw[bS y1] at*;refine⟨aD0 x.counts _ (by assumption) (by omega) (by omega),dd (fun c2=>?_) fun c2=>?_⟩
   ·have y2:=jO c2;apply et1
    ·unfold bW;(rw[cM (by omega)];done)
   ·have y2:=iY c2;rw[bS y2] at*;apply et1
    ·unfold bW;(rw[bS (by omega)];omega)
abbrev uU (x:List aR)(m:Int):Prop:=Cn 172 [.one (.sl 220 3 (x.map aD)),.one (.int .i64 m)] (vI (aT (dN x) m)) []
theorem aIk (x:List aR)(m:Int)(hf:qL x)(h0:0<=m)(h1:m<=1048576):uU x m:=by
 refine cq Tryz.func172 (.len x.length<| .br (.fin []) (.loop (Nat × Int) (Q2 Nat Int) ([1,5]++rg 12 14) [] (fun yy0=>[(5,vI (yy0.1:Int)),(1,vI yy0.2)]) (fun yy0=>[]) (fun yy0=>yy0.1<=x.length/\yy0.2=m - x.length - (fD bW (x.take yy0.1):Nat)/\0<=yy0.2) (fun yy0=>x.length - yy0.1) (fun yy0=> .len x.length<| .br (.elem _ aD x (fun e20=> .call (vI (aT (bW e20) yy0.2)) []<| .br (.fin []) (.back []))) (.fin [])))) (p:=Lx (x.map aD)<| Lm aD x/\(bJ (m - (x.length:Int))/\Br ((m - (x.length:Int))<0) ((-1:Int)=(aT (dN x) m)/\True) ((∃(k:Nat) (z:Int),0=(k:Int)/\(m - (x.length:Int))=z/\k<=x.length/\z=m - x.length - (fD bW (x.take k):Nat)/\0<=z)/\ ∀(k:Nat) (z:Int),(k<=x.length/\z=m - x.length - (fD bW (x.take k):Nat)/\0<=z)->Lm aD x/\Br ((k:Int)<(x.length:Int)) (0<=(k:Int)/\Em aD x k fun e20=>xG e20 z/\Br ((aT (bW e20) z)<0) ((-1:Int)=(aT (dN x) m)/\True) (bJ ((k:Int)+1)/\ ∃(k' :Nat) (z' :Int),((k:Int)+1)=(k' :Int)/\(aT (bW e20) z)=z' /\(k' <=x.length/\z' =m - x.length - (fD bW (x.take k'):Nat)/\0<=z')/\x.length - k' <x.length - k)) (z=(aT (dN x) m)/\True)))) (by kernel_rfl) ?_;refine lx fun n0=>?_;have hS:dN x=x.length+fD bW x:=rfl;refine⟨aAq _,⟨by omega,by omega⟩,dd (fun c0=>?_) fun c0=>?_⟩
 ·apply et1
  ·(rw[cM (by omega)];done)
 ·refine⟨⟨0,m - (x.length:Int),rfl,rfl,aBn _,by simp[fD],by omega⟩,fun k z ⟨hk,hz,hz0⟩=>?_⟩;refine⟨aAq _,dd (fun c1=>?_) fun c1=>?_⟩
  ·obtain⟨y,hy⟩:=dB (l:=x) (k:=k) (by omega);have hfy:=hf y (aCX hy);refine⟨by omega,rfl,by omega,fun e20 h20=>?_⟩;obtain rfl:=aX hy h20;refine⟨aJY e20 _ (by assumption) (by omega) (by omega),dd (fun c2=>?_) fun c2=>?_⟩
   ·have y3:=jO c2;have y4:=gS bW ‹x[k]? =some _›;have y5:=uZ bW x (k+1);apply et1
    ·(rw[cM (by omega)];done)
   ·have y2:=bS (iY c2);have y3:=iY c2;have y4:=gS bW ‹x[k]? =some _›;refine⟨⟨by omega,by omega⟩,?_⟩;exact⟨k+1,aT (bW e20) z,rfl,rfl,⟨by omega,by rw[y2,y4,hz];omega,by rw[y2];omega⟩,by omega⟩
  ·have y6:k=x.length:=by omega
   rw[y6,aTG] at hz;apply et1
   ·(rw[bS (by omega)];omega)
abbrev xH (x:aM)(m:Int):Prop:=Cn 114 [.agg [.str x.name,.int .i64 x.arity,.int .i64 x.rowCount,.sl 220 3 (x.groups.map aD)],.one (.int .i64 m)] (vI (aT (bH x) m)) []
theorem aJZ (x:aM)(m:Int)(hf:yM x)(h0:0<=m)(h1:m<=1048576):xH x m:=by
 refine cq Tryz.func114 (.br (.fin []) (.call (vI (aT (dN x.groups) (m - (x.name.size:Int)))) []<| .br (.fin []) (.fin []))) (p:=Lx (x.groups.map aD)<| bJ (m - (x.name.size:Int))/\Br ((m - (x.name.size:Int))<0) ((-1:Int)=(aT (bH x) m)/\True) (uU x.groups (m - (x.name.size:Int))/\Br ((aT (dN x.groups) (m - (x.name.size:Int)))<0) ((-1:Int)=(aT (bH x) m)/\True) ((aT (dN x.groups) (m - (x.name.size:Int)))=(aT (bH x) m)/\True))) (by kernel_rfl) ?_;refine lx fun n0=>?_;obtain⟨f_name,f_arity,f_rowCount,f_groups⟩:=hf;have hmx:maxLen=9223372036854775807:=rfl;have g_name:x.name.size<=maxLen:=f_name;refine⟨⟨by omega,by omega⟩,dd (fun c0=>?_) fun c0=>?_⟩
 ·apply et1
  ·unfold bH;(rw[cM (by omega)];done)
 ·refine⟨aIk x.groups _ (by assumption) (by omega) (by omega),dd (fun c1=>?_) fun c1=>?_⟩
  ·have y1:=jO c1;apply et1
   ·unfold bH;(rw[cM (by omega)];done)
  ·have y1:=iY c1;rw[bS y1] at*;apply et1
   ·unfold bH;(rw[bS (by omega)];omega)
abbrev uV (x:List aM)(m:Int):Prop:=Cn 58 [.one (.sl 88 4 (x.map aF)),.one (.int .i64 m)] (vI (aT (dW x) m)) []
theorem aIl (x:List aM)(m:Int)(hf:qM x)(h0:0<=m)(h1:m<=1048576):uV x m:=by
 refine cq Tryz.func58 (.len x.length<| .br (.fin []) (.loop (Nat × Int) (Q2 Nat Int) ([1,5]++rg 12 14) [] (fun yy0=>[(5,vI (yy0.1:Int)),(1,vI yy0.2)]) (fun yy0=>[]) (fun yy0=>yy0.1<=x.length/\yy0.2=m - x.length - (fD bH (x.take yy0.1):Nat)/\0<=yy0.2) (fun yy0=>x.length - yy0.1) (fun yy0=> .len x.length<| .br (.elem _ aF x (fun e20=> .call (vI (aT (bH e20) yy0.2)) []<| .br (.fin []) (.back []))) (.fin [])))) (p:=Lx (x.map aF)<| Lm aF x/\(bJ (m - (x.length:Int))/\Br ((m - (x.length:Int))<0) ((-1:Int)=(aT (dW x) m)/\True) ((∃(k:Nat) (z:Int),0=(k:Int)/\(m - (x.length:Int))=z/\k<=x.length/\z=m - x.length - (fD bH (x.take k):Nat)/\0<=z)/\ ∀(k:Nat) (z:Int),(k<=x.length/\z=m - x.length - (fD bH (x.take k):Nat)/\0<=z)->Lm aF x/\Br ((k:Int)<(x.length:Int)) (0<=(k:Int)/\Em aF x k fun e20=>xH e20 z/\Br ((aT (bH e20) z)<0) ((-1:Int)=(aT (dW x) m)/\True) (bJ ((k:Int)+1)/\ ∃(k' :Nat) (z' :Int),((k:Int)+1)=(k' :Int)/\(aT (bH e20) z)=z' /\(k' <=x.length/\z' =m - x.length - (fD bH (x.take k'):Nat)/\0<=z')/\x.length - k' <x.length - k)) (z=(aT (dW x) m)/\True)))) (by kernel_rfl) ?_;refine lx fun n0=>?_;have hS:dW x=x.length+fD bH x:=rfl;refine⟨aAq _,⟨by omega,by omega⟩,dd (fun c0=>?_) fun c0=>?_⟩
 ·apply et1
  ·(rw[cM (by omega)];done)
 ·refine⟨⟨0,m - (x.length:Int),rfl,rfl,aBn _,by simp[fD],by omega⟩,fun k z ⟨hk,hz,hz0⟩=>?_⟩;refine⟨aAq _,dd (fun c1=>?_) fun c1=>?_⟩
  ·obtain⟨y,hy⟩:=dB (l:=x) (k:=k) (by omega);have hfy:=hf y (aCX hy);refine⟨by omega,rfl,by omega,fun e20 h20=>?_⟩;obtain rfl:=aX hy h20;refine⟨aJZ e20 _ (by assumption) (by omega) (by omega),dd (fun c2=>?_) fun c2=>?_⟩
   ·have y3:=jO c2;have y4:=gS bH ‹x[k]? =some _›;have y5:=uZ bH x (k+1);apply et1
    ·(rw[cM (by omega)];done)
   ·have y2:=bS (iY c2);have y3:=iY c2;have y4:=gS bH ‹x[k]? =some _›;refine⟨⟨by omega,by omega⟩,?_⟩;exact⟨k+1,aT (bH e20) z,rfl,rfl,⟨by omega,by rw[y2,y4,hz];omega,by rw[y2];omega⟩,by omega⟩
  ·have y6:k=x.length:=by omega
   rw[y6,aTG] at hz;apply et1
   ·(rw[bS (by omega)];omega)
abbrev aAZ (x:cI)(m:Int):Prop:=Cn 25 [.agg [.int .i64 x.version,.sl 88 4 (x.tables.map aF)],.one (.int .i64 m)] (vI (aT (bQ x) m)) []
theorem aML (x:cI)(m:Int)(hf:aB2 x)(h0:0<=m)(h1:m<=1048576):aAZ x m:=by
 refine cq Tryz.func25 (.call (vI (aT (dW x.tables) m)) []<| .br (.fin []) (.fin [])) (p:=Lx (x.tables.map aF)<| uV x.tables m/\Br ((aT (dW x.tables) m)<0) ((-1:Int)=(aT (bQ x) m)/\True) ((aT (dW x.tables) m)=(aT (bQ x) m)/\True)) (by kernel_rfl) ?_;refine lx fun n0=>?_;obtain⟨f_version,f_tables⟩:=hf;have hmx:maxLen=9223372036854775807:=rfl;refine⟨aIl x.tables _ (by assumption) (by omega) (by omega),dd (fun c0=>?_) fun c0=>?_⟩
 ·have y0:=jO c0;apply et1
  ·unfold bQ;(rw[cM (by omega)];done)
 ·have y0:=iY c0;rw[bS y0] at*;apply et1
  ·unfold bQ;(rw[bS (by omega)];done)
abbrev xI (x:bB)(m:Int):Prop:=Cn 59 [.agg [.str x.name,.sl 3 1 (x.src.map intD),.int .i64 x.dst],.one (.int .i64 m)] (vI (aT (dA x) m)) []
theorem aJ0 (x:bB)(m:Int)(hf:yN x)(h0:0<=m)(h1:m<=1048576):xI x m:=by
 refine cq Tryz.func59 (.br (.fin []) (.call (vI (aT (cE x.src) (m - (x.name.size:Int)))) []<| .br (.fin []) (.fin []))) (p:=Lx (x.src.map intD)<| bJ (m - (x.name.size:Int))/\Br ((m - (x.name.size:Int))<0) ((-1:Int)=(aT (dA x) m)/\True) (rB x.src (m - (x.name.size:Int))/\Br ((aT (cE x.src) (m - (x.name.size:Int)))<0) ((-1:Int)=(aT (dA x) m)/\True) ((aT (cE x.src) (m - (x.name.size:Int)))=(aT (dA x) m)/\True))) (by kernel_rfl) ?_;refine lx fun n0=>?_;obtain⟨f_name,f_src,f_dst⟩:=hf;have hmx:maxLen=9223372036854775807:=rfl;have g_name:x.name.size<=maxLen:=f_name;refine⟨⟨by omega,by omega⟩,dd (fun c0=>?_) fun c0=>?_⟩
 ·apply et1
  ·unfold dA;(rw[cM (by omega)];done)
 ·refine⟨aD0 x.src _ (by assumption) (by omega) (by omega),dd (fun c1=>?_) fun c1=>?_⟩
  ·have y1:=jO c1;apply et1
   ·unfold dA;(rw[cM (by omega)];done)
  ·have y1:=iY c1;rw[bS y1] at*;apply et1
   ·unfold dA;(rw[bS (by omega)];omega)
abbrev uW (x:List bB)(m:Int):Prop:=Cn 26 [.one (.sl 121 3 (x.map aN)),.one (.int .i64 m)] (vI (aT (bT x) m)) []
theorem aIm (x:List bB)(m:Int)(hf:qN x)(h0:0<=m)(h1:m<=1048576):uW x m:=by
 refine cq Tryz.func26 (.len x.length<| .br (.fin []) (.loop (Nat × Int) (Q2 Nat Int) ([1,5]++rg 12 14) [] (fun yy0=>[(5,vI (yy0.1:Int)),(1,vI yy0.2)]) (fun yy0=>[]) (fun yy0=>yy0.1<=x.length/\yy0.2=m - x.length - (fD dA (x.take yy0.1):Nat)/\0<=yy0.2) (fun yy0=>x.length - yy0.1) (fun yy0=> .len x.length<| .br (.elem _ aN x (fun e20=> .call (vI (aT (dA e20) yy0.2)) []<| .br (.fin []) (.back []))) (.fin [])))) (p:=Lx (x.map aN)<| Lm aN x/\(bJ (m - (x.length:Int))/\Br ((m - (x.length:Int))<0) ((-1:Int)=(aT (bT x) m)/\True) ((∃(k:Nat) (z:Int),0=(k:Int)/\(m - (x.length:Int))=z/\k<=x.length/\z=m - x.length - (fD dA (x.take k):Nat)/\0<=z)/\ ∀(k:Nat) (z:Int),(k<=x.length/\z=m - x.length - (fD dA (x.take k):Nat)/\0<=z)->Lm aN x/\Br ((k:Int)<(x.length:Int)) (0<=(k:Int)/\Em aN x k fun e20=>xI e20 z/\Br ((aT (dA e20) z)<0) ((-1:Int)=(aT (bT x) m)/\True) (bJ ((k:Int)+1)/\ ∃(k' :Nat) (z' :Int),((k:Int)+1)=(k' :Int)/\(aT (dA e20) z)=z' /\(k' <=x.length/\z' =m - x.length - (fD dA (x.take k'):Nat)/\0<=z')/\x.length - k' <x.length - k)) (z=(aT (bT x) m)/\True)))) (by kernel_rfl) ?_;refine lx fun n0=>?_;have hS:bT x=x.length+fD dA x:=rfl;refine⟨aAq _,⟨by omega,by omega⟩,dd (fun c0=>?_) fun c0=>?_⟩
 ·apply et1
  ·(rw[cM (by omega)];done)
 ·refine⟨⟨0,m - (x.length:Int),rfl,rfl,aBn _,by simp[fD],by omega⟩,fun k z ⟨hk,hz,hz0⟩=>?_⟩;refine⟨aAq _,dd (fun c1=>?_) fun c1=>?_⟩
  ·obtain⟨y,hy⟩:=dB (l:=x) (k:=k) (by omega);have hfy:=hf y (aCX hy);refine⟨by omega,rfl,by omega,fun e20 h20=>?_⟩;obtain rfl:=aX hy h20;refine⟨aJ0 e20 _ (by assumption) (by omega) (by omega),dd (fun c2=>?_) fun c2=>?_⟩
   ·have y3:=jO c2;have y4:=gS dA ‹x[k]? =some _›;have y5:=uZ dA x (k+1);apply et1
    ·(rw[cM (by omega)];done)
   ·have y2:=bS (iY c2);have y3:=iY c2;have y4:=gS dA ‹x[k]? =some _›;refine⟨⟨by omega,by omega⟩,?_⟩;exact⟨k+1,aT (dA e20) z,rfl,rfl,⟨by omega,by rw[y2,y4,hz];omega,by rw[y2];omega⟩,by omega⟩
  ·have y6:k=x.length:=by omega
   rw[y6,aTG] at hz;apply et1
   ·(rw[bS (by omega)];omega)
abbrev aA0 (x:bA)(m:Int):Prop:=Cn 60 [.agg [.str x.name,.int .i64 x.column,.str x.into,.int .i64 x.intoColumn],.one (.int .i64 m)] (vI (aT (dL x) m)) []
theorem aMM (x:bA)(m:Int)(hf:aB3 x)(h0:0<=m)(h1:m<=1048576):aA0 x m:=by
 refine cq Tryz.func60 (.br (.fin []) (.br (.fin []) (.fin []))) (p:=bJ (m - (x.name.size:Int))/\Br ((m - (x.name.size:Int))<0) ((-1:Int)=(aT (dL x) m)/\True) (bJ ((m - (x.name.size:Int)) - (x.into.size:Int))/\Br (((m - (x.name.size:Int)) - (x.into.size:Int))<0) ((-1:Int)=(aT (dL x) m)/\True) (((m - (x.name.size:Int)) - (x.into.size:Int))=(aT (dL x) m)/\True))) (by kernel_rfl) ?_;obtain⟨f_name,f_column,f_into,f_intoColumn⟩:=hf;have hmx:maxLen=9223372036854775807:=rfl;have g_name:x.name.size<=maxLen:=f_name;have g_into:x.into.size<=maxLen:=f_into;refine⟨⟨by omega,by omega⟩,dd (fun c0=>?_) fun c0=>?_⟩
 ·apply et1
  ·unfold dL;(rw[cM (by omega)];done)
 ·refine⟨⟨by omega,by omega⟩,dd (fun c1=>?_) fun c1=>?_⟩
  ·apply et1
   ·unfold dL;(rw[cM (by omega)];done)
  ·apply et1
   ·unfold dL;(rw[bS (by omega)];omega)
abbrev xJ (x:List bA)(m:Int):Prop:=Cn 27 [.one (.sl 123 4 (x.map aQ)),.one (.int .i64 m)] (vI (aT (cF x) m)) []
theorem aJ1 (x:List bA)(m:Int)(hf:sQ x)(h0:0<=m)(h1:m<=1048576):xJ x m:=by
 refine cq Tryz.func27 (.len x.length<| .br (.fin []) (.loop (Nat × Int) (Q2 Nat Int) ([1,5]++rg 12 14) [] (fun yy0=>[(5,vI (yy0.1:Int)),(1,vI yy0.2)]) (fun yy0=>[]) (fun yy0=>yy0.1<=x.length/\yy0.2=m - x.length - (fD dL (x.take yy0.1):Nat)/\0<=yy0.2) (fun yy0=>x.length - yy0.1) (fun yy0=> .len x.length<| .br (.elem _ aQ x (fun e20=> .call (vI (aT (dL e20) yy0.2)) []<| .br (.fin []) (.back []))) (.fin [])))) (p:=Lx (x.map aQ)<| Lm aQ x/\(bJ (m - (x.length:Int))/\Br ((m - (x.length:Int))<0) ((-1:Int)=(aT (cF x) m)/\True) ((∃(k:Nat) (z:Int),0=(k:Int)/\(m - (x.length:Int))=z/\k<=x.length/\z=m - x.length - (fD dL (x.take k):Nat)/\0<=z)/\ ∀(k:Nat) (z:Int),(k<=x.length/\z=m - x.length - (fD dL (x.take k):Nat)/\0<=z)->Lm aQ x/\Br ((k:Int)<(x.length:Int)) (0<=(k:Int)/\Em aQ x k fun e20=>aA0 e20 z/\Br ((aT (dL e20) z)<0) ((-1:Int)=(aT (cF x) m)/\True) (bJ ((k:Int)+1)/\ ∃(k' :Nat) (z' :Int),((k:Int)+1)=(k' :Int)/\(aT (dL e20) z)=z' /\(k' <=x.length/\z' =m - x.length - (fD dL (x.take k'):Nat)/\0<=z')/\x.length - k' <x.length - k)) (z=(aT (cF x) m)/\True)))) (by kernel_rfl) ?_;refine lx fun n0=>?_;have hS:cF x=x.length+fD dL x:=rfl;refine⟨aAq _,⟨by omega,by omega⟩,dd (fun c0=>?_) fun c0=>?_⟩
 ·apply et1
  ·(rw[cM (by omega)];done)
 ·refine⟨⟨0,m - (x.length:Int),rfl,rfl,aBn _,by simp[fD],by omega⟩,fun k z ⟨hk,hz,hz0⟩=>?_⟩;refine⟨aAq _,dd (fun c1=>?_) fun c1=>?_⟩
  ·obtain⟨y,hy⟩:=dB (l:=x) (k:=k) (by omega);have hfy:=hf y (aCX hy);refine⟨by omega,rfl,by omega,fun e20 h20=>?_⟩;obtain rfl:=aX hy h20;refine⟨aMM e20 _ (by assumption) (by omega) (by omega),dd (fun c2=>?_) fun c2=>?_⟩
   ·have y3:=jO c2;have y4:=gS dL ‹x[k]? =some _›;have y5:=uZ dL x (k+1);apply et1
    ·(rw[cM (by omega)];done)
   ·have y2:=bS (iY c2);have y3:=iY c2;have y4:=gS dL ‹x[k]? =some _›;refine⟨⟨by omega,by omega⟩,?_⟩;exact⟨k+1,aT (dL e20) z,rfl,rfl,⟨by omega,by rw[y2,y4,hz];omega,by rw[y2];omega⟩,by omega⟩
  ·have y6:k=x.length:=by omega
   rw[y6,aTG] at hz;apply et1
   ·(rw[bS (by omega)];omega)
abbrev aIn (x:StoreD)(m:Int):Prop:=Cn 6 [.agg [.sl 142 3 (x.database.tables.map aS),.int .i64 x.catalogue.version,.sl 88 4 (x.catalogue.tables.map aF),.sl 121 3 (x.dependencies.map aN),.sl 123 4 (x.inclusions.map aQ)],.one (.int .i64 m)] (vI (aT (dD x) m)) []
theorem aVw (x:StoreD)(m:Int)(hf:aPF x)(h0:0<=m)(h1:m<=1048576):aIn x m:=by
 refine cq Tryz.func6 (.call (vI (aT (bL x.database) m)) []<| .br (.fin []) (.call (vI (aT (bQ x.catalogue) (aT (bL x.database) m))) []<| .br (.fin []) (.call (vI (aT (bT x.dependencies) (aT (bQ x.catalogue) (aT (bL x.database) m)))) []<| .br (.fin []) (.call (vI (aT (cF x.inclusions) (aT (bT x.dependencies) (aT (bQ x.catalogue) (aT (bL x.database) m))))) []<| .br (.fin []) (.fin []))))) (p:=Lx (x.database.tables.map aS)<| Lx (x.catalogue.tables.map aF)<| Lx (x.dependencies.map aN)<| Lx (x.inclusions.map aQ)<| aBN x.database m/\Br ((aT (bL x.database) m)<0) ((-1:Int)=(aT (dD x) m)/\True) (aAZ x.catalogue (aT (bL x.database) m)/\Br ((aT (bQ x.catalogue) (aT (bL x.database) m))<0) ((-1:Int)=(aT (dD x) m)/\True) (uW x.dependencies (aT (bQ x.catalogue) (aT (bL x.database) m))/\Br ((aT (bT x.dependencies) (aT (bQ x.catalogue) (aT (bL x.database) m)))<0) ((-1:Int)=(aT (dD x) m)/\True) (xJ x.inclusions (aT (bT x.dependencies) (aT (bQ x.catalogue) (aT (bL x.database) m)))/\Br ((aT (cF x.inclusions) (aT (bT x.dependencies) (aT (bQ x.catalogue) (aT (bL x.database) m))))<0) ((-1:Int)=(aT (dD x) m)/\True) ((aT (cF x.inclusions) (aT (bT x.dependencies) (aT (bQ x.catalogue) (aT (bL x.database) m))))=(aT (dD x) m)/\True))))) (by kernel_rfl) ?_;refine lx fun n0=>lx fun n1=>lx fun n2=>lx fun n3=>?_;obtain⟨f_database,f_catalogue,f_dependencies,f_inclusions⟩:=hf;have hmx:maxLen=9223372036854775807:=rfl;refine⟨aO8 x.database _ (by assumption) (by omega) (by omega),dd (fun c0=>?_) fun c0=>?_⟩
 ·have y0:=jO c0;apply et1
  ·unfold dD;(rw[cM (by omega)];done)
 ·have y0:=iY c0;rw[bS y0] at*;refine⟨aML x.catalogue _ (by assumption) (by omega) (by omega),dd (fun c1=>?_) fun c1=>?_⟩
  ·have y1:=jO c1;apply et1
   ·unfold dD;(rw[cM (by omega)];done)
  ·have y1:=iY c1;rw[bS y1] at*;refine⟨aIm x.dependencies _ (by assumption) (by omega) (by omega),dd (fun c2=>?_) fun c2=>?_⟩
   ·have y2:=jO c2;apply et1
    ·unfold dD;(rw[cM (by omega)];done)
   ·have y2:=iY c2;rw[bS y2] at*;refine⟨aJ1 x.inclusions _ (by assumption) (by omega) (by omega),dd (fun c3=>?_) fun c3=>?_⟩
    ·have y3:=jO c3;apply et1
     ·unfold dD;(rw[cM (by omega)];done)
    ·have y3:=iY c3;rw[bS y3] at*;apply et1
     ·unfold dD;(rw[bS (by omega)];omega)
theorem lawEntropySizeBound (a0:StoreD)(a1:QueryD)(a2:Int)(h0:aPF a0)(h1:aPD a1)(h2:Fits a2):qJ Tryz.prog 4 [.agg [.sl 142 3 (a0.database.tables.map aS),.int .i64 a0.catalogue.version,.sl 88 4 (a0.catalogue.tables.map aF),.sl 121 3 (a0.dependencies.map aN),.sl 123 4 (a0.inclusions.map aQ)],.agg [.int .i64 a1.variableCount,.sl 125 2 (a1.atoms.map bF)],.one (.int .i64 a2)] (vB true) []:=by
 refine cq Tryz.func4 (.call (vI (aT (dD a0) (1048576:Int))) []<| .br (.fin []) (.call (vI (aT (fR a1) (aT (dD a0) (1048576:Int)))) []<| .br (.fin []) (bI (sF a0)<| bI (sC a1)<| .call (vI (lS a0 a1 a2)) []<| bI (sF a0)<| bI (sC a1)<| .call (vI (lS a0 a1 a2)) []<| .no<| bI (sF a0)<| .call (vB true) []<| bI (sC a1)<| .call (vB true) []<| .fin []))) (p:=Lx (a0.database.tables.map aS)<| Lx (a0.catalogue.tables.map aF)<| Lx (a0.dependencies.map aN)<| Lx (a0.inclusions.map aQ)<| Lx (a1.atoms.map bF)<| aIn a0 (1048576:Int)/\Br ((aT (dD a0) (1048576:Int))<0) ((true)=true/\True) (aIj a1 (aT (dD a0) (1048576:Int))/\Br ((aT (fR a1) (aT (dD a0) (1048576:Int)))<0) ((true)=true/\True) (wS a0/\wR a1/\aDX a0 a1 a2/\wS a0/\wR a1/\aDW a0 a1 a2/\(!(decide ((lS a0 a1 a2)=(lS a0 a1 a2))))=false/\wS a0/\aIg a0/\wR a1/\aIb a1/\(true)=true/\True))) (by kernel_rfl) ?_;refine lx fun n0=>lx fun n1=>lx fun n2=>lx fun n3=>lx fun n4=>?_;refine⟨aVw a0 _ (by assumption) (by omega) (by omega),dd (fun c0=>?_) fun c0=>?_⟩
 ·apply et1
  ·rfl
 ·try (have y0:=iY c0;try rw[bS y0] at*)
  refine⟨aVv a1 _ (by assumption) (by omega) (by omega),dd (fun c1=>?_) fun c1=>?_⟩
  ·apply et1
   ·rfl
  ·try (have y1:=iY c1;try rw[bS y1] at*)
   refine⟨aI9 a0 (by omega),aI5 a1 (by omega),aPr a0 a1 a2 (by omega) (by omega),aI9 a0 (by omega),aI5 a1 (by omega),aPq a0 a1 a2 (by omega) (by omega),by (simp;done),aI9 a0 (by omega),by exact aVs a0,aI5 a1 (by omega),by exact aVr a1,?_,trivial⟩
   ·rfl
end Go.Proofs.YtlidmoeecphbmaaGreat
namespace Go.Proofs.YtlidmoeecphbmaaGreat
open Go.ChangeShapes Go.WideShapes Go.ChangeAt Go.RowKit
set_option linter.unusedVariables false
set_option linter.unusedSimpArgs false
set_option maxRecDepth 100000
set_option maxHeartbeats 4000000
def aVx:Rd (List Int):=fun w cs l=>iU (Lv w) w (aC l) cs/\aET l
theorem aA1 {H:Type}{enc:TypeId × Value->H}{w:World}{base:Nat}{spare:Nat->Bool}{held:Bool}{fuel:Nat}{cs:List Value}{x:DataW H × List MemPlace}(h:DataW.trod enc Tryz.prog w base spare held fuel 91 cs=some x): ∃l,aVx w cs l:=by
 obtain⟨l,hl⟩:=lE (k:=1) (R:=aQv) Tryz.underlying91 (by kernel_rfl) (by omega) (fun _ _ _ h=>trod_int Tryz.underlying3 h) h;have hf:aET l:=hl.all_ (fun _ _ _ h=>h.2);obtain⟨A,c,rfl,_⟩:=id hl;exact⟨l,eM (pN (R:=aQv) (enc:=intD) (fun cs x h=>by obtain⟨rfl,_⟩:=h;exact eM rdV_int iC) hl) iC,hf⟩
def aZF:Rd (List (List Int)):=fun w cs l=>iU (Lv w) w (aYo l) cs/\aG8 l
theorem aLK {H:Type}{enc:TypeId × Value->H}{w:World}{base:Nat}{spare:Nat->Bool}{held:Bool}{fuel:Nat}{cs:List Value}{x:DataW H × List MemPlace}(h:DataW.trod enc Tryz.prog w base spare held fuel 92 cs=some x): ∃l,aZF w cs l:=by
 obtain⟨l,hl⟩:=lE (k:=1) (R:=aVx) Tryz.underlying92 (by kernel_rfl) (by omega) (fun _ _ _ h=>aA1 h) h;have hf:aG8 l:=hl.all_ (fun _ _ _ h=>h.2);obtain⟨A,c,rfl,_⟩:=id hl;exact⟨l,eM (pN (R:=aVx) (enc:=aC) (fun cs x h=>h.1) hl) iC,hf⟩
def aPt:Rd aY:=fun w cs x=>iU (Lv w) w (aS x) cs/\aPC x
set_option maxRecDepth 100000 in
theorem aSq {H:Type}{enc:TypeId × Value->H}{w:World}{base:Nat}{spare:Nat->Bool}{held:Bool}{fuel:Nat}{cs:List Value}{x:DataW H × List MemPlace}(h:DataW.trod enc Tryz.prog w base spare held fuel 165 cs=some x): ∃b,aPt w cs b:=by
 obtain⟨xs,n,_,_,hl,hxl,hf⟩:=DataW.trod_struct Tryz.underlying165 h;have hl2:cs.length=3:=hl.trans (by kernel_rfl)
 match cs,hl2 with
 | [c0,c1,c2],_=>
   match xs,hxl with
   | [y0,y1,y2],_=>
     obtain⟨l0,r0⟩:=tN Tryz.underlying9 (hf 0 _ rfl);obtain⟨l1,r1⟩:=trod_int Tryz.underlying3 (hf 1 _ rfl);obtain⟨l2,r2,f2⟩:=aLK (hf 2 _ rfl);exact⟨⟨l0,l1,l2⟩,(eM (rdS r0) (eM (rdI r1) (iU.append r2 iC))),r0.2,r1.2,f2⟩
def aX7:Rd (List aY):=fun w cs l=>iU (Lv w) w (aWq l) cs/\aFd l
theorem aPu {H:Type}{enc:TypeId × Value->H}{w:World}{base:Nat}{spare:Nat->Bool}{held:Bool}{fuel:Nat}{cs:List Value}{x:DataW H × List MemPlace}(h:DataW.trod enc Tryz.prog w base spare held fuel 22 cs=some x): ∃l,aX7 w cs l:=by
 obtain⟨l,hl⟩:=lE (k:=3) (R:=aPt) Tryz.underlying22 (by kernel_rfl) (by omega) (fun _ _ _ h=>aSq h) h;have hf:aFd l:=hl.all_ (fun _ _ _ h=>h.2);obtain⟨A,c,rfl,_⟩:=id hl;exact⟨l,eM (pN (R:=aPt) (enc:=aS) (fun cs x h=>h.1) hl) iC,hf⟩
def aSr:Rd aU:=fun w cs x=>iU (Lv w) w (aR5 x) cs/\aDi x
set_option maxRecDepth 100000 in
theorem aMN {H:Type}{enc:TypeId × Value->H}{w:World}{base:Nat}{spare:Nat->Bool}{held:Bool}{fuel:Nat}{cs:List Value}{x:DataW H × List MemPlace}(h:DataW.trod enc Tryz.prog w base spare held fuel 24 cs=some x): ∃b,aSr w cs b:=by
 obtain⟨xs,n,_,_,hl,hxl,hf⟩:=DataW.trod_struct Tryz.underlying24 h;have hl2:cs.length=1:=hl.trans (by kernel_rfl)
 match cs,hl2 with
 | [c0],_=>
   match xs,hxl with
   | [y0],_=>
     obtain⟨l0,r0,f0⟩:=aPu (hf 0 _ rfl);exact⟨⟨l0⟩,(iU.append r0 iC),f0⟩
def aVy:Rd dC:=fun w cs x=>iU (Lv w) w (bF x) cs/\aTz x
set_option maxRecDepth 100000 in
theorem aVz {H:Type}{enc:TypeId × Value->H}{w:World}{base:Nat}{spare:Nat->Bool}{held:Bool}{fuel:Nat}{cs:List Value}{x:DataW H × List MemPlace}(h:DataW.trod enc Tryz.prog w base spare held fuel 118 cs=some x): ∃b,aVy w cs b:=by
 obtain⟨xs,n,_,_,hl,hxl,hf⟩:=DataW.trod_struct Tryz.underlying118 h;have hl2:cs.length=2:=hl.trans (by kernel_rfl)
 match cs,hl2 with
 | [c0,c1],_=>
   match xs,hxl with
   | [y0,y1],_=>
     obtain⟨l0,r0⟩:=tN Tryz.underlying9 (hf 0 _ rfl);obtain⟨l1,r1,f1⟩:=aA1 (hf 1 _ rfl);exact⟨⟨l0,l1⟩,(eM (rdS r0) (iU.append r1 iC)),r0.2,f1⟩
def aZG:Rd (List dC):=fun w cs l=>iU (Lv w) w (aYp l) cs/\aL9 l
theorem aSs {H:Type}{enc:TypeId × Value->H}{w:World}{base:Nat}{spare:Nat->Bool}{held:Bool}{fuel:Nat}{cs:List Value}{x:DataW H × List MemPlace}(h:DataW.trod enc Tryz.prog w base spare held fuel 32 cs=some x): ∃l,aZG w cs l:=by
 obtain⟨l,hl⟩:=lE (k:=2) (R:=aVy) Tryz.underlying32 (by kernel_rfl) (by omega) (fun _ _ _ h=>aVz h) h;have hf:aL9 l:=hl.all_ (fun _ _ _ h=>h.2);obtain⟨A,c,rfl,_⟩:=id hl;exact⟨l,eM (pN (R:=aVy) (enc:=bF) (fun cs x h=>h.1) hl) iC,hf⟩
def RQuery:Rd QueryD:=fun w cs x=>iU (Lv w) w (aYq x) cs/\aPD x
set_option maxRecDepth 100000 in
theorem openQuery {H:Type}{enc:TypeId × Value->H}{w:World}{base:Nat}{spare:Nat->Bool}{held:Bool}{fuel:Nat}{cs:List Value}{x:DataW H × List MemPlace}(h:DataW.trod enc Tryz.prog w base spare held fuel 34 cs=some x): ∃b,RQuery w cs b:=by
 obtain⟨xs,n,_,_,hl,hxl,hf⟩:=DataW.trod_struct Tryz.underlying34 h;have hl2:cs.length=2:=hl.trans (by kernel_rfl)
 match cs,hl2 with
 | [c0,c1],_=>
   match xs,hxl with
   | [y0,y1],_=>
     obtain⟨l0,r0⟩:=trod_int Tryz.underlying3 (hf 0 _ rfl);obtain⟨l1,r1,f1⟩:=aSs (hf 1 _ rfl);exact⟨⟨l0,l1⟩,(eM (rdI r0) (iU.append r1 iC)),r0.2,f1⟩
def aA2:Rd aR:=fun w cs x=>iU (Lv w) w (aD x) cs/\yL x
set_option maxRecDepth 100000 in
theorem aIo {H:Type}{enc:TypeId × Value->H}{w:World}{base:Nat}{spare:Nat->Bool}{held:Bool}{fuel:Nat}{cs:List Value}{x:DataW H × List MemPlace}(h:DataW.trod enc Tryz.prog w base spare held fuel 233 cs=some x): ∃b,aA2 w cs b:=by
 obtain⟨xs,n,_,_,hl,hxl,hf⟩:=DataW.trod_struct Tryz.underlying233 h;have hl2:cs.length=3:=hl.trans (by kernel_rfl)
 match cs,hl2 with
 | [c0,c1,c2],_=>
   match xs,hxl with
   | [y0,y1,y2],_=>
     obtain⟨l0,r0,f0⟩:=aA1 (hf 0 _ rfl);obtain⟨l1,r1,f1⟩:=aLK (hf 1 _ rfl);obtain⟨l2,r2,f2⟩:=aA1 (hf 2 _ rfl);exact⟨⟨l0,l1,l2⟩,(iU.append r0 (iU.append r1 (iU.append r2 iC))),f0,f1,f2⟩
def aMO:Rd (List aR):=fun w cs l=>iU (Lv w) w (aLa l) cs/\qL l
theorem aF4 {H:Type}{enc:TypeId × Value->H}{w:World}{base:Nat}{spare:Nat->Bool}{held:Bool}{fuel:Nat}{cs:List Value}{x:DataW H × List MemPlace}(h:DataW.trod enc Tryz.prog w base spare held fuel 167 cs=some x): ∃l,aMO w cs l:=by
 obtain⟨l,hl⟩:=lE (k:=3) (R:=aA2) Tryz.underlying167 (by kernel_rfl) (by omega) (fun _ _ _ h=>aIo h) h;have hf:qL l:=hl.all_ (fun _ _ _ h=>h.2);obtain⟨A,c,rfl,_⟩:=id hl;exact⟨l,eM (pN (R:=aA2) (enc:=aD) (fun cs x h=>h.1) hl) iC,hf⟩
def aA3:Rd aM:=fun w cs x=>iU (Lv w) w (aF x) cs/\yM x
set_option maxRecDepth 100000 in
theorem aIp {H:Type}{enc:TypeId × Value->H}{w:World}{base:Nat}{spare:Nat->Bool}{held:Bool}{fuel:Nat}{cs:List Value}{x:DataW H × List MemPlace}(h:DataW.trod enc Tryz.prog w base spare held fuel 169 cs=some x): ∃b,aA3 w cs b:=by
 obtain⟨xs,n,_,_,hl,hxl,hf⟩:=DataW.trod_struct Tryz.underlying169 h;have hl2:cs.length=4:=hl.trans (by kernel_rfl)
 match cs,hl2 with
 | [c0,c1,c2,c3],_=>
   match xs,hxl with
   | [y0,y1,y2,y3],_=>
     obtain⟨l0,r0⟩:=tN Tryz.underlying9 (hf 0 _ rfl);obtain⟨l1,r1⟩:=trod_int Tryz.underlying3 (hf 1 _ rfl);obtain⟨l2,r2⟩:=trod_int Tryz.underlying3 (hf 2 _ rfl);obtain⟨l3,r3,f3⟩:=aF4 (hf 3 _ rfl);exact⟨⟨l0,l1,l2,l3⟩,(eM (rdS r0) (eM (rdI r1) (eM (rdI r2) (iU.append r3 iC)))),r0.2,r1.2,r2.2,f3⟩
def aMP:Rd (List aM):=fun w cs l=>iU (Lv w) w (aLb l) cs/\qM l
theorem aF5 {H:Type}{enc:TypeId × Value->H}{w:World}{base:Nat}{spare:Nat->Bool}{held:Bool}{fuel:Nat}{cs:List Value}{x:DataW H × List MemPlace}(h:DataW.trod enc Tryz.prog w base spare held fuel 25 cs=some x): ∃l,aMP w cs l:=by
 obtain⟨l,hl⟩:=lE (k:=4) (R:=aA3) Tryz.underlying25 (by kernel_rfl) (by omega) (fun _ _ _ h=>aIp h) h;have hf:qM l:=hl.all_ (fun _ _ _ h=>h.2);obtain⟨A,c,rfl,_⟩:=id hl;exact⟨l,eM (pN (R:=aA3) (enc:=aF) (fun cs x h=>h.1) hl) iC,hf⟩
def aPv:Rd cI:=fun w cs x=>iU (Lv w) w (aPE x) cs/\aB2 x
set_option maxRecDepth 100000 in
theorem aJ2 {H:Type}{enc:TypeId × Value->H}{w:World}{base:Nat}{spare:Nat->Bool}{held:Bool}{fuel:Nat}{cs:List Value}{x:DataW H × List MemPlace}(h:DataW.trod enc Tryz.prog w base spare held fuel 27 cs=some x): ∃b,aPv w cs b:=by
 obtain⟨xs,n,_,_,hl,hxl,hf⟩:=DataW.trod_struct Tryz.underlying27 h;have hl2:cs.length=2:=hl.trans (by kernel_rfl)
 match cs,hl2 with
 | [c0,c1],_=>
   match xs,hxl with
   | [y0,y1],_=>
     obtain⟨l0,r0⟩:=trod_int Tryz.underlying3 (hf 0 _ rfl);obtain⟨l1,r1,f1⟩:=aF5 (hf 1 _ rfl);exact⟨⟨l0,l1⟩,(eM (rdI r0) (iU.append r1 iC)),r0.2,f1⟩
def aA4:Rd bB:=fun w cs x=>iU (Lv w) w (aN x) cs/\yN x
set_option maxRecDepth 100000 in
theorem aIq {H:Type}{enc:TypeId × Value->H}{w:World}{base:Nat}{spare:Nat->Bool}{held:Bool}{fuel:Nat}{cs:List Value}{x:DataW H × List MemPlace}(h:DataW.trod enc Tryz.prog w base spare held fuel 112 cs=some x): ∃b,aA4 w cs b:=by
 obtain⟨xs,n,_,_,hl,hxl,hf⟩:=DataW.trod_struct Tryz.underlying112 h;have hl2:cs.length=3:=hl.trans (by kernel_rfl)
 match cs,hl2 with
 | [c0,c1,c2],_=>
   match xs,hxl with
   | [y0,y1,y2],_=>
     obtain⟨l0,r0⟩:=tN Tryz.underlying9 (hf 0 _ rfl);obtain⟨l1,r1,f1⟩:=aA1 (hf 1 _ rfl);obtain⟨l2,r2⟩:=trod_int Tryz.underlying3 (hf 2 _ rfl);exact⟨⟨l0,l1,l2⟩,(eM (rdS r0) (iU.append r1 (eM (rdI r2) iC))),r0.2,f1,r2.2⟩
def aMQ:Rd (List bB):=fun w cs l=>iU (Lv w) w (aLc l) cs/\qN l
theorem aF6 {H:Type}{enc:TypeId × Value->H}{w:World}{base:Nat}{spare:Nat->Bool}{held:Bool}{fuel:Nat}{cs:List Value}{x:DataW H × List MemPlace}(h:DataW.trod enc Tryz.prog w base spare held fuel 28 cs=some x): ∃l,aMQ w cs l:=by
 obtain⟨l,hl⟩:=lE (k:=3) (R:=aA4) Tryz.underlying28 (by kernel_rfl) (by omega) (fun _ _ _ h=>aIq h) h;have hf:qN l:=hl.all_ (fun _ _ _ h=>h.2);obtain⟨A,c,rfl,_⟩:=id hl;exact⟨l,eM (pN (R:=aA4) (enc:=aN) (fun cs x h=>h.1) hl) iC,hf⟩
def aCW:Rd bA:=fun w cs x=>iU (Lv w) w (aQ x) cs/\aB3 x
set_option maxRecDepth 100000 in
theorem aJ3 {H:Type}{enc:TypeId × Value->H}{w:World}{base:Nat}{spare:Nat->Bool}{held:Bool}{fuel:Nat}{cs:List Value}{x:DataW H × List MemPlace}(h:DataW.trod enc Tryz.prog w base spare held fuel 115 cs=some x): ∃b,aCW w cs b:=by
 obtain⟨xs,n,_,_,hl,hxl,hf⟩:=DataW.trod_struct Tryz.underlying115 h;have hl2:cs.length=4:=hl.trans (by kernel_rfl)
 match cs,hl2 with
 | [c0,c1,c2,c3],_=>
   match xs,hxl with
   | [y0,y1,y2,y3],_=>
     obtain⟨l0,r0⟩:=tN Tryz.underlying9 (hf 0 _ rfl);obtain⟨l1,r1⟩:=trod_int Tryz.underlying3 (hf 1 _ rfl);obtain⟨l2,r2⟩:=tN Tryz.underlying9 (hf 2 _ rfl);obtain⟨l3,r3⟩:=trod_int Tryz.underlying3 (hf 3 _ rfl);exact⟨⟨l0,l1,l2,l3⟩,(eM (rdS r0) (eM (rdI r1) (eM (rdS r2) (eM (rdI r3) iC)))),r0.2,r1.2,r2.2,r3.2⟩
def aO9:Rd (List bA):=fun w cs l=>iU (Lv w) w (aMz l) cs/\sQ l
theorem aIr {H:Type}{enc:TypeId × Value->H}{w:World}{base:Nat}{spare:Nat->Bool}{held:Bool}{fuel:Nat}{cs:List Value}{x:DataW H × List MemPlace}(h:DataW.trod enc Tryz.prog w base spare held fuel 29 cs=some x): ∃l,aO9 w cs l:=by
 obtain⟨l,hl⟩:=lE (k:=4) (R:=aCW) Tryz.underlying29 (by kernel_rfl) (by omega) (fun _ _ _ h=>aJ3 h) h;have hf:sQ l:=hl.all_ (fun _ _ _ h=>h.2);obtain⟨A,c,rfl,_⟩:=id hl;exact⟨l,eM (pN (R:=aCW) (enc:=aQ) (fun cs x h=>h.1) hl) iC,hf⟩
def RStore:Rd StoreD:=fun w cs x=>iU (Lv w) w (aYr x) cs/\aPF x
set_option maxRecDepth 100000 in
theorem openStore {H:Type}{enc:TypeId × Value->H}{w:World}{base:Nat}{spare:Nat->Bool}{held:Bool}{fuel:Nat}{cs:List Value}{x:DataW H × List MemPlace}(h:DataW.trod enc Tryz.prog w base spare held fuel 31 cs=some x): ∃b,RStore w cs b:=by
 obtain⟨xs,n,_,_,hl,hxl,hf⟩:=DataW.trod_struct Tryz.underlying31 h;have hl2:cs.length=5:=hl.trans (by kernel_rfl)
 match cs,hl2 with
 | [c0,c1,c2,c3,c4],_=>
   match xs,hxl with
   | [y0,y1,y2,y3],_=>
     obtain⟨l0,r0,f0⟩:=aMN (hf 0 _ rfl);obtain⟨l1,r1,f1⟩:=aJ2 (hf 1 _ rfl);obtain⟨l2,r2,f2⟩:=aF6 (hf 2 _ rfl);obtain⟨l3,r3,f3⟩:=aIr (hf 3 _ rfl);exact⟨⟨l0,l1,l2,l3⟩,(iU.append r0 (iU.append r1 (iU.append r2 (iU.append r3 iC)))),f0,f1,f2,f3⟩
end Go.Proofs.YtlidmoeecphbmaaGreat
namespace Go.Proofs.YtlidmoeecphbmaaGreat
open Go.ChangeShapes Go.WideShapes Go.ChangeAt Go.RowKit
set_option linter.unusedVariables false
set_option linter.unusedSimpArgs false
set_option maxRecDepth 100000
set_option maxHeartbeats 4000000
theorem fr_own:ownKnob Tryz.prog.godebug=none:=by kernel_rfl
theorem fr_laid:laidOutB Tryz.prog=true:=by kernel_rfl
theorem fr_maps:mapsRowed Tryz.prog=true:=by kernel_rfl
theorem fr_stops:(Tryz.prog.stops== [])=true:=by kernel_rfl
theorem fr_sk:(Tryz.prog.stopKnobs== [])=true:=by kernel_rfl
theorem fr_heard:Tryz.prog.stopsHeard=true:=by kernel_rfl
theorem fr_enter:Tryz.prog.mayEnter=true:=by kernel_rfl
theorem fr_keys:(Rows.fnExactEntropyBoundRow.plainKeys==Tryz.prog.plainKeys)=true:=by kernel_rfl
theorem fr_lifts:(Rows.fnExactEntropyBoundRow.lifted==Tryz.prog.liftsFinal)=true:=by kernel_rfl
theorem fr_make:(Tryz.prog.make==some Rows.fnExactEntropyBoundRow.make)=true:=by kernel_rfl
end Go.Proofs.YtlidmoeecphbmaaGreat
