/-
  Contracts and plain laws, joined: part 27.
-/
import Derived.Test.YtlidmoeecphbmaaGreates3
import Derived.Test.YtlidmoeecphbmaaGreates23
import Derived.Test.YtlidmoeecphbmaaGreates16
import Derived.Test.YtlidmoeecphbmaaGreates17
import Derived.Test.YtlidmoeecphbmaaGreates24
import Derived.Test.YtlidmoeecphbmaaGreates25
namespace Go.Proofs.YtlidmoeecphbmaaGreat
open Go.ChangeShapes Go.WideShapes Go.ChangeAt Go.RowKit
set_option linter.unusedVariables false
set_option linter.unusedSimpArgs false
set_option maxRecDepth 100000
set_option maxHeartbeats 4000000
abbrev tF (x:List Int)(m:Int):Prop:=Cn 115 [.one (.sl 3 1 (x.map intD)),.one (.int .i64 m)] (vI (aW (cD x) m)) []
theorem aEl (x:List Int)(m:Int)(hf:aFe x)(h0:0<=m)(h1:m<=1048576):tF x m:=by
 refine cq Tryz.func115 (.len x.length<| .br (.fin []) (.fin [])) (p:=Lx (x.map intD)<| Lm intD x/\bK (m - (x.length:Int))/\Br ((m - (x.length:Int))<0) ((-1:Int)=(aW (cD x) m)/\True) ((m - (x.length:Int))=(aW (cD x) m)/\True)) (by kernel_rfl) ?_;refine lx fun n0=>?_;refine⟨aAH _,⟨by omega,by omega⟩,dd (fun c0=>?_) fun c0=>?_⟩
 ·apply et1
  ·unfold cD;(rw[cP (by omega)];done)
 ·apply et1
  ·unfold cD;(rw[bV (by omega)];done)
abbrev aDb (x:List (List Int))(m:Int):Prop:=Cn 171 [.one (.sl 91 1 (x.map aE)),.one (.int .i64 m)] (vI (aW (cM x) m)) []
theorem aPz (x:List (List Int))(m:Int)(hf:aHy x)(h0:0<=m)(h1:m<=1048576):aDb x m:=by
 refine cq Tryz.func171 (.len x.length<| .br (.fin []) (.loop (Nat × Int) (Q2 Nat Int) ([1,5]++rg 12 14) [] (fun yy0=>[(5,vI (yy0.1:Int)),(1,vI yy0.2)]) (fun yy0=>[]) (fun yy0=>yy0.1<=x.length/\yy0.2=m - x.length - (bU cD (x.take yy0.1):Nat)/\0<=yy0.2) (fun yy0=>x.length - yy0.1) (fun yy0=> .len x.length<| .br (.elem _ aE x (fun e20=> .call (vI (aW (cD e20) yy0.2)) []<| .br (.fin []) (.back []))) (.fin [])))) (p:=Lx (x.map aE)<| Lm aE x/\(bK (m - (x.length:Int))/\Br ((m - (x.length:Int))<0) ((-1:Int)=(aW (cM x) m)/\True) ((∃(k:Nat) (z:Int),0=(k:Int)/\(m - (x.length:Int))=z/\k<=x.length/\z=m - x.length - (bU cD (x.take k):Nat)/\0<=z)/\ ∀(k:Nat) (z:Int),(k<=x.length/\z=m - x.length - (bU cD (x.take k):Nat)/\0<=z)->Lm aE x/\Br ((k:Int)<(x.length:Int)) (0<=(k:Int)/\Em aE x k fun e20=>tF e20 z/\Br ((aW (cD e20) z)<0) ((-1:Int)=(aW (cM x) m)/\True) (bK ((k:Int)+1)/\ ∃(k' :Nat) (z' :Int),((k:Int)+1)=(k' :Int)/\(aW (cD e20) z)=z' /\(k' <=x.length/\z' =m - x.length - (bU cD (x.take k'):Nat)/\0<=z')/\x.length - k' <x.length - k)) (z=(aW (cM x) m)/\True)))) (by kernel_rfl) ?_;refine lx fun n0=>?_;have hS:cM x=x.length+bU cD x:=rfl;refine⟨aAH _,⟨by omega,by omega⟩,dd (fun c0=>?_) fun c0=>?_⟩
 ·apply et1
  ·(rw[cP (by omega)];done)
 ·refine⟨⟨0,m - (x.length:Int),rfl,rfl,aDB _,by simp[bU],by omega⟩,fun k z ⟨hk,hz,hz0⟩=>?_⟩;refine⟨aAH _,dd (fun c1=>?_) fun c1=>?_⟩
  ·obtain⟨y,hy⟩:=cK (l:=x) (k:=k) (by omega);have hfy:=hf y (aDd hy);refine⟨by omega,rfl,by omega,fun e20 h20=>?_⟩;obtain rfl:=aY hy h20;refine⟨aEl e20 _ (by assumption) (by omega) (by omega),dd (fun c2=>?_) fun c2=>?_⟩
   ·have y3:=kP c2;have y4:=dE cD ‹x[k]? =some _›;have y5:=gE cD x (k+1);apply et1
    ·(rw[cP (by omega)];done)
   ·have y2:=bV (jW c2);have y3:=jW c2;have y4:=dE cD ‹x[k]? =some _›;refine⟨⟨by omega,by omega⟩,?_⟩;exact⟨k+1,aW (cD e20) z,rfl,rfl,⟨by omega,by rw[y2,y4,hz];omega,by rw[y2];omega⟩,by omega⟩
  ·have y6:k=x.length:=by omega
   rw[y6,aU0] at hz;apply et1
   ·(rw[bV (by omega)];omega)
abbrev aKH (x:aV)(m:Int):Prop:=Cn 113 [.agg [.str x.name,.int .i64 x.arity,.sl 91 1 (x.rows.map aE)],.one (.int .i64 m)] (vI (aW (fF x) m)) []
theorem aXZ (x:aV)(m:Int)(hf:aQ4 x)(h0:0<=m)(h1:m<=1048576):aKH x m:=by
 refine cq Tryz.func113 (.br (.fin []) (.call (vI (aW (cM x.rows) (m - (x.name.size:Int)))) []<| .br (.fin []) (.fin []))) (p:=Lx (x.rows.map aE)<| bK (m - (x.name.size:Int))/\Br ((m - (x.name.size:Int))<0) ((-1:Int)=(aW (fF x) m)/\True) (aDb x.rows (m - (x.name.size:Int))/\Br ((aW (cM x.rows) (m - (x.name.size:Int)))<0) ((-1:Int)=(aW (fF x) m)/\True) ((aW (cM x.rows) (m - (x.name.size:Int)))=(aW (fF x) m)/\True))) (by kernel_rfl) ?_;refine lx fun n0=>?_;obtain⟨f_name,f_arity,f_rows⟩:=hf;have hmx:maxLen=9223372036854775807:=rfl;have g_name:x.name.size<=maxLen:=f_name;refine⟨⟨by omega,by omega⟩,dd (fun c0=>?_) fun c0=>?_⟩
 ·apply et1
  ·unfold fF;(rw[cP (by omega)];done)
 ·refine⟨aPz x.rows _ (by assumption) (by omega) (by omega),dd (fun c1=>?_) fun c1=>?_⟩
  ·have y1:=kP c1;apply et1
   ·unfold fF;(rw[cP (by omega)];done)
  ·have y1:=jW c1;rw[bV y1] at*;apply et1
   ·unfold fF;(rw[bV (by omega)];omega)
abbrev aGc (x:List aV)(m:Int):Prop:=Cn 57 [.one (.sl 142 3 (x.map aS)),.one (.int .i64 m)] (vI (aW (jS x) m)) []
theorem aUT (x:List aV)(m:Int)(hf:aHA x)(h0:0<=m)(h1:m<=1048576):aGc x m:=by
 refine cq Tryz.func57 (.len x.length<| .br (.fin []) (.loop (Nat × Int) (Q2 Nat Int) ([1,5]++rg 12 14) [] (fun yy0=>[(5,vI (yy0.1:Int)),(1,vI yy0.2)]) (fun yy0=>[]) (fun yy0=>yy0.1<=x.length/\yy0.2=m - x.length - (bU fF (x.take yy0.1):Nat)/\0<=yy0.2) (fun yy0=>x.length - yy0.1) (fun yy0=> .len x.length<| .br (.elem _ aS x (fun e20=> .call (vI (aW (fF e20) yy0.2)) []<| .br (.fin []) (.back []))) (.fin [])))) (p:=Lx (x.map aS)<| Lm aS x/\(bK (m - (x.length:Int))/\Br ((m - (x.length:Int))<0) ((-1:Int)=(aW (jS x) m)/\True) ((∃(k:Nat) (z:Int),0=(k:Int)/\(m - (x.length:Int))=z/\k<=x.length/\z=m - x.length - (bU fF (x.take k):Nat)/\0<=z)/\ ∀(k:Nat) (z:Int),(k<=x.length/\z=m - x.length - (bU fF (x.take k):Nat)/\0<=z)->Lm aS x/\Br ((k:Int)<(x.length:Int)) (0<=(k:Int)/\Em aS x k fun e20=>aKH e20 z/\Br ((aW (fF e20) z)<0) ((-1:Int)=(aW (jS x) m)/\True) (bK ((k:Int)+1)/\ ∃(k' :Nat) (z' :Int),((k:Int)+1)=(k' :Int)/\(aW (fF e20) z)=z' /\(k' <=x.length/\z' =m - x.length - (bU fF (x.take k'):Nat)/\0<=z')/\x.length - k' <x.length - k)) (z=(aW (jS x) m)/\True)))) (by kernel_rfl) ?_;refine lx fun n0=>?_;have hS:jS x=x.length+bU fF x:=rfl;refine⟨aAH _,⟨by omega,by omega⟩,dd (fun c0=>?_) fun c0=>?_⟩
 ·apply et1
  ·(rw[cP (by omega)];done)
 ·refine⟨⟨0,m - (x.length:Int),rfl,rfl,aDB _,by simp[bU],by omega⟩,fun k z ⟨hk,hz,hz0⟩=>?_⟩;refine⟨aAH _,dd (fun c1=>?_) fun c1=>?_⟩
  ·obtain⟨y,hy⟩:=cK (l:=x) (k:=k) (by omega);have hfy:=hf y (aDd hy);refine⟨by omega,rfl,by omega,fun e20 h20=>?_⟩;obtain rfl:=aY hy h20;refine⟨aXZ e20 _ (by assumption) (by omega) (by omega),dd (fun c2=>?_) fun c2=>?_⟩
   ·have y3:=kP c2;have y4:=dE fF ‹x[k]? =some _›;have y5:=gE fF x (k+1);apply et1
    ·(rw[cP (by omega)];done)
   ·have y2:=bV (jW c2);have y3:=jW c2;have y4:=dE fF ‹x[k]? =some _›;refine⟨⟨by omega,by omega⟩,?_⟩;exact⟨k+1,aW (fF e20) z,rfl,rfl,⟨by omega,by rw[y2,y4,hz];omega,by rw[y2];omega⟩,by omega⟩
  ·have y6:k=x.length:=by omega
   rw[y6,aU0] at hz;apply et1
   ·(rw[bV (by omega)];omega)
abbrev aC2 (x:aX)(m:Int):Prop:=Cn 24 [.agg [.sl 142 3 (x.tables.map aS)],.one (.int .i64 m)] (vI (aW (bM x) m)) []
theorem aQA (x:aX)(m:Int)(hf:aFD x)(h0:0<=m)(h1:m<=1048576):aC2 x m:=by
 refine cq Tryz.func24 (.call (vI (aW (jS x.tables) m)) []<| .br (.fin []) (.fin [])) (p:=Lx (x.tables.map aS)<| aGc x.tables m/\Br ((aW (jS x.tables) m)<0) ((-1:Int)=(aW (bM x) m)/\True) ((aW (jS x.tables) m)=(aW (bM x) m)/\True)) (by kernel_rfl) ?_;refine lx fun n0=>?_;have f_tables:=hf;have hmx:maxLen=9223372036854775807:=rfl;refine⟨aUT x.tables _ (by assumption) (by omega) (by omega),dd (fun c0=>?_) fun c0=>?_⟩
 ·have y0:=kP c0;apply et1
  ·unfold bM;(rw[cP (by omega)];done)
 ·have y0:=jW c0;rw[bV y0] at*;apply et1
  ·unfold bM;(rw[bV (by omega)];done)
abbrev aMa (x:bX)(m:Int):Prop:=Cn 61 [.agg [.str x.name,.sl 3 1 (x.vars.map intD)],.one (.int .i64 m)] (vI (aW (iK x) m)) []
theorem aYz (x:bX)(m:Int)(hf:aV3 x)(h0:0<=m)(h1:m<=1048576):aMa x m:=by
 refine cq Tryz.func61 (.br (.fin []) (.call (vI (aW (cD x.vars) (m - (x.name.size:Int)))) []<| .br (.fin []) (.fin []))) (p:=Lx (x.vars.map intD)<| bK (m - (x.name.size:Int))/\Br ((m - (x.name.size:Int))<0) ((-1:Int)=(aW (iK x) m)/\True) (tF x.vars (m - (x.name.size:Int))/\Br ((aW (cD x.vars) (m - (x.name.size:Int)))<0) ((-1:Int)=(aW (iK x) m)/\True) ((aW (cD x.vars) (m - (x.name.size:Int)))=(aW (iK x) m)/\True))) (by kernel_rfl) ?_;refine lx fun n0=>?_;obtain⟨f_name,f_vars⟩:=hf;have hmx:maxLen=9223372036854775807:=rfl;have g_name:x.name.size<=maxLen:=f_name;refine⟨⟨by omega,by omega⟩,dd (fun c0=>?_) fun c0=>?_⟩
 ·apply et1
  ·unfold iK;(rw[cP (by omega)];done)
 ·refine⟨aEl x.vars _ (by assumption) (by omega) (by omega),dd (fun c1=>?_) fun c1=>?_⟩
  ·have y1:=kP c1;apply et1
   ·unfold iK;(rw[cP (by omega)];done)
  ·have y1:=jW c1;rw[bV y1] at*;apply et1
   ·unfold iK;(rw[bV (by omega)];omega)
abbrev aKI (x:List bX)(m:Int):Prop:=Cn 28 [.one (.sl 125 2 (x.map bB)),.one (.int .i64 m)] (vI (aW (jY x) m)) []
theorem aX0 (x:List bX)(m:Int)(hf:aNB x)(h0:0<=m)(h1:m<=1048576):aKI x m:=by
 refine cq Tryz.func28 (.len x.length<| .br (.fin []) (.loop (Nat × Int) (Q2 Nat Int) ([1,5]++rg 12 14) [] (fun yy0=>[(5,vI (yy0.1:Int)),(1,vI yy0.2)]) (fun yy0=>[]) (fun yy0=>yy0.1<=x.length/\yy0.2=m - x.length - (bU iK (x.take yy0.1):Nat)/\0<=yy0.2) (fun yy0=>x.length - yy0.1) (fun yy0=> .len x.length<| .br (.elem _ bB x (fun e20=> .call (vI (aW (iK e20) yy0.2)) []<| .br (.fin []) (.back []))) (.fin [])))) (p:=Lx (x.map bB)<| Lm bB x/\(bK (m - (x.length:Int))/\Br ((m - (x.length:Int))<0) ((-1:Int)=(aW (jY x) m)/\True) ((∃(k:Nat) (z:Int),0=(k:Int)/\(m - (x.length:Int))=z/\k<=x.length/\z=m - x.length - (bU iK (x.take k):Nat)/\0<=z)/\ ∀(k:Nat) (z:Int),(k<=x.length/\z=m - x.length - (bU iK (x.take k):Nat)/\0<=z)->Lm bB x/\Br ((k:Int)<(x.length:Int)) (0<=(k:Int)/\Em bB x k fun e20=>aMa e20 z/\Br ((aW (iK e20) z)<0) ((-1:Int)=(aW (jY x) m)/\True) (bK ((k:Int)+1)/\ ∃(k' :Nat) (z' :Int),((k:Int)+1)=(k' :Int)/\(aW (iK e20) z)=z' /\(k' <=x.length/\z' =m - x.length - (bU iK (x.take k'):Nat)/\0<=z')/\x.length - k' <x.length - k)) (z=(aW (jY x) m)/\True)))) (by kernel_rfl) ?_;refine lx fun n0=>?_;have hS:jY x=x.length+bU iK x:=rfl;refine⟨aAH _,⟨by omega,by omega⟩,dd (fun c0=>?_) fun c0=>?_⟩
 ·apply et1
  ·(rw[cP (by omega)];done)
 ·refine⟨⟨0,m - (x.length:Int),rfl,rfl,aDB _,by simp[bU],by omega⟩,fun k z ⟨hk,hz,hz0⟩=>?_⟩;refine⟨aAH _,dd (fun c1=>?_) fun c1=>?_⟩
  ·obtain⟨y,hy⟩:=cK (l:=x) (k:=k) (by omega);have hfy:=hf y (aDd hy);refine⟨by omega,rfl,by omega,fun e20 h20=>?_⟩;obtain rfl:=aY hy h20;refine⟨aYz e20 _ (by assumption) (by omega) (by omega),dd (fun c2=>?_) fun c2=>?_⟩
   ·have y3:=kP c2;have y4:=dE iK ‹x[k]? =some _›;have y5:=gE iK x (k+1);apply et1
    ·(rw[cP (by omega)];done)
   ·have y2:=bV (jW c2);have y3:=jW c2;have y4:=dE iK ‹x[k]? =some _›;refine⟨⟨by omega,by omega⟩,?_⟩;exact⟨k+1,aW (iK e20) z,rfl,rfl,⟨by omega,by rw[y2,y4,hz];omega,by rw[y2];omega⟩,by omega⟩
  ·have y6:k=x.length:=by omega
   rw[y6,aU0] at hz;apply et1
   ·(rw[bV (by omega)];omega)
abbrev aKJ (x:QueryD)(m:Int):Prop:=Cn 7 [.agg [.int .i64 x.variableCount,.sl 125 2 (x.atoms.map bB)],.one (.int .i64 m)] (vI (aW (iO x) m)) []
theorem aX1 (x:QueryD)(m:Int)(hf:aQ5 x)(h0:0<=m)(h1:m<=1048576):aKJ x m:=by
 refine cq Tryz.func7 (.call (vI (aW (jY x.atoms) m)) []<| .br (.fin []) (.fin [])) (p:=Lx (x.atoms.map bB)<| aKI x.atoms m/\Br ((aW (jY x.atoms) m)<0) ((-1:Int)=(aW (iO x) m)/\True) ((aW (jY x.atoms) m)=(aW (iO x) m)/\True)) (by kernel_rfl) ?_;refine lx fun n0=>?_;obtain⟨f_variableCount,f_atoms⟩:=hf;have hmx:maxLen=9223372036854775807:=rfl;refine⟨aX0 x.atoms _ (by assumption) (by omega) (by omega),dd (fun c0=>?_) fun c0=>?_⟩
 ·have y0:=kP c0;apply et1
  ·unfold iO;(rw[cP (by omega)];done)
 ·have y0:=jW c0;rw[bV y0] at*;apply et1
  ·unfold iO;(rw[bV (by omega)];done)
abbrev aAC (x:aI)(m:Int):Prop:=Cn 215 [.agg [.sl 3 1 (x.columns.map intD),.sl 91 1 (x.values.map aE),.sl 3 1 (x.counts.map intD)],.one (.int .i64 m)] (vI (aW (bP x) m)) []
theorem aKr (x:aI)(m:Int)(hf:aA8 x)(h0:0<=m)(h1:m<=1048576):aAC x m:=by
 refine cq Tryz.func215 (.call (vI (aW (cD x.columns) m)) []<| .br (.fin []) (.call (vI (aW (cM x.values) (aW (cD x.columns) m))) []<| .br (.fin []) (.call (vI (aW (cD x.counts) (aW (cM x.values) (aW (cD x.columns) m)))) []<| .br (.fin []) (.fin [])))) (p:=Lx (x.columns.map intD)<| Lx (x.values.map aE)<| Lx (x.counts.map intD)<| tF x.columns m/\Br ((aW (cD x.columns) m)<0) ((-1:Int)=(aW (bP x) m)/\True) (aDb x.values (aW (cD x.columns) m)/\Br ((aW (cM x.values) (aW (cD x.columns) m))<0) ((-1:Int)=(aW (bP x) m)/\True) (tF x.counts (aW (cM x.values) (aW (cD x.columns) m))/\Br ((aW (cD x.counts) (aW (cM x.values) (aW (cD x.columns) m)))<0) ((-1:Int)=(aW (bP x) m)/\True) ((aW (cD x.counts) (aW (cM x.values) (aW (cD x.columns) m)))=(aW (bP x) m)/\True)))) (by kernel_rfl) ?_;refine lx fun n0=>lx fun n1=>lx fun n2=>?_;obtain⟨f_columns,f_values,f_counts⟩:=hf;have hmx:maxLen=9223372036854775807:=rfl;refine⟨aEl x.columns _ (by assumption) (by omega) (by omega),dd (fun c0=>?_) fun c0=>?_⟩
 ·have y0:=kP c0;apply et1
  ·unfold bP;(rw[cP (by omega)];done)
 ·have y0:=jW c0;rw[bV y0] at*;refine⟨aPz x.values _ (by assumption) (by omega) (by omega),dd (fun c1=>?_) fun c1=>?_⟩
  ·have y1:=kP c1;apply et1
   ·unfold bP;(rw[cP (by omega)];done)
  ·have y1:=jW c1;rw[bV y1] at*;refine⟨aEl x.counts _ (by assumption) (by omega) (by omega),dd (fun c2=>?_) fun c2=>?_⟩
   ·have y2:=kP c2;apply et1
    ·unfold bP;(rw[cP (by omega)];done)
   ·have y2:=jW c2;rw[bV y2] at*;apply et1
    ·unfold bP;(rw[bV (by omega)];omega)
abbrev xP (x:List aI)(m:Int):Prop:=Cn 172 [.one (.sl 220 3 (x.map aC)),.one (.int .i64 m)] (vI (aW (dB x) m)) []
theorem aKK (x:List aI)(m:Int)(hf:sQ x)(h0:0<=m)(h1:m<=1048576):xP x m:=by
 refine cq Tryz.func172 (.len x.length<| .br (.fin []) (.loop (Nat × Int) (Q2 Nat Int) ([1,5]++rg 12 14) [] (fun yy0=>[(5,vI (yy0.1:Int)),(1,vI yy0.2)]) (fun yy0=>[]) (fun yy0=>yy0.1<=x.length/\yy0.2=m - x.length - (bU bP (x.take yy0.1):Nat)/\0<=yy0.2) (fun yy0=>x.length - yy0.1) (fun yy0=> .len x.length<| .br (.elem _ aC x (fun e20=> .call (vI (aW (bP e20) yy0.2)) []<| .br (.fin []) (.back []))) (.fin [])))) (p:=Lx (x.map aC)<| Lm aC x/\(bK (m - (x.length:Int))/\Br ((m - (x.length:Int))<0) ((-1:Int)=(aW (dB x) m)/\True) ((∃(k:Nat) (z:Int),0=(k:Int)/\(m - (x.length:Int))=z/\k<=x.length/\z=m - x.length - (bU bP (x.take k):Nat)/\0<=z)/\ ∀(k:Nat) (z:Int),(k<=x.length/\z=m - x.length - (bU bP (x.take k):Nat)/\0<=z)->Lm aC x/\Br ((k:Int)<(x.length:Int)) (0<=(k:Int)/\Em aC x k fun e20=>aAC e20 z/\Br ((aW (bP e20) z)<0) ((-1:Int)=(aW (dB x) m)/\True) (bK ((k:Int)+1)/\ ∃(k' :Nat) (z' :Int),((k:Int)+1)=(k' :Int)/\(aW (bP e20) z)=z' /\(k' <=x.length/\z' =m - x.length - (bU bP (x.take k'):Nat)/\0<=z')/\x.length - k' <x.length - k)) (z=(aW (dB x) m)/\True)))) (by kernel_rfl) ?_;refine lx fun n0=>?_;have hS:dB x=x.length+bU bP x:=rfl;refine⟨aAH _,⟨by omega,by omega⟩,dd (fun c0=>?_) fun c0=>?_⟩
 ·apply et1
  ·(rw[cP (by omega)];done)
 ·refine⟨⟨0,m - (x.length:Int),rfl,rfl,aDB _,by simp[bU],by omega⟩,fun k z ⟨hk,hz,hz0⟩=>?_⟩;refine⟨aAH _,dd (fun c1=>?_) fun c1=>?_⟩
  ·obtain⟨y,hy⟩:=cK (l:=x) (k:=k) (by omega);have hfy:=hf y (aDd hy);refine⟨by omega,rfl,by omega,fun e20 h20=>?_⟩;obtain rfl:=aY hy h20;refine⟨aKr e20 _ (by assumption) (by omega) (by omega),dd (fun c2=>?_) fun c2=>?_⟩
   ·have y3:=kP c2;have y4:=dE bP ‹x[k]? =some _›;have y5:=gE bP x (k+1);apply et1
    ·(rw[cP (by omega)];done)
   ·have y2:=bV (jW c2);have y3:=jW c2;have y4:=dE bP ‹x[k]? =some _›;refine⟨⟨by omega,by omega⟩,?_⟩;exact⟨k+1,aW (bP e20) z,rfl,rfl,⟨by omega,by rw[y2,y4,hz];omega,by rw[y2];omega⟩,by omega⟩
  ·have y6:k=x.length:=by omega
   rw[y6,aU0] at hz;apply et1
   ·(rw[bV (by omega)];omega)
abbrev aAD (x:aD)(m:Int):Prop:=Cn 114 [.agg [.str x.name,.int .i64 x.arity,.int .i64 x.rowCount,.sl 220 3 (x.groups.map aC)],.one (.int .i64 m)] (vI (aW (bD x) m)) []
theorem aKs (x:aD)(m:Int)(hf:aA9 x)(h0:0<=m)(h1:m<=1048576):aAD x m:=by
 refine cq Tryz.func114 (.br (.fin []) (.call (vI (aW (dB x.groups) (m - (x.name.size:Int)))) []<| .br (.fin []) (.fin []))) (p:=Lx (x.groups.map aC)<| bK (m - (x.name.size:Int))/\Br ((m - (x.name.size:Int))<0) ((-1:Int)=(aW (bD x) m)/\True) (xP x.groups (m - (x.name.size:Int))/\Br ((aW (dB x.groups) (m - (x.name.size:Int)))<0) ((-1:Int)=(aW (bD x) m)/\True) ((aW (dB x.groups) (m - (x.name.size:Int)))=(aW (bD x) m)/\True))) (by kernel_rfl) ?_;refine lx fun n0=>?_;obtain⟨f_name,f_arity,f_rowCount,f_groups⟩:=hf;have hmx:maxLen=9223372036854775807:=rfl;have g_name:x.name.size<=maxLen:=f_name;refine⟨⟨by omega,by omega⟩,dd (fun c0=>?_) fun c0=>?_⟩
 ·apply et1
  ·unfold bD;(rw[cP (by omega)];done)
 ·refine⟨aKK x.groups _ (by assumption) (by omega) (by omega),dd (fun c1=>?_) fun c1=>?_⟩
  ·have y1:=kP c1;apply et1
   ·unfold bD;(rw[cP (by omega)];done)
  ·have y1:=jW c1;rw[bV y1] at*;apply et1
   ·unfold bD;(rw[bV (by omega)];omega)
abbrev xQ (x:List aD)(m:Int):Prop:=Cn 58 [.one (.sl 88 4 (x.map aF)),.one (.int .i64 m)] (vI (aW (dM x) m)) []
theorem aKL (x:List aD)(m:Int)(hf:sR x)(h0:0<=m)(h1:m<=1048576):xQ x m:=by
 refine cq Tryz.func58 (.len x.length<| .br (.fin []) (.loop (Nat × Int) (Q2 Nat Int) ([1,5]++rg 12 14) [] (fun yy0=>[(5,vI (yy0.1:Int)),(1,vI yy0.2)]) (fun yy0=>[]) (fun yy0=>yy0.1<=x.length/\yy0.2=m - x.length - (bU bD (x.take yy0.1):Nat)/\0<=yy0.2) (fun yy0=>x.length - yy0.1) (fun yy0=> .len x.length<| .br (.elem _ aF x (fun e20=> .call (vI (aW (bD e20) yy0.2)) []<| .br (.fin []) (.back []))) (.fin [])))) (p:=Lx (x.map aF)<| Lm aF x/\(bK (m - (x.length:Int))/\Br ((m - (x.length:Int))<0) ((-1:Int)=(aW (dM x) m)/\True) ((∃(k:Nat) (z:Int),0=(k:Int)/\(m - (x.length:Int))=z/\k<=x.length/\z=m - x.length - (bU bD (x.take k):Nat)/\0<=z)/\ ∀(k:Nat) (z:Int),(k<=x.length/\z=m - x.length - (bU bD (x.take k):Nat)/\0<=z)->Lm aF x/\Br ((k:Int)<(x.length:Int)) (0<=(k:Int)/\Em aF x k fun e20=>aAD e20 z/\Br ((aW (bD e20) z)<0) ((-1:Int)=(aW (dM x) m)/\True) (bK ((k:Int)+1)/\ ∃(k' :Nat) (z' :Int),((k:Int)+1)=(k' :Int)/\(aW (bD e20) z)=z' /\(k' <=x.length/\z' =m - x.length - (bU bD (x.take k'):Nat)/\0<=z')/\x.length - k' <x.length - k)) (z=(aW (dM x) m)/\True)))) (by kernel_rfl) ?_;refine lx fun n0=>?_;have hS:dM x=x.length+bU bD x:=rfl;refine⟨aAH _,⟨by omega,by omega⟩,dd (fun c0=>?_) fun c0=>?_⟩
 ·apply et1
  ·(rw[cP (by omega)];done)
 ·refine⟨⟨0,m - (x.length:Int),rfl,rfl,aDB _,by simp[bU],by omega⟩,fun k z ⟨hk,hz,hz0⟩=>?_⟩;refine⟨aAH _,dd (fun c1=>?_) fun c1=>?_⟩
  ·obtain⟨y,hy⟩:=cK (l:=x) (k:=k) (by omega);have hfy:=hf y (aDd hy);refine⟨by omega,rfl,by omega,fun e20 h20=>?_⟩;obtain rfl:=aY hy h20;refine⟨aKs e20 _ (by assumption) (by omega) (by omega),dd (fun c2=>?_) fun c2=>?_⟩
   ·have y3:=kP c2;have y4:=dE bD ‹x[k]? =some _›;have y5:=gE bD x (k+1);apply et1
    ·(rw[cP (by omega)];done)
   ·have y2:=bV (jW c2);have y3:=jW c2;have y4:=dE bD ‹x[k]? =some _›;refine⟨⟨by omega,by omega⟩,?_⟩;exact⟨k+1,aW (bD e20) z,rfl,rfl,⟨by omega,by rw[y2,y4,hz];omega,by rw[y2];omega⟩,by omega⟩
  ·have y6:k=x.length:=by omega
   rw[y6,aU0] at hz;apply et1
   ·(rw[bV (by omega)];omega)
abbrev aBb (x:cA)(m:Int):Prop:=Cn 25 [.agg [.int .i64 x.version,.sl 88 4 (x.tables.map aF)],.one (.int .i64 m)] (vI (aW (bS x) m)) []
theorem aNh (x:cA)(m:Int)(hf:aCh x)(h0:0<=m)(h1:m<=1048576):aBb x m:=by
 refine cq Tryz.func25 (.call (vI (aW (dM x.tables) m)) []<| .br (.fin []) (.fin [])) (p:=Lx (x.tables.map aF)<| xQ x.tables m/\Br ((aW (dM x.tables) m)<0) ((-1:Int)=(aW (bS x) m)/\True) ((aW (dM x.tables) m)=(aW (bS x) m)/\True)) (by kernel_rfl) ?_;refine lx fun n0=>?_;obtain⟨f_version,f_tables⟩:=hf;have hmx:maxLen=9223372036854775807:=rfl;refine⟨aKL x.tables _ (by assumption) (by omega) (by omega),dd (fun c0=>?_) fun c0=>?_⟩
 ·have y0:=kP c0;apply et1
  ·unfold bS;(rw[cP (by omega)];done)
 ·have y0:=jW c0;rw[bV y0] at*;apply et1
  ·unfold bS;(rw[bV (by omega)];done)
abbrev aAE (x:aR)(m:Int):Prop:=Cn 59 [.agg [.str x.name,.sl 3 1 (x.src.map intD),.int .i64 x.dst],.one (.int .i64 m)] (vI (aW (cG x) m)) []
theorem aKt (x:aR)(m:Int)(hf:aAa x)(h0:0<=m)(h1:m<=1048576):aAE x m:=by
 refine cq Tryz.func59 (.br (.fin []) (.call (vI (aW (cD x.src) (m - (x.name.size:Int)))) []<| .br (.fin []) (.fin []))) (p:=Lx (x.src.map intD)<| bK (m - (x.name.size:Int))/\Br ((m - (x.name.size:Int))<0) ((-1:Int)=(aW (cG x) m)/\True) (tF x.src (m - (x.name.size:Int))/\Br ((aW (cD x.src) (m - (x.name.size:Int)))<0) ((-1:Int)=(aW (cG x) m)/\True) ((aW (cD x.src) (m - (x.name.size:Int)))=(aW (cG x) m)/\True))) (by kernel_rfl) ?_;refine lx fun n0=>?_;obtain⟨f_name,f_src,f_dst⟩:=hf;have hmx:maxLen=9223372036854775807:=rfl;have g_name:x.name.size<=maxLen:=f_name;refine⟨⟨by omega,by omega⟩,dd (fun c0=>?_) fun c0=>?_⟩
 ·apply et1
  ·unfold cG;(rw[cP (by omega)];done)
 ·refine⟨aEl x.src _ (by assumption) (by omega) (by omega),dd (fun c1=>?_) fun c1=>?_⟩
  ·have y1:=kP c1;apply et1
   ·unfold cG;(rw[cP (by omega)];done)
  ·have y1:=jW c1;rw[bV y1] at*;apply et1
   ·unfold cG;(rw[bV (by omega)];omega)
abbrev xR (x:List aR)(m:Int):Prop:=Cn 26 [.one (.sl 121 3 (x.map aN)),.one (.int .i64 m)] (vI (aW (cC x) m)) []
theorem aKM (x:List aR)(m:Int)(hf:sS x)(h0:0<=m)(h1:m<=1048576):xR x m:=by
 refine cq Tryz.func26 (.len x.length<| .br (.fin []) (.loop (Nat × Int) (Q2 Nat Int) ([1,5]++rg 12 14) [] (fun yy0=>[(5,vI (yy0.1:Int)),(1,vI yy0.2)]) (fun yy0=>[]) (fun yy0=>yy0.1<=x.length/\yy0.2=m - x.length - (bU cG (x.take yy0.1):Nat)/\0<=yy0.2) (fun yy0=>x.length - yy0.1) (fun yy0=> .len x.length<| .br (.elem _ aN x (fun e20=> .call (vI (aW (cG e20) yy0.2)) []<| .br (.fin []) (.back []))) (.fin [])))) (p:=Lx (x.map aN)<| Lm aN x/\(bK (m - (x.length:Int))/\Br ((m - (x.length:Int))<0) ((-1:Int)=(aW (cC x) m)/\True) ((∃(k:Nat) (z:Int),0=(k:Int)/\(m - (x.length:Int))=z/\k<=x.length/\z=m - x.length - (bU cG (x.take k):Nat)/\0<=z)/\ ∀(k:Nat) (z:Int),(k<=x.length/\z=m - x.length - (bU cG (x.take k):Nat)/\0<=z)->Lm aN x/\Br ((k:Int)<(x.length:Int)) (0<=(k:Int)/\Em aN x k fun e20=>aAE e20 z/\Br ((aW (cG e20) z)<0) ((-1:Int)=(aW (cC x) m)/\True) (bK ((k:Int)+1)/\ ∃(k' :Nat) (z' :Int),((k:Int)+1)=(k' :Int)/\(aW (cG e20) z)=z' /\(k' <=x.length/\z' =m - x.length - (bU cG (x.take k'):Nat)/\0<=z')/\x.length - k' <x.length - k)) (z=(aW (cC x) m)/\True)))) (by kernel_rfl) ?_;refine lx fun n0=>?_;have hS:cC x=x.length+bU cG x:=rfl;refine⟨aAH _,⟨by omega,by omega⟩,dd (fun c0=>?_) fun c0=>?_⟩
 ·apply et1
  ·(rw[cP (by omega)];done)
 ·refine⟨⟨0,m - (x.length:Int),rfl,rfl,aDB _,by simp[bU],by omega⟩,fun k z ⟨hk,hz,hz0⟩=>?_⟩;refine⟨aAH _,dd (fun c1=>?_) fun c1=>?_⟩
  ·obtain⟨y,hy⟩:=cK (l:=x) (k:=k) (by omega);have hfy:=hf y (aDd hy);refine⟨by omega,rfl,by omega,fun e20 h20=>?_⟩;obtain rfl:=aY hy h20;refine⟨aKt e20 _ (by assumption) (by omega) (by omega),dd (fun c2=>?_) fun c2=>?_⟩
   ·have y3:=kP c2;have y4:=dE cG ‹x[k]? =some _›;have y5:=gE cG x (k+1);apply et1
    ·(rw[cP (by omega)];done)
   ·have y2:=bV (jW c2);have y3:=jW c2;have y4:=dE cG ‹x[k]? =some _›;refine⟨⟨by omega,by omega⟩,?_⟩;exact⟨k+1,aW (cG e20) z,rfl,rfl,⟨by omega,by rw[y2,y4,hz];omega,by rw[y2];omega⟩,by omega⟩
  ·have y6:k=x.length:=by omega
   rw[y6,aU0] at hz;apply et1
   ·(rw[bV (by omega)];omega)
abbrev aBc (x:aP)(m:Int):Prop:=Cn 60 [.agg [.str x.name,.int .i64 x.column,.str x.into,.int .i64 x.intoColumn],.one (.int .i64 m)] (vI (aW (cU x) m)) []
theorem aNi (x:aP)(m:Int)(hf:aCi x)(h0:0<=m)(h1:m<=1048576):aBc x m:=by
 refine cq Tryz.func60 (.br (.fin []) (.br (.fin []) (.fin []))) (p:=bK (m - (x.name.size:Int))/\Br ((m - (x.name.size:Int))<0) ((-1:Int)=(aW (cU x) m)/\True) (bK ((m - (x.name.size:Int)) - (x.into.size:Int))/\Br (((m - (x.name.size:Int)) - (x.into.size:Int))<0) ((-1:Int)=(aW (cU x) m)/\True) (((m - (x.name.size:Int)) - (x.into.size:Int))=(aW (cU x) m)/\True))) (by kernel_rfl) ?_;obtain⟨f_name,f_column,f_into,f_intoColumn⟩:=hf;have hmx:maxLen=9223372036854775807:=rfl;have g_name:x.name.size<=maxLen:=f_name;have g_into:x.into.size<=maxLen:=f_into;refine⟨⟨by omega,by omega⟩,dd (fun c0=>?_) fun c0=>?_⟩
 ·apply et1
  ·unfold cU;(rw[cP (by omega)];done)
 ·refine⟨⟨by omega,by omega⟩,dd (fun c1=>?_) fun c1=>?_⟩
  ·apply et1
   ·unfold cU;(rw[cP (by omega)];done)
  ·apply et1
   ·unfold cU;(rw[bV (by omega)];omega)
abbrev aAF (x:List aP)(m:Int):Prop:=Cn 27 [.one (.sl 123 4 (x.map aQ)),.one (.int .i64 m)] (vI (aW (cR x) m)) []
theorem aKu (x:List aP)(m:Int)(hf:vC x)(h0:0<=m)(h1:m<=1048576):aAF x m:=by
 refine cq Tryz.func27 (.len x.length<| .br (.fin []) (.loop (Nat × Int) (Q2 Nat Int) ([1,5]++rg 12 14) [] (fun yy0=>[(5,vI (yy0.1:Int)),(1,vI yy0.2)]) (fun yy0=>[]) (fun yy0=>yy0.1<=x.length/\yy0.2=m - x.length - (bU cU (x.take yy0.1):Nat)/\0<=yy0.2) (fun yy0=>x.length - yy0.1) (fun yy0=> .len x.length<| .br (.elem _ aQ x (fun e20=> .call (vI (aW (cU e20) yy0.2)) []<| .br (.fin []) (.back []))) (.fin [])))) (p:=Lx (x.map aQ)<| Lm aQ x/\(bK (m - (x.length:Int))/\Br ((m - (x.length:Int))<0) ((-1:Int)=(aW (cR x) m)/\True) ((∃(k:Nat) (z:Int),0=(k:Int)/\(m - (x.length:Int))=z/\k<=x.length/\z=m - x.length - (bU cU (x.take k):Nat)/\0<=z)/\ ∀(k:Nat) (z:Int),(k<=x.length/\z=m - x.length - (bU cU (x.take k):Nat)/\0<=z)->Lm aQ x/\Br ((k:Int)<(x.length:Int)) (0<=(k:Int)/\Em aQ x k fun e20=>aBc e20 z/\Br ((aW (cU e20) z)<0) ((-1:Int)=(aW (cR x) m)/\True) (bK ((k:Int)+1)/\ ∃(k' :Nat) (z' :Int),((k:Int)+1)=(k' :Int)/\(aW (cU e20) z)=z' /\(k' <=x.length/\z' =m - x.length - (bU cU (x.take k'):Nat)/\0<=z')/\x.length - k' <x.length - k)) (z=(aW (cR x) m)/\True)))) (by kernel_rfl) ?_;refine lx fun n0=>?_;have hS:cR x=x.length+bU cU x:=rfl;refine⟨aAH _,⟨by omega,by omega⟩,dd (fun c0=>?_) fun c0=>?_⟩
 ·apply et1
  ·(rw[cP (by omega)];done)
 ·refine⟨⟨0,m - (x.length:Int),rfl,rfl,aDB _,by simp[bU],by omega⟩,fun k z ⟨hk,hz,hz0⟩=>?_⟩;refine⟨aAH _,dd (fun c1=>?_) fun c1=>?_⟩
  ·obtain⟨y,hy⟩:=cK (l:=x) (k:=k) (by omega);have hfy:=hf y (aDd hy);refine⟨by omega,rfl,by omega,fun e20 h20=>?_⟩;obtain rfl:=aY hy h20;refine⟨aNi e20 _ (by assumption) (by omega) (by omega),dd (fun c2=>?_) fun c2=>?_⟩
   ·have y3:=kP c2;have y4:=dE cU ‹x[k]? =some _›;have y5:=gE cU x (k+1);apply et1
    ·(rw[cP (by omega)];done)
   ·have y2:=bV (jW c2);have y3:=jW c2;have y4:=dE cU ‹x[k]? =some _›;refine⟨⟨by omega,by omega⟩,?_⟩;exact⟨k+1,aW (cU e20) z,rfl,rfl,⟨by omega,by rw[y2,y4,hz];omega,by rw[y2];omega⟩,by omega⟩
  ·have y6:k=x.length:=by omega
   rw[y6,aU0] at hz;apply et1
   ·(rw[bV (by omega)];omega)
abbrev aKN (x:StoreD)(m:Int):Prop:=Cn 6 [.agg [.sl 142 3 (x.database.tables.map aS),.int .i64 x.catalogue.version,.sl 88 4 (x.catalogue.tables.map aF),.sl 121 3 (x.dependencies.map aN),.sl 123 4 (x.inclusions.map aQ)],.one (.int .i64 m)] (vI (aW (dZ x) m)) []
theorem aX2 (x:StoreD)(m:Int)(hf:aQ7 x)(h0:0<=m)(h1:m<=1048576):aKN x m:=by
 refine cq Tryz.func6 (.call (vI (aW (bM x.database) m)) []<| .br (.fin []) (.call (vI (aW (bS x.catalogue) (aW (bM x.database) m))) []<| .br (.fin []) (.call (vI (aW (cC x.dependencies) (aW (bS x.catalogue) (aW (bM x.database) m)))) []<| .br (.fin []) (.call (vI (aW (cR x.inclusions) (aW (cC x.dependencies) (aW (bS x.catalogue) (aW (bM x.database) m))))) []<| .br (.fin []) (.fin []))))) (p:=Lx (x.database.tables.map aS)<| Lx (x.catalogue.tables.map aF)<| Lx (x.dependencies.map aN)<| Lx (x.inclusions.map aQ)<| aC2 x.database m/\Br ((aW (bM x.database) m)<0) ((-1:Int)=(aW (dZ x) m)/\True) (aBb x.catalogue (aW (bM x.database) m)/\Br ((aW (bS x.catalogue) (aW (bM x.database) m))<0) ((-1:Int)=(aW (dZ x) m)/\True) (xR x.dependencies (aW (bS x.catalogue) (aW (bM x.database) m))/\Br ((aW (cC x.dependencies) (aW (bS x.catalogue) (aW (bM x.database) m)))<0) ((-1:Int)=(aW (dZ x) m)/\True) (aAF x.inclusions (aW (cC x.dependencies) (aW (bS x.catalogue) (aW (bM x.database) m)))/\Br ((aW (cR x.inclusions) (aW (cC x.dependencies) (aW (bS x.catalogue) (aW (bM x.database) m))))<0) ((-1:Int)=(aW (dZ x) m)/\True) ((aW (cR x.inclusions) (aW (cC x.dependencies) (aW (bS x.catalogue) (aW (bM x.database) m))))=(aW (dZ x) m)/\True))))) (by kernel_rfl) ?_;refine lx fun n0=>lx fun n1=>lx fun n2=>lx fun n3=>?_;obtain⟨f_database,f_catalogue,f_dependencies,f_inclusions⟩:=hf;have hmx:maxLen=9223372036854775807:=rfl;refine⟨aQA x.database _ (by assumption) (by omega) (by omega),dd (fun c0=>?_) fun c0=>?_⟩
 ·have y0:=kP c0;apply et1
  ·unfold dZ;(rw[cP (by omega)];done)
 ·have y0:=jW c0;rw[bV y0] at*;refine⟨aNh x.catalogue _ (by assumption) (by omega) (by omega),dd (fun c1=>?_) fun c1=>?_⟩
  ·have y1:=kP c1;apply et1
   ·unfold dZ;(rw[cP (by omega)];done)
  ·have y1:=jW c1;rw[bV y1] at*;refine⟨aKM x.dependencies _ (by assumption) (by omega) (by omega),dd (fun c2=>?_) fun c2=>?_⟩
   ·have y2:=kP c2;apply et1
    ·unfold dZ;(rw[cP (by omega)];done)
   ·have y2:=jW c2;rw[bV y2] at*;refine⟨aKu x.inclusions _ (by assumption) (by omega) (by omega),dd (fun c3=>?_) fun c3=>?_⟩
    ·have y3:=kP c3;apply et1
     ·unfold dZ;(rw[cP (by omega)];done)
    ·have y3:=jW c3;rw[bV y3] at*;apply et1
     ·unfold dZ;(rw[bV (by omega)];omega)
theorem lawEntropySolution (a0:StoreD)(a1:QueryD)(a2:Int)(h0:aQ7 a0)(h1:aQ5 a1)(h2:Fits a2):rM Tryz.prog 5 [.agg [.sl 142 3 (a0.database.tables.map aS),.int .i64 a0.catalogue.version,.sl 88 4 (a0.catalogue.tables.map aF),.sl 121 3 (a0.dependencies.map aN),.sl 123 4 (a0.inclusions.map aQ)],.agg [.int .i64 a1.variableCount,.sl 125 2 (a1.atoms.map bB)],.one (.int .i64 a2)] (vB true) []:=by
 refine cq Tryz.func5 (.call (vI (aW (dZ a0) (1048576:Int))) []<| .br (.fin []) (.call (vI (aW (iO a1) (aW (dZ a0) (1048576:Int)))) []<| .br (.fin []) (bJ (qX a0)<| bJ (qT a1)<| bJ (aB5 a0 a1 a2)<| bJ (qX a0)<| bJ (qT a1)<| bJ (vS a0 a1 a2)<| .call (vB true) []<| .lit<| .lit<| .lit<| .lit<| .no<| bJ (qX a0)<| .call (vB true) []<| bJ (qT a1)<| .call (vB true) []<| fN (uF a0 (1:Int)) [(0,3900),(1,3901),(2,3902),(3,3903)]<| fN (uE a1 ((1:Int)+((rD a0:Nat):Int))) [(0,4100)]<| .no<| .call (vB true) []<| .lit<| .lit<| .lit<| .lit<| .lit<| .lit<| .no<| fN (nV ((cB a0 a1 a2).1) (1:Int)) [(0,4600),(1,4601)]<| .call (vI ((1:Int)+((eU ((cB a0 a1 a2).1):Nat):Int))) []<| .no<| .no<| bJ (qX a0)<| bJ (qT a1)<| bJ (vS a0 a1 a2)<| .call (vB true) []<| .lit<| .lit<| .lit<| .lit<| .no<| .call (vI ((1:Int)+((eU ((cB a0 a1 a2).1):Nat):Int))) []<| .no<| .no<| .fin []))) (p:=Lx (a0.database.tables.map aS)<| Lx (a0.catalogue.tables.map aF)<| Lx (a0.dependencies.map aN)<| Lx (a0.inclusions.map aQ)<| Lx (a1.atoms.map bB)<| aKN a0 (1048576:Int)/\Br ((aW (dZ a0) (1048576:Int))<0) ((true)=true/\True) (aKJ a1 (aW (dZ a0) (1048576:Int))/\Br ((aW (iO a1) (aW (dZ a0) (1048576:Int)))<0) ((true)=true/\True) (uO a0/\uL a1/\aG8 a0 a1 a2/\uO a0/\uL a1/\aB4 a0 a1 a2/\rF ((cB a0 a1 a2).1)/\(!(((cB a0 a1 a2).2)==((cB a0 a1 a2).2)))=false/\uO a0/\aKG a0/\uL a1/\aKB a1/\aJX a0 (1:Int)/\a0.catalogue.version=a0.catalogue.version/\(1:Int)=1/\a0.database.tables.map aS=a0.database.tables.map aS/\a0.catalogue.tables.map aF=a0.catalogue.tables.map aF/\a0.dependencies.map aN=a0.dependencies.map aN/\a0.inclusions.map aQ=a0.inclusions.map aQ/\aJT a1 ((1:Int)+((rD a0:Nat):Int))/\a1.variableCount=a1.variableCount/\((1:Int)+((rD a0:Nat):Int))=((1:Int)+((rD a0:Nat):Int))/\a1.atoms.map bB=a1.atoms.map bB/\(decide ((((1:Int)+((rD a0:Nat):Int))+((aCE a1:Nat):Int))<0))=false/\rF ((cB a0 a1 a2).1)/\(!(((cB a0 a1 a2).2)==((cB a0 a1 a2).2)))=false/\aCY ((cB a0 a1 a2).1) (1:Int)/\((cB a0 a1 a2).1.value.num)=((cB a0 a1 a2).1.value.num)/\((cB a0 a1 a2).1.value.den)=((cB a0 a1 a2).1.value.den)/\(1:Int)=1/\(cB a0 a1 a2).1.primal.map aA=(cB a0 a1 a2).1.primal.map aA/\(cB a0 a1 a2).1.dual.map aA=(cB a0 a1 a2).1.dual.map aA/\rM Tryz.prog 23 [.agg [.int .i64 ((cB a0 a1 a2).1.value.num),.int .i64 ((cB a0 a1 a2).1.value.den),.sl 38 2 (((fR (1:Int) ((cB a0 a1 a2).1)).primal).map aA),.sl 38 2 (((fR (1:Int) ((cB a0 a1 a2).1)).dual).map aA)],.one (.int .i64 (1:Int))] (vI ((1:Int)+((eU ((cB a0 a1 a2).1):Nat):Int))) []/\(decide (((1:Int)+((eU ((cB a0 a1 a2).1):Nat):Int))<0))=false/\(!(decide (((1:Int)+((eU ((cB a0 a1 a2).1):Nat):Int))=((1:Int)+((eU ((cB a0 a1 a2).1):Nat):Int)))))=false/\uO a0/\uL a1/\aB4 a0 a1 a2/\rF ((cB a0 a1 a2).1)/\(!(((cB a0 a1 a2).2)==((cB a0 a1 a2).2)))=false/\rM Tryz.prog 23 [.agg [.int .i64 ((cB a0 a1 a2).1.value.num),.int .i64 ((cB a0 a1 a2).1.value.den),.sl 38 2 (((fR (1:Int) ((cB a0 a1 a2).1)).primal).map aA),.sl 38 2 (((fR (1:Int) ((cB a0 a1 a2).1)).dual).map aA)],.one (.int .i64 (1:Int))] (vI ((1:Int)+((eU ((cB a0 a1 a2).1):Nat):Int))) []/\(decide (((1:Int)+((eU ((cB a0 a1 a2).1):Nat):Int))<0))=false/\(!(decide (((1:Int)+((eU ((cB a0 a1 a2).1):Nat):Int))=((1:Int)+((eU ((cB a0 a1 a2).1):Nat):Int)))))=false/\(true)=true/\True))) (by kernel_rfl) ?_;refine lx fun n0=>lx fun n1=>lx fun n2=>lx fun n3=>lx fun n4=>?_;refine⟨aX2 a0 _ (by assumption) (by omega) (by omega),dd (fun c0=>?_) fun c0=>?_⟩
 ·apply et1
  ·rfl
 ·try (have y0:=jW c0;try rw[bV y0] at*)
  refine⟨aX1 a1 _ (by assumption) (by omega) (by omega),dd (fun c1=>?_) fun c1=>?_⟩
  ·apply et1
   ·rfl
  ·try (have y1:=jW c1;try rw[bV y1] at*)
   have f2:=aNc a0 a1 a2;have f6:=aKe (cB a0 a1 a2).1;have sa0:=aRB a0;have sa1:=aRA a1;refine⟨aEi a0 (by omega),aEh a1 (by omega),aUP a0 a1 a2 (by omega) (by omega),aEi a0 (by omega),aEh a1 (by omega),aM8 a0 a1 a2 (by omega) (by omega),by exact aBa ((cB a0 a1 a2).1),by (simp;done),aEi a0 (by omega),by exact aXY a0,aEh a1 (by omega),by exact aXX a1,aWf _ _ (by omega) (by omega),rfl,rfl,rfl,rfl,rfl,rfl,aWe _ _ (by omega) (by omega),rfl,rfl,rfl,by (simp;omega),by exact aBa ((cB a0 a1 a2).1),by (simp;done),aPY _ _ (by omega) (by omega),rfl,rfl,rfl,rfl,rfl,aGY _ _ (by omega) (by omega),by (simp;omega),by (simp;done),aEi a0 (by omega),aEh a1 (by omega),aM8 a0 a1 a2 (by omega) (by omega),by exact aBa ((cB a0 a1 a2).1),by (simp;done),aGY _ _ (by omega) (by omega),by (simp;omega),by (simp;done),?_,trivial⟩
   ·rfl
end Go.Proofs.YtlidmoeecphbmaaGreat
