/-
  Contracts and plain laws, joined: part 26.
-/
import Derived.Test.YtlidmoeecphbmaaGreateb3
import Derived.Test.YtlidmoeecphbmaaGreateb22
import Derived.Test.YtlidmoeecphbmaaGreateb23
import Derived.Test.YtlidmoeecphbmaaGreateb24
import Derived.Test.YtlidmoeecphbmaaGreateb0
namespace Go.Proofs.YtlidmoeecphbmaaGreat
open Go.ChangeShapes Go.WideShapes Go.ChangeAt Go.RowKit
set_option linter.unusedVariables false
set_option linter.unusedSimpArgs false
set_option maxRecDepth 100000
set_option maxHeartbeats 4000000
abbrev qQ (x:List Int)(m:Int):Prop:=Cn 115 [.one (.sl 3 1 (x.map intD)),.one (.int .i64 m)] (vI (aT (cC x) m)) []
theorem aDD (x:List Int)(m:Int)(hf:aDv x)(h0:0<=m)(h1:m<=1048576):qQ x m:=by
 refine cq Tryz.func115 (.len x.length<| .br (.fin []) (.fin [])) (p:=Lx (x.map intD)<| Lm intD x/\bK (m - (x.length:Int))/\Br ((m - (x.length:Int))<0) ((-1:Int)=(aT (cC x) m)/\True) ((m - (x.length:Int))=(aT (cC x) m)/\True)) (by kernel_rfl) ?_;refine lx fun n0=>?_;refine⟨aA8 _,⟨by omega,by omega⟩,dd (fun c0=>?_) fun c0=>?_⟩
 ·apply et1
  ·unfold cC;(rw[cH (by omega)];done)
 ·apply et1
  ·unfold cC;(rw[bR (by omega)];done)
abbrev aCA (x:List (List Int))(m:Int):Prop:=Cn 171 [.one (.sl 91 1 (x.map aC)),.one (.int .i64 m)] (vI (aT (cO x) m)) []
theorem aNt (x:List (List Int))(m:Int)(hf:aGN x)(h0:0<=m)(h1:m<=1048576):aCA x m:=by
 refine cq Tryz.func171 (.len x.length<| .br (.fin []) (.loop (Nat × Int) (Q2 Nat Int) ([1,5]++rg 12 14) [] (fun yy0=>[(5,vI (yy0.1:Int)),(1,vI yy0.2)]) (fun yy0=>[]) (fun yy0=>yy0.1<=x.length/\yy0.2=m - x.length - (eZ cC (x.take yy0.1):Nat)/\0<=yy0.2) (fun yy0=>x.length - yy0.1) (fun yy0=> .len x.length<| .br (.elem _ aC x (fun e20=> .call (vI (aT (cC e20) yy0.2)) []<| .br (.fin []) (.back []))) (.fin [])))) (p:=Lx (x.map aC)<| Lm aC x/\(bK (m - (x.length:Int))/\Br ((m - (x.length:Int))<0) ((-1:Int)=(aT (cO x) m)/\True) ((∃(k:Nat) (z:Int),0=(k:Int)/\(m - (x.length:Int))=z/\k<=x.length/\z=m - x.length - (eZ cC (x.take k):Nat)/\0<=z)/\ ∀(k:Nat) (z:Int),(k<=x.length/\z=m - x.length - (eZ cC (x.take k):Nat)/\0<=z)->Lm aC x/\Br ((k:Int)<(x.length:Int)) (0<=(k:Int)/\Em aC x k fun e20=>qQ e20 z/\Br ((aT (cC e20) z)<0) ((-1:Int)=(aT (cO x) m)/\True) (bK ((k:Int)+1)/\ ∃(k' :Nat) (z' :Int),((k:Int)+1)=(k' :Int)/\(aT (cC e20) z)=z' /\(k' <=x.length/\z' =m - x.length - (eZ cC (x.take k'):Nat)/\0<=z')/\x.length - k' <x.length - k)) (z=(aT (cO x) m)/\True)))) (by kernel_rfl) ?_;refine lx fun n0=>?_;have hS:cO x=x.length+eZ cC x:=rfl;refine⟨aA8 _,⟨by omega,by omega⟩,dd (fun c0=>?_) fun c0=>?_⟩
 ·apply et1
  ·(rw[cH (by omega)];done)
 ·refine⟨⟨0,m - (x.length:Int),rfl,rfl,aCC _,by simp[eZ],by omega⟩,fun k z ⟨hk,hz,hz0⟩=>?_⟩;refine⟨aA8 _,dd (fun c1=>?_) fun c1=>?_⟩
  ·obtain⟨y,hy⟩:=dA (l:=x) (k:=k) (by omega);have hfy:=hf y (aCf hy);refine⟨by omega,rfl,by omega,fun e20 h20=>?_⟩;obtain rfl:=aW hy h20;refine⟨aDD e20 _ (by assumption) (by omega) (by omega),dd (fun c2=>?_) fun c2=>?_⟩
   ·have y3:=jI c2;have y4:=gQ cC ‹x[k]? =some _›;have y5:=uN cC x (k+1);apply et1
    ·(rw[cH (by omega)];done)
   ·have y2:=bR (iU c2);have y3:=iU c2;have y4:=gQ cC ‹x[k]? =some _›;refine⟨⟨by omega,by omega⟩,?_⟩;exact⟨k+1,aT (cC e20) z,rfl,rfl,⟨by omega,by rw[y2,y4,hz];omega,by rw[y2];omega⟩,by omega⟩
  ·have y6:k=x.length:=by omega
   rw[y6,aSV] at hz;apply et1
   ·(rw[bR (by omega)];omega)
abbrev aIO (x:aY)(m:Int):Prop:=Cn 113 [.agg [.str x.name,.int .i64 x.arity,.sl 91 1 (x.rows.map aC)],.one (.int .i64 m)] (vI (aT (gA x) m)) []
theorem aVJ (x:aY)(m:Int)(hf:aOY x)(h0:0<=m)(h1:m<=1048576):aIO x m:=by
 refine cq Tryz.func113 (.br (.fin []) (.call (vI (aT (cO x.rows) (m - (x.name.size:Int)))) []<| .br (.fin []) (.fin []))) (p:=Lx (x.rows.map aC)<| bK (m - (x.name.size:Int))/\Br ((m - (x.name.size:Int))<0) ((-1:Int)=(aT (gA x) m)/\True) (aCA x.rows (m - (x.name.size:Int))/\Br ((aT (cO x.rows) (m - (x.name.size:Int)))<0) ((-1:Int)=(aT (gA x) m)/\True) ((aT (cO x.rows) (m - (x.name.size:Int)))=(aT (gA x) m)/\True))) (by kernel_rfl) ?_;refine lx fun n0=>?_;obtain⟨f_name,f_arity,f_rows⟩:=hf;have hmx:maxLen=9223372036854775807:=rfl;have g_name:x.name.size<=maxLen:=f_name;refine⟨⟨by omega,by omega⟩,dd (fun c0=>?_) fun c0=>?_⟩
 ·apply et1
  ·unfold gA;(rw[cH (by omega)];done)
 ·refine⟨aNt x.rows _ (by assumption) (by omega) (by omega),dd (fun c1=>?_) fun c1=>?_⟩
  ·have y1:=jI c1;apply et1
   ·unfold gA;(rw[cH (by omega)];done)
  ·have y1:=iU c1;rw[bR y1] at*;apply et1
   ·unfold gA;(rw[bR (by omega)];omega)
abbrev aEt (x:List aY)(m:Int):Prop:=Cn 57 [.one (.sl 142 3 (x.map aS)),.one (.int .i64 m)] (vI (aT (kX x) m)) []
theorem aSI (x:List aY)(m:Int)(hf:aFR x)(h0:0<=m)(h1:m<=1048576):aEt x m:=by
 refine cq Tryz.func57 (.len x.length<| .br (.fin []) (.loop (Nat × Int) (Q2 Nat Int) ([1,5]++rg 12 14) [] (fun yy0=>[(5,vI (yy0.1:Int)),(1,vI yy0.2)]) (fun yy0=>[]) (fun yy0=>yy0.1<=x.length/\yy0.2=m - x.length - (eZ gA (x.take yy0.1):Nat)/\0<=yy0.2) (fun yy0=>x.length - yy0.1) (fun yy0=> .len x.length<| .br (.elem _ aS x (fun e20=> .call (vI (aT (gA e20) yy0.2)) []<| .br (.fin []) (.back []))) (.fin [])))) (p:=Lx (x.map aS)<| Lm aS x/\(bK (m - (x.length:Int))/\Br ((m - (x.length:Int))<0) ((-1:Int)=(aT (kX x) m)/\True) ((∃(k:Nat) (z:Int),0=(k:Int)/\(m - (x.length:Int))=z/\k<=x.length/\z=m - x.length - (eZ gA (x.take k):Nat)/\0<=z)/\ ∀(k:Nat) (z:Int),(k<=x.length/\z=m - x.length - (eZ gA (x.take k):Nat)/\0<=z)->Lm aS x/\Br ((k:Int)<(x.length:Int)) (0<=(k:Int)/\Em aS x k fun e20=>aIO e20 z/\Br ((aT (gA e20) z)<0) ((-1:Int)=(aT (kX x) m)/\True) (bK ((k:Int)+1)/\ ∃(k' :Nat) (z' :Int),((k:Int)+1)=(k' :Int)/\(aT (gA e20) z)=z' /\(k' <=x.length/\z' =m - x.length - (eZ gA (x.take k'):Nat)/\0<=z')/\x.length - k' <x.length - k)) (z=(aT (kX x) m)/\True)))) (by kernel_rfl) ?_;refine lx fun n0=>?_;have hS:kX x=x.length+eZ gA x:=rfl;refine⟨aA8 _,⟨by omega,by omega⟩,dd (fun c0=>?_) fun c0=>?_⟩
 ·apply et1
  ·(rw[cH (by omega)];done)
 ·refine⟨⟨0,m - (x.length:Int),rfl,rfl,aCC _,by simp[eZ],by omega⟩,fun k z ⟨hk,hz,hz0⟩=>?_⟩;refine⟨aA8 _,dd (fun c1=>?_) fun c1=>?_⟩
  ·obtain⟨y,hy⟩:=dA (l:=x) (k:=k) (by omega);have hfy:=hf y (aCf hy);refine⟨by omega,rfl,by omega,fun e20 h20=>?_⟩;obtain rfl:=aW hy h20;refine⟨aVJ e20 _ (by assumption) (by omega) (by omega),dd (fun c2=>?_) fun c2=>?_⟩
   ·have y3:=jI c2;have y4:=gQ gA ‹x[k]? =some _›;have y5:=uN gA x (k+1);apply et1
    ·(rw[cH (by omega)];done)
   ·have y2:=bR (iU c2);have y3:=iU c2;have y4:=gQ gA ‹x[k]? =some _›;refine⟨⟨by omega,by omega⟩,?_⟩;exact⟨k+1,aT (gA e20) z,rfl,rfl,⟨by omega,by rw[y2,y4,hz];omega,by rw[y2];omega⟩,by omega⟩
  ·have y6:k=x.length:=by omega
   rw[y6,aSV] at hz;apply et1
   ·(rw[bR (by omega)];omega)
abbrev aAv (x:aU)(m:Int):Prop:=Cn 24 [.agg [.sl 142 3 (x.tables.map aS)],.one (.int .i64 m)] (vI (aT (bN x) m)) []
theorem aNu (x:aU)(m:Int)(hf:aDV x)(h0:0<=m)(h1:m<=1048576):aAv x m:=by
 refine cq Tryz.func24 (.call (vI (aT (kX x.tables) m)) []<| .br (.fin []) (.fin [])) (p:=Lx (x.tables.map aS)<| aEt x.tables m/\Br ((aT (kX x.tables) m)<0) ((-1:Int)=(aT (bN x) m)/\True) ((aT (kX x.tables) m)=(aT (bN x) m)/\True)) (by kernel_rfl) ?_;refine lx fun n0=>?_;have f_tables:=hf;have hmx:maxLen=9223372036854775807:=rfl;refine⟨aSI x.tables _ (by assumption) (by omega) (by omega),dd (fun c0=>?_) fun c0=>?_⟩
 ·have y0:=jI c0;apply et1
  ·unfold bN;(rw[cH (by omega)];done)
 ·have y0:=iU c0;rw[bR y0] at*;apply et1
  ·unfold bN;(rw[bR (by omega)];done)
abbrev aKa (x:dC)(m:Int):Prop:=Cn 61 [.agg [.str x.name,.sl 3 1 (x.vars.map intD)],.one (.int .i64 m)] (vI (aT (jR x) m)) []
theorem aWj (x:dC)(m:Int)(hf:aTS x)(h0:0<=m)(h1:m<=1048576):aKa x m:=by
 refine cq Tryz.func61 (.br (.fin []) (.call (vI (aT (cC x.vars) (m - (x.name.size:Int)))) []<| .br (.fin []) (.fin []))) (p:=Lx (x.vars.map intD)<| bK (m - (x.name.size:Int))/\Br ((m - (x.name.size:Int))<0) ((-1:Int)=(aT (jR x) m)/\True) (qQ x.vars (m - (x.name.size:Int))/\Br ((aT (cC x.vars) (m - (x.name.size:Int)))<0) ((-1:Int)=(aT (jR x) m)/\True) ((aT (cC x.vars) (m - (x.name.size:Int)))=(aT (jR x) m)/\True))) (by kernel_rfl) ?_;refine lx fun n0=>?_;obtain⟨f_name,f_vars⟩:=hf;have hmx:maxLen=9223372036854775807:=rfl;have g_name:x.name.size<=maxLen:=f_name;refine⟨⟨by omega,by omega⟩,dd (fun c0=>?_) fun c0=>?_⟩
 ·apply et1
  ·unfold jR;(rw[cH (by omega)];done)
 ·refine⟨aDD x.vars _ (by assumption) (by omega) (by omega),dd (fun c1=>?_) fun c1=>?_⟩
  ·have y1:=jI c1;apply et1
   ·unfold jR;(rw[cH (by omega)];done)
  ·have y1:=iU c1;rw[bR y1] at*;apply et1
   ·unfold jR;(rw[bR (by omega)];omega)
abbrev aIP (x:List dC)(m:Int):Prop:=Cn 28 [.one (.sl 125 2 (x.map bI)),.one (.int .i64 m)] (vI (aT (jS x) m)) []
theorem aVK (x:List dC)(m:Int)(hf:aLA x)(h0:0<=m)(h1:m<=1048576):aIP x m:=by
 refine cq Tryz.func28 (.len x.length<| .br (.fin []) (.loop (Nat × Int) (Q2 Nat Int) ([1,5]++rg 12 14) [] (fun yy0=>[(5,vI (yy0.1:Int)),(1,vI yy0.2)]) (fun yy0=>[]) (fun yy0=>yy0.1<=x.length/\yy0.2=m - x.length - (eZ jR (x.take yy0.1):Nat)/\0<=yy0.2) (fun yy0=>x.length - yy0.1) (fun yy0=> .len x.length<| .br (.elem _ bI x (fun e20=> .call (vI (aT (jR e20) yy0.2)) []<| .br (.fin []) (.back []))) (.fin [])))) (p:=Lx (x.map bI)<| Lm bI x/\(bK (m - (x.length:Int))/\Br ((m - (x.length:Int))<0) ((-1:Int)=(aT (jS x) m)/\True) ((∃(k:Nat) (z:Int),0=(k:Int)/\(m - (x.length:Int))=z/\k<=x.length/\z=m - x.length - (eZ jR (x.take k):Nat)/\0<=z)/\ ∀(k:Nat) (z:Int),(k<=x.length/\z=m - x.length - (eZ jR (x.take k):Nat)/\0<=z)->Lm bI x/\Br ((k:Int)<(x.length:Int)) (0<=(k:Int)/\Em bI x k fun e20=>aKa e20 z/\Br ((aT (jR e20) z)<0) ((-1:Int)=(aT (jS x) m)/\True) (bK ((k:Int)+1)/\ ∃(k' :Nat) (z' :Int),((k:Int)+1)=(k' :Int)/\(aT (jR e20) z)=z' /\(k' <=x.length/\z' =m - x.length - (eZ jR (x.take k'):Nat)/\0<=z')/\x.length - k' <x.length - k)) (z=(aT (jS x) m)/\True)))) (by kernel_rfl) ?_;refine lx fun n0=>?_;have hS:jS x=x.length+eZ jR x:=rfl;refine⟨aA8 _,⟨by omega,by omega⟩,dd (fun c0=>?_) fun c0=>?_⟩
 ·apply et1
  ·(rw[cH (by omega)];done)
 ·refine⟨⟨0,m - (x.length:Int),rfl,rfl,aCC _,by simp[eZ],by omega⟩,fun k z ⟨hk,hz,hz0⟩=>?_⟩;refine⟨aA8 _,dd (fun c1=>?_) fun c1=>?_⟩
  ·obtain⟨y,hy⟩:=dA (l:=x) (k:=k) (by omega);have hfy:=hf y (aCf hy);refine⟨by omega,rfl,by omega,fun e20 h20=>?_⟩;obtain rfl:=aW hy h20;refine⟨aWj e20 _ (by assumption) (by omega) (by omega),dd (fun c2=>?_) fun c2=>?_⟩
   ·have y3:=jI c2;have y4:=gQ jR ‹x[k]? =some _›;have y5:=uN jR x (k+1);apply et1
    ·(rw[cH (by omega)];done)
   ·have y2:=bR (iU c2);have y3:=iU c2;have y4:=gQ jR ‹x[k]? =some _›;refine⟨⟨by omega,by omega⟩,?_⟩;exact⟨k+1,aT (jR e20) z,rfl,rfl,⟨by omega,by rw[y2,y4,hz];omega,by rw[y2];omega⟩,by omega⟩
  ·have y6:k=x.length:=by omega
   rw[y6,aSV] at hz;apply et1
   ·(rw[bR (by omega)];omega)
abbrev aIQ (x:QueryD)(m:Int):Prop:=Cn 7 [.agg [.int .i64 x.variableCount,.sl 125 2 (x.atoms.map bI)],.one (.int .i64 m)] (vI (aT (gX x) m)) []
theorem aVL (x:QueryD)(m:Int)(hf:aOZ x)(h0:0<=m)(h1:m<=1048576):aIQ x m:=by
 refine cq Tryz.func7 (.call (vI (aT (jS x.atoms) m)) []<| .br (.fin []) (.fin [])) (p:=Lx (x.atoms.map bI)<| aIP x.atoms m/\Br ((aT (jS x.atoms) m)<0) ((-1:Int)=(aT (gX x) m)/\True) ((aT (jS x.atoms) m)=(aT (gX x) m)/\True)) (by kernel_rfl) ?_;refine lx fun n0=>?_;obtain⟨f_variableCount,f_atoms⟩:=hf;have hmx:maxLen=9223372036854775807:=rfl;refine⟨aVK x.atoms _ (by assumption) (by omega) (by omega),dd (fun c0=>?_) fun c0=>?_⟩
 ·have y0:=jI c0;apply et1
  ·unfold gX;(rw[cH (by omega)];done)
 ·have y0:=iU c0;rw[bR y0] at*;apply et1
  ·unfold gX;(rw[bR (by omega)];done)
abbrev wS (x:aQ)(m:Int):Prop:=Cn 215 [.agg [.sl 3 1 (x.columns.map intD),.sl 91 1 (x.values.map aC),.sl 3 1 (x.counts.map intD)],.one (.int .i64 m)] (vI (aT (bV x) m)) []
theorem aIv (x:aQ)(m:Int)(hf:xX x)(h0:0<=m)(h1:m<=1048576):wS x m:=by
 refine cq Tryz.func215 (.call (vI (aT (cC x.columns) m)) []<| .br (.fin []) (.call (vI (aT (cO x.values) (aT (cC x.columns) m))) []<| .br (.fin []) (.call (vI (aT (cC x.counts) (aT (cO x.values) (aT (cC x.columns) m)))) []<| .br (.fin []) (.fin [])))) (p:=Lx (x.columns.map intD)<| Lx (x.values.map aC)<| Lx (x.counts.map intD)<| qQ x.columns m/\Br ((aT (cC x.columns) m)<0) ((-1:Int)=(aT (bV x) m)/\True) (aCA x.values (aT (cC x.columns) m)/\Br ((aT (cO x.values) (aT (cC x.columns) m))<0) ((-1:Int)=(aT (bV x) m)/\True) (qQ x.counts (aT (cO x.values) (aT (cC x.columns) m))/\Br ((aT (cC x.counts) (aT (cO x.values) (aT (cC x.columns) m)))<0) ((-1:Int)=(aT (bV x) m)/\True) ((aT (cC x.counts) (aT (cO x.values) (aT (cC x.columns) m)))=(aT (bV x) m)/\True)))) (by kernel_rfl) ?_;refine lx fun n0=>lx fun n1=>lx fun n2=>?_;obtain⟨f_columns,f_values,f_counts⟩:=hf;have hmx:maxLen=9223372036854775807:=rfl;refine⟨aDD x.columns _ (by assumption) (by omega) (by omega),dd (fun c0=>?_) fun c0=>?_⟩
 ·have y0:=jI c0;apply et1
  ·unfold bV;(rw[cH (by omega)];done)
 ·have y0:=iU c0;rw[bR y0] at*;refine⟨aNt x.values _ (by assumption) (by omega) (by omega),dd (fun c1=>?_) fun c1=>?_⟩
  ·have y1:=jI c1;apply et1
   ·unfold bV;(rw[cH (by omega)];done)
  ·have y1:=iU c1;rw[bR y1] at*;refine⟨aDD x.counts _ (by assumption) (by omega) (by omega),dd (fun c2=>?_) fun c2=>?_⟩
   ·have y2:=jI c2;apply et1
    ·unfold bV;(rw[cH (by omega)];done)
   ·have y2:=iU c2;rw[bR y2] at*;apply et1
    ·unfold bV;(rw[bR (by omega)];omega)
abbrev uI (x:List aQ)(m:Int):Prop:=Cn 172 [.one (.sl 220 3 (x.map aD)),.one (.int .i64 m)] (vI (aT (dK x) m)) []
theorem aIR (x:List aQ)(m:Int)(hf:qD x)(h0:0<=m)(h1:m<=1048576):uI x m:=by
 refine cq Tryz.func172 (.len x.length<| .br (.fin []) (.loop (Nat × Int) (Q2 Nat Int) ([1,5]++rg 12 14) [] (fun yy0=>[(5,vI (yy0.1:Int)),(1,vI yy0.2)]) (fun yy0=>[]) (fun yy0=>yy0.1<=x.length/\yy0.2=m - x.length - (eZ bV (x.take yy0.1):Nat)/\0<=yy0.2) (fun yy0=>x.length - yy0.1) (fun yy0=> .len x.length<| .br (.elem _ aD x (fun e20=> .call (vI (aT (bV e20) yy0.2)) []<| .br (.fin []) (.back []))) (.fin [])))) (p:=Lx (x.map aD)<| Lm aD x/\(bK (m - (x.length:Int))/\Br ((m - (x.length:Int))<0) ((-1:Int)=(aT (dK x) m)/\True) ((∃(k:Nat) (z:Int),0=(k:Int)/\(m - (x.length:Int))=z/\k<=x.length/\z=m - x.length - (eZ bV (x.take k):Nat)/\0<=z)/\ ∀(k:Nat) (z:Int),(k<=x.length/\z=m - x.length - (eZ bV (x.take k):Nat)/\0<=z)->Lm aD x/\Br ((k:Int)<(x.length:Int)) (0<=(k:Int)/\Em aD x k fun e20=>wS e20 z/\Br ((aT (bV e20) z)<0) ((-1:Int)=(aT (dK x) m)/\True) (bK ((k:Int)+1)/\ ∃(k' :Nat) (z' :Int),((k:Int)+1)=(k' :Int)/\(aT (bV e20) z)=z' /\(k' <=x.length/\z' =m - x.length - (eZ bV (x.take k'):Nat)/\0<=z')/\x.length - k' <x.length - k)) (z=(aT (dK x) m)/\True)))) (by kernel_rfl) ?_;refine lx fun n0=>?_;have hS:dK x=x.length+eZ bV x:=rfl;refine⟨aA8 _,⟨by omega,by omega⟩,dd (fun c0=>?_) fun c0=>?_⟩
 ·apply et1
  ·(rw[cH (by omega)];done)
 ·refine⟨⟨0,m - (x.length:Int),rfl,rfl,aCC _,by simp[eZ],by omega⟩,fun k z ⟨hk,hz,hz0⟩=>?_⟩;refine⟨aA8 _,dd (fun c1=>?_) fun c1=>?_⟩
  ·obtain⟨y,hy⟩:=dA (l:=x) (k:=k) (by omega);have hfy:=hf y (aCf hy);refine⟨by omega,rfl,by omega,fun e20 h20=>?_⟩;obtain rfl:=aW hy h20;refine⟨aIv e20 _ (by assumption) (by omega) (by omega),dd (fun c2=>?_) fun c2=>?_⟩
   ·have y3:=jI c2;have y4:=gQ bV ‹x[k]? =some _›;have y5:=uN bV x (k+1);apply et1
    ·(rw[cH (by omega)];done)
   ·have y2:=bR (iU c2);have y3:=iU c2;have y4:=gQ bV ‹x[k]? =some _›;refine⟨⟨by omega,by omega⟩,?_⟩;exact⟨k+1,aT (bV e20) z,rfl,rfl,⟨by omega,by rw[y2,y4,hz];omega,by rw[y2];omega⟩,by omega⟩
  ·have y6:k=x.length:=by omega
   rw[y6,aSV] at hz;apply et1
   ·(rw[bR (by omega)];omega)
abbrev wT (x:aM)(m:Int):Prop:=Cn 114 [.agg [.str x.name,.int .i64 x.arity,.int .i64 x.rowCount,.sl 220 3 (x.groups.map aD)],.one (.int .i64 m)] (vI (aT (bF x) m)) []
theorem aIw (x:aM)(m:Int)(hf:xY x)(h0:0<=m)(h1:m<=1048576):wT x m:=by
 refine cq Tryz.func114 (.br (.fin []) (.call (vI (aT (dK x.groups) (m - (x.name.size:Int)))) []<| .br (.fin []) (.fin []))) (p:=Lx (x.groups.map aD)<| bK (m - (x.name.size:Int))/\Br ((m - (x.name.size:Int))<0) ((-1:Int)=(aT (bF x) m)/\True) (uI x.groups (m - (x.name.size:Int))/\Br ((aT (dK x.groups) (m - (x.name.size:Int)))<0) ((-1:Int)=(aT (bF x) m)/\True) ((aT (dK x.groups) (m - (x.name.size:Int)))=(aT (bF x) m)/\True))) (by kernel_rfl) ?_;refine lx fun n0=>?_;obtain⟨f_name,f_arity,f_rowCount,f_groups⟩:=hf;have hmx:maxLen=9223372036854775807:=rfl;have g_name:x.name.size<=maxLen:=f_name;refine⟨⟨by omega,by omega⟩,dd (fun c0=>?_) fun c0=>?_⟩
 ·apply et1
  ·unfold bF;(rw[cH (by omega)];done)
 ·refine⟨aIR x.groups _ (by assumption) (by omega) (by omega),dd (fun c1=>?_) fun c1=>?_⟩
  ·have y1:=jI c1;apply et1
   ·unfold bF;(rw[cH (by omega)];done)
  ·have y1:=iU c1;rw[bR y1] at*;apply et1
   ·unfold bF;(rw[bR (by omega)];omega)
abbrev uJ (x:List aM)(m:Int):Prop:=Cn 58 [.one (.sl 88 4 (x.map aG)),.one (.int .i64 m)] (vI (aT (dU x) m)) []
theorem aIS (x:List aM)(m:Int)(hf:qE x)(h0:0<=m)(h1:m<=1048576):uJ x m:=by
 refine cq Tryz.func58 (.len x.length<| .br (.fin []) (.loop (Nat × Int) (Q2 Nat Int) ([1,5]++rg 12 14) [] (fun yy0=>[(5,vI (yy0.1:Int)),(1,vI yy0.2)]) (fun yy0=>[]) (fun yy0=>yy0.1<=x.length/\yy0.2=m - x.length - (eZ bF (x.take yy0.1):Nat)/\0<=yy0.2) (fun yy0=>x.length - yy0.1) (fun yy0=> .len x.length<| .br (.elem _ aG x (fun e20=> .call (vI (aT (bF e20) yy0.2)) []<| .br (.fin []) (.back []))) (.fin [])))) (p:=Lx (x.map aG)<| Lm aG x/\(bK (m - (x.length:Int))/\Br ((m - (x.length:Int))<0) ((-1:Int)=(aT (dU x) m)/\True) ((∃(k:Nat) (z:Int),0=(k:Int)/\(m - (x.length:Int))=z/\k<=x.length/\z=m - x.length - (eZ bF (x.take k):Nat)/\0<=z)/\ ∀(k:Nat) (z:Int),(k<=x.length/\z=m - x.length - (eZ bF (x.take k):Nat)/\0<=z)->Lm aG x/\Br ((k:Int)<(x.length:Int)) (0<=(k:Int)/\Em aG x k fun e20=>wT e20 z/\Br ((aT (bF e20) z)<0) ((-1:Int)=(aT (dU x) m)/\True) (bK ((k:Int)+1)/\ ∃(k' :Nat) (z' :Int),((k:Int)+1)=(k' :Int)/\(aT (bF e20) z)=z' /\(k' <=x.length/\z' =m - x.length - (eZ bF (x.take k'):Nat)/\0<=z')/\x.length - k' <x.length - k)) (z=(aT (dU x) m)/\True)))) (by kernel_rfl) ?_;refine lx fun n0=>?_;have hS:dU x=x.length+eZ bF x:=rfl;refine⟨aA8 _,⟨by omega,by omega⟩,dd (fun c0=>?_) fun c0=>?_⟩
 ·apply et1
  ·(rw[cH (by omega)];done)
 ·refine⟨⟨0,m - (x.length:Int),rfl,rfl,aCC _,by simp[eZ],by omega⟩,fun k z ⟨hk,hz,hz0⟩=>?_⟩;refine⟨aA8 _,dd (fun c1=>?_) fun c1=>?_⟩
  ·obtain⟨y,hy⟩:=dA (l:=x) (k:=k) (by omega);have hfy:=hf y (aCf hy);refine⟨by omega,rfl,by omega,fun e20 h20=>?_⟩;obtain rfl:=aW hy h20;refine⟨aIw e20 _ (by assumption) (by omega) (by omega),dd (fun c2=>?_) fun c2=>?_⟩
   ·have y3:=jI c2;have y4:=gQ bF ‹x[k]? =some _›;have y5:=uN bF x (k+1);apply et1
    ·(rw[cH (by omega)];done)
   ·have y2:=bR (iU c2);have y3:=iU c2;have y4:=gQ bF ‹x[k]? =some _›;refine⟨⟨by omega,by omega⟩,?_⟩;exact⟨k+1,aT (bF e20) z,rfl,rfl,⟨by omega,by rw[y2,y4,hz];omega,by rw[y2];omega⟩,by omega⟩
  ·have y6:k=x.length:=by omega
   rw[y6,aSV] at hz;apply et1
   ·(rw[bR (by omega)];omega)
abbrev aAI (x:cE)(m:Int):Prop:=Cn 25 [.agg [.int .i64 x.version,.sl 88 4 (x.tables.map aG)],.one (.int .i64 m)] (vI (aT (bS x) m)) []
theorem aLd (x:cE)(m:Int)(hf:aBK x)(h0:0<=m)(h1:m<=1048576):aAI x m:=by
 refine cq Tryz.func25 (.call (vI (aT (dU x.tables) m)) []<| .br (.fin []) (.fin [])) (p:=Lx (x.tables.map aG)<| uJ x.tables m/\Br ((aT (dU x.tables) m)<0) ((-1:Int)=(aT (bS x) m)/\True) ((aT (dU x.tables) m)=(aT (bS x) m)/\True)) (by kernel_rfl) ?_;refine lx fun n0=>?_;obtain⟨f_version,f_tables⟩:=hf;have hmx:maxLen=9223372036854775807:=rfl;refine⟨aIS x.tables _ (by assumption) (by omega) (by omega),dd (fun c0=>?_) fun c0=>?_⟩
 ·have y0:=jI c0;apply et1
  ·unfold bS;(rw[cH (by omega)];done)
 ·have y0:=iU c0;rw[bR y0] at*;apply et1
  ·unfold bS;(rw[bR (by omega)];done)
abbrev wU (x:bB)(m:Int):Prop:=Cn 59 [.agg [.str x.name,.sl 3 1 (x.src.map intD),.int .i64 x.dst],.one (.int .i64 m)] (vI (aT (cZ x) m)) []
theorem aIx (x:bB)(m:Int)(hf:xZ x)(h0:0<=m)(h1:m<=1048576):wU x m:=by
 refine cq Tryz.func59 (.br (.fin []) (.call (vI (aT (cC x.src) (m - (x.name.size:Int)))) []<| .br (.fin []) (.fin []))) (p:=Lx (x.src.map intD)<| bK (m - (x.name.size:Int))/\Br ((m - (x.name.size:Int))<0) ((-1:Int)=(aT (cZ x) m)/\True) (qQ x.src (m - (x.name.size:Int))/\Br ((aT (cC x.src) (m - (x.name.size:Int)))<0) ((-1:Int)=(aT (cZ x) m)/\True) ((aT (cC x.src) (m - (x.name.size:Int)))=(aT (cZ x) m)/\True))) (by kernel_rfl) ?_;refine lx fun n0=>?_;obtain⟨f_name,f_src,f_dst⟩:=hf;have hmx:maxLen=9223372036854775807:=rfl;have g_name:x.name.size<=maxLen:=f_name;refine⟨⟨by omega,by omega⟩,dd (fun c0=>?_) fun c0=>?_⟩
 ·apply et1
  ·unfold cZ;(rw[cH (by omega)];done)
 ·refine⟨aDD x.src _ (by assumption) (by omega) (by omega),dd (fun c1=>?_) fun c1=>?_⟩
  ·have y1:=jI c1;apply et1
   ·unfold cZ;(rw[cH (by omega)];done)
  ·have y1:=iU c1;rw[bR y1] at*;apply et1
   ·unfold cZ;(rw[bR (by omega)];omega)
abbrev uK (x:List bB)(m:Int):Prop:=Cn 26 [.one (.sl 121 3 (x.map aN)),.one (.int .i64 m)] (vI (aT (bY x) m)) []
theorem aIT (x:List bB)(m:Int)(hf:qF x)(h0:0<=m)(h1:m<=1048576):uK x m:=by
 refine cq Tryz.func26 (.len x.length<| .br (.fin []) (.loop (Nat × Int) (Q2 Nat Int) ([1,5]++rg 12 14) [] (fun yy0=>[(5,vI (yy0.1:Int)),(1,vI yy0.2)]) (fun yy0=>[]) (fun yy0=>yy0.1<=x.length/\yy0.2=m - x.length - (eZ cZ (x.take yy0.1):Nat)/\0<=yy0.2) (fun yy0=>x.length - yy0.1) (fun yy0=> .len x.length<| .br (.elem _ aN x (fun e20=> .call (vI (aT (cZ e20) yy0.2)) []<| .br (.fin []) (.back []))) (.fin [])))) (p:=Lx (x.map aN)<| Lm aN x/\(bK (m - (x.length:Int))/\Br ((m - (x.length:Int))<0) ((-1:Int)=(aT (bY x) m)/\True) ((∃(k:Nat) (z:Int),0=(k:Int)/\(m - (x.length:Int))=z/\k<=x.length/\z=m - x.length - (eZ cZ (x.take k):Nat)/\0<=z)/\ ∀(k:Nat) (z:Int),(k<=x.length/\z=m - x.length - (eZ cZ (x.take k):Nat)/\0<=z)->Lm aN x/\Br ((k:Int)<(x.length:Int)) (0<=(k:Int)/\Em aN x k fun e20=>wU e20 z/\Br ((aT (cZ e20) z)<0) ((-1:Int)=(aT (bY x) m)/\True) (bK ((k:Int)+1)/\ ∃(k' :Nat) (z' :Int),((k:Int)+1)=(k' :Int)/\(aT (cZ e20) z)=z' /\(k' <=x.length/\z' =m - x.length - (eZ cZ (x.take k'):Nat)/\0<=z')/\x.length - k' <x.length - k)) (z=(aT (bY x) m)/\True)))) (by kernel_rfl) ?_;refine lx fun n0=>?_;have hS:bY x=x.length+eZ cZ x:=rfl;refine⟨aA8 _,⟨by omega,by omega⟩,dd (fun c0=>?_) fun c0=>?_⟩
 ·apply et1
  ·(rw[cH (by omega)];done)
 ·refine⟨⟨0,m - (x.length:Int),rfl,rfl,aCC _,by simp[eZ],by omega⟩,fun k z ⟨hk,hz,hz0⟩=>?_⟩;refine⟨aA8 _,dd (fun c1=>?_) fun c1=>?_⟩
  ·obtain⟨y,hy⟩:=dA (l:=x) (k:=k) (by omega);have hfy:=hf y (aCf hy);refine⟨by omega,rfl,by omega,fun e20 h20=>?_⟩;obtain rfl:=aW hy h20;refine⟨aIx e20 _ (by assumption) (by omega) (by omega),dd (fun c2=>?_) fun c2=>?_⟩
   ·have y3:=jI c2;have y4:=gQ cZ ‹x[k]? =some _›;have y5:=uN cZ x (k+1);apply et1
    ·(rw[cH (by omega)];done)
   ·have y2:=bR (iU c2);have y3:=iU c2;have y4:=gQ cZ ‹x[k]? =some _›;refine⟨⟨by omega,by omega⟩,?_⟩;exact⟨k+1,aT (cZ e20) z,rfl,rfl,⟨by omega,by rw[y2,y4,hz];omega,by rw[y2];omega⟩,by omega⟩
  ·have y6:k=x.length:=by omega
   rw[y6,aSV] at hz;apply et1
   ·(rw[bR (by omega)];omega)
abbrev aAJ (x:aZ)(m:Int):Prop:=Cn 60 [.agg [.str x.name,.int .i64 x.column,.str x.into,.int .i64 x.intoColumn],.one (.int .i64 m)] (vI (aT (dJ x) m)) []
theorem aLe (x:aZ)(m:Int)(hf:aBL x)(h0:0<=m)(h1:m<=1048576):aAJ x m:=by
 refine cq Tryz.func60 (.br (.fin []) (.br (.fin []) (.fin []))) (p:=bK (m - (x.name.size:Int))/\Br ((m - (x.name.size:Int))<0) ((-1:Int)=(aT (dJ x) m)/\True) (bK ((m - (x.name.size:Int)) - (x.into.size:Int))/\Br (((m - (x.name.size:Int)) - (x.into.size:Int))<0) ((-1:Int)=(aT (dJ x) m)/\True) (((m - (x.name.size:Int)) - (x.into.size:Int))=(aT (dJ x) m)/\True))) (by kernel_rfl) ?_;obtain⟨f_name,f_column,f_into,f_intoColumn⟩:=hf;have hmx:maxLen=9223372036854775807:=rfl;have g_name:x.name.size<=maxLen:=f_name;have g_into:x.into.size<=maxLen:=f_into;refine⟨⟨by omega,by omega⟩,dd (fun c0=>?_) fun c0=>?_⟩
 ·apply et1
  ·unfold dJ;(rw[cH (by omega)];done)
 ·refine⟨⟨by omega,by omega⟩,dd (fun c1=>?_) fun c1=>?_⟩
  ·apply et1
   ·unfold dJ;(rw[cH (by omega)];done)
  ·apply et1
   ·unfold dJ;(rw[bR (by omega)];omega)
abbrev wV (x:List aZ)(m:Int):Prop:=Cn 27 [.one (.sl 123 4 (x.map aR)),.one (.int .i64 m)] (vI (aT (cP x) m)) []
theorem aIy (x:List aZ)(m:Int)(hf:sG x)(h0:0<=m)(h1:m<=1048576):wV x m:=by
 refine cq Tryz.func27 (.len x.length<| .br (.fin []) (.loop (Nat × Int) (Q2 Nat Int) ([1,5]++rg 12 14) [] (fun yy0=>[(5,vI (yy0.1:Int)),(1,vI yy0.2)]) (fun yy0=>[]) (fun yy0=>yy0.1<=x.length/\yy0.2=m - x.length - (eZ dJ (x.take yy0.1):Nat)/\0<=yy0.2) (fun yy0=>x.length - yy0.1) (fun yy0=> .len x.length<| .br (.elem _ aR x (fun e20=> .call (vI (aT (dJ e20) yy0.2)) []<| .br (.fin []) (.back []))) (.fin [])))) (p:=Lx (x.map aR)<| Lm aR x/\(bK (m - (x.length:Int))/\Br ((m - (x.length:Int))<0) ((-1:Int)=(aT (cP x) m)/\True) ((∃(k:Nat) (z:Int),0=(k:Int)/\(m - (x.length:Int))=z/\k<=x.length/\z=m - x.length - (eZ dJ (x.take k):Nat)/\0<=z)/\ ∀(k:Nat) (z:Int),(k<=x.length/\z=m - x.length - (eZ dJ (x.take k):Nat)/\0<=z)->Lm aR x/\Br ((k:Int)<(x.length:Int)) (0<=(k:Int)/\Em aR x k fun e20=>aAJ e20 z/\Br ((aT (dJ e20) z)<0) ((-1:Int)=(aT (cP x) m)/\True) (bK ((k:Int)+1)/\ ∃(k' :Nat) (z' :Int),((k:Int)+1)=(k' :Int)/\(aT (dJ e20) z)=z' /\(k' <=x.length/\z' =m - x.length - (eZ dJ (x.take k'):Nat)/\0<=z')/\x.length - k' <x.length - k)) (z=(aT (cP x) m)/\True)))) (by kernel_rfl) ?_;refine lx fun n0=>?_;have hS:cP x=x.length+eZ dJ x:=rfl;refine⟨aA8 _,⟨by omega,by omega⟩,dd (fun c0=>?_) fun c0=>?_⟩
 ·apply et1
  ·(rw[cH (by omega)];done)
 ·refine⟨⟨0,m - (x.length:Int),rfl,rfl,aCC _,by simp[eZ],by omega⟩,fun k z ⟨hk,hz,hz0⟩=>?_⟩;refine⟨aA8 _,dd (fun c1=>?_) fun c1=>?_⟩
  ·obtain⟨y,hy⟩:=dA (l:=x) (k:=k) (by omega);have hfy:=hf y (aCf hy);refine⟨by omega,rfl,by omega,fun e20 h20=>?_⟩;obtain rfl:=aW hy h20;refine⟨aLe e20 _ (by assumption) (by omega) (by omega),dd (fun c2=>?_) fun c2=>?_⟩
   ·have y3:=jI c2;have y4:=gQ dJ ‹x[k]? =some _›;have y5:=uN dJ x (k+1);apply et1
    ·(rw[cH (by omega)];done)
   ·have y2:=bR (iU c2);have y3:=iU c2;have y4:=gQ dJ ‹x[k]? =some _›;refine⟨⟨by omega,by omega⟩,?_⟩;exact⟨k+1,aT (dJ e20) z,rfl,rfl,⟨by omega,by rw[y2,y4,hz];omega,by rw[y2];omega⟩,by omega⟩
  ·have y6:k=x.length:=by omega
   rw[y6,aSV] at hz;apply et1
   ·(rw[bR (by omega)];omega)
abbrev aIU (x:StoreD)(m:Int):Prop:=Cn 6 [.agg [.sl 142 3 (x.database.tables.map aS),.int .i64 x.catalogue.version,.sl 88 4 (x.catalogue.tables.map aG),.sl 121 3 (x.dependencies.map aN),.sl 123 4 (x.inclusions.map aR)],.one (.int .i64 m)] (vI (aT (dO x) m)) []
theorem aVM (x:StoreD)(m:Int)(hf:aO1 x)(h0:0<=m)(h1:m<=1048576):aIU x m:=by
 refine cq Tryz.func6 (.call (vI (aT (bN x.database) m)) []<| .br (.fin []) (.call (vI (aT (bS x.catalogue) (aT (bN x.database) m))) []<| .br (.fin []) (.call (vI (aT (bY x.dependencies) (aT (bS x.catalogue) (aT (bN x.database) m)))) []<| .br (.fin []) (.call (vI (aT (cP x.inclusions) (aT (bY x.dependencies) (aT (bS x.catalogue) (aT (bN x.database) m))))) []<| .br (.fin []) (.fin []))))) (p:=Lx (x.database.tables.map aS)<| Lx (x.catalogue.tables.map aG)<| Lx (x.dependencies.map aN)<| Lx (x.inclusions.map aR)<| aAv x.database m/\Br ((aT (bN x.database) m)<0) ((-1:Int)=(aT (dO x) m)/\True) (aAI x.catalogue (aT (bN x.database) m)/\Br ((aT (bS x.catalogue) (aT (bN x.database) m))<0) ((-1:Int)=(aT (dO x) m)/\True) (uK x.dependencies (aT (bS x.catalogue) (aT (bN x.database) m))/\Br ((aT (bY x.dependencies) (aT (bS x.catalogue) (aT (bN x.database) m)))<0) ((-1:Int)=(aT (dO x) m)/\True) (wV x.inclusions (aT (bY x.dependencies) (aT (bS x.catalogue) (aT (bN x.database) m)))/\Br ((aT (cP x.inclusions) (aT (bY x.dependencies) (aT (bS x.catalogue) (aT (bN x.database) m))))<0) ((-1:Int)=(aT (dO x) m)/\True) ((aT (cP x.inclusions) (aT (bY x.dependencies) (aT (bS x.catalogue) (aT (bN x.database) m))))=(aT (dO x) m)/\True))))) (by kernel_rfl) ?_;refine lx fun n0=>lx fun n1=>lx fun n2=>lx fun n3=>?_;obtain⟨f_database,f_catalogue,f_dependencies,f_inclusions⟩:=hf;have hmx:maxLen=9223372036854775807:=rfl;refine⟨aNu x.database _ (by assumption) (by omega) (by omega),dd (fun c0=>?_) fun c0=>?_⟩
 ·have y0:=jI c0;apply et1
  ·unfold dO;(rw[cH (by omega)];done)
 ·have y0:=iU c0;rw[bR y0] at*;refine⟨aLd x.catalogue _ (by assumption) (by omega) (by omega),dd (fun c1=>?_) fun c1=>?_⟩
  ·have y1:=jI c1;apply et1
   ·unfold dO;(rw[cH (by omega)];done)
  ·have y1:=iU c1;rw[bR y1] at*;refine⟨aIT x.dependencies _ (by assumption) (by omega) (by omega),dd (fun c2=>?_) fun c2=>?_⟩
   ·have y2:=jI c2;apply et1
    ·unfold dO;(rw[cH (by omega)];done)
   ·have y2:=iU c2;rw[bR y2] at*;refine⟨aIy x.inclusions _ (by assumption) (by omega) (by omega),dd (fun c3=>?_) fun c3=>?_⟩
    ·have y3:=jI c3;apply et1
     ·unfold dO;(rw[cH (by omega)];done)
    ·have y3:=iU c3;rw[bR y3] at*;apply et1
     ·unfold dO;(rw[bR (by omega)];omega)
theorem lawEntropyBound (a0:StoreD)(a1:QueryD)(a2:Int)(h0:aO1 a0)(h1:aOZ a1)(h2:Fits a2):qI Tryz.prog 3 [.agg [.sl 142 3 (a0.database.tables.map aS),.int .i64 a0.catalogue.version,.sl 88 4 (a0.catalogue.tables.map aG),.sl 121 3 (a0.dependencies.map aN),.sl 123 4 (a0.inclusions.map aR)],.agg [.int .i64 a1.variableCount,.sl 125 2 (a1.atoms.map bI)],.one (.int .i64 a2)] (vB true) []:=by
 refine cq Tryz.func3 (.call (vI (aT (dO a0) (1048576:Int))) []<| .br (.fin []) (.call (vI (aT (gX a1) (aT (dO a0) (1048576:Int)))) []<| .br (.fin []) (bH (rU a0)<| bH (rR a1)<| bH (aAD a0 a1 a2)<| bH (rU a0)<| bH (rR a1)<| bH (aAC a0 a1 a2)<| .call (vB true) []<| .lit<| .lit<| .lit<| .lit<| .no<| bH (rU a0)<| .call (vB true) []<| bH (rR a1)<| .call (vB true) []<| .fin []))) (p:=Lx (a0.database.tables.map aS)<| Lx (a0.catalogue.tables.map aG)<| Lx (a0.dependencies.map aN)<| Lx (a0.inclusions.map aR)<| Lx (a1.atoms.map bI)<| aIU a0 (1048576:Int)/\Br ((aT (dO a0) (1048576:Int))<0) ((true)=true/\True) (aIQ a1 (aT (dO a0) (1048576:Int))/\Br ((aT (gX a1) (aT (dO a0) (1048576:Int)))<0) ((true)=true/\True) (wE a0/\wD a1/\aEq a0 a1 a2/\wE a0/\wD a1/\aEp a0 a1 a2/\aAu ((cS a0 a1 a2).1.value)/\(!(((cS a0 a1 a2).2)==((cS a0 a1 a2).2)))=false/\wE a0/\aIN a0/\wD a1/\aII a1/\(true)=true/\True))) (by kernel_rfl) ?_;refine lx fun n0=>lx fun n1=>lx fun n2=>lx fun n3=>lx fun n4=>?_;refine⟨aVM a0 _ (by assumption) (by omega) (by omega),dd (fun c0=>?_) fun c0=>?_⟩
 ·apply et1
  ·rfl
 ·try (have y0:=iU c0;try rw[bR y0] at*)
  refine⟨aVL a1 _ (by assumption) (by omega) (by omega),dd (fun c1=>?_) fun c1=>?_⟩
  ·apply et1
   ·rfl
  ·try (have y1:=iU c1;try rw[bR y1] at*)
   refine⟨aIG a0 (by omega),aIC a1 (by omega),aSE a0 a1 a2 (by omega) (by omega),aIG a0 (by omega),aIC a1 (by omega),aSD a0 a1 a2 (by omega) (by omega),by exact aNs ((cS a0 a1 a2).1.value),by (simp;done),aIG a0 (by omega),by exact aVI a0,aIC a1 (by omega),by exact aVH a1,?_,trivial⟩
   ·rfl
end Go.Proofs.YtlidmoeecphbmaaGreat
namespace Go.Proofs.YtlidmoeecphbmaaGreat
open Go.ChangeShapes Go.WideShapes Go.ChangeAt Go.RowKit
set_option linter.unusedVariables false
set_option linter.unusedSimpArgs false
set_option maxRecDepth 100000
set_option maxHeartbeats 4000000
def aVN:Rd (List Int):=fun w cs l=>iQ (Lv w) w (aC l) cs/\aDv l
theorem aAK {H:Type}{enc:TypeId × Value->H}{w:World}{base:Nat}{spare:Nat->Bool}{held:Bool}{fuel:Nat}{cs:List Value}{x:DataW H × List MemPlace}(h:DataW.trod enc Tryz.prog w base spare held fuel 91 cs=some x): ∃l,aVN w cs l:=by
 obtain⟨l,hl⟩:=lB (k:=1) (R:=aQP) Tryz.underlying91 (by kernel_rfl) (by omega) (fun _ _ _ h=>trod_int Tryz.underlying3 h) h;have hf:aDv l:=hl.all_ (fun _ _ _ h=>h.2);obtain⟨A,c,rfl,_⟩:=id hl;exact⟨l,eK (pI (R:=aQP) (enc:=intD) (fun cs x h=>by obtain⟨rfl,_⟩:=h;exact eK rdV_int iB) hl) iB,hf⟩
def aYO:Rd (List (List Int)):=fun w cs l=>iQ (Lv w) w (aXz l) cs/\aGN l
theorem aKb {H:Type}{enc:TypeId × Value->H}{w:World}{base:Nat}{spare:Nat->Bool}{held:Bool}{fuel:Nat}{cs:List Value}{x:DataW H × List MemPlace}(h:DataW.trod enc Tryz.prog w base spare held fuel 92 cs=some x): ∃l,aYO w cs l:=by
 obtain⟨l,hl⟩:=lB (k:=1) (R:=aVN) Tryz.underlying92 (by kernel_rfl) (by omega) (fun _ _ _ h=>aAK h) h;have hf:aGN l:=hl.all_ (fun _ _ _ h=>h.2);obtain⟨A,c,rfl,_⟩:=id hl;exact⟨l,eK (pI (R:=aVN) (enc:=aC) (fun cs x h=>h.1) hl) iB,hf⟩
def aPN:Rd aY:=fun w cs x=>iQ (Lv w) w (aS x) cs/\aOY x
set_option maxRecDepth 100000 in
theorem aSJ {H:Type}{enc:TypeId × Value->H}{w:World}{base:Nat}{spare:Nat->Bool}{held:Bool}{fuel:Nat}{cs:List Value}{x:DataW H × List MemPlace}(h:DataW.trod enc Tryz.prog w base spare held fuel 165 cs=some x): ∃b,aPN w cs b:=by
 obtain⟨xs,n,_,_,hl,hxl,hf⟩:=DataW.trod_struct Tryz.underlying165 h;have hl2:cs.length=3:=hl.trans (by kernel_rfl)
 match cs,hl2 with
 | [c0,c1,c2],_=>
   match xs,hxl with
   | [y0,y1,y2],_=>
     obtain⟨l0,r0⟩:=tD Tryz.underlying9 (hf 0 _ rfl);obtain⟨l1,r1⟩:=trod_int Tryz.underlying3 (hf 1 _ rfl);obtain⟨l2,r2,f2⟩:=aKb (hf 2 _ rfl);exact⟨⟨l0,l1,l2⟩,(eK (rdS r0) (eK (rdI r1) (iQ.append r2 iB))),r0.2,r1.2,f2⟩
def aWk:Rd (List aY):=fun w cs l=>iQ (Lv w) w (aWG l) cs/\aFR l
theorem aPO {H:Type}{enc:TypeId × Value->H}{w:World}{base:Nat}{spare:Nat->Bool}{held:Bool}{fuel:Nat}{cs:List Value}{x:DataW H × List MemPlace}(h:DataW.trod enc Tryz.prog w base spare held fuel 22 cs=some x): ∃l,aWk w cs l:=by
 obtain⟨l,hl⟩:=lB (k:=3) (R:=aPN) Tryz.underlying22 (by kernel_rfl) (by omega) (fun _ _ _ h=>aSJ h) h;have hf:aFR l:=hl.all_ (fun _ _ _ h=>h.2);obtain⟨A,c,rfl,_⟩:=id hl;exact⟨l,eK (pI (R:=aPN) (enc:=aS) (fun cs x h=>h.1) hl) iB,hf⟩
def aSK:Rd aU:=fun w cs x=>iQ (Lv w) w (aQp x) cs/\aDV x
set_option maxRecDepth 100000 in
theorem aLf {H:Type}{enc:TypeId × Value->H}{w:World}{base:Nat}{spare:Nat->Bool}{held:Bool}{fuel:Nat}{cs:List Value}{x:DataW H × List MemPlace}(h:DataW.trod enc Tryz.prog w base spare held fuel 24 cs=some x): ∃b,aSK w cs b:=by
 obtain⟨xs,n,_,_,hl,hxl,hf⟩:=DataW.trod_struct Tryz.underlying24 h;have hl2:cs.length=1:=hl.trans (by kernel_rfl)
 match cs,hl2 with
 | [c0],_=>
   match xs,hxl with
   | [y0],_=>
     obtain⟨l0,r0,f0⟩:=aPO (hf 0 _ rfl);exact⟨⟨l0⟩,(iQ.append r0 iB),f0⟩
def aVO:Rd dC:=fun w cs x=>iQ (Lv w) w (bI x) cs/\aTS x
set_option maxRecDepth 100000 in
theorem aVP {H:Type}{enc:TypeId × Value->H}{w:World}{base:Nat}{spare:Nat->Bool}{held:Bool}{fuel:Nat}{cs:List Value}{x:DataW H × List MemPlace}(h:DataW.trod enc Tryz.prog w base spare held fuel 118 cs=some x): ∃b,aVO w cs b:=by
 obtain⟨xs,n,_,_,hl,hxl,hf⟩:=DataW.trod_struct Tryz.underlying118 h;have hl2:cs.length=2:=hl.trans (by kernel_rfl)
 match cs,hl2 with
 | [c0,c1],_=>
   match xs,hxl with
   | [y0,y1],_=>
     obtain⟨l0,r0⟩:=tD Tryz.underlying9 (hf 0 _ rfl);obtain⟨l1,r1,f1⟩:=aAK (hf 1 _ rfl);exact⟨⟨l0,l1⟩,(eK (rdS r0) (iQ.append r1 iB)),r0.2,f1⟩
def aYP:Rd (List dC):=fun w cs l=>iQ (Lv w) w (aYA l) cs/\aLA l
theorem aSL {H:Type}{enc:TypeId × Value->H}{w:World}{base:Nat}{spare:Nat->Bool}{held:Bool}{fuel:Nat}{cs:List Value}{x:DataW H × List MemPlace}(h:DataW.trod enc Tryz.prog w base spare held fuel 32 cs=some x): ∃l,aYP w cs l:=by
 obtain⟨l,hl⟩:=lB (k:=2) (R:=aVO) Tryz.underlying32 (by kernel_rfl) (by omega) (fun _ _ _ h=>aVP h) h;have hf:aLA l:=hl.all_ (fun _ _ _ h=>h.2);obtain⟨A,c,rfl,_⟩:=id hl;exact⟨l,eK (pI (R:=aVO) (enc:=bI) (fun cs x h=>h.1) hl) iB,hf⟩
def RQuery:Rd QueryD:=fun w cs x=>iQ (Lv w) w (aYB x) cs/\aOZ x
set_option maxRecDepth 100000 in
theorem openQuery {H:Type}{enc:TypeId × Value->H}{w:World}{base:Nat}{spare:Nat->Bool}{held:Bool}{fuel:Nat}{cs:List Value}{x:DataW H × List MemPlace}(h:DataW.trod enc Tryz.prog w base spare held fuel 34 cs=some x): ∃b,RQuery w cs b:=by
 obtain⟨xs,n,_,_,hl,hxl,hf⟩:=DataW.trod_struct Tryz.underlying34 h;have hl2:cs.length=2:=hl.trans (by kernel_rfl)
 match cs,hl2 with
 | [c0,c1],_=>
   match xs,hxl with
   | [y0,y1],_=>
     obtain⟨l0,r0⟩:=trod_int Tryz.underlying3 (hf 0 _ rfl);obtain⟨l1,r1,f1⟩:=aSL (hf 1 _ rfl);exact⟨⟨l0,l1⟩,(eK (rdI r0) (iQ.append r1 iB)),r0.2,f1⟩
def aAL:Rd aQ:=fun w cs x=>iQ (Lv w) w (aD x) cs/\xX x
set_option maxRecDepth 100000 in
theorem aIV {H:Type}{enc:TypeId × Value->H}{w:World}{base:Nat}{spare:Nat->Bool}{held:Bool}{fuel:Nat}{cs:List Value}{x:DataW H × List MemPlace}(h:DataW.trod enc Tryz.prog w base spare held fuel 233 cs=some x): ∃b,aAL w cs b:=by
 obtain⟨xs,n,_,_,hl,hxl,hf⟩:=DataW.trod_struct Tryz.underlying233 h;have hl2:cs.length=3:=hl.trans (by kernel_rfl)
 match cs,hl2 with
 | [c0,c1,c2],_=>
   match xs,hxl with
   | [y0,y1,y2],_=>
     obtain⟨l0,r0,f0⟩:=aAK (hf 0 _ rfl);obtain⟨l1,r1,f1⟩:=aKb (hf 1 _ rfl);obtain⟨l2,r2,f2⟩:=aAK (hf 2 _ rfl);exact⟨⟨l0,l1,l2⟩,(iQ.append r0 (iQ.append r1 (iQ.append r2 iB))),f0,f1,f2⟩
def aLg:Rd (List aQ):=fun w cs l=>iQ (Lv w) w (aLB l) cs/\qD l
theorem aFI {H:Type}{enc:TypeId × Value->H}{w:World}{base:Nat}{spare:Nat->Bool}{held:Bool}{fuel:Nat}{cs:List Value}{x:DataW H × List MemPlace}(h:DataW.trod enc Tryz.prog w base spare held fuel 167 cs=some x): ∃l,aLg w cs l:=by
 obtain⟨l,hl⟩:=lB (k:=3) (R:=aAL) Tryz.underlying167 (by kernel_rfl) (by omega) (fun _ _ _ h=>aIV h) h;have hf:qD l:=hl.all_ (fun _ _ _ h=>h.2);obtain⟨A,c,rfl,_⟩:=id hl;exact⟨l,eK (pI (R:=aAL) (enc:=aD) (fun cs x h=>h.1) hl) iB,hf⟩
def aAM:Rd aM:=fun w cs x=>iQ (Lv w) w (aG x) cs/\xY x
set_option maxRecDepth 100000 in
theorem aIW {H:Type}{enc:TypeId × Value->H}{w:World}{base:Nat}{spare:Nat->Bool}{held:Bool}{fuel:Nat}{cs:List Value}{x:DataW H × List MemPlace}(h:DataW.trod enc Tryz.prog w base spare held fuel 169 cs=some x): ∃b,aAM w cs b:=by
 obtain⟨xs,n,_,_,hl,hxl,hf⟩:=DataW.trod_struct Tryz.underlying169 h;have hl2:cs.length=4:=hl.trans (by kernel_rfl)
 match cs,hl2 with
 | [c0,c1,c2,c3],_=>
   match xs,hxl with
   | [y0,y1,y2,y3],_=>
     obtain⟨l0,r0⟩:=tD Tryz.underlying9 (hf 0 _ rfl);obtain⟨l1,r1⟩:=trod_int Tryz.underlying3 (hf 1 _ rfl);obtain⟨l2,r2⟩:=trod_int Tryz.underlying3 (hf 2 _ rfl);obtain⟨l3,r3,f3⟩:=aFI (hf 3 _ rfl);exact⟨⟨l0,l1,l2,l3⟩,(eK (rdS r0) (eK (rdI r1) (eK (rdI r2) (iQ.append r3 iB)))),r0.2,r1.2,r2.2,f3⟩
def aLh:Rd (List aM):=fun w cs l=>iQ (Lv w) w (aLC l) cs/\qE l
theorem aFJ {H:Type}{enc:TypeId × Value->H}{w:World}{base:Nat}{spare:Nat->Bool}{held:Bool}{fuel:Nat}{cs:List Value}{x:DataW H × List MemPlace}(h:DataW.trod enc Tryz.prog w base spare held fuel 25 cs=some x): ∃l,aLh w cs l:=by
 obtain⟨l,hl⟩:=lB (k:=4) (R:=aAM) Tryz.underlying25 (by kernel_rfl) (by omega) (fun _ _ _ h=>aIW h) h;have hf:qE l:=hl.all_ (fun _ _ _ h=>h.2);obtain⟨A,c,rfl,_⟩:=id hl;exact⟨l,eK (pI (R:=aAM) (enc:=aG) (fun cs x h=>h.1) hl) iB,hf⟩
def aPP:Rd cE:=fun w cs x=>iQ (Lv w) w (aO0 x) cs/\aBK x
set_option maxRecDepth 100000 in
theorem aIz {H:Type}{enc:TypeId × Value->H}{w:World}{base:Nat}{spare:Nat->Bool}{held:Bool}{fuel:Nat}{cs:List Value}{x:DataW H × List MemPlace}(h:DataW.trod enc Tryz.prog w base spare held fuel 27 cs=some x): ∃b,aPP w cs b:=by
 obtain⟨xs,n,_,_,hl,hxl,hf⟩:=DataW.trod_struct Tryz.underlying27 h;have hl2:cs.length=2:=hl.trans (by kernel_rfl)
 match cs,hl2 with
 | [c0,c1],_=>
   match xs,hxl with
   | [y0,y1],_=>
     obtain⟨l0,r0⟩:=trod_int Tryz.underlying3 (hf 0 _ rfl);obtain⟨l1,r1,f1⟩:=aFJ (hf 1 _ rfl);exact⟨⟨l0,l1⟩,(eK (rdI r0) (iQ.append r1 iB)),r0.2,f1⟩
def aAN:Rd bB:=fun w cs x=>iQ (Lv w) w (aN x) cs/\xZ x
set_option maxRecDepth 100000 in
theorem aIX {H:Type}{enc:TypeId × Value->H}{w:World}{base:Nat}{spare:Nat->Bool}{held:Bool}{fuel:Nat}{cs:List Value}{x:DataW H × List MemPlace}(h:DataW.trod enc Tryz.prog w base spare held fuel 112 cs=some x): ∃b,aAN w cs b:=by
 obtain⟨xs,n,_,_,hl,hxl,hf⟩:=DataW.trod_struct Tryz.underlying112 h;have hl2:cs.length=3:=hl.trans (by kernel_rfl)
 match cs,hl2 with
 | [c0,c1,c2],_=>
   match xs,hxl with
   | [y0,y1,y2],_=>
     obtain⟨l0,r0⟩:=tD Tryz.underlying9 (hf 0 _ rfl);obtain⟨l1,r1,f1⟩:=aAK (hf 1 _ rfl);obtain⟨l2,r2⟩:=trod_int Tryz.underlying3 (hf 2 _ rfl);exact⟨⟨l0,l1,l2⟩,(eK (rdS r0) (iQ.append r1 (eK (rdI r2) iB))),r0.2,f1,r2.2⟩
def aLi:Rd (List bB):=fun w cs l=>iQ (Lv w) w (aLD l) cs/\qF l
theorem aFK {H:Type}{enc:TypeId × Value->H}{w:World}{base:Nat}{spare:Nat->Bool}{held:Bool}{fuel:Nat}{cs:List Value}{x:DataW H × List MemPlace}(h:DataW.trod enc Tryz.prog w base spare held fuel 28 cs=some x): ∃l,aLi w cs l:=by
 obtain⟨l,hl⟩:=lB (k:=3) (R:=aAN) Tryz.underlying28 (by kernel_rfl) (by omega) (fun _ _ _ h=>aIX h) h;have hf:qF l:=hl.all_ (fun _ _ _ h=>h.2);obtain⟨A,c,rfl,_⟩:=id hl;exact⟨l,eK (pI (R:=aAN) (enc:=aN) (fun cs x h=>h.1) hl) iB,hf⟩
def aCB:Rd aZ:=fun w cs x=>iQ (Lv w) w (aR x) cs/\aBL x
set_option maxRecDepth 100000 in
theorem aJA {H:Type}{enc:TypeId × Value->H}{w:World}{base:Nat}{spare:Nat->Bool}{held:Bool}{fuel:Nat}{cs:List Value}{x:DataW H × List MemPlace}(h:DataW.trod enc Tryz.prog w base spare held fuel 115 cs=some x): ∃b,aCB w cs b:=by
 obtain⟨xs,n,_,_,hl,hxl,hf⟩:=DataW.trod_struct Tryz.underlying115 h;have hl2:cs.length=4:=hl.trans (by kernel_rfl)
 match cs,hl2 with
 | [c0,c1,c2,c3],_=>
   match xs,hxl with
   | [y0,y1,y2,y3],_=>
     obtain⟨l0,r0⟩:=tD Tryz.underlying9 (hf 0 _ rfl);obtain⟨l1,r1⟩:=trod_int Tryz.underlying3 (hf 1 _ rfl);obtain⟨l2,r2⟩:=tD Tryz.underlying9 (hf 2 _ rfl);obtain⟨l3,r3⟩:=trod_int Tryz.underlying3 (hf 3 _ rfl);exact⟨⟨l0,l1,l2,l3⟩,(eK (rdS r0) (eK (rdI r1) (eK (rdS r2) (eK (rdI r3) iB)))),r0.2,r1.2,r2.2,r3.2⟩
def aNv:Rd (List aZ):=fun w cs l=>iQ (Lv w) w (aM1 l) cs/\sG l
theorem aIY {H:Type}{enc:TypeId × Value->H}{w:World}{base:Nat}{spare:Nat->Bool}{held:Bool}{fuel:Nat}{cs:List Value}{x:DataW H × List MemPlace}(h:DataW.trod enc Tryz.prog w base spare held fuel 29 cs=some x): ∃l,aNv w cs l:=by
 obtain⟨l,hl⟩:=lB (k:=4) (R:=aCB) Tryz.underlying29 (by kernel_rfl) (by omega) (fun _ _ _ h=>aJA h) h;have hf:sG l:=hl.all_ (fun _ _ _ h=>h.2);obtain⟨A,c,rfl,_⟩:=id hl;exact⟨l,eK (pI (R:=aCB) (enc:=aR) (fun cs x h=>h.1) hl) iB,hf⟩
def RStore:Rd StoreD:=fun w cs x=>iQ (Lv w) w (aYC x) cs/\aO1 x
set_option maxRecDepth 100000 in
theorem openStore {H:Type}{enc:TypeId × Value->H}{w:World}{base:Nat}{spare:Nat->Bool}{held:Bool}{fuel:Nat}{cs:List Value}{x:DataW H × List MemPlace}(h:DataW.trod enc Tryz.prog w base spare held fuel 31 cs=some x): ∃b,RStore w cs b:=by
 obtain⟨xs,n,_,_,hl,hxl,hf⟩:=DataW.trod_struct Tryz.underlying31 h;have hl2:cs.length=5:=hl.trans (by kernel_rfl)
 match cs,hl2 with
 | [c0,c1,c2,c3,c4],_=>
   match xs,hxl with
   | [y0,y1,y2,y3],_=>
     obtain⟨l0,r0,f0⟩:=aLf (hf 0 _ rfl);obtain⟨l1,r1,f1⟩:=aIz (hf 1 _ rfl);obtain⟨l2,r2,f2⟩:=aFK (hf 2 _ rfl);obtain⟨l3,r3,f3⟩:=aIY (hf 3 _ rfl);exact⟨⟨l0,l1,l2,l3⟩,(iQ.append r0 (iQ.append r1 (iQ.append r2 (iQ.append r3 iB)))),f0,f1,f2,f3⟩
end Go.Proofs.YtlidmoeecphbmaaGreat
namespace Go.Proofs.YtlidmoeecphbmaaGreat
open Go.ChangeShapes Go.WideShapes Go.ChangeAt Go.RowKit
set_option linter.unusedVariables false
set_option linter.unusedSimpArgs false
set_option maxRecDepth 100000
set_option maxHeartbeats 4000000
theorem fr_own:ownKnob Tryz.prog.godebug=none:=by kernel_rfl
theorem fr_laid:laidOutB Tryz.prog=true:=by kernel_rfl
theorem fr_maps:mapsRowed Tryz.prog=true:=by kernel_rfl
theorem fr_stops:(Tryz.prog.stops== [])=true:=by kernel_rfl
theorem fr_sk:(Tryz.prog.stopKnobs== [])=true:=by kernel_rfl
theorem fr_heard:Tryz.prog.stopsHeard=true:=by kernel_rfl
theorem fr_enter:Tryz.prog.mayEnter=true:=by kernel_rfl
theorem fr_keys:(Rows.fnExactEntropyBoundRow.plainKeys==Tryz.prog.plainKeys)=true:=by kernel_rfl
theorem fr_lifts:(Rows.fnExactEntropyBoundRow.lifted==Tryz.prog.liftsFinal)=true:=by kernel_rfl
theorem fr_make:(Tryz.prog.make==some Rows.fnExactEntropyBoundRow.make)=true:=by kernel_rfl
end Go.Proofs.YtlidmoeecphbmaaGreat
