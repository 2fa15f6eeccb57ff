/-
  Contracts and plain laws, joined: part 12.
-/
import Derived.Test.YtlidmoeecphbmaaGreateb8
import Derived.Test.YtlidmoeecphbmaaGreateb9
import Derived.Test.YtlidmoeecphbmaaGreateb7
import Derived.Test.YtlidmoeecphbmaaGreateb6
namespace Go.Proofs.YtlidmoeecphbmaaGreat
open Go.ChangeShapes Go.WideShapes Go.ChangeAt Go.RowKit
set_option linter.unusedVariables false
set_option linter.unusedSimpArgs false
set_option maxRecDepth 100000
set_option maxHeartbeats 4000000
abbrev yX (d:aU)(f:bB):AV × List (Nat × Rs):=(.own 0,[(0,.arr 3 1 true ((kC d f).map intD))])
abbrev aES (d:aU)(f:bB):Prop:=Cn 232 [.agg [.sl 142 3 (d.tables.map aS)],.agg [.str f.name,.sl 3 1 (f.src.map intD),.int .i64 f.dst]] (yX d f).1 (yX d f).2
theorem aRW (d:aU)(f:bB)(hc:bN d<=1048576):aES d f:=by
 refine cq Tryz.func232 (.call (vB (iC d f)) []<| .br (.fin []) (.call (.tup [.agg [.p none (.str ((aL d f.name).1.name)),vI ((aL d f.name).1.arity),.p none (.sl 91 1 ((aL d f.name).1.rows.map aC))],vB ((aL d f.name).2)]) []<| .len ((aL d f.name).1.rows.length)<| .loop Nat (Q1 Nat) (rg 7 8++rg 29 45++[77,78]) [4800,5500] (fun k=>[(29,vI (k:Int))]) (fun k=>[]) (fun k=>k<=(aL d f.name).1.rows.length/\kZ (aL d f.name).1.rows f.src f.dst k= []) (fun k=>(aL d f.name).1.rows.length - k) (fun k=> .br (.elem _ aC ((aL d f.name).1.rows) (fun e32=> .sub (List Int) aC ((aL d f.name).1.rows)<| .len (((aL d f.name).1.rows.take k).length)<| .loop Nat (Q1 Nat) ([9,10,11,12,13,14]++rg 39 35++[77]) [4800,5500] (fun i=>[(39,vI (i:Int))]) (fun i=>[]) (fun i=>i<=k/\kL (aL d f.name).1.rows f.src f.dst k i= []) (fun i=>k - i) (fun i=> .br (.elem _ aC ((aL d f.name).1.rows.take k) (fun e42=>bH (oH e42 f.src)<| bH (oH e32 f.src)<| .call (vB (decide (((fH e42 f.src).1)=((fH e32 f.src).1)))) []<| .br (.elem _ intD e42 (fun e65=> .elem _ intD e32 (fun e70=> .lit<| .lit<| .lit<| .br (.fin [(0,7600)]) (.back [])))) (.back []))) (.back [])))) (.fin [])))) (p:=Lx (d.tables.map aS)<| Lx (f.src.map intD)<| vC d f/\Nr (iC d f) ([]=(kC d f).map intD/\True) (qI Tryz.prog 86 [.agg [.sl 142 3 (d.tables.map aS)],.one (.str f.name)] (.tup [.agg [.p none (.str ((aL d f.name).1.name)),vI ((aL d f.name).1.arity),.p none (.sl 91 1 ((aL d f.name).1.rows.map aC))],vB ((aL d f.name).2)]) []/\(Lm aC ((aL d f.name).1.rows)/\((∃(k:Nat),0=(k:Int)/\k<=(aL d f.name).1.rows.length/\kZ (aL d f.name).1.rows f.src f.dst k= [])/\ ∀(k:Nat),(k<=(aL d f.name).1.rows.length/\kZ (aL d f.name).1.rows f.src f.dst k= [])->Br ((k:Int)<(((aL d f.name).1.rows.length:Nat):Int)) (0<=(k:Int)/\Em aC ((aL d f.name).1.rows) k fun e32=>(aL d f.name).1.rows.map aC=(aL d f.name).1.rows.map aC/\0<=(k:Int)/\(k:Int)<=(((aL d f.name).1.rows.length:Nat):Int)/\(Lm aC ((aL d f.name).1.rows.take k)/\((∃(i:Nat),0=(i:Int)/\i<=k/\kL (aL d f.name).1.rows f.src f.dst k i= [])/\ ∀(i:Nat),(i<=k/\kL (aL d f.name).1.rows f.src f.dst k i= [])->Br ((i:Int)<((((aL d f.name).1.rows.take k).length:Nat):Int)) (0<=(i:Int)/\Em aC ((aL d f.name).1.rows.take k) i fun e42=>rF e42 f.src/\rF e32 f.src/\qK ((fH e42 f.src).1) ((fH e32 f.src).1)/\Br (((fH e42 f.src).1)=((fH e32 f.src).1)) (0<=f.dst/\Em intD e42 ((f.dst).toNat) fun e65=>0<=f.dst/\Em intD e32 ((f.dst).toNat) fun e70=>Nb (e65=e70) ([[.int .i64 (i:Int)],[.int .i64 (k:Int)]]=(kC d f).map intD/\True) (bK ((i:Int)+1)/\ ∃(i' :Nat),((i:Int)+1)=(i' :Int)/\(i' <=k/\kL (aL d f.name).1.rows f.src f.dst k i' = [])/\k - i' <k - i)) (bK ((i:Int)+1)/\ ∃(i' :Nat),((i:Int)+1)=(i' :Int)/\(i' <=k/\kL (aL d f.name).1.rows f.src f.dst k i' = [])/\k - i' <k - i)) (bK ((k:Int)+1)/\ ∃(k' :Nat),((k:Int)+1)=(k' :Int)/\(k' <=(aL d f.name).1.rows.length/\kZ (aL d f.name).1.rows f.src f.dst k' = [])/\(aL d f.name).1.rows.length - k' <(aL d f.name).1.rows.length - k)))) ([]=(kC d f).map intD/\True))))) (by kernel_rfl) ?_;refine lx fun n0=>lx fun n1=>?_;refine⟨aGq _ _ (by omega),dm (fun c0=>?_) fun c0=>?_⟩
 ·have hbad:kC d f= []:=by rw[kC,if_neg (by simpa using c0)]
  apply et1
  ·(rw[hbad]<;>rfl)
 ·have hok:iC d f=true:=by simpa using c0
  obtain⟨hT,hd0,hd1,hsl⟩:=aEH hok;have hT8:=cA hT;have hV:kC d f=kZ (aL d f.name).1.rows f.src f.dst (aL d f.name).1.rows.length:=by rw[kC,if_pos hok]
  refine⟨jP (rK _ f.name (by omega)) rfl,aA8 _,⟨0,rfl,aCC _,rfl⟩,fun k ⟨hk,hv⟩=>?_⟩;refine dd (fun c1=>?_) fun c1=>?_
  ·refine⟨by omega,rfl,by omega,fun e32 h32=>?_⟩;have hl32:=oY hT (aCf h32);refine⟨rfl,by omega,by omega,aA8 _,⟨0,rfl,aCC _,rfl⟩,fun i ⟨hi,hw⟩=>?_⟩;have htl:((aL d f.name).1.rows.take k).length=k:=by rw[aWm];omega
   refine dd (fun c2=>?_) fun c2=>?_
   ·refine⟨by omega,rfl,by omega,fun e42 h42=>?_⟩;have hx:(aL d f.name).1.rows[i]? =some e42:=by rw[List.getElem?_take_of_lt (by omega)] at h42;exact h42
    have hl42:=oY hT (aCf hx);have hb:=aPw (cols:=f.src) (c:=f.dst) hx h32;refine⟨aC4 _ _ (by omega),aC4 _ _ (by omega),aCY _ _,dd (fun g61=>?_) fun g61=>?_⟩
    ·refine⟨by omega,rfl,by omega,fun e65 h65=>?_⟩;refine⟨by omega,rfl,by omega,fun e70 h70=>?_⟩;refine dn (fun c3=>?_) fun c3=>?_
     ·have hB:aOa (aL d f.name).1.rows f.src f.dst i k=true:=by rw[hb,bM h65,bM h70];simp[*]
      have hE:=aGo hv hw hB (by omega) (by omega:k<(aL d f.name).1.rows.length);apply et1
      ·(rw[hV,hE]<;>rfl)
     ·refine⟨⟨by omega,by omega⟩,?_⟩;exact⟨i+1,rfl,⟨by omega,aCh hw (by rw[hb];(rw[bM h65,bM h70];simp[*];done))⟩,by omega⟩
    ·refine⟨⟨by omega,by omega⟩,?_⟩;exact⟨i+1,rfl,⟨by omega,aCh hw (by rw[hb];(simp[g61];done))⟩,by omega⟩
   ·refine⟨⟨by omega,by omega⟩,?_⟩;exact⟨k+1,rfl,⟨by omega,aGp hv (by obtain rfl:i=k:=(by omega);exact hw)⟩,by omega⟩
  ·have hE:kC d f= []:=by rw[hV,show (aL d f.name).1.rows.length=k by omega,hv]
   apply et1
   ·(rw[hE]<;>rfl)
abbrev yY (d:aU)(f:bB):AV × List (Nat × Rs):=(.own 0,[(0,.arr 3 1 true ((kC d f).map intD))])
abbrev aET (d:aU)(f:bB):Prop:=Cn 223 [.agg [.sl 142 3 (d.tables.map aS)],.agg [.str f.name,.sl 3 1 (f.src.map intD),.int .i64 f.dst]] (yY d f).1 (yY d f).2
theorem aRX (d:aU)(f:bB)(hc:bN d<=1048576):aET d f:=by
 refine cq Tryz.func223 (.call (.tup [.agg [.p none (.str ((aL d f.name).1.name)),vI ((aL d f.name).1.arity),.p none (.sl 91 1 ((aL d f.name).1.rows.map aC))],vB ((aL d f.name).2)]) []<| .loop Nat (Q1 Nat) ([7,8,9,10,11,12]++rg 20 64) [4000,5600] (fun k=>[(7,vI (k:Int))]) (fun k=>[]) (fun k=>k<=(aL d f.name).1.rows.length/\kZ (aL d f.name).1.rows f.src f.dst k= []) (fun k=>(aL d f.name).1.rows.length - k) (fun k=> .len ((aL d f.name).1.rows.length)<| .br (.call (vB (iC d f)) []<| .lit<| .br (.elem _ aC ((aL d f.name).1.rows) (fun e36=>bH (oI e36 f.src)<| .loop Nat (Q1 Nat) ([10,11,12]++rg 43 41) [5600] (fun i=>[(10,vI (i:Int))]) (fun i=>[]) (fun i=>i<=k/\kL (aL d f.name).1.rows f.src f.dst k i= []) (fun i=>k - i) (fun i=> .br (.elem _ aC ((aL d f.name).1.rows) (fun e52=>bH (oI e52 f.src)<| .call (vI (cB ((fH e52 f.src).1) ((fH e36 f.src).1))) []<| .br (.elem _ aC ((aL d f.name).1.rows) (fun e67=> .elem _ intD e67 (fun e71=> .elem _ aC ((aL d f.name).1.rows) (fun e76=> .elem _ intD e76 (fun e80=> .lit<| .lit<| .lit<| .br (.fin [(0,8600)]) (.back [])))))) (.back []))) (.back [])))) (.fin [(0,8700)])) (.fin [(0,8700)]))) (p:=Lx (d.tables.map aS)<| Lx (f.src.map intD)<| qI Tryz.prog 126 [.agg [.sl 142 3 (d.tables.map aS)],.one (.str f.name)] (.tup [.agg [.p none (.str ((aL d f.name).1.name)),vI ((aL d f.name).1.arity),.p none (.sl 91 1 ((aL d f.name).1.rows.map aC))],vB ((aL d f.name).2)]) []/\((∃(k:Nat),0=(k:Int)/\k<=(aL d f.name).1.rows.length/\kZ (aL d f.name).1.rows f.src f.dst k= [])/\ ∀(k:Nat),(k<=(aL d f.name).1.rows.length/\kZ (aL d f.name).1.rows f.src f.dst k= [])->Lm aC ((aL d f.name).1.rows)/\Br ((k:Int)<(((aL d f.name).1.rows.length:Nat):Int)) (vD d f/\Bb (iC d f) (0<=(k:Int)/\Em aC ((aL d f.name).1.rows) k fun e36=>rG e36 f.src/\((∃(i:Nat),0=(i:Int)/\i<=k/\kL (aL d f.name).1.rows f.src f.dst k i= [])/\ ∀(i:Nat),(i<=k/\kL (aL d f.name).1.rows f.src f.dst k i= [])->Br ((i:Int)<(k:Int)) (0<=(i:Int)/\Em aC ((aL d f.name).1.rows) i fun e52=>rG e52 f.src/\fN ((fH e52 f.src).1) ((fH e36 f.src).1)/\Br ((cB ((fH e52 f.src).1) ((fH e36 f.src).1))=0) (0<=(i:Int)/\Em aC ((aL d f.name).1.rows) i fun e67=>0<=f.dst/\Em intD e67 ((f.dst).toNat) fun e71=>0<=(k:Int)/\Em aC ((aL d f.name).1.rows) k fun e76=>0<=f.dst/\Em intD e76 ((f.dst).toNat) fun e80=>Nb (e71=e80) ([[.int .i64 (i:Int)],[.int .i64 (k:Int)]]=(kC d f).map intD/\True) (bK ((i:Int)+1)/\ ∃(i' :Nat),((i:Int)+1)=(i' :Int)/\(i' <=k/\kL (aL d f.name).1.rows f.src f.dst k i' = [])/\k - i' <k - i)) (bK ((i:Int)+1)/\ ∃(i' :Nat),((i:Int)+1)=(i' :Int)/\(i' <=k/\kL (aL d f.name).1.rows f.src f.dst k i' = [])/\k - i' <k - i)) (bK ((k:Int)+1)/\ ∃(k' :Nat),((k:Int)+1)=(k' :Int)/\(k' <=(aL d f.name).1.rows.length/\kZ (aL d f.name).1.rows f.src f.dst k' = [])/\(aL d f.name).1.rows.length - k' <(aL d f.name).1.rows.length - k))) ([]=(kC d f).map intD/\True)) ([]=(kC d f).map intD/\True))) (by kernel_rfl) ?_;refine lx fun n0=>lx fun n1=>?_;refine⟨jP (rL _ f.name (by omega)) rfl,⟨0,rfl,aCC _,rfl⟩,fun k ⟨hk,hv⟩=>?_⟩;refine⟨aA8 _,dd (fun g25=>?_) fun g25=>?_⟩
 ·refine⟨aGr _ _ (by omega),db (fun c0=>?_) fun c0=>?_⟩
  ·have hok:iC d f=true:=c0;obtain⟨hT,hd0,hd1,hsl⟩:=aEH hok;have hT8:=cA hT;have hV:kC d f=kZ (aL d f.name).1.rows f.src f.dst (aL d f.name).1.rows.length:=by rw[kC,if_pos hok]
   refine⟨by omega,rfl,by omega,fun e36 h36=>?_⟩;have hl36:=oY hT (aCf h36);refine⟨aC5 _ _ (by omega),⟨0,rfl,aCC _,rfl⟩,fun i ⟨hi,hw⟩=>?_⟩;refine dd (fun c1=>?_) fun c1=>?_
   ·refine⟨by omega,rfl,by omega,fun e52 h52=>?_⟩;have hl52:=oY hT (aCf h52);have hb:=aPw (cols:=f.src) (c:=f.dst) h52 h36;refine⟨aC5 _ _ (by omega),jA _ _,dd (fun g63=>?_) fun g63=>?_⟩
    ·refine⟨by omega,rfl,by omega,fun e67 h67=>?_⟩;obtain rfl:=(aW h52 h67).symm;refine⟨by omega,rfl,by omega,fun e71 h71=>?_⟩;refine⟨by omega,rfl,by omega,fun e76 h76=>?_⟩;obtain rfl:=(aW h36 h76).symm;refine⟨by omega,rfl,by omega,fun e80 h80=>?_⟩;refine dn (fun c2=>?_) fun c2=>?_
     ·have hB:aOa (aL d f.name).1.rows f.src f.dst i k=true:=by rw[hb,bM h71,bM h80,eP.1 g63];simp[c2]
      have hE:=aGo hv hw hB (by omega) (by omega:k<(aL d f.name).1.rows.length);apply et1
      ·(rw[hV,hE]<;>rfl)
     ·refine⟨⟨by omega,by omega⟩,?_⟩;exact⟨i+1,rfl,⟨by omega,aCh hw (by rw[hb];(rw[bM h71,bM h80];simp[c2];done))⟩,by omega⟩
    ·refine⟨⟨by omega,by omega⟩,?_⟩;exact⟨i+1,rfl,⟨by omega,aCh hw (by rw[hb];(simp[show ¬(fH e52 f.src).1=(fH e36 f.src).1 from fun q=>g63 (eP.2 q)];done))⟩,by omega⟩
   ·refine⟨⟨by omega,by omega⟩,?_⟩;exact⟨k+1,rfl,⟨by omega,aGp hv (by obtain rfl:i=k:=(by omega);exact hw)⟩,by omega⟩
  ·have hE:kC d f= []:=by (rw[kC,if_neg (by rw[c0];decide)];done)
   apply et1
   ·(rw[hE]<;>rfl)
 ·have hE:kC d f= []:=by (rw[kC];split<;>first|(rw[show (aL d f.name).1.rows.length=k by omega,hv];done)|rfl)
  apply et1
  ·(rw[hE]<;>rfl)
abbrev aCj (d:aU)(f:bB):Prop:=Cn 189 [.agg [.sl 142 3 (d.tables.map aS)],.agg [.str f.name,.sl 3 1 (f.src.map intD),.int .i64 f.dst]] (vB (kM d f)) []
theorem aOh (d:aU)(f:bB)(hc:bN d<=1048576):aCj d f:=by
 refine cq Tryz.func189 (.call (vB (iC d f)) []<| .br (bH (yX d f)<| .len ((kC d f).length)<| .fin []) (.fin [])) (p:=Lx (d.tables.map aS)<| Lx (f.src.map intD)<| vC d f/\Bb (iC d f) (aES d f/\Lm intD (kC d f)/\(decide ((((kC d f).length:Nat):Int)=0))=(kM d f)/\True) ((false)=(kM d f)/\True)) (by kernel_rfl) ?_;refine lx fun n0=>lx fun n1=>?_;refine⟨aGq _ _ (by omega),db (fun g8=>?_) fun g8=>?_⟩
 ·refine⟨aRW _ _ (by omega),aA8 _,?_,trivial⟩
  ·(simp[kM, *];done)
 ·apply et1
  ·(simp[kM, *];done)
abbrev aCk (d:aU)(f:bB):Prop:=Cn 180 [.agg [.sl 142 3 (d.tables.map aS)],.agg [.str f.name,.sl 3 1 (f.src.map intD),.int .i64 f.dst]] (vB (kM d f)) []
theorem aOi (d:aU)(f:bB)(hc:bN d<=1048576):aCk d f:=by
 refine cq Tryz.func180 (.call (vB (iC d f)) []<| .br (bH (yY d f)<| .len ((kC d f).length)<| .fin []) (.fin [])) (p:=Lx (d.tables.map aS)<| Lx (f.src.map intD)<| vD d f/\Bb (iC d f) (aET d f/\Lm intD (kC d f)/\(decide ((((kC d f).length:Nat):Int)=0))=(kM d f)/\True) ((false)=(kM d f)/\True)) (by kernel_rfl) ?_;refine lx fun n0=>lx fun n1=>?_;refine⟨aGr _ _ (by omega),db (fun g8=>?_) fun g8=>?_⟩
 ·refine⟨aRX _ _ (by omega),aA8 _,?_,trivial⟩
  ·(simp[kM, *];done)
 ·apply et1
  ·(simp[kM, *];done)
abbrev yZ (d:aU)(x:aZ):AV × List (Nat × Rs):=(.own 0,[(0,.arr 3 1 true ((wH d x).map intD))])
abbrev aEU (d:aU)(x:aZ):Prop:=Cn 234 [.agg [.sl 142 3 (d.tables.map aS)],.agg [.str x.name,.int .i64 x.column,.str x.into,.int .i64 x.intoColumn]] (yZ d x).1 (yZ d x).2
theorem aRY (d:aU)(x:aZ)(hc:bN d<=1048576):aEU d x:=by
 refine cq Tryz.func234 (.call (vB (gK d x)) []<| .br (.fin []) (.call (.tup [.agg [.p none (.str ((aL d x.name).1.name)),vI ((aL d x.name).1.arity),.p none (.sl 91 1 ((aL d x.name).1.rows.map aC))],vB ((aL d x.name).2)]) []<| .call (.tup [.agg [.p none (.str ((aL d x.into).1.name)),vI ((aL d x.into).1.arity),.p none (.sl 91 1 ((aL d x.into).1.rows.map aC))],vB ((aL d x.into).2)]) []<| .len ((aL d x.into).1.rows.length)<| .loop (Nat × (List Int)) (Q2 Nat (List Int)) ([9,11,34]++rg 38 13) [3400,4800,4900] (fun yy0=>[(38,vI (yy0.1:Int)),(9,.own 3400)]) (fun yy0=>[(3400,some (.arr 3 1 true (yy0.2.map intD)))]) (fun yy0=>yy0.1<=(aL d x.into).1.rows.length/\yy0.2=iD ((aL d x.into).1.rows.take yy0.1) x.intoColumn) (fun yy0=>(aL d x.into).1.rows.length - yy0.1) (fun yy0=> .br (.elem _ aC ((aL d x.into).1.rows) (fun e40=> .elem _ intD e40 (fun e46=> .app Int intD yy0.2 ([e46]:List Int)<| .back [(3400,4900)]))) (.len ((aL d x.name).1.rows.length)<| .loop (Nat × (List Int)) (Q2 Nat (List Int)) ([12,14,15,51]++rg 55 18) [5100,7000,7100] (fun yy1=>[(55,vI (yy1.1:Int)),(12,.own 5100)]) (fun yy1=>[(5100,some (.arr 3 1 true (yy1.2.map intD)))]) (fun yy1=>yy1.1<=(aL d x.name).1.rows.length/\yy1.2=(iD ((aL d x.name).1.rows.take yy1.1) x.column).filter fun v=> !decide (v∈yy0.2)) (fun yy1=>(aL d x.name).1.rows.length - yy1.1) (fun yy1=> .br (.elem _ aC ((aL d x.name).1.rows) (fun e57=> .elem _ intD e57 (fun e62=> .call (vB (decide (e62∈yy0.2))) []<| .br (.app Int intD yy1.2 ([e62]:List Int)<| .back [(5100,7100)]) (.back [(5100,5100)])))) (.callx [.own 0] [(0,.arr 3 1 true (yy1.2.map intD))] [(0,5100)] (.tup []) [(0,.arr 3 1 true ((jN yy1.2).map intD))]<| .callx [.own 0] [(0,.arr 3 1 true ((jN yy1.2).map intD))] [(0,5100)] (.own 1) [(1,.arr 3 1 true ((sO (jN yy1.2)).map intD))]<| .fin [(0,7601)])))))) (p:=Lx (d.tables.map aS)<| vF d x/\Nr (gK d x) ([]=(wH d x).map intD/\True) (qI Tryz.prog 86 [.agg [.sl 142 3 (d.tables.map aS)],.one (.str x.name)] (.tup [.agg [.p none (.str ((aL d x.name).1.name)),vI ((aL d x.name).1.arity),.p none (.sl 91 1 ((aL d x.name).1.rows.map aC))],vB ((aL d x.name).2)]) []/\(qI Tryz.prog 86 [.agg [.sl 142 3 (d.tables.map aS)],.one (.str x.into)] (.tup [.agg [.p none (.str ((aL d x.into).1.name)),vI ((aL d x.into).1.arity),.p none (.sl 91 1 ((aL d x.into).1.rows.map aC))],vB ((aL d x.into).2)]) []/\(Lm aC ((aL d x.into).1.rows)/\((∃(k:Nat) (there:List Int),0=(k:Int)/\[]=there.map intD/\k<=(aL d x.into).1.rows.length/\there=iD ((aL d x.into).1.rows.take k) x.intoColumn)/\ ∀(k:Nat) (there:List Int),(k<=(aL d x.into).1.rows.length/\there=iD ((aL d x.into).1.rows.take k) x.intoColumn)->Br ((k:Int)<(((aL d x.into).1.rows.length:Nat):Int)) (0<=(k:Int)/\Em aC ((aL d x.into).1.rows) k fun e40=>0<=x.intoColumn/\Em intD e40 ((x.intoColumn).toNat) fun e46=>Ap intD there ([e46]:List Int) 8 (bK ((k:Int)+1)/\ ∃(k' :Nat) (there' :List Int),((k:Int)+1)=(k' :Int)/\(there++[e46]).map intD=there'.map intD/\(k' <=(aL d x.into).1.rows.length/\there' =iD ((aL d x.into).1.rows.take k') x.intoColumn)/\(aL d x.into).1.rows.length - k' <(aL d x.into).1.rows.length - k)) (Lm aC ((aL d x.name).1.rows)/\((∃(j:Nat) (out:List Int),0=(j:Int)/\[]=out.map intD/\j<=(aL d x.name).1.rows.length/\out=(iD ((aL d x.name).1.rows.take j) x.column).filter fun v=> !decide (v∈there))/\ ∀(j:Nat) (out:List Int),(j<=(aL d x.name).1.rows.length/\out=(iD ((aL d x.name).1.rows.take j) x.column).filter fun v=> !decide (v∈there))->Br ((j:Int)<(((aL d x.name).1.rows.length:Nat):Int)) (0<=(j:Int)/\Em aC ((aL d x.name).1.rows) j fun e57=>0<=x.column/\Em intD e57 ((x.column).toNat) fun e62=>aMt there e62/\Nr (decide (e62∈there)) (Ap intD out ([e62]:List Int) 8 (bK ((j:Int)+1)/\ ∃(j' :Nat) (out' :List Int),((j:Int)+1)=(j' :Int)/\(out++[e62]).map intD=out'.map intD/\(j' <=(aL d x.name).1.rows.length/\out' =(iD ((aL d x.name).1.rows.take j') x.column).filter fun v=> !decide (v∈there))/\(aL d x.name).1.rows.length - j' <(aL d x.name).1.rows.length - j)) (bK ((j:Int)+1)/\ ∃(j' :Nat) (out' :List Int),((j:Int)+1)=(j' :Int)/\out.map intD=out'.map intD/\(j' <=(aL d x.name).1.rows.length/\out' =(iD ((aL d x.name).1.rows.take j') x.column).filter fun v=> !decide (v∈there))/\(aL d x.name).1.rows.length - j' <(aL d x.name).1.rows.length - j)) (sW Tryz.prog 250 [.own 0] [(0,.arr 3 1 true (out.map intD))] (.tup []) [(0,.arr 3 1 true ((jN out).map intD))]/\out.map intD=out.map intD/\sW Tryz.prog 251 [.own 0] [(0,.arr 3 1 true ((jN out).map intD))] (.own 1) [(1,.arr 3 1 true ((sO (jN out)).map intD))]/\(jN out).map intD=(jN out).map intD/\(sO (jN out)).map intD=(wH d x).map intD/\True)))))))) (by kernel_rfl) ?_;refine lx fun n0=>?_;refine⟨aGt _ _ (by omega),dm (fun c0=>?_) fun c0=>?_⟩
 ·have hbad:wH d x= []:=by rw[wH,if_neg (by simpa using c0)]
  apply et1
  ·(rw[hbad]<;>rfl)
 ·have hok:gK d x=true:=by simpa using c0
  obtain⟨hTa,hTb,hca,hcb⟩:=yQ hok;have hA8:=cA hTa;have hB8:=cA hTb;refine⟨jP (rK _ x.name (by omega)) rfl,jP (rK _ x.into (by omega)) rfl,aA8 _,⟨0,([]:List Int),rfl,rfl,aCC _,rfl⟩,fun k there ⟨hk,hth⟩=>?_⟩;have htl:there.length=k:=by rw[hth,iD,aA8,aWm];omega
  refine dd (fun c1=>?_) fun c1=>?_
  ·refine⟨by omega,rfl,by omega,fun e40 h40=>?_⟩;have hl40:=oY hTb (aCf h40);refine⟨by omega,rfl,by omega,fun e46 h46=>?_⟩;refine ap ?_ (fun _=>rfl) (by (simp;omega));refine⟨⟨by omega,by omega⟩,?_⟩;exact⟨k+1,_,rfl,rfl,⟨by omega,by rw[mE _ _ h40,<-hth,bM h46]⟩,by omega⟩
  ·have hTH:there=iD (aL d x.into).1.rows x.intoColumn:=by rw[hth,aGj (by omega)]
   refine⟨aA8 _,⟨0,([]:List Int),rfl,rfl,aCC _,rfl⟩,fun j out ⟨hj,ho⟩=>?_⟩;have hol:out.length<=j:=by rw[ho];refine Nat.le_trans (List.length_filter_le _ _) ?_;simp[iD];omega
   refine dd (fun c2=>?_) fun c2=>?_
   ·refine⟨by omega,rfl,by omega,fun e57 h57=>?_⟩;have hl57:=oY hTa (aCf h57);refine⟨by omega,rfl,by omega,fun e62 h62=>?_⟩;refine⟨ctI _ _,dm (fun c3=>?_) fun c3=>?_⟩
    ·refine ap ?_ (fun _=>rfl) (by (simp[hth];omega));refine⟨⟨by omega,by omega⟩,?_⟩;exact⟨j+1,_,rfl,rfl,⟨by omega,by rw[mE _ _ h57,List.filter_append,<-ho,bM h62,List.filter_cons_of_pos (by simpa using c3)];rfl⟩,by omega⟩
    ·refine⟨⟨by omega,by omega⟩,?_⟩;exact⟨j+1,_,rfl,rfl,⟨by omega,by rw[mE _ _ h57,List.filter_append,<-ho,bM h62,List.filter_cons_of_neg (by simpa using c3)];simp⟩,by omega⟩
   ·have hE:wH d x=sO (jN out):=by rw[wH,if_pos hok,aEI,ho,hTH,aGj (by omega)]
    refine⟨aJu out (by omega),rfl,aRA (jN out) (by (rw[tT];omega)),rfl,?_,trivial⟩
    ·(rw[hE]<;>rfl)
abbrev aCl (d:aU)(x:aZ):Prop:=Cn 190 [.agg [.sl 142 3 (d.tables.map aS)],.agg [.str x.name,.int .i64 x.column,.str x.into,.int .i64 x.intoColumn]] (vB (kN d x)) []
theorem aOj (d:aU)(x:aZ)(hc:bN d<=1048576):aCl d x:=by
 refine cq Tryz.func190 (.call (vB (gK d x)) []<| .br (bH (yZ d x)<| .len ((wH d x).length)<| .fin []) (.fin [])) (p:=Lx (d.tables.map aS)<| vF d x/\Bb (gK d x) (aEU d x/\Lm intD (wH d x)/\(decide ((((wH d x).length:Nat):Int)=0))=(kN d x)/\True) ((false)=(kN d x)/\True)) (by kernel_rfl) ?_;refine lx fun n0=>?_;refine⟨aGt _ _ (by omega),db (fun g8=>?_) fun g8=>?_⟩
 ·refine⟨aRY _ _ (by omega),aA8 _,?_,trivial⟩
  ·(rw[kN,g8,aMu,aRE g8];rfl)
 ·apply et1
  ·(simp[kN, *];done)
abbrev zA (d:aU)(x:aZ):AV × List (Nat × Rs):=(.own 0,[(0,.arr 3 1 true ((wI d x).map intD))])
abbrev aEV (d:aU)(x:aZ):Prop:=Cn 225 [.agg [.sl 142 3 (d.tables.map aS)],.agg [.str x.name,.int .i64 x.column,.str x.into,.int .i64 x.intoColumn]] (zA d x).1 (zA d x).2
theorem aRZ (d:aU)(x:aZ)(hc:bN d<=1048576):aEV d x:=by
 refine cq Tryz.func225 (.call (vB (gK d x)) []<| .br (.fin [(0,1500)]) (.call (.tup [.agg [.p none (.str ((aL d x.name).1.name)),vI ((aL d x.name).1.arity),.p none (.sl 91 1 ((aL d x.name).1.rows.map aC))],vB ((aL d x.name).2)]) []<| .call (.tup [.agg [.p none (.str ((aL d x.into).1.name)),vI ((aL d x.into).1.arity),.p none (.sl 91 1 ((aL d x.into).1.rows.map aC))],vB ((aL d x.into).2)]) []<| .loop (Nat × (List Int)) (Q2 Nat (List Int)) ([5,10,11,12,13,14,15]++rg 35 55) [1500,8800,8900] (fun yy0=>[(10,vI (yy0.1:Int)),(5,.own 1500)]) (fun yy0=>[(1500,some (.arr 3 1 true (yy0.2.map intD)))]) (fun yy0=>yy0.1<=10/\yy0.2=nV d x yy0.1) (fun yy0=>10 - yy0.1) (fun yy0=> .br (.loop (Nat × Bool) (Q2 Nat Bool) ([11,13]++rg 39 21) [] (fun yy1=>[(13,vI (yy1.1:Int)),(11,vB yy1.2)]) (fun yy1=>[]) (fun yy1=>yy1.1<=(aL d x.name).1.rows.length/\yy1.2=decide ((yy0.1:Int)∈iD ((aL d x.name).1.rows.take yy1.1) x.column)) (fun yy1=>(aL d x.name).1.rows.length - yy1.1) (fun yy1=> .len ((aL d x.name).1.rows.length)<| .br (.br (.back []) (.elem _ aC ((aL d x.name).1.rows) (fun e51=> .elem _ intD e51 (fun e55=> .back [])))) (.loop (Nat × Bool) (Q2 Nat Bool) ([12,14]++rg 60 21) [] (fun yy2=>[(14,vI (yy2.1:Int)),(12,vB yy2.2)]) (fun yy2=>[]) (fun yy2=>yy2.1<=(aL d x.into).1.rows.length/\yy2.2=decide ((yy0.1:Int)∈iD ((aL d x.into).1.rows.take yy2.1) x.intoColumn)) (fun yy2=>(aL d x.into).1.rows.length - yy2.1) (fun yy2=> .len ((aL d x.into).1.rows.length)<| .br (.br (.back []) (.elem _ aC ((aL d x.into).1.rows) (fun e72=> .elem _ intD e72 (fun e76=> .back [])))) (.br (.lit<| .lit<| .br (.app Int intD yy0.2 ([(yy0.1:Int)]:List Int)<| .back [(1500,8900)]) (.back [(1500,1500)])) (.back [(1500,1500)])))))) (.fin [(0,1500)])))) (p:=Lx (d.tables.map aS)<| vG d x/\Nr (gK d x) ([]=(wI d x).map intD/\True) (qI Tryz.prog 126 [.agg [.sl 142 3 (d.tables.map aS)],.one (.str x.name)] (.tup [.agg [.p none (.str ((aL d x.name).1.name)),vI ((aL d x.name).1.arity),.p none (.sl 91 1 ((aL d x.name).1.rows.map aC))],vB ((aL d x.name).2)]) []/\(qI Tryz.prog 126 [.agg [.sl 142 3 (d.tables.map aS)],.one (.str x.into)] (.tup [.agg [.p none (.str ((aL d x.into).1.name)),vI ((aL d x.into).1.arity),.p none (.sl 91 1 ((aL d x.into).1.rows.map aC))],vB ((aL d x.into).2)]) []/\((∃(v:Nat) (out:List Int),0=(v:Int)/\[]=out.map intD/\v<=10/\out=nV d x v)/\ ∀(v:Nat) (out:List Int),(v<=10/\out=nV d x v)->Br ((v:Int)<=9) ((∃(k:Nat) (p:Bool),0=(k:Int)/\(false)=p/\k<=(aL d x.name).1.rows.length/\p=decide ((v:Int)∈iD ((aL d x.name).1.rows.take k) x.column))/\ ∀(k:Nat) (p:Bool),(k<=(aL d x.name).1.rows.length/\p=decide ((v:Int)∈iD ((aL d x.name).1.rows.take k) x.column))->Lm aC ((aL d x.name).1.rows)/\Br ((k:Int)<(((aL d x.name).1.rows.length:Nat):Int)) (Bb (p) (bK ((k:Int)+1)/\ ∃(k' :Nat) (p' :Bool),((k:Int)+1)=(k' :Int)/\(true)=p' /\(k' <=(aL d x.name).1.rows.length/\p' =decide ((v:Int)∈iD ((aL d x.name).1.rows.take k') x.column))/\(aL d x.name).1.rows.length - k' <(aL d x.name).1.rows.length - k) (0<=(k:Int)/\Em aC ((aL d x.name).1.rows) k fun e51=>0<=x.column/\Em intD e51 ((x.column).toNat) fun e55=>bK ((k:Int)+1)/\ ∃(k' :Nat) (p' :Bool),((k:Int)+1)=(k' :Int)/\(decide (e55=(v:Int)))=p' /\(k' <=(aL d x.name).1.rows.length/\p' =decide ((v:Int)∈iD ((aL d x.name).1.rows.take k') x.column))/\(aL d x.name).1.rows.length - k' <(aL d x.name).1.rows.length - k)) ((∃(j:Nat) (q:Bool),0=(j:Int)/\(false)=q/\j<=(aL d x.into).1.rows.length/\q=decide ((v:Int)∈iD ((aL d x.into).1.rows.take j) x.intoColumn))/\ ∀(j:Nat) (q:Bool),(j<=(aL d x.into).1.rows.length/\q=decide ((v:Int)∈iD ((aL d x.into).1.rows.take j) x.intoColumn))->Lm aC ((aL d x.into).1.rows)/\Br ((j:Int)<(((aL d x.into).1.rows.length:Nat):Int)) (Bb (q) (bK ((j:Int)+1)/\ ∃(j' :Nat) (q' :Bool),((j:Int)+1)=(j' :Int)/\(true)=q' /\(j' <=(aL d x.into).1.rows.length/\q' =decide ((v:Int)∈iD ((aL d x.into).1.rows.take j') x.intoColumn))/\(aL d x.into).1.rows.length - j' <(aL d x.into).1.rows.length - j) (0<=(j:Int)/\Em aC ((aL d x.into).1.rows) j fun e72=>0<=x.intoColumn/\Em intD e72 ((x.intoColumn).toNat) fun e76=>bK ((j:Int)+1)/\ ∃(j' :Nat) (q' :Bool),((j:Int)+1)=(j' :Int)/\(decide (e76=(v:Int)))=q' /\(j' <=(aL d x.into).1.rows.length/\q' =decide ((v:Int)∈iD ((aL d x.into).1.rows.take j') x.intoColumn))/\(aL d x.into).1.rows.length - j' <(aL d x.into).1.rows.length - j)) (Bb (p) (Nr (q) (Ap intD out ([(v:Int)]:List Int) 8 (bK ((v:Int)+1)/\ ∃(v' :Nat) (out' :List Int),((v:Int)+1)=(v' :Int)/\(out++[(v:Int)]).map intD=out'.map intD/\(v' <=10/\out' =nV d x v')/\10 - v' <10 - v)) (bK ((v:Int)+1)/\ ∃(v' :Nat) (out' :List Int),((v:Int)+1)=(v' :Int)/\out.map intD=out'.map intD/\(v' <=10/\out' =nV d x v')/\10 - v' <10 - v)) (bK ((v:Int)+1)/\ ∃(v' :Nat) (out' :List Int),((v:Int)+1)=(v' :Int)/\out.map intD=out'.map intD/\(v' <=10/\out' =nV d x v')/\10 - v' <10 - v)))) (out.map intD=(wI d x).map intD/\True))))) (by kernel_rfl) ?_;refine lx fun n0=>?_;refine⟨aGu _ _ (by omega),dm (fun c0=>?_) fun c0=>?_⟩
 ·have hbad:wI d x= []:=by rw[wI,if_neg (by simpa using c0)]
  apply et1
  ·(rw[hbad]<;>rfl)
 ·have hok:gK d x=true:=by simpa using c0
  obtain⟨hTa,hTb,hca,hcb⟩:=yQ hok;have hA8:=cA hTa;have hB8:=cA hTb;refine⟨jP (rL _ x.name (by omega)) rfl,jP (rL _ x.into (by omega)) rfl,⟨0,([]:List Int),rfl,rfl,by omega,rfl⟩,fun v out ⟨hvv,ho⟩=>?_⟩;have hol:=aRC d x v;rw[<-ho] at hol;refine dd (fun c1=>?_) fun c1=>?_
  ·refine⟨⟨0,false,rfl,rfl,aCC _,rfl⟩,fun k p ⟨hk,hp⟩=>?_⟩;refine⟨aA8 _,dd (fun c2=>?_) fun c2=>?_⟩
   ·obtain⟨ra,hra⟩:=dA (l:=(aL d x.name).1.rows) (k:=k) (by omega);refine db (fun g47=>?_) fun g47=>?_
    ·refine⟨⟨by omega,by omega⟩,?_⟩;exact⟨k+1,_,rfl,rfl,⟨by omega,by rw[mE _ _ hra,tU,<-hp,g47];rfl⟩,by omega⟩
    ·refine⟨by omega,rfl,by omega,fun e51 h51=>?_⟩;have hl51:=oY hTa (aCf h51);refine⟨by omega,rfl,by omega,fun e55 h55=>?_⟩;refine⟨⟨by omega,by omega⟩,?_⟩;exact⟨k+1,_,rfl,rfl,⟨by omega,by obtain rfl:=aW h51 hra;rw[mE _ _ hra,tU,<-hp,g47,bM h55,Bool.false_or];exact decide_eq_decide.2 ⟨Eq.symm,Eq.symm⟩⟩,by omega⟩
   ·have hP:p=decide ((v:Int)∈iD (aL d x.name).1.rows x.column):=by rw[hp,aGj (by omega)]
    refine⟨⟨0,false,rfl,rfl,aCC _,rfl⟩,fun j q ⟨hj,hq⟩=>?_⟩;refine⟨aA8 _,dd (fun c3=>?_) fun c3=>?_⟩
    ·obtain⟨rb,hrb⟩:=dA (l:=(aL d x.into).1.rows) (k:=j) (by omega);refine db (fun g68=>?_) fun g68=>?_
     ·refine⟨⟨by omega,by omega⟩,?_⟩;exact⟨j+1,_,rfl,rfl,⟨by omega,by rw[mE _ _ hrb,tU,<-hq,g68];rfl⟩,by omega⟩
     ·refine⟨by omega,rfl,by omega,fun e72 h72=>?_⟩;have hl72:=oY hTb (aCf h72);refine⟨by omega,rfl,by omega,fun e76 h76=>?_⟩;refine⟨⟨by omega,by omega⟩,?_⟩;exact⟨j+1,_,rfl,rfl,⟨by omega,by obtain rfl:=aW h72 hrb;rw[mE _ _ hrb,tU,<-hq,g68,bM h76,Bool.false_or];exact decide_eq_decide.2 ⟨Eq.symm,Eq.symm⟩⟩,by omega⟩
    ·have hQ:q=decide ((v:Int)∈iD (aL d x.into).1.rows x.intoColumn):=by rw[hq,aGj (by omega)]
     refine db (fun g82=>?_) fun g82=>?_
     ·refine dm (fun c4=>?_) fun c4=>?_
      ·refine ap ?_ (fun _=>rfl) (by (simp;omega));refine⟨⟨by omega,by omega⟩,?_⟩;exact⟨v+1,_,rfl,rfl,⟨by omega,by rw[ho,aRB (by rw[aCi,<-hP,<-hQ,g82,c4];rfl)]⟩,by omega⟩
      ·refine⟨⟨by omega,by omega⟩,?_⟩;exact⟨v+1,_,rfl,rfl,⟨by omega,by rw[ho,aMw (by rw[aCi,<-hP,<-hQ,g82,c4];rfl)]⟩,by omega⟩
     ·refine⟨⟨by omega,by omega⟩,?_⟩;exact⟨v+1,_,rfl,rfl,⟨by omega,by rw[ho,aMw (by rw[aCi,<-hP,<-hQ,g82];rfl)]⟩,by omega⟩
  ·have hE:wI d x=out:=by rw[wI,if_pos hok,ho,show v=10 by omega]
   apply et1
   ·(rw[hE]<;>rfl)
abbrev aCm (d:aU)(x:aZ):Prop:=Cn 181 [.agg [.sl 142 3 (d.tables.map aS)],.agg [.str x.name,.int .i64 x.column,.str x.into,.int .i64 x.intoColumn]] (vB (kN d x)) []
theorem aOk (d:aU)(x:aZ)(hc:bN d<=1048576):aCm d x:=by
 refine cq Tryz.func181 (.call (vB (gK d x)) []<| .br (bH (zA d x)<| .len ((wI d x).length)<| .fin []) (.fin [])) (p:=Lx (d.tables.map aS)<| vG d x/\Bb (gK d x) (aEV d x/\Lm intD (wI d x)/\(decide ((((wI d x).length:Nat):Int)=0))=(kN d x)/\True) ((false)=(kN d x)/\True)) (by kernel_rfl) ?_;refine lx fun n0=>?_;refine⟨aGu _ _ (by omega),db (fun g8=>?_) fun g8=>?_⟩
 ·refine⟨aRZ _ _ (by omega),aA8 _,?_,trivial⟩
  ·(rw[kN,g8,aMu,aRF g8];rfl)
 ·apply et1
  ·(simp[kN, *];done)
def kO (d:aU)(l:List bB)(m:List aZ):Bool:=l.all (kM d)&&(m.all (kN d)&&(decide ((l.length:Int)<=8)&&decide ((m.length:Int)<=8)))
abbrev aEW (d:aU)(l:List bB)(m:List aZ):Prop:=Cn 133 [.agg [.sl 142 3 (d.tables.map aS)],.one (.sl 121 3 (l.map aN)),.one (.sl 123 4 (m.map aR))] (vB (kO d l m)) []
theorem aR0 (d:aU)(l:List bB)(m:List aZ)(hc:bN d<=1048576):aEW d l m:=by
 refine cq Tryz.func133 (.len l.length<| .loop Nat (Q1 Nat) ([8]++rg 13 9) [800] (fun k=>[(13,vI (k:Int))]) (fun k=>[]) (fun k=>k<=l.length/\(l.take k).all (kM d)=true) (fun k=>l.length - k) (fun k=> .br (.elem _ aN l (fun e15=> .call (vB (kM d e15)) []<| .br (.fin []) (.back []))) (.len m.length<| .loop Nat (Q1 Nat) ([10]++rg 24 9) [1000] (fun j=>[(24,vI (j:Int))]) (fun j=>[]) (fun j=>j<=m.length/\(m.take j).all (kN d)=true) (fun j=>m.length - j) (fun j=> .br (.elem _ aR m (fun e26=> .call (vB (kN d e26)) []<| .br (.fin []) (.back []))) (.len l.length<| .br (.len m.length<| .fin []) (.fin [])))))) (p:=Lx (d.tables.map aS)<| Lx (l.map aN)<| Lx (m.map aR)<| Lm aN l/\((∃(k:Nat),0=(k:Int)/\k<=l.length/\(l.take k).all (kM d)=true)/\ ∀(k:Nat),(k<=l.length/\(l.take k).all (kM d)=true)->Br ((k:Int)<(l.length:Int)) (0<=(k:Int)/\Em aN l k fun e15=>aCj d e15/\Nr (kM d e15) ((false)=(kO d l m)/\True) (bK ((k:Int)+1)/\ ∃(k' :Nat),((k:Int)+1)=(k' :Int)/\(k' <=l.length/\(l.take k').all (kM d)=true)/\l.length - k' <l.length - k)) (Lm aR m/\((∃(j:Nat),0=(j:Int)/\j<=m.length/\(m.take j).all (kN d)=true)/\ ∀(j:Nat),(j<=m.length/\(m.take j).all (kN d)=true)->Br ((j:Int)<(m.length:Int)) (0<=(j:Int)/\Em aR m j fun e26=>aCl d e26/\Nr (kN d e26) ((false)=(kO d l m)/\True) (bK ((j:Int)+1)/\ ∃(j' :Nat),((j:Int)+1)=(j' :Int)/\(j' <=m.length/\(m.take j').all (kN d)=true)/\m.length - j' <m.length - j)) (Lm aN l/\Br ((l.length:Int)<=8) (Lm aR m/\(decide ((m.length:Int)<=8))=(kO d l m)/\True) ((false)=(kO d l m)/\True)))))) (by kernel_rfl) ?_;refine lx fun n0=>lx fun n1=>lx fun n2=>?_;refine⟨aA8 _,⟨0,rfl,aCC _,rfl⟩,fun k ⟨hk,ha⟩=>?_⟩;refine dd (fun c0=>?_) fun c0=>?_
 ·refine⟨by omega,rfl,by omega,fun e15 h15=>?_⟩;refine⟨aOh _ _ (by omega),dm (fun c1=>?_) fun c1=>?_⟩
  ·have hL:l.all (kM d)=false:=eJ h15 (by simpa using c1);apply et1
   ·(simp[kO,hL];done)
  ·refine⟨⟨by omega,by omega⟩,?_⟩;exact⟨k+1,rfl,⟨by omega,cG h15 ha (by simpa using c1)⟩,by omega⟩
 ·have hL:=cY (by omega) ha;refine⟨aA8 _,⟨0,rfl,aCC _,rfl⟩,fun j ⟨hj,hb⟩=>?_⟩;refine dd (fun c2=>?_) fun c2=>?_
  ·refine⟨by omega,rfl,by omega,fun e26 h26=>?_⟩;refine⟨aOj _ _ (by omega),dm (fun c3=>?_) fun c3=>?_⟩
   ·have hM:m.all (kN d)=false:=eJ h26 (by simpa using c3);apply et1
    ·(simp[kO,hL,hM];done)
   ·refine⟨⟨by omega,by omega⟩,?_⟩;exact⟨j+1,rfl,⟨by omega,cG h26 hb (by simpa using c3)⟩,by omega⟩
  ·have hM:=cY (by omega) hb;refine⟨aA8 _,dd (fun g36=>?_) fun g36=>?_⟩
   ·refine⟨aA8 _,?_,trivial⟩
    ·(simp[kO,hL,hM, *];done)
   ·apply et1
    ·(simp[kO,hL,hM, *];done)
abbrev aEX (d:aU)(l:List bB)(m:List aZ):Prop:=Cn 124 [.agg [.sl 142 3 (d.tables.map aS)],.one (.sl 121 3 (l.map aN)),.one (.sl 123 4 (m.map aR))] (vB (kO d l m)) []
theorem aR1 (d:aU)(l:List bB)(m:List aZ)(hc:bN d<=1048576):aEX d l m:=by
 refine cq Tryz.func124 (.len l.length<| .br (.fin []) (.len m.length<| .lit<| .lit<| .br (.fin []) (.loop Nat (Q1 Nat) ([7]++rg 17 13) [] (fun k=>[(7,vI (k:Int))]) (fun k=>[]) (fun k=>k<=l.length/\(l.take k).all (kM d)=true) (fun k=>l.length - k) (fun k=> .len l.length<| .br (.elem _ aN l (fun e26=> .call (vB (kM d e26)) []<| .br (.fin []) (.back []))) (.loop Nat (Q1 Nat) ([8]++rg 30 13) [] (fun j=>[(8,vI (j:Int))]) (fun j=>[]) (fun j=>j<=m.length/\(m.take j).all (kN d)=true) (fun j=>m.length - j) (fun j=> .len m.length<| .br (.elem _ aR m (fun e39=> .call (vB (kN d e39)) []<| .br (.fin []) (.back []))) (.fin []))))))) (p:=Lx (d.tables.map aS)<| Lx (l.map aN)<| Lx (m.map aR)<| Lm aN l/\Br (8<(l.length:Int)) ((false)=(kO d l m)/\True) (Lm aR m/\Br (8<(m.length:Int)) ((false)=(kO d l m)/\True) ((∃(k:Nat),0=(k:Int)/\k<=l.length/\(l.take k).all (kM d)=true)/\ ∀(k:Nat),(k<=l.length/\(l.take k).all (kM d)=true)->Lm aN l/\Br ((k:Int)<(l.length:Int)) (0<=(k:Int)/\Em aN l k fun e26=>aCk d e26/\Nr (kM d e26) ((false)=(kO d l m)/\True) (bK ((k:Int)+1)/\ ∃(k' :Nat),((k:Int)+1)=(k' :Int)/\(k' <=l.length/\(l.take k').all (kM d)=true)/\l.length - k' <l.length - k)) ((∃(j:Nat),0=(j:Int)/\j<=m.length/\(m.take j).all (kN d)=true)/\ ∀(j:Nat),(j<=m.length/\(m.take j).all (kN d)=true)->Lm aR m/\Br ((j:Int)<(m.length:Int)) (0<=(j:Int)/\Em aR m j fun e39=>aCm d e39/\Nr (kN d e39) ((false)=(kO d l m)/\True) (bK ((j:Int)+1)/\ ∃(j' :Nat),((j:Int)+1)=(j' :Int)/\(j' <=m.length/\(m.take j').all (kN d)=true)/\m.length - j' <m.length - j)) ((true)=(kO d l m)/\True))))) (by kernel_rfl) ?_;refine lx fun n0=>lx fun n1=>lx fun n2=>?_;refine⟨aA8 _,dd (fun g12=>?_) fun g12=>?_⟩
 ·have hbad:(decide ((l.length:Int)<=8)&&decide ((m.length:Int)<=8))=false:=by (simp;omega)
  apply et1
  ·(rw[kO,hbad];simp;done)
 ·refine⟨aA8 _,dd (fun c0=>?_) fun c0=>?_⟩
  ·have hbad:(decide ((l.length:Int)<=8)&&decide ((m.length:Int)<=8))=false:=by (simp;omega)
   apply et1
   ·(rw[kO,hbad];simp;done)
  ·have hz:(decide ((l.length:Int)<=8)&&decide ((m.length:Int)<=8))=true:=by simp;omega
   refine⟨⟨0,rfl,aCC _,rfl⟩,fun k ⟨hk,ha⟩=>?_⟩;refine⟨aA8 _,dd (fun c1=>?_) fun c1=>?_⟩
   ·refine⟨by omega,rfl,by omega,fun e26 h26=>?_⟩;refine⟨aOi _ _ (by omega),dm (fun c2=>?_) fun c2=>?_⟩
    ·have hL:l.all (kM d)=false:=eJ h26 (by simpa using c2);apply et1
     ·(rw[kO,hL];rfl)
    ·refine⟨⟨by omega,by omega⟩,?_⟩;exact⟨k+1,rfl,⟨by omega,cG h26 ha (by simpa using c2)⟩,by omega⟩
   ·have hL:=cY (by omega) ha;refine⟨⟨0,rfl,aCC _,rfl⟩,fun j ⟨hj,hb⟩=>?_⟩;refine⟨aA8 _,dd (fun c3=>?_) fun c3=>?_⟩
    ·refine⟨by omega,rfl,by omega,fun e39 h39=>?_⟩;refine⟨aOk _ _ (by omega),dm (fun c4=>?_) fun c4=>?_⟩
     ·have hM:m.all (kN d)=false:=eJ h39 (by simpa using c4);apply et1
      ·(rw[kO,hL,hM,hz];rfl)
     ·refine⟨⟨by omega,by omega⟩,?_⟩;exact⟨j+1,rfl,⟨by omega,cG h39 hb (by simpa using c4)⟩,by omega⟩
    ·have hM:=cY (by omega) hb;apply et1
     ·(rw[kO,hL,hM,hz];rfl)
def gT (s:StoreD):Bool:=(fP s.database s.catalogue.version).2&&(decide ((fP s.database s.catalogue.version).1=s.catalogue)&&kO s.database s.dependencies s.inclusions)
abbrev aEY (s:StoreD):Prop:=Cn 81 [.agg [.sl 142 3 (s.database.tables.map aS),.int .i64 s.catalogue.version,.sl 88 4 (s.catalogue.tables.map aG),.sl 121 3 (s.dependencies.map aN),.sl 123 4 (s.inclusions.map aR)]] (vB (gT s)) []
theorem aR2 (s:StoreD)(hc:dO s<=1048576):aEY s:=by
 refine cq Tryz.func81 (bH (aBW s.database s.catalogue.version)<| .br (.call (vB (decide (((fP s.database s.catalogue.version).1)=s.catalogue))) []<| .lit<| .br (.call (vB (kO s.database s.dependencies s.inclusions)) []<| .fin []) (.fin [])) (.fin [])) (p:=Lx (s.database.tables.map aS)<| Lx (s.catalogue.tables.map aG)<| Lx (s.dependencies.map aN)<| Lx (s.inclusions.map aR)<| aGe s.database s.catalogue.version/\Bb ((fP s.database s.catalogue.version).2) (aCZ ((fP s.database s.catalogue.version).1) s.catalogue/\Br (((fP s.database s.catalogue.version).1)=s.catalogue) (aEW s.database s.dependencies s.inclusions/\(kO s.database s.dependencies s.inclusions)=(gT s)/\True) ((false)=(gT s)/\True)) ((false)=(gT s)/\True)) (by kernel_rfl) ?_;refine lx fun n0=>lx fun n1=>lx fun n2=>lx fun n3=>?_;have hS:dO s=bN s.database+bS s.catalogue+bY s.dependencies+cP s.inclusions:=rfl;have hsm:=aJr s.database s.catalogue.version;refine⟨aTj s.database s.catalogue.version,db (fun g15=>?_) fun g15=>?_⟩
 ·refine⟨aO2 _ _,dd (fun g21=>?_) fun g21=>?_⟩
  ·refine⟨aR0 s.database _ _ (by omega),?_,trivial⟩
   ·(simp[gT, *];done)
  ·apply et1
   ·(simp[gT, *];done)
 ·apply et1
  ·(simp[gT, *];done)
abbrev aEZ (s:StoreD):Prop:=Cn 72 [.agg [.sl 142 3 (s.database.tables.map aS),.int .i64 s.catalogue.version,.sl 88 4 (s.catalogue.tables.map aG),.sl 121 3 (s.dependencies.map aN),.sl 123 4 (s.inclusions.map aR)]] (vB (gT s)) []
theorem aR3 (s:StoreD)(hc:dO s<=1048576):aEZ s:=by
 refine cq Tryz.func72 (bH (aBX s.database s.catalogue.version)<| .br (.call (vB (decide (((fP s.database s.catalogue.version).1)=s.catalogue))) []<| .lit<| .br (.call (vB (kO s.database s.dependencies s.inclusions)) []<| .fin []) (.fin [])) (.fin [])) (p:=Lx (s.database.tables.map aS)<| Lx (s.catalogue.tables.map aG)<| Lx (s.dependencies.map aN)<| Lx (s.inclusions.map aR)<| aGf s.database s.catalogue.version/\Bb ((fP s.database s.catalogue.version).2) (aC1 ((fP s.database s.catalogue.version).1) s.catalogue/\Br (((fP s.database s.catalogue.version).1)=s.catalogue) (aEX s.database s.dependencies s.inclusions/\(kO s.database s.dependencies s.inclusions)=(gT s)/\True) ((false)=(gT s)/\True)) ((false)=(gT s)/\True)) (by kernel_rfl) ?_;refine lx fun n0=>lx fun n1=>lx fun n2=>lx fun n3=>?_;have hS:dO s=bN s.database+bS s.catalogue+bY s.dependencies+cP s.inclusions:=rfl;have hsm:=aJr s.database s.catalogue.version;refine⟨aTk s.database s.catalogue.version,db (fun g15=>?_) fun g15=>?_⟩
 ·refine⟨aO3 _ _ (by omega),dd (fun g21=>?_) fun g21=>?_⟩
  ·refine⟨aR1 s.database _ _ (by omega),?_,trivial⟩
   ·(simp[gT, *];done)
  ·apply et1
   ·(simp[gT, *];done)
 ·apply et1
  ·(simp[gT, *];done)
abbrev aB6 (x:aM):AV × List (Nat × Rs):=(.agg [.p none (.str x.name),vI x.arity,vI x.rowCount,.own 0],[(0,.arr 220 3 true (x.groups.map aD))])
abbrev aHL (x:aM):Prop:=Cn 128 [.agg [.str x.name,.int .i64 x.arity,.int .i64 x.rowCount,.sl 220 3 (x.groups.map aD)]] (aB6 x).1 (aB6 x).2
theorem aUK (x:aM)(hc:bF x<=1048576):aHL x:=by
 refine cq Tryz.func128 (.loop (Nat × (List aQ)) (Q2 Nat (List aQ)) ([4,5,6]++rg 14 57) [300,500,2100,2800,2900,3600,5100,6100,6200,6300,6800,6900,9000,9001] (fun yy0=>[(4,vI (yy0.1:Int))]) (fun yy0=>[(300,some (.box 88 [.p none (.str x.name),vI x.arity,vI x.rowCount,.own 9000])),(9000,some (.arr 220 3 true (yy0.2.map aD)))]) (fun yy0=>yy0.1<=x.groups.length/\yy0.2=x.groups.take yy0.1) (fun yy0=>x.groups.length - yy0.1) (fun yy0=> .len x.groups.length<| .br (.elem _ aD x.groups (fun e25=> .app Int intD ([]:List Int) e25.columns<| .elem _ aD x.groups (fun e33=> .app Int intD ([]:List Int) e33.counts<| .loop (Nat × (List (List Int))) (Q2 Nat (List (List Int))) ([6]++rg 38 27) [500,5100,6100,6200,6300,9001] (fun yy1=>[(6,vI (yy1.1:Int))]) (fun yy1=>[(500,some (.box 220 [.own 2800,.own 9001,.own 3600])),(9001,some (.arr 91 1 true (yy1.2.map aC)))]) (fun yy1=>yy1.1<=e25.values.length/\yy1.2=e25.values.take yy1.1) (fun yy1=>e25.values.length - yy1.1) (fun yy1=> .elem _ aD x.groups (fun e42=> .len e42.values.length<| .br (.elem _ aD x.groups (fun e55=> .elem _ aC e55.values (fun e59=> .app Int intD ([]:List Int) e59<| .appx (List Int) aC yy1.2 (([]:List Int)++e59)<| .back [(500,500),(9001,6300)]))) (.appx aQ aD yy0.2 (⟨([]:List Int)++e25.columns,yy1.2,([]:List Int)++e33.counts⟩:aQ)<| .back [(300,300),(9000,6900)])))))) (.fin [(0,9000)]))) (p:=Lx (x.groups.map aD)<| (∃(k:Nat) (out:List aQ),0=(k:Int)/\x.name=x.name/\x.arity=x.arity/\x.rowCount=x.rowCount/\[]=out.map aD/\k<=x.groups.length/\out=x.groups.take k)/\ ∀(k:Nat) (out:List aQ),(k<=x.groups.length/\out=x.groups.take k)->Lm aD x.groups/\Br ((k:Int)<(x.groups.length:Int)) (0<=(k:Int)/\Em aD x.groups k fun e25=>Ap intD ([]:List Int) e25.columns 8 (0<=(k:Int)/\Em aD x.groups k fun e33=>Ap intD ([]:List Int) e33.counts 8 ((∃(i:Nat) (v:List (List Int)),0=(i:Int)/\[]=v.map aC/\i<=e25.values.length/\v=e25.values.take i)/\ ∀(i:Nat) (v:List (List Int)),(i<=e25.values.length/\v=e25.values.take i)->0<=(k:Int)/\Em aD x.groups k fun e42=>Lm aC e42.values/\Br ((i:Int)<(e42.values.length:Int)) (0<=(k:Int)/\Em aD x.groups k fun e55=>0<=(i:Int)/\Em aC e55.values i fun e59=>Ap intD ([]:List Int) e59 8 (v.map aC=v.map aC/\(([]:List Int)++e59).map intD=(([]:List Int)++e59).map intD/\(v.length+1)*24<=140737488355328/\bK ((i:Int)+1)/\ ∃(i' :Nat) (v' :List (List Int)),((i:Int)+1)=(i' :Int)/\(v++[([]:List Int)++e59]).map aC=v'.map aC/\(i' <=e25.values.length/\v' =e25.values.take i')/\e25.values.length - i' <e25.values.length - i)) (out.map aD=out.map aD/\(([]:List Int)++e25.columns).map intD=(⟨([]:List Int)++e25.columns,v,([]:List Int)++e33.counts⟩:aQ).columns.map intD/\v.map aC=(⟨([]:List Int)++e25.columns,v,([]:List Int)++e33.counts⟩:aQ).values.map aC/\(([]:List Int)++e33.counts).map intD=(⟨([]:List Int)++e25.columns,v,([]:List Int)++e33.counts⟩:aQ).counts.map intD/\(out.length+1)*72<=140737488355328/\bK ((k:Int)+1)/\ ∃(k' :Nat) (out' :List aQ),((k:Int)+1)=(k' :Int)/\x.name=x.name/\x.arity=x.arity/\x.rowCount=x.rowCount/\(out++[(⟨([]:List Int)++e25.columns,v,([]:List Int)++e33.counts⟩:aQ)]).map aD=out'.map aD/\(k' <=x.groups.length/\out' =x.groups.take k')/\x.groups.length - k' <x.groups.length - k)))) (x.name=x.name/\x.arity=x.arity/\x.rowCount=x.rowCount/\out.map aD=x.groups.map aD/\True)) (by kernel_rfl) ?_;refine lx fun n0=>?_;have q2:bF x=x.name.size+dK x.groups:=rfl;have q5:=gC x.groups;refine⟨⟨0,([]:List aQ),rfl,rfl,rfl,rfl,rfl,aCC _,rfl⟩,fun k out ⟨hk,ho⟩=>?_⟩;refine⟨aA8 _,dd (fun c0=>?_) fun c0=>?_⟩
 ·refine⟨by omega,rfl,by omega,fun e25 h25=>?_⟩
  try (obtain rfl:=(aW h25 h25).symm)
  have q1:=gY h25;have q3:bV e25=cC e25.columns+cO e25.values+cC e25.counts:=rfl;have q6:cC e25.columns=e25.columns.length:=rfl;have q7:cC e25.counts=e25.counts.length:=rfl;have q8:=fD e25.values;refine ap ?_ (fun _=>rfl) (by (simp;omega));refine⟨by omega,rfl,by omega,fun e33 h33=>?_⟩
  try (obtain rfl:=(aW h25 h33).symm)
  refine ap ?_ (fun _=>rfl) (by (simp;omega));refine⟨⟨0,([]:List (List Int)),rfl,rfl,aCC _,rfl⟩,fun i v ⟨hi,hv⟩=>?_⟩;refine⟨by omega,rfl,by omega,fun e42 h42=>?_⟩
  try (obtain rfl:=(aW h25 h42).symm)
  refine⟨aA8 _,dd (fun c1=>?_) fun c1=>?_⟩
  ·refine⟨by omega,rfl,by omega,fun e55 h55=>?_⟩
   try (obtain rfl:=(aW h25 h55).symm)
   refine⟨by omega,rfl,by omega,fun e59 h59=>?_⟩;have hp3:=aA2 h59;refine ap ?_ (fun _=>rfl) (by (simp;omega));refine⟨rfl,rfl,by (simp[hv];omega),⟨by omega,by omega⟩,?_⟩;exact⟨i+1,_,rfl,rfl,⟨by omega,by rw[hv,bQ h59];rfl⟩,by omega⟩
  ·have hvv:v=e25.values:=by rw[hv,aGj (by omega)]
   refine⟨rfl,rfl,rfl,rfl,by (simp[ho];omega),⟨by omega,by omega⟩,?_⟩;exact⟨k+1,_,rfl,rfl,rfl,rfl,rfl,⟨by omega,by rw[ho,bQ h25,hvv];rfl⟩,by omega⟩
 ·refine⟨rfl,rfl,rfl,?_,trivial⟩
  ·(rw[ho,aGj (by omega)])
end Go.Proofs.YtlidmoeecphbmaaGreat
