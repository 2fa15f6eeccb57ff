/-
  Contracts and plain laws, joined: part 12.
-/
import Derived.Test.YtlidmoeecphbmaaGreatez8
import Derived.Test.YtlidmoeecphbmaaGreatez9
import Derived.Test.YtlidmoeecphbmaaGreatez7
import Derived.Test.YtlidmoeecphbmaaGreatez6
namespace Go.Proofs.YtlidmoeecphbmaaGreat
open Go.ChangeShapes Go.WideShapes Go.ChangeAt Go.RowKit
set_option linter.unusedVariables false
set_option linter.unusedSimpArgs false
set_option maxRecDepth 100000
set_option maxHeartbeats 4000000
abbrev zL (d:aU)(f:bB):AV × List (Nat × Rs):=(.own 0,[(0,.arr 3 1 true ((kF d f).map intD))])
abbrev aEf (d:aU)(f:bB):Prop:=Cn 232 [.agg [.sl 142 3 (d.tables.map aS)],.agg [.str f.name,.sl 3 1 (f.src.map intD),.int .i64 f.dst]] (zL d f).1 (zL d f).2
theorem aSC (d:aU)(f:bB)(hc:bL d<=1048576):aEf d f:=by
 refine cq Tryz.func232 (.call (vB (iF d f)) []<| .br (.fin []) (.call (.tup [.agg [.p none (.str ((aL d f.name).1.name)),vI ((aL d f.name).1.arity),.p none (.sl 91 1 ((aL d f.name).1.rows.map aC))],vB ((aL d f.name).2)]) []<| .len ((aL d f.name).1.rows.length)<| .loop Nat (Q1 Nat) (rg 7 8++rg 29 45++[77,78]) [4800,5500] (fun k=>[(29,vI (k:Int))]) (fun k=>[]) (fun k=>k<=(aL d f.name).1.rows.length/\lC (aL d f.name).1.rows f.src f.dst k= []) (fun k=>(aL d f.name).1.rows.length - k) (fun k=> .br (.elem _ aC ((aL d f.name).1.rows) (fun e32=> .sub (List Int) aC ((aL d f.name).1.rows)<| .len (((aL d f.name).1.rows.take k).length)<| .loop Nat (Q1 Nat) ([9,10,11,12,13,14]++rg 39 35++[77]) [4800,5500] (fun i=>[(39,vI (i:Int))]) (fun i=>[]) (fun i=>i<=k/\kO (aL d f.name).1.rows f.src f.dst k i= []) (fun i=>k - i) (fun i=> .br (.elem _ aC ((aL d f.name).1.rows.take k) (fun e42=>bI (oM e42 f.src)<| bI (oM e32 f.src)<| .call (vB (decide (((fL e42 f.src).1)=((fL e32 f.src).1)))) []<| .br (.elem _ intD e42 (fun e65=> .elem _ intD e32 (fun e70=> .lit<| .lit<| .lit<| .br (.fin [(0,7600)]) (.back [])))) (.back []))) (.back [])))) (.fin [])))) (p:=Lx (d.tables.map aS)<| Lx (f.src.map intD)<| vP d f/\Nr (iF d f) ([]=(kF d f).map intD/\True) (qJ Tryz.prog 86 [.agg [.sl 142 3 (d.tables.map aS)],.one (.str f.name)] (.tup [.agg [.p none (.str ((aL d f.name).1.name)),vI ((aL d f.name).1.arity),.p none (.sl 91 1 ((aL d f.name).1.rows.map aC))],vB ((aL d f.name).2)]) []/\(Lm aC ((aL d f.name).1.rows)/\((∃(k:Nat),0=(k:Int)/\k<=(aL d f.name).1.rows.length/\lC (aL d f.name).1.rows f.src f.dst k= [])/\ ∀(k:Nat),(k<=(aL d f.name).1.rows.length/\lC (aL d f.name).1.rows f.src f.dst k= [])->Br ((k:Int)<(((aL d f.name).1.rows.length:Nat):Int)) (0<=(k:Int)/\Em aC ((aL d f.name).1.rows) k fun e32=>(aL d f.name).1.rows.map aC=(aL d f.name).1.rows.map aC/\0<=(k:Int)/\(k:Int)<=(((aL d f.name).1.rows.length:Nat):Int)/\(Lm aC ((aL d f.name).1.rows.take k)/\((∃(i:Nat),0=(i:Int)/\i<=k/\kO (aL d f.name).1.rows f.src f.dst k i= [])/\ ∀(i:Nat),(i<=k/\kO (aL d f.name).1.rows f.src f.dst k i= [])->Br ((i:Int)<((((aL d f.name).1.rows.take k).length:Nat):Int)) (0<=(i:Int)/\Em aC ((aL d f.name).1.rows.take k) i fun e42=>rQ e42 f.src/\rQ e32 f.src/\qT ((fL e42 f.src).1) ((fL e32 f.src).1)/\Br (((fL e42 f.src).1)=((fL e32 f.src).1)) (0<=f.dst/\Em intD e42 ((f.dst).toNat) fun e65=>0<=f.dst/\Em intD e32 ((f.dst).toNat) fun e70=>Nb (e65=e70) ([[.int .i64 (i:Int)],[.int .i64 (k:Int)]]=(kF d f).map intD/\True) (bJ ((i:Int)+1)/\ ∃(i' :Nat),((i:Int)+1)=(i' :Int)/\(i' <=k/\kO (aL d f.name).1.rows f.src f.dst k i' = [])/\k - i' <k - i)) (bJ ((i:Int)+1)/\ ∃(i' :Nat),((i:Int)+1)=(i' :Int)/\(i' <=k/\kO (aL d f.name).1.rows f.src f.dst k i' = [])/\k - i' <k - i)) (bJ ((k:Int)+1)/\ ∃(k' :Nat),((k:Int)+1)=(k' :Int)/\(k' <=(aL d f.name).1.rows.length/\lC (aL d f.name).1.rows f.src f.dst k' = [])/\(aL d f.name).1.rows.length - k' <(aL d f.name).1.rows.length - k)))) ([]=(kF d f).map intD/\True))))) (by kernel_rfl) ?_;refine lx fun n0=>lx fun n1=>?_;refine⟨aHL _ _ (by omega),dm (fun c0=>?_) fun c0=>?_⟩
 ·have hbad:kF d f= []:=by rw[kF,if_neg (by simpa using c0)]
  apply et1
  ·(rw[hbad]<;>rfl)
 ·have hok:iF d f=true:=by simpa using c0
  obtain⟨hT,hd0,hd1,hsl⟩:=aE4 hok;have hT8:=cA hT;have hV:kF d f=lC (aL d f.name).1.rows f.src f.dst (aL d f.name).1.rows.length:=by rw[kF,if_pos hok]
  refine⟨jG (pW _ f.name (by omega)) rfl,aAq _,⟨0,rfl,aBn _,rfl⟩,fun k ⟨hk,hv⟩=>?_⟩;refine dd (fun c1=>?_) fun c1=>?_
  ·refine⟨by omega,rfl,by omega,fun e32 h32=>?_⟩;have hl32:=pD hT (aCX h32);refine⟨rfl,by omega,by omega,aAq _,⟨0,rfl,aBn _,rfl⟩,fun i ⟨hi,hw⟩=>?_⟩;have htl:((aL d f.name).1.rows.take k).length=k:=by rw[aXd];omega
   refine dd (fun c2=>?_) fun c2=>?_
   ·refine⟨by omega,rfl,by omega,fun e42 h42=>?_⟩;have hx:(aL d f.name).1.rows[i]? =some e42:=by rw[List.getElem?_take_of_lt (by omega)] at h42;exact h42
    have hl42:=pD hT (aCX hx);have hb:=aQc (cols:=f.src) (c:=f.dst) hx h32;refine⟨aCp _ _ (by omega),aCp _ _ (by omega),aCj _ _,dd (fun g61=>?_) fun g61=>?_⟩
    ·refine⟨by omega,rfl,by omega,fun e65 h65=>?_⟩;refine⟨by omega,rfl,by omega,fun e70 h70=>?_⟩;refine dn (fun c3=>?_) fun c3=>?_
     ·have hB:aPO (aL d f.name).1.rows f.src f.dst i k=true:=by rw[hb,bM h65,bM h70];simp[*]
      have hE:=aHJ hv hw hB (by omega) (by omega:k<(aL d f.name).1.rows.length);apply et1
      ·(rw[hV,hE]<;>rfl)
     ·refine⟨⟨by omega,by omega⟩,?_⟩;exact⟨i+1,rfl,⟨by omega,aDA hw (by rw[hb];(rw[bM h65,bM h70];simp[*];done))⟩,by omega⟩
    ·refine⟨⟨by omega,by omega⟩,?_⟩;exact⟨i+1,rfl,⟨by omega,aDA hw (by rw[hb];(simp[g61];done))⟩,by omega⟩
   ·refine⟨⟨by omega,by omega⟩,?_⟩;exact⟨k+1,rfl,⟨by omega,aHK hv (by obtain rfl:i=k:=(by omega);exact hw)⟩,by omega⟩
  ·have hE:kF d f= []:=by rw[hV,show (aL d f.name).1.rows.length=k by omega,hv]
   apply et1
   ·(rw[hE]<;>rfl)
abbrev zM (d:aU)(f:bB):AV × List (Nat × Rs):=(.own 0,[(0,.arr 3 1 true ((kF d f).map intD))])
abbrev aEg (d:aU)(f:bB):Prop:=Cn 223 [.agg [.sl 142 3 (d.tables.map aS)],.agg [.str f.name,.sl 3 1 (f.src.map intD),.int .i64 f.dst]] (zM d f).1 (zM d f).2
theorem aSD (d:aU)(f:bB)(hc:bL d<=1048576):aEg d f:=by
 refine cq Tryz.func223 (.call (.tup [.agg [.p none (.str ((aL d f.name).1.name)),vI ((aL d f.name).1.arity),.p none (.sl 91 1 ((aL d f.name).1.rows.map aC))],vB ((aL d f.name).2)]) []<| .loop Nat (Q1 Nat) ([7,8,9,10,11,12]++rg 20 64) [4000,5600] (fun k=>[(7,vI (k:Int))]) (fun k=>[]) (fun k=>k<=(aL d f.name).1.rows.length/\lC (aL d f.name).1.rows f.src f.dst k= []) (fun k=>(aL d f.name).1.rows.length - k) (fun k=> .len ((aL d f.name).1.rows.length)<| .br (.call (vB (iF d f)) []<| .lit<| .br (.elem _ aC ((aL d f.name).1.rows) (fun e36=>bI (oN e36 f.src)<| .loop Nat (Q1 Nat) ([10,11,12]++rg 43 41) [5600] (fun i=>[(10,vI (i:Int))]) (fun i=>[]) (fun i=>i<=k/\kO (aL d f.name).1.rows f.src f.dst k i= []) (fun i=>k - i) (fun i=> .br (.elem _ aC ((aL d f.name).1.rows) (fun e52=>bI (oN e52 f.src)<| .call (vI (cD ((fL e52 f.src).1) ((fL e36 f.src).1))) []<| .br (.elem _ aC ((aL d f.name).1.rows) (fun e67=> .elem _ intD e67 (fun e71=> .elem _ aC ((aL d f.name).1.rows) (fun e76=> .elem _ intD e76 (fun e80=> .lit<| .lit<| .lit<| .br (.fin [(0,8600)]) (.back [])))))) (.back []))) (.back [])))) (.fin [(0,8700)])) (.fin [(0,8700)]))) (p:=Lx (d.tables.map aS)<| Lx (f.src.map intD)<| qJ Tryz.prog 126 [.agg [.sl 142 3 (d.tables.map aS)],.one (.str f.name)] (.tup [.agg [.p none (.str ((aL d f.name).1.name)),vI ((aL d f.name).1.arity),.p none (.sl 91 1 ((aL d f.name).1.rows.map aC))],vB ((aL d f.name).2)]) []/\((∃(k:Nat),0=(k:Int)/\k<=(aL d f.name).1.rows.length/\lC (aL d f.name).1.rows f.src f.dst k= [])/\ ∀(k:Nat),(k<=(aL d f.name).1.rows.length/\lC (aL d f.name).1.rows f.src f.dst k= [])->Lm aC ((aL d f.name).1.rows)/\Br ((k:Int)<(((aL d f.name).1.rows.length:Nat):Int)) (vQ d f/\Bb (iF d f) (0<=(k:Int)/\Em aC ((aL d f.name).1.rows) k fun e36=>rR e36 f.src/\((∃(i:Nat),0=(i:Int)/\i<=k/\kO (aL d f.name).1.rows f.src f.dst k i= [])/\ ∀(i:Nat),(i<=k/\kO (aL d f.name).1.rows f.src f.dst k i= [])->Br ((i:Int)<(k:Int)) (0<=(i:Int)/\Em aC ((aL d f.name).1.rows) i fun e52=>rR e52 f.src/\fS ((fL e52 f.src).1) ((fL e36 f.src).1)/\Br ((cD ((fL e52 f.src).1) ((fL e36 f.src).1))=0) (0<=(i:Int)/\Em aC ((aL d f.name).1.rows) i fun e67=>0<=f.dst/\Em intD e67 ((f.dst).toNat) fun e71=>0<=(k:Int)/\Em aC ((aL d f.name).1.rows) k fun e76=>0<=f.dst/\Em intD e76 ((f.dst).toNat) fun e80=>Nb (e71=e80) ([[.int .i64 (i:Int)],[.int .i64 (k:Int)]]=(kF d f).map intD/\True) (bJ ((i:Int)+1)/\ ∃(i' :Nat),((i:Int)+1)=(i' :Int)/\(i' <=k/\kO (aL d f.name).1.rows f.src f.dst k i' = [])/\k - i' <k - i)) (bJ ((i:Int)+1)/\ ∃(i' :Nat),((i:Int)+1)=(i' :Int)/\(i' <=k/\kO (aL d f.name).1.rows f.src f.dst k i' = [])/\k - i' <k - i)) (bJ ((k:Int)+1)/\ ∃(k' :Nat),((k:Int)+1)=(k' :Int)/\(k' <=(aL d f.name).1.rows.length/\lC (aL d f.name).1.rows f.src f.dst k' = [])/\(aL d f.name).1.rows.length - k' <(aL d f.name).1.rows.length - k))) ([]=(kF d f).map intD/\True)) ([]=(kF d f).map intD/\True))) (by kernel_rfl) ?_;refine lx fun n0=>lx fun n1=>?_;refine⟨jG (rV _ f.name (by omega)) rfl,⟨0,rfl,aBn _,rfl⟩,fun k ⟨hk,hv⟩=>?_⟩;refine⟨aAq _,dd (fun g25=>?_) fun g25=>?_⟩
 ·refine⟨aHM _ _ (by omega),db (fun c0=>?_) fun c0=>?_⟩
  ·have hok:iF d f=true:=c0;obtain⟨hT,hd0,hd1,hsl⟩:=aE4 hok;have hT8:=cA hT;have hV:kF d f=lC (aL d f.name).1.rows f.src f.dst (aL d f.name).1.rows.length:=by rw[kF,if_pos hok]
   refine⟨by omega,rfl,by omega,fun e36 h36=>?_⟩;have hl36:=pD hT (aCX h36);refine⟨aCq _ _ (by omega),⟨0,rfl,aBn _,rfl⟩,fun i ⟨hi,hw⟩=>?_⟩;refine dd (fun c1=>?_) fun c1=>?_
   ·refine⟨by omega,rfl,by omega,fun e52 h52=>?_⟩;have hl52:=pD hT (aCX h52);have hb:=aQc (cols:=f.src) (c:=f.dst) h52 h36;refine⟨aCq _ _ (by omega),jH _ _,dd (fun g63=>?_) fun g63=>?_⟩
    ·refine⟨by omega,rfl,by omega,fun e67 h67=>?_⟩;obtain rfl:=(aX h52 h67).symm;refine⟨by omega,rfl,by omega,fun e71 h71=>?_⟩;refine⟨by omega,rfl,by omega,fun e76 h76=>?_⟩;obtain rfl:=(aX h36 h76).symm;refine⟨by omega,rfl,by omega,fun e80 h80=>?_⟩;refine dn (fun c2=>?_) fun c2=>?_
     ·have hB:aPO (aL d f.name).1.rows f.src f.dst i k=true:=by rw[hb,bM h71,bM h80,eU.1 g63];simp[c2]
      have hE:=aHJ hv hw hB (by omega) (by omega:k<(aL d f.name).1.rows.length);apply et1
      ·(rw[hV,hE]<;>rfl)
     ·refine⟨⟨by omega,by omega⟩,?_⟩;exact⟨i+1,rfl,⟨by omega,aDA hw (by rw[hb];(rw[bM h71,bM h80];simp[c2];done))⟩,by omega⟩
    ·refine⟨⟨by omega,by omega⟩,?_⟩;exact⟨i+1,rfl,⟨by omega,aDA hw (by rw[hb];(simp[show ¬(fL e52 f.src).1=(fL e36 f.src).1 from fun q=>g63 (eU.2 q)];done))⟩,by omega⟩
   ·refine⟨⟨by omega,by omega⟩,?_⟩;exact⟨k+1,rfl,⟨by omega,aHK hv (by obtain rfl:i=k:=(by omega);exact hw)⟩,by omega⟩
  ·have hE:kF d f= []:=by (rw[kF,if_neg (by rw[c0];decide)];done)
   apply et1
   ·(rw[hE]<;>rfl)
 ·have hE:kF d f= []:=by (rw[kF];split<;>first|(rw[show (aL d f.name).1.rows.length=k by omega,hv];done)|rfl)
  apply et1
  ·(rw[hE]<;>rfl)
abbrev aDC (d:aU)(f:bB):Prop:=Cn 189 [.agg [.sl 142 3 (d.tables.map aS)],.agg [.str f.name,.sl 3 1 (f.src.map intD),.int .i64 f.dst]] (vB (kP d f)) []
theorem aPV (d:aU)(f:bB)(hc:bL d<=1048576):aDC d f:=by
 refine cq Tryz.func189 (.call (vB (iF d f)) []<| .br (bI (zL d f)<| .len ((kF d f).length)<| .fin []) (.fin [])) (p:=Lx (d.tables.map aS)<| Lx (f.src.map intD)<| vP d f/\Bb (iF d f) (aEf d f/\Lm intD (kF d f)/\(decide ((((kF d f).length:Nat):Int)=0))=(kP d f)/\True) ((false)=(kP d f)/\True)) (by kernel_rfl) ?_;refine lx fun n0=>lx fun n1=>?_;refine⟨aHL _ _ (by omega),db (fun g8=>?_) fun g8=>?_⟩
 ·refine⟨aSC _ _ (by omega),aAq _,?_,trivial⟩
  ·(simp[kP, *];done)
 ·apply et1
  ·(simp[kP, *];done)
abbrev aDD (d:aU)(f:bB):Prop:=Cn 180 [.agg [.sl 142 3 (d.tables.map aS)],.agg [.str f.name,.sl 3 1 (f.src.map intD),.int .i64 f.dst]] (vB (kP d f)) []
theorem aPW (d:aU)(f:bB)(hc:bL d<=1048576):aDD d f:=by
 refine cq Tryz.func180 (.call (vB (iF d f)) []<| .br (bI (zM d f)<| .len ((kF d f).length)<| .fin []) (.fin [])) (p:=Lx (d.tables.map aS)<| Lx (f.src.map intD)<| vQ d f/\Bb (iF d f) (aEg d f/\Lm intD (kF d f)/\(decide ((((kF d f).length:Nat):Int)=0))=(kP d f)/\True) ((false)=(kP d f)/\True)) (by kernel_rfl) ?_;refine lx fun n0=>lx fun n1=>?_;refine⟨aHM _ _ (by omega),db (fun g8=>?_) fun g8=>?_⟩
 ·refine⟨aSD _ _ (by omega),aAq _,?_,trivial⟩
  ·(simp[kP, *];done)
 ·apply et1
  ·(simp[kP, *];done)
abbrev zN (d:aU)(x:bA):AV × List (Nat × Rs):=(.own 0,[(0,.arr 3 1 true ((wV d x).map intD))])
abbrev aEh (d:aU)(x:bA):Prop:=Cn 234 [.agg [.sl 142 3 (d.tables.map aS)],.agg [.str x.name,.int .i64 x.column,.str x.into,.int .i64 x.intoColumn]] (zN d x).1 (zN d x).2
theorem aSE (d:aU)(x:bA)(hc:bL d<=1048576):aEh d x:=by
 refine cq Tryz.func234 (.call (vB (gP d x)) []<| .br (.fin []) (.call (.tup [.agg [.p none (.str ((aL d x.name).1.name)),vI ((aL d x.name).1.arity),.p none (.sl 91 1 ((aL d x.name).1.rows.map aC))],vB ((aL d x.name).2)]) []<| .call (.tup [.agg [.p none (.str ((aL d x.into).1.name)),vI ((aL d x.into).1.arity),.p none (.sl 91 1 ((aL d x.into).1.rows.map aC))],vB ((aL d x.into).2)]) []<| .len ((aL d x.into).1.rows.length)<| .loop (Nat × (List Int)) (Q2 Nat (List Int)) ([9,11,34]++rg 38 13) [3400,4800,4900] (fun yy0=>[(38,vI (yy0.1:Int)),(9,.own 3400)]) (fun yy0=>[(3400,some (.arr 3 1 true (yy0.2.map intD)))]) (fun yy0=>yy0.1<=(aL d x.into).1.rows.length/\yy0.2=iG ((aL d x.into).1.rows.take yy0.1) x.intoColumn) (fun yy0=>(aL d x.into).1.rows.length - yy0.1) (fun yy0=> .br (.elem _ aC ((aL d x.into).1.rows) (fun e40=> .elem _ intD e40 (fun e46=> .app Int intD yy0.2 ([e46]:List Int)<| .back [(3400,4900)]))) (.len ((aL d x.name).1.rows.length)<| .loop (Nat × (List Int)) (Q2 Nat (List Int)) ([12,14,15,51]++rg 55 18) [5100,7000,7100] (fun yy1=>[(55,vI (yy1.1:Int)),(12,.own 5100)]) (fun yy1=>[(5100,some (.arr 3 1 true (yy1.2.map intD)))]) (fun yy1=>yy1.1<=(aL d x.name).1.rows.length/\yy1.2=(iG ((aL d x.name).1.rows.take yy1.1) x.column).filter fun v=> !decide (v∈yy0.2)) (fun yy1=>(aL d x.name).1.rows.length - yy1.1) (fun yy1=> .br (.elem _ aC ((aL d x.name).1.rows) (fun e57=> .elem _ intD e57 (fun e62=> .call (vB (decide (e62∈yy0.2))) []<| .br (.app Int intD yy1.2 ([e62]:List Int)<| .back [(5100,7100)]) (.back [(5100,5100)])))) (.callx [.own 0] [(0,.arr 3 1 true (yy1.2.map intD))] [(0,5100)] (.tup []) [(0,.arr 3 1 true ((jT yy1.2).map intD))]<| .callx [.own 0] [(0,.arr 3 1 true ((jT yy1.2).map intD))] [(0,5100)] (.own 1) [(1,.arr 3 1 true ((sY (jT yy1.2)).map intD))]<| .fin [(0,7601)])))))) (p:=Lx (d.tables.map aS)<| vS d x/\Nr (gP d x) ([]=(wV d x).map intD/\True) (qJ Tryz.prog 86 [.agg [.sl 142 3 (d.tables.map aS)],.one (.str x.name)] (.tup [.agg [.p none (.str ((aL d x.name).1.name)),vI ((aL d x.name).1.arity),.p none (.sl 91 1 ((aL d x.name).1.rows.map aC))],vB ((aL d x.name).2)]) []/\(qJ Tryz.prog 86 [.agg [.sl 142 3 (d.tables.map aS)],.one (.str x.into)] (.tup [.agg [.p none (.str ((aL d x.into).1.name)),vI ((aL d x.into).1.arity),.p none (.sl 91 1 ((aL d x.into).1.rows.map aC))],vB ((aL d x.into).2)]) []/\(Lm aC ((aL d x.into).1.rows)/\((∃(k:Nat) (there:List Int),0=(k:Int)/\[]=there.map intD/\k<=(aL d x.into).1.rows.length/\there=iG ((aL d x.into).1.rows.take k) x.intoColumn)/\ ∀(k:Nat) (there:List Int),(k<=(aL d x.into).1.rows.length/\there=iG ((aL d x.into).1.rows.take k) x.intoColumn)->Br ((k:Int)<(((aL d x.into).1.rows.length:Nat):Int)) (0<=(k:Int)/\Em aC ((aL d x.into).1.rows) k fun e40=>0<=x.intoColumn/\Em intD e40 ((x.intoColumn).toNat) fun e46=>Ap intD there ([e46]:List Int) 8 (bJ ((k:Int)+1)/\ ∃(k' :Nat) (there' :List Int),((k:Int)+1)=(k' :Int)/\(there++[e46]).map intD=there'.map intD/\(k' <=(aL d x.into).1.rows.length/\there' =iG ((aL d x.into).1.rows.take k') x.intoColumn)/\(aL d x.into).1.rows.length - k' <(aL d x.into).1.rows.length - k)) (Lm aC ((aL d x.name).1.rows)/\((∃(j:Nat) (out:List Int),0=(j:Int)/\[]=out.map intD/\j<=(aL d x.name).1.rows.length/\out=(iG ((aL d x.name).1.rows.take j) x.column).filter fun v=> !decide (v∈there))/\ ∀(j:Nat) (out:List Int),(j<=(aL d x.name).1.rows.length/\out=(iG ((aL d x.name).1.rows.take j) x.column).filter fun v=> !decide (v∈there))->Br ((j:Int)<(((aL d x.name).1.rows.length:Nat):Int)) (0<=(j:Int)/\Em aC ((aL d x.name).1.rows) j fun e57=>0<=x.column/\Em intD e57 ((x.column).toNat) fun e62=>aN2 there e62/\Nr (decide (e62∈there)) (Ap intD out ([e62]:List Int) 8 (bJ ((j:Int)+1)/\ ∃(j' :Nat) (out' :List Int),((j:Int)+1)=(j' :Int)/\(out++[e62]).map intD=out'.map intD/\(j' <=(aL d x.name).1.rows.length/\out' =(iG ((aL d x.name).1.rows.take j') x.column).filter fun v=> !decide (v∈there))/\(aL d x.name).1.rows.length - j' <(aL d x.name).1.rows.length - j)) (bJ ((j:Int)+1)/\ ∃(j' :Nat) (out' :List Int),((j:Int)+1)=(j' :Int)/\out.map intD=out'.map intD/\(j' <=(aL d x.name).1.rows.length/\out' =(iG ((aL d x.name).1.rows.take j') x.column).filter fun v=> !decide (v∈there))/\(aL d x.name).1.rows.length - j' <(aL d x.name).1.rows.length - j)) (tG Tryz.prog 250 [.own 0] [(0,.arr 3 1 true (out.map intD))] (.tup []) [(0,.arr 3 1 true ((jT out).map intD))]/\out.map intD=out.map intD/\tG Tryz.prog 251 [.own 0] [(0,.arr 3 1 true ((jT out).map intD))] (.own 1) [(1,.arr 3 1 true ((sY (jT out)).map intD))]/\(jT out).map intD=(jT out).map intD/\(sY (jT out)).map intD=(wV d x).map intD/\True)))))))) (by kernel_rfl) ?_;refine lx fun n0=>?_;refine⟨aHO _ _ (by omega),dm (fun c0=>?_) fun c0=>?_⟩
 ·have hbad:wV d x= []:=by rw[wV,if_neg (by simpa using c0)]
  apply et1
  ·(rw[hbad]<;>rfl)
 ·have hok:gP d x=true:=by simpa using c0
  obtain⟨hTa,hTb,hca,hcb⟩:=zF hok;have hA8:=cA hTa;have hB8:=cA hTb;refine⟨jG (pW _ x.name (by omega)) rfl,jG (pW _ x.into (by omega)) rfl,aAq _,⟨0,([]:List Int),rfl,rfl,aBn _,rfl⟩,fun k there ⟨hk,hth⟩=>?_⟩;have htl:there.length=k:=by rw[hth,iG,aAq,aXd];omega
  refine dd (fun c1=>?_) fun c1=>?_
  ·refine⟨by omega,rfl,by omega,fun e40 h40=>?_⟩;have hl40:=pD hTb (aCX h40);refine⟨by omega,rfl,by omega,fun e46 h46=>?_⟩;refine ap ?_ (fun _=>rfl) (by (simp;omega));refine⟨⟨by omega,by omega⟩,?_⟩;exact⟨k+1,_,rfl,rfl,⟨by omega,by rw[mK _ _ h40,<-hth,bM h46]⟩,by omega⟩
  ·have hTH:there=iG (aL d x.into).1.rows x.intoColumn:=by rw[hth,aIs (by omega)]
   refine⟨aAq _,⟨0,([]:List Int),rfl,rfl,aBn _,rfl⟩,fun j out ⟨hj,ho⟩=>?_⟩;have hol:out.length<=j:=by rw[ho];refine Nat.le_trans (List.length_filter_le _ _) ?_;simp[iG];omega
   refine dd (fun c2=>?_) fun c2=>?_
   ·refine⟨by omega,rfl,by omega,fun e57 h57=>?_⟩;have hl57:=pD hTa (aCX h57);refine⟨by omega,rfl,by omega,fun e62 h62=>?_⟩;refine⟨ctI _ _,dm (fun c3=>?_) fun c3=>?_⟩
    ·refine ap ?_ (fun _=>rfl) (by (simp[hth];omega));refine⟨⟨by omega,by omega⟩,?_⟩;exact⟨j+1,_,rfl,rfl,⟨by omega,by rw[mK _ _ h57,List.filter_append,<-ho,bM h62,List.filter_cons_of_pos (by simpa using c3)];rfl⟩,by omega⟩
    ·refine⟨⟨by omega,by omega⟩,?_⟩;exact⟨j+1,_,rfl,rfl,⟨by omega,by rw[mK _ _ h57,List.filter_append,<-ho,bM h62,List.filter_cons_of_neg (by simpa using c3)];simp⟩,by omega⟩
   ·have hE:wV d x=sY (jT out):=by rw[wV,if_pos hok,aE5,ho,hTH,aIs (by omega)]
    refine⟨aKW out (by omega),rfl,aRg (jT out) (by (rw[uD];omega)),rfl,?_,trivial⟩
    ·(rw[hE]<;>rfl)
abbrev aDE (d:aU)(x:bA):Prop:=Cn 190 [.agg [.sl 142 3 (d.tables.map aS)],.agg [.str x.name,.int .i64 x.column,.str x.into,.int .i64 x.intoColumn]] (vB (kQ d x)) []
theorem aPX (d:aU)(x:bA)(hc:bL d<=1048576):aDE d x:=by
 refine cq Tryz.func190 (.call (vB (gP d x)) []<| .br (bI (zN d x)<| .len ((wV d x).length)<| .fin []) (.fin [])) (p:=Lx (d.tables.map aS)<| vS d x/\Bb (gP d x) (aEh d x/\Lm intD (wV d x)/\(decide ((((wV d x).length:Nat):Int)=0))=(kQ d x)/\True) ((false)=(kQ d x)/\True)) (by kernel_rfl) ?_;refine lx fun n0=>?_;refine⟨aHO _ _ (by omega),db (fun g8=>?_) fun g8=>?_⟩
 ·refine⟨aSE _ _ (by omega),aAq _,?_,trivial⟩
  ·(rw[kQ,g8,aN3,aRk g8];rfl)
 ·apply et1
  ·(simp[kQ, *];done)
abbrev zO (d:aU)(x:bA):AV × List (Nat × Rs):=(.own 0,[(0,.arr 3 1 true ((wW d x).map intD))])
abbrev aEi (d:aU)(x:bA):Prop:=Cn 225 [.agg [.sl 142 3 (d.tables.map aS)],.agg [.str x.name,.int .i64 x.column,.str x.into,.int .i64 x.intoColumn]] (zO d x).1 (zO d x).2
theorem aSF (d:aU)(x:bA)(hc:bL d<=1048576):aEi d x:=by
 refine cq Tryz.func225 (.call (vB (gP d x)) []<| .br (.fin [(0,1500)]) (.call (.tup [.agg [.p none (.str ((aL d x.name).1.name)),vI ((aL d x.name).1.arity),.p none (.sl 91 1 ((aL d x.name).1.rows.map aC))],vB ((aL d x.name).2)]) []<| .call (.tup [.agg [.p none (.str ((aL d x.into).1.name)),vI ((aL d x.into).1.arity),.p none (.sl 91 1 ((aL d x.into).1.rows.map aC))],vB ((aL d x.into).2)]) []<| .loop (Nat × (List Int)) (Q2 Nat (List Int)) ([5,10,11,12,13,14,15]++rg 35 55) [1500,8800,8900] (fun yy0=>[(10,vI (yy0.1:Int)),(5,.own 1500)]) (fun yy0=>[(1500,some (.arr 3 1 true (yy0.2.map intD)))]) (fun yy0=>yy0.1<=10/\yy0.2=oA d x yy0.1) (fun yy0=>10 - yy0.1) (fun yy0=> .br (.loop (Nat × Bool) (Q2 Nat Bool) ([11,13]++rg 39 21) [] (fun yy1=>[(13,vI (yy1.1:Int)),(11,vB yy1.2)]) (fun yy1=>[]) (fun yy1=>yy1.1<=(aL d x.name).1.rows.length/\yy1.2=decide ((yy0.1:Int)∈iG ((aL d x.name).1.rows.take yy1.1) x.column)) (fun yy1=>(aL d x.name).1.rows.length - yy1.1) (fun yy1=> .len ((aL d x.name).1.rows.length)<| .br (.br (.back []) (.elem _ aC ((aL d x.name).1.rows) (fun e51=> .elem _ intD e51 (fun e55=> .back [])))) (.loop (Nat × Bool) (Q2 Nat Bool) ([12,14]++rg 60 21) [] (fun yy2=>[(14,vI (yy2.1:Int)),(12,vB yy2.2)]) (fun yy2=>[]) (fun yy2=>yy2.1<=(aL d x.into).1.rows.length/\yy2.2=decide ((yy0.1:Int)∈iG ((aL d x.into).1.rows.take yy2.1) x.intoColumn)) (fun yy2=>(aL d x.into).1.rows.length - yy2.1) (fun yy2=> .len ((aL d x.into).1.rows.length)<| .br (.br (.back []) (.elem _ aC ((aL d x.into).1.rows) (fun e72=> .elem _ intD e72 (fun e76=> .back [])))) (.br (.lit<| .lit<| .br (.app Int intD yy0.2 ([(yy0.1:Int)]:List Int)<| .back [(1500,8900)]) (.back [(1500,1500)])) (.back [(1500,1500)])))))) (.fin [(0,1500)])))) (p:=Lx (d.tables.map aS)<| vT d x/\Nr (gP d x) ([]=(wW d x).map intD/\True) (qJ Tryz.prog 126 [.agg [.sl 142 3 (d.tables.map aS)],.one (.str x.name)] (.tup [.agg [.p none (.str ((aL d x.name).1.name)),vI ((aL d x.name).1.arity),.p none (.sl 91 1 ((aL d x.name).1.rows.map aC))],vB ((aL d x.name).2)]) []/\(qJ Tryz.prog 126 [.agg [.sl 142 3 (d.tables.map aS)],.one (.str x.into)] (.tup [.agg [.p none (.str ((aL d x.into).1.name)),vI ((aL d x.into).1.arity),.p none (.sl 91 1 ((aL d x.into).1.rows.map aC))],vB ((aL d x.into).2)]) []/\((∃(v:Nat) (out:List Int),0=(v:Int)/\[]=out.map intD/\v<=10/\out=oA d x v)/\ ∀(v:Nat) (out:List Int),(v<=10/\out=oA d x v)->Br ((v:Int)<=9) ((∃(k:Nat) (p:Bool),0=(k:Int)/\(false)=p/\k<=(aL d x.name).1.rows.length/\p=decide ((v:Int)∈iG ((aL d x.name).1.rows.take k) x.column))/\ ∀(k:Nat) (p:Bool),(k<=(aL d x.name).1.rows.length/\p=decide ((v:Int)∈iG ((aL d x.name).1.rows.take k) x.column))->Lm aC ((aL d x.name).1.rows)/\Br ((k:Int)<(((aL d x.name).1.rows.length:Nat):Int)) (Bb (p) (bJ ((k:Int)+1)/\ ∃(k' :Nat) (p' :Bool),((k:Int)+1)=(k' :Int)/\(true)=p' /\(k' <=(aL d x.name).1.rows.length/\p' =decide ((v:Int)∈iG ((aL d x.name).1.rows.take k') x.column))/\(aL d x.name).1.rows.length - k' <(aL d x.name).1.rows.length - k) (0<=(k:Int)/\Em aC ((aL d x.name).1.rows) k fun e51=>0<=x.column/\Em intD e51 ((x.column).toNat) fun e55=>bJ ((k:Int)+1)/\ ∃(k' :Nat) (p' :Bool),((k:Int)+1)=(k' :Int)/\(decide (e55=(v:Int)))=p' /\(k' <=(aL d x.name).1.rows.length/\p' =decide ((v:Int)∈iG ((aL d x.name).1.rows.take k') x.column))/\(aL d x.name).1.rows.length - k' <(aL d x.name).1.rows.length - k)) ((∃(j:Nat) (q:Bool),0=(j:Int)/\(false)=q/\j<=(aL d x.into).1.rows.length/\q=decide ((v:Int)∈iG ((aL d x.into).1.rows.take j) x.intoColumn))/\ ∀(j:Nat) (q:Bool),(j<=(aL d x.into).1.rows.length/\q=decide ((v:Int)∈iG ((aL d x.into).1.rows.take j) x.intoColumn))->Lm aC ((aL d x.into).1.rows)/\Br ((j:Int)<(((aL d x.into).1.rows.length:Nat):Int)) (Bb (q) (bJ ((j:Int)+1)/\ ∃(j' :Nat) (q' :Bool),((j:Int)+1)=(j' :Int)/\(true)=q' /\(j' <=(aL d x.into).1.rows.length/\q' =decide ((v:Int)∈iG ((aL d x.into).1.rows.take j') x.intoColumn))/\(aL d x.into).1.rows.length - j' <(aL d x.into).1.rows.length - j) (0<=(j:Int)/\Em aC ((aL d x.into).1.rows) j fun e72=>0<=x.intoColumn/\Em intD e72 ((x.intoColumn).toNat) fun e76=>bJ ((j:Int)+1)/\ ∃(j' :Nat) (q' :Bool),((j:Int)+1)=(j' :Int)/\(decide (e76=(v:Int)))=q' /\(j' <=(aL d x.into).1.rows.length/\q' =decide ((v:Int)∈iG ((aL d x.into).1.rows.take j') x.intoColumn))/\(aL d x.into).1.rows.length - j' <(aL d x.into).1.rows.length - j)) (Bb (p) (Nr (q) (Ap intD out ([(v:Int)]:List Int) 8 (bJ ((v:Int)+1)/\ ∃(v' :Nat) (out' :List Int),((v:Int)+1)=(v' :Int)/\(out++[(v:Int)]).map intD=out'.map intD/\(v' <=10/\out' =oA d x v')/\10 - v' <10 - v)) (bJ ((v:Int)+1)/\ ∃(v' :Nat) (out' :List Int),((v:Int)+1)=(v' :Int)/\out.map intD=out'.map intD/\(v' <=10/\out' =oA d x v')/\10 - v' <10 - v)) (bJ ((v:Int)+1)/\ ∃(v' :Nat) (out' :List Int),((v:Int)+1)=(v' :Int)/\out.map intD=out'.map intD/\(v' <=10/\out' =oA d x v')/\10 - v' <10 - v)))) (out.map intD=(wW d x).map intD/\True))))) (by kernel_rfl) ?_;refine lx fun n0=>?_;refine⟨aHP _ _ (by omega),dm (fun c0=>?_) fun c0=>?_⟩
 ·have hbad:wW d x= []:=by rw[wW,if_neg (by simpa using c0)]
  apply et1
  ·(rw[hbad]<;>rfl)
 ·have hok:gP d x=true:=by simpa using c0
  obtain⟨hTa,hTb,hca,hcb⟩:=zF hok;have hA8:=cA hTa;have hB8:=cA hTb;refine⟨jG (rV _ x.name (by omega)) rfl,jG (rV _ x.into (by omega)) rfl,⟨0,([]:List Int),rfl,rfl,by omega,rfl⟩,fun v out ⟨hvv,ho⟩=>?_⟩;have hol:=aRi d x v;rw[<-ho] at hol;refine dd (fun c1=>?_) fun c1=>?_
  ·refine⟨⟨0,false,rfl,rfl,aBn _,rfl⟩,fun k p ⟨hk,hp⟩=>?_⟩;refine⟨aAq _,dd (fun c2=>?_) fun c2=>?_⟩
   ·obtain⟨ra,hra⟩:=dB (l:=(aL d x.name).1.rows) (k:=k) (by omega);refine db (fun g47=>?_) fun g47=>?_
    ·refine⟨⟨by omega,by omega⟩,?_⟩;exact⟨k+1,_,rfl,rfl,⟨by omega,by rw[mK _ _ hra,uE,<-hp,g47];rfl⟩,by omega⟩
    ·refine⟨by omega,rfl,by omega,fun e51 h51=>?_⟩;have hl51:=pD hTa (aCX h51);refine⟨by omega,rfl,by omega,fun e55 h55=>?_⟩;refine⟨⟨by omega,by omega⟩,?_⟩;exact⟨k+1,_,rfl,rfl,⟨by omega,by obtain rfl:=aX h51 hra;rw[mK _ _ hra,uE,<-hp,g47,bM h55,Bool.false_or];exact decide_eq_decide.2 ⟨Eq.symm,Eq.symm⟩⟩,by omega⟩
   ·have hP:p=decide ((v:Int)∈iG (aL d x.name).1.rows x.column):=by rw[hp,aIs (by omega)]
    refine⟨⟨0,false,rfl,rfl,aBn _,rfl⟩,fun j q ⟨hj,hq⟩=>?_⟩;refine⟨aAq _,dd (fun c3=>?_) fun c3=>?_⟩
    ·obtain⟨rb,hrb⟩:=dB (l:=(aL d x.into).1.rows) (k:=j) (by omega);refine db (fun g68=>?_) fun g68=>?_
     ·refine⟨⟨by omega,by omega⟩,?_⟩;exact⟨j+1,_,rfl,rfl,⟨by omega,by rw[mK _ _ hrb,uE,<-hq,g68];rfl⟩,by omega⟩
     ·refine⟨by omega,rfl,by omega,fun e72 h72=>?_⟩;have hl72:=pD hTb (aCX h72);refine⟨by omega,rfl,by omega,fun e76 h76=>?_⟩;refine⟨⟨by omega,by omega⟩,?_⟩;exact⟨j+1,_,rfl,rfl,⟨by omega,by obtain rfl:=aX h72 hrb;rw[mK _ _ hrb,uE,<-hq,g68,bM h76,Bool.false_or];exact decide_eq_decide.2 ⟨Eq.symm,Eq.symm⟩⟩,by omega⟩
    ·have hQ:q=decide ((v:Int)∈iG (aL d x.into).1.rows x.intoColumn):=by rw[hq,aIs (by omega)]
     refine db (fun g82=>?_) fun g82=>?_
     ·refine dm (fun c4=>?_) fun c4=>?_
      ·refine ap ?_ (fun _=>rfl) (by (simp;omega));refine⟨⟨by omega,by omega⟩,?_⟩;exact⟨v+1,_,rfl,rfl,⟨by omega,by rw[ho,aRh (by rw[aDB,<-hP,<-hQ,g82,c4];rfl)]⟩,by omega⟩
      ·refine⟨⟨by omega,by omega⟩,?_⟩;exact⟨v+1,_,rfl,rfl,⟨by omega,by rw[ho,aN5 (by rw[aDB,<-hP,<-hQ,g82,c4];rfl)]⟩,by omega⟩
     ·refine⟨⟨by omega,by omega⟩,?_⟩;exact⟨v+1,_,rfl,rfl,⟨by omega,by rw[ho,aN5 (by rw[aDB,<-hP,<-hQ,g82];rfl)]⟩,by omega⟩
  ·have hE:wW d x=out:=by rw[wW,if_pos hok,ho,show v=10 by omega]
   apply et1
   ·(rw[hE]<;>rfl)
abbrev aDF (d:aU)(x:bA):Prop:=Cn 181 [.agg [.sl 142 3 (d.tables.map aS)],.agg [.str x.name,.int .i64 x.column,.str x.into,.int .i64 x.intoColumn]] (vB (kQ d x)) []
theorem aPY (d:aU)(x:bA)(hc:bL d<=1048576):aDF d x:=by
 refine cq Tryz.func181 (.call (vB (gP d x)) []<| .br (bI (zO d x)<| .len ((wW d x).length)<| .fin []) (.fin [])) (p:=Lx (d.tables.map aS)<| vT d x/\Bb (gP d x) (aEi d x/\Lm intD (wW d x)/\(decide ((((wW d x).length:Nat):Int)=0))=(kQ d x)/\True) ((false)=(kQ d x)/\True)) (by kernel_rfl) ?_;refine lx fun n0=>?_;refine⟨aHP _ _ (by omega),db (fun g8=>?_) fun g8=>?_⟩
 ·refine⟨aSF _ _ (by omega),aAq _,?_,trivial⟩
  ·(rw[kQ,g8,aN3,aRl g8];rfl)
 ·apply et1
  ·(simp[kQ, *];done)
def kR (d:aU)(l:List bB)(m:List bA):Bool:=l.all (kP d)&&(m.all (kQ d)&&(decide ((l.length:Int)<=8)&&decide ((m.length:Int)<=8)))
abbrev aEj (d:aU)(l:List bB)(m:List bA):Prop:=Cn 133 [.agg [.sl 142 3 (d.tables.map aS)],.one (.sl 121 3 (l.map aN)),.one (.sl 123 4 (m.map aQ))] (vB (kR d l m)) []
theorem aSG (d:aU)(l:List bB)(m:List bA)(hc:bL d<=1048576):aEj d l m:=by
 refine cq Tryz.func133 (.len l.length<| .loop Nat (Q1 Nat) ([8]++rg 13 9) [800] (fun k=>[(13,vI (k:Int))]) (fun k=>[]) (fun k=>k<=l.length/\(l.take k).all (kP d)=true) (fun k=>l.length - k) (fun k=> .br (.elem _ aN l (fun e15=> .call (vB (kP d e15)) []<| .br (.fin []) (.back []))) (.len m.length<| .loop Nat (Q1 Nat) ([10]++rg 24 9) [1000] (fun j=>[(24,vI (j:Int))]) (fun j=>[]) (fun j=>j<=m.length/\(m.take j).all (kQ d)=true) (fun j=>m.length - j) (fun j=> .br (.elem _ aQ m (fun e26=> .call (vB (kQ d e26)) []<| .br (.fin []) (.back []))) (.len l.length<| .br (.len m.length<| .fin []) (.fin [])))))) (p:=Lx (d.tables.map aS)<| Lx (l.map aN)<| Lx (m.map aQ)<| Lm aN l/\((∃(k:Nat),0=(k:Int)/\k<=l.length/\(l.take k).all (kP d)=true)/\ ∀(k:Nat),(k<=l.length/\(l.take k).all (kP d)=true)->Br ((k:Int)<(l.length:Int)) (0<=(k:Int)/\Em aN l k fun e15=>aDC d e15/\Nr (kP d e15) ((false)=(kR d l m)/\True) (bJ ((k:Int)+1)/\ ∃(k' :Nat),((k:Int)+1)=(k' :Int)/\(k' <=l.length/\(l.take k').all (kP d)=true)/\l.length - k' <l.length - k)) (Lm aQ m/\((∃(j:Nat),0=(j:Int)/\j<=m.length/\(m.take j).all (kQ d)=true)/\ ∀(j:Nat),(j<=m.length/\(m.take j).all (kQ d)=true)->Br ((j:Int)<(m.length:Int)) (0<=(j:Int)/\Em aQ m j fun e26=>aDE d e26/\Nr (kQ d e26) ((false)=(kR d l m)/\True) (bJ ((j:Int)+1)/\ ∃(j' :Nat),((j:Int)+1)=(j' :Int)/\(j' <=m.length/\(m.take j').all (kQ d)=true)/\m.length - j' <m.length - j)) (Lm aN l/\Br ((l.length:Int)<=8) (Lm aQ m/\(decide ((m.length:Int)<=8))=(kR d l m)/\True) ((false)=(kR d l m)/\True)))))) (by kernel_rfl) ?_;refine lx fun n0=>lx fun n1=>lx fun n2=>?_;refine⟨aAq _,⟨0,rfl,aBn _,rfl⟩,fun k ⟨hk,ha⟩=>?_⟩;refine dd (fun c0=>?_) fun c0=>?_
 ·refine⟨by omega,rfl,by omega,fun e15 h15=>?_⟩;refine⟨aPV _ _ (by omega),dm (fun c1=>?_) fun c1=>?_⟩
  ·have hL:l.all (kP d)=false:=eL h15 (by simpa using c1);apply et1
   ·(simp[kR,hL];done)
  ·refine⟨⟨by omega,by omega⟩,?_⟩;exact⟨k+1,rfl,⟨by omega,cL h15 ha (by simpa using c1)⟩,by omega⟩
 ·have hL:=cZ (by omega) ha;refine⟨aAq _,⟨0,rfl,aBn _,rfl⟩,fun j ⟨hj,hb⟩=>?_⟩;refine dd (fun c2=>?_) fun c2=>?_
  ·refine⟨by omega,rfl,by omega,fun e26 h26=>?_⟩;refine⟨aPX _ _ (by omega),dm (fun c3=>?_) fun c3=>?_⟩
   ·have hM:m.all (kQ d)=false:=eL h26 (by simpa using c3);apply et1
    ·(simp[kR,hL,hM];done)
   ·refine⟨⟨by omega,by omega⟩,?_⟩;exact⟨j+1,rfl,⟨by omega,cL h26 hb (by simpa using c3)⟩,by omega⟩
  ·have hM:=cZ (by omega) hb;refine⟨aAq _,dd (fun g36=>?_) fun g36=>?_⟩
   ·refine⟨aAq _,?_,trivial⟩
    ·(simp[kR,hL,hM, *];done)
   ·apply et1
    ·(simp[kR,hL,hM, *];done)
abbrev aEk (d:aU)(l:List bB)(m:List bA):Prop:=Cn 124 [.agg [.sl 142 3 (d.tables.map aS)],.one (.sl 121 3 (l.map aN)),.one (.sl 123 4 (m.map aQ))] (vB (kR d l m)) []
theorem aSH (d:aU)(l:List bB)(m:List bA)(hc:bL d<=1048576):aEk d l m:=by
 refine cq Tryz.func124 (.len l.length<| .br (.fin []) (.len m.length<| .lit<| .lit<| .br (.fin []) (.loop Nat (Q1 Nat) ([7]++rg 17 13) [] (fun k=>[(7,vI (k:Int))]) (fun k=>[]) (fun k=>k<=l.length/\(l.take k).all (kP d)=true) (fun k=>l.length - k) (fun k=> .len l.length<| .br (.elem _ aN l (fun e26=> .call (vB (kP d e26)) []<| .br (.fin []) (.back []))) (.loop Nat (Q1 Nat) ([8]++rg 30 13) [] (fun j=>[(8,vI (j:Int))]) (fun j=>[]) (fun j=>j<=m.length/\(m.take j).all (kQ d)=true) (fun j=>m.length - j) (fun j=> .len m.length<| .br (.elem _ aQ m (fun e39=> .call (vB (kQ d e39)) []<| .br (.fin []) (.back []))) (.fin []))))))) (p:=Lx (d.tables.map aS)<| Lx (l.map aN)<| Lx (m.map aQ)<| Lm aN l/\Br (8<(l.length:Int)) ((false)=(kR d l m)/\True) (Lm aQ m/\Br (8<(m.length:Int)) ((false)=(kR d l m)/\True) ((∃(k:Nat),0=(k:Int)/\k<=l.length/\(l.take k).all (kP d)=true)/\ ∀(k:Nat),(k<=l.length/\(l.take k).all (kP d)=true)->Lm aN l/\Br ((k:Int)<(l.length:Int)) (0<=(k:Int)/\Em aN l k fun e26=>aDD d e26/\Nr (kP d e26) ((false)=(kR d l m)/\True) (bJ ((k:Int)+1)/\ ∃(k' :Nat),((k:Int)+1)=(k' :Int)/\(k' <=l.length/\(l.take k').all (kP d)=true)/\l.length - k' <l.length - k)) ((∃(j:Nat),0=(j:Int)/\j<=m.length/\(m.take j).all (kQ d)=true)/\ ∀(j:Nat),(j<=m.length/\(m.take j).all (kQ d)=true)->Lm aQ m/\Br ((j:Int)<(m.length:Int)) (0<=(j:Int)/\Em aQ m j fun e39=>aDF d e39/\Nr (kQ d e39) ((false)=(kR d l m)/\True) (bJ ((j:Int)+1)/\ ∃(j' :Nat),((j:Int)+1)=(j' :Int)/\(j' <=m.length/\(m.take j').all (kQ d)=true)/\m.length - j' <m.length - j)) ((true)=(kR d l m)/\True))))) (by kernel_rfl) ?_;refine lx fun n0=>lx fun n1=>lx fun n2=>?_;refine⟨aAq _,dd (fun g12=>?_) fun g12=>?_⟩
 ·have hbad:(decide ((l.length:Int)<=8)&&decide ((m.length:Int)<=8))=false:=by (simp;omega)
  apply et1
  ·(rw[kR,hbad];simp;done)
 ·refine⟨aAq _,dd (fun c0=>?_) fun c0=>?_⟩
  ·have hbad:(decide ((l.length:Int)<=8)&&decide ((m.length:Int)<=8))=false:=by (simp;omega)
   apply et1
   ·(rw[kR,hbad];simp;done)
  ·have hz:(decide ((l.length:Int)<=8)&&decide ((m.length:Int)<=8))=true:=by simp;omega
   refine⟨⟨0,rfl,aBn _,rfl⟩,fun k ⟨hk,ha⟩=>?_⟩;refine⟨aAq _,dd (fun c1=>?_) fun c1=>?_⟩
   ·refine⟨by omega,rfl,by omega,fun e26 h26=>?_⟩;refine⟨aPW _ _ (by omega),dm (fun c2=>?_) fun c2=>?_⟩
    ·have hL:l.all (kP d)=false:=eL h26 (by simpa using c2);apply et1
     ·(rw[kR,hL];rfl)
    ·refine⟨⟨by omega,by omega⟩,?_⟩;exact⟨k+1,rfl,⟨by omega,cL h26 ha (by simpa using c2)⟩,by omega⟩
   ·have hL:=cZ (by omega) ha;refine⟨⟨0,rfl,aBn _,rfl⟩,fun j ⟨hj,hb⟩=>?_⟩;refine⟨aAq _,dd (fun c3=>?_) fun c3=>?_⟩
    ·refine⟨by omega,rfl,by omega,fun e39 h39=>?_⟩;refine⟨aPY _ _ (by omega),dm (fun c4=>?_) fun c4=>?_⟩
     ·have hM:m.all (kQ d)=false:=eL h39 (by simpa using c4);apply et1
      ·(rw[kR,hL,hM,hz];rfl)
     ·refine⟨⟨by omega,by omega⟩,?_⟩;exact⟨j+1,rfl,⟨by omega,cL h39 hb (by simpa using c4)⟩,by omega⟩
    ·have hM:=cZ (by omega) hb;apply et1
     ·(rw[kR,hL,hM,hz];rfl)
def eW (s:StoreD):Bool:=(fU s.database s.catalogue.version).2&&(decide ((fU s.database s.catalogue.version).1=s.catalogue)&&kR s.database s.dependencies s.inclusions)
abbrev zP (s:StoreD):Prop:=Cn 81 [.agg [.sl 142 3 (s.database.tables.map aS),.int .i64 s.catalogue.version,.sl 88 4 (s.catalogue.tables.map aF),.sl 121 3 (s.dependencies.map aN),.sl 123 4 (s.inclusions.map aQ)]] (vB (eW s)) []
theorem aK4 (s:StoreD)(hc:dD s<=1048576):zP s:=by
 refine cq Tryz.func81 (bI (aBe s.database s.catalogue.version)<| .br (.call (vB (decide (((fU s.database s.catalogue.version).1)=s.catalogue))) []<| .lit<| .br (.call (vB (kR s.database s.dependencies s.inclusions)) []<| .fin []) (.fin [])) (.fin [])) (p:=Lx (s.database.tables.map aS)<| Lx (s.catalogue.tables.map aF)<| Lx (s.dependencies.map aN)<| Lx (s.inclusions.map aQ)<| aGz s.database s.catalogue.version/\Bb ((fU s.database s.catalogue.version).2) (aCk ((fU s.database s.catalogue.version).1) s.catalogue/\Br (((fU s.database s.catalogue.version).1)=s.catalogue) (aEj s.database s.dependencies s.inclusions/\(kR s.database s.dependencies s.inclusions)=(eW s)/\True) ((false)=(eW s)/\True)) ((false)=(eW s)/\True)) (by kernel_rfl) ?_;refine lx fun n0=>lx fun n1=>lx fun n2=>lx fun n3=>?_;have hS:dD s=bL s.database+bQ s.catalogue+bT s.dependencies+cF s.inclusions:=rfl;have hsm:=aKU s.database s.catalogue.version;refine⟨aU0 s.database s.catalogue.version,db (fun g15=>?_) fun g15=>?_⟩
 ·refine⟨aPG _ _,dd (fun g21=>?_) fun g21=>?_⟩
  ·refine⟨aSG s.database _ _ (by omega),?_,trivial⟩
   ·(simp[eW, *];done)
  ·apply et1
   ·(simp[eW, *];done)
 ·apply et1
  ·(simp[eW, *];done)
abbrev aEl (s:StoreD):Prop:=Cn 72 [.agg [.sl 142 3 (s.database.tables.map aS),.int .i64 s.catalogue.version,.sl 88 4 (s.catalogue.tables.map aF),.sl 121 3 (s.dependencies.map aN),.sl 123 4 (s.inclusions.map aQ)]] (vB (eW s)) []
theorem aSI (s:StoreD)(hc:dD s<=1048576):aEl s:=by
 refine cq Tryz.func72 (bI (aBf s.database s.catalogue.version)<| .br (.call (vB (decide (((fU s.database s.catalogue.version).1)=s.catalogue))) []<| .lit<| .br (.call (vB (kR s.database s.dependencies s.inclusions)) []<| .fin []) (.fin [])) (.fin [])) (p:=Lx (s.database.tables.map aS)<| Lx (s.catalogue.tables.map aF)<| Lx (s.dependencies.map aN)<| Lx (s.inclusions.map aQ)<| aHA s.database s.catalogue.version/\Bb ((fU s.database s.catalogue.version).2) (aCm ((fU s.database s.catalogue.version).1) s.catalogue/\Br (((fU s.database s.catalogue.version).1)=s.catalogue) (aEk s.database s.dependencies s.inclusions/\(kR s.database s.dependencies s.inclusions)=(eW s)/\True) ((false)=(eW s)/\True)) ((false)=(eW s)/\True)) (by kernel_rfl) ?_;refine lx fun n0=>lx fun n1=>lx fun n2=>lx fun n3=>?_;have hS:dD s=bL s.database+bQ s.catalogue+bT s.dependencies+cF s.inclusions:=rfl;have hsm:=aKU s.database s.catalogue.version;refine⟨aU1 s.database s.catalogue.version,db (fun g15=>?_) fun g15=>?_⟩
 ·refine⟨aPH _ _ (by omega),dd (fun g21=>?_) fun g21=>?_⟩
  ·refine⟨aSH s.database _ _ (by omega),?_,trivial⟩
   ·(simp[eW, *];done)
  ·apply et1
   ·(simp[eW, *];done)
 ·apply et1
  ·(simp[eW, *];done)
abbrev aBp (x:aM):AV × List (Nat × Rs):=(.agg [.p none (.str x.name),vI x.arity,vI x.rowCount,.own 0],[(0,.arr 220 3 true (x.groups.map aD))])
abbrev aH7 (x:aM):Prop:=Cn 128 [.agg [.str x.name,.int .i64 x.arity,.int .i64 x.rowCount,.sl 220 3 (x.groups.map aD)]] (aBp x).1 (aBp x).2
theorem aUq (x:aM)(hc:bH x<=1048576):aH7 x:=by
 refine cq Tryz.func128 (.loop (Nat × (List aR)) (Q2 Nat (List aR)) ([4,5,6]++rg 14 57) [300,500,2100,2800,2900,3600,5100,6100,6200,6300,6800,6900,9000,9001] (fun yy0=>[(4,vI (yy0.1:Int))]) (fun yy0=>[(300,some (.box 88 [.p none (.str x.name),vI x.arity,vI x.rowCount,.own 9000])),(9000,some (.arr 220 3 true (yy0.2.map aD)))]) (fun yy0=>yy0.1<=x.groups.length/\yy0.2=x.groups.take yy0.1) (fun yy0=>x.groups.length - yy0.1) (fun yy0=> .len x.groups.length<| .br (.elem _ aD x.groups (fun e25=> .app Int intD ([]:List Int) e25.columns<| .elem _ aD x.groups (fun e33=> .app Int intD ([]:List Int) e33.counts<| .loop (Nat × (List (List Int))) (Q2 Nat (List (List Int))) ([6]++rg 38 27) [500,5100,6100,6200,6300,9001] (fun yy1=>[(6,vI (yy1.1:Int))]) (fun yy1=>[(500,some (.box 220 [.own 2800,.own 9001,.own 3600])),(9001,some (.arr 91 1 true (yy1.2.map aC)))]) (fun yy1=>yy1.1<=e25.values.length/\yy1.2=e25.values.take yy1.1) (fun yy1=>e25.values.length - yy1.1) (fun yy1=> .elem _ aD x.groups (fun e42=> .len e42.values.length<| .br (.elem _ aD x.groups (fun e55=> .elem _ aC e55.values (fun e59=> .app Int intD ([]:List Int) e59<| .appx (List Int) aC yy1.2 (([]:List Int)++e59)<| .back [(500,500),(9001,6300)]))) (.appx aR aD yy0.2 (⟨([]:List Int)++e25.columns,yy1.2,([]:List Int)++e33.counts⟩:aR)<| .back [(300,300),(9000,6900)])))))) (.fin [(0,9000)]))) (p:=Lx (x.groups.map aD)<| (∃(k:Nat) (out:List aR),0=(k:Int)/\x.name=x.name/\x.arity=x.arity/\x.rowCount=x.rowCount/\[]=out.map aD/\k<=x.groups.length/\out=x.groups.take k)/\ ∀(k:Nat) (out:List aR),(k<=x.groups.length/\out=x.groups.take k)->Lm aD x.groups/\Br ((k:Int)<(x.groups.length:Int)) (0<=(k:Int)/\Em aD x.groups k fun e25=>Ap intD ([]:List Int) e25.columns 8 (0<=(k:Int)/\Em aD x.groups k fun e33=>Ap intD ([]:List Int) e33.counts 8 ((∃(i:Nat) (v:List (List Int)),0=(i:Int)/\[]=v.map aC/\i<=e25.values.length/\v=e25.values.take i)/\ ∀(i:Nat) (v:List (List Int)),(i<=e25.values.length/\v=e25.values.take i)->0<=(k:Int)/\Em aD x.groups k fun e42=>Lm aC e42.values/\Br ((i:Int)<(e42.values.length:Int)) (0<=(k:Int)/\Em aD x.groups k fun e55=>0<=(i:Int)/\Em aC e55.values i fun e59=>Ap intD ([]:List Int) e59 8 (v.map aC=v.map aC/\(([]:List Int)++e59).map intD=(([]:List Int)++e59).map intD/\(v.length+1)*24<=140737488355328/\bJ ((i:Int)+1)/\ ∃(i' :Nat) (v' :List (List Int)),((i:Int)+1)=(i' :Int)/\(v++[([]:List Int)++e59]).map aC=v'.map aC/\(i' <=e25.values.length/\v' =e25.values.take i')/\e25.values.length - i' <e25.values.length - i)) (out.map aD=out.map aD/\(([]:List Int)++e25.columns).map intD=(⟨([]:List Int)++e25.columns,v,([]:List Int)++e33.counts⟩:aR).columns.map intD/\v.map aC=(⟨([]:List Int)++e25.columns,v,([]:List Int)++e33.counts⟩:aR).values.map aC/\(([]:List Int)++e33.counts).map intD=(⟨([]:List Int)++e25.columns,v,([]:List Int)++e33.counts⟩:aR).counts.map intD/\(out.length+1)*72<=140737488355328/\bJ ((k:Int)+1)/\ ∃(k' :Nat) (out' :List aR),((k:Int)+1)=(k' :Int)/\x.name=x.name/\x.arity=x.arity/\x.rowCount=x.rowCount/\(out++[(⟨([]:List Int)++e25.columns,v,([]:List Int)++e33.counts⟩:aR)]).map aD=out'.map aD/\(k' <=x.groups.length/\out' =x.groups.take k')/\x.groups.length - k' <x.groups.length - k)))) (x.name=x.name/\x.arity=x.arity/\x.rowCount=x.rowCount/\out.map aD=x.groups.map aD/\True)) (by kernel_rfl) ?_;refine lx fun n0=>?_;have q2:bH x=x.name.size+dN x.groups:=rfl;have q5:=gI x.groups;refine⟨⟨0,([]:List aR),rfl,rfl,rfl,rfl,rfl,aBn _,rfl⟩,fun k out ⟨hk,ho⟩=>?_⟩;refine⟨aAq _,dd (fun c0=>?_) fun c0=>?_⟩
 ·refine⟨by omega,rfl,by omega,fun e25 h25=>?_⟩
  try (obtain rfl:=(aX h25 h25).symm)
  have q1:=gY h25;have q3:bW e25=cE e25.columns+cR e25.values+cE e25.counts:=rfl;have q6:cE e25.columns=e25.columns.length:=rfl;have q7:cE e25.counts=e25.counts.length:=rfl;have q8:=fH e25.values;refine ap ?_ (fun _=>rfl) (by (simp;omega));refine⟨by omega,rfl,by omega,fun e33 h33=>?_⟩
  try (obtain rfl:=(aX h25 h33).symm)
  refine ap ?_ (fun _=>rfl) (by (simp;omega));refine⟨⟨0,([]:List (List Int)),rfl,rfl,aBn _,rfl⟩,fun i v ⟨hi,hv⟩=>?_⟩;refine⟨by omega,rfl,by omega,fun e42 h42=>?_⟩
  try (obtain rfl:=(aX h25 h42).symm)
  refine⟨aAq _,dd (fun c1=>?_) fun c1=>?_⟩
  ·refine⟨by omega,rfl,by omega,fun e55 h55=>?_⟩
   try (obtain rfl:=(aX h25 h55).symm)
   refine⟨by omega,rfl,by omega,fun e59 h59=>?_⟩;have hp3:=aAj h59;refine ap ?_ (fun _=>rfl) (by (simp;omega));refine⟨rfl,rfl,by (simp[hv];omega),⟨by omega,by omega⟩,?_⟩;exact⟨i+1,_,rfl,rfl,⟨by omega,by rw[hv,bR h59];rfl⟩,by omega⟩
  ·have hvv:v=e25.values:=by rw[hv,aIs (by omega)]
   refine⟨rfl,rfl,rfl,rfl,by (simp[ho];omega),⟨by omega,by omega⟩,?_⟩;exact⟨k+1,_,rfl,rfl,rfl,rfl,rfl,⟨by omega,by rw[ho,bR h25,hvv];rfl⟩,by omega⟩
 ·refine⟨rfl,rfl,rfl,?_,trivial⟩
  ·(rw[ho,aIs (by omega)])
end Go.Proofs.YtlidmoeecphbmaaGreat
