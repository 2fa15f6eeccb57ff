/-
  Contracts and plain laws, joined: part 12.
-/
import Derived.Test.YtlidmoeecphbmaaGreates8
import Derived.Test.YtlidmoeecphbmaaGreates9
import Derived.Test.YtlidmoeecphbmaaGreates7
import Derived.Test.YtlidmoeecphbmaaGreates6
namespace Go.Proofs.YtlidmoeecphbmaaGreat
open Go.ChangeShapes Go.WideShapes Go.ChangeAt Go.RowKit
set_option linter.unusedVariables false
set_option linter.unusedSimpArgs false
set_option maxRecDepth 100000
set_option maxHeartbeats 4000000
abbrev aAy (d:aX)(f:aR):AV × List (Nat × Rs):=(.own 0,[(0,.arr 3 1 true ((lN d f).map intD))])
abbrev aGB (d:aX)(f:aR):Prop:=Cn 232 [.agg [.sl 142 3 (d.tables.map aS)],.agg [.str f.name,.sl 3 1 (f.src.map intD),.int .i64 f.dst]] (aAy d f).1 (aAy d f).2
theorem aT8 (d:aX)(f:aR)(hc:bM d<=1048576):aGB d f:=by
 refine cq Tryz.func232 (.call (vB (jA d f)) []<| .br (.fin []) (.call (.tup [.agg [.p none (.str ((aO d f.name).1.name)),vI ((aO d f.name).1.arity),.p none (.sl 91 1 ((aO d f.name).1.rows.map aE))],vB ((aO d f.name).2)]) []<| .len ((aO d f.name).1.rows.length)<| .loop Nat (Q1 Nat) (rg 7 8++rg 29 45++[77,78]) [4800,5500] (fun k=>[(29,vI (k:Int))]) (fun k=>[]) (fun k=>k<=(aO d f.name).1.rows.length/\mO (aO d f.name).1.rows f.src f.dst k= []) (fun k=>(aO d f.name).1.rows.length - k) (fun k=> .br (.elem _ aE ((aO d f.name).1.rows) (fun e32=> .sub (List Int) aE ((aO d f.name).1.rows)<| .len (((aO d f.name).1.rows.take k).length)<| .loop Nat (Q1 Nat) ([9,10,11,12,13,14]++rg 39 35++[77]) [4800,5500] (fun i=>[(39,vI (i:Int))]) (fun i=>[]) (fun i=>i<=k/\lZ (aO d f.name).1.rows f.src f.dst k i= []) (fun i=>k - i) (fun i=> .br (.elem _ aE ((aO d f.name).1.rows.take k) (fun e42=>bJ (qH e42 f.src)<| bJ (qH e32 f.src)<| .call (vB (decide (((gB e42 f.src).1)=((gB e32 f.src).1)))) []<| .br (.elem _ intD e42 (fun e65=> .elem _ intD e32 (fun e70=> .lit<| .lit<| .lit<| .br (.fin [(0,7600)]) (.back [])))) (.back []))) (.back [])))) (.fin [])))) (p:=Lx (d.tables.map aS)<| Lx (f.src.map intD)<| yH d f/\Nr (jA d f) ([]=(lN d f).map intD/\True) (rM Tryz.prog 86 [.agg [.sl 142 3 (d.tables.map aS)],.one (.str f.name)] (.tup [.agg [.p none (.str ((aO d f.name).1.name)),vI ((aO d f.name).1.arity),.p none (.sl 91 1 ((aO d f.name).1.rows.map aE))],vB ((aO d f.name).2)]) []/\(Lm aE ((aO d f.name).1.rows)/\((∃(k:Nat),0=(k:Int)/\k<=(aO d f.name).1.rows.length/\mO (aO d f.name).1.rows f.src f.dst k= [])/\ ∀(k:Nat),(k<=(aO d f.name).1.rows.length/\mO (aO d f.name).1.rows f.src f.dst k= [])->Br ((k:Int)<(((aO d f.name).1.rows.length:Nat):Int)) (0<=(k:Int)/\Em aE ((aO d f.name).1.rows) k fun e32=>(aO d f.name).1.rows.map aE=(aO d f.name).1.rows.map aE/\0<=(k:Int)/\(k:Int)<=(((aO d f.name).1.rows.length:Nat):Int)/\(Lm aE ((aO d f.name).1.rows.take k)/\((∃(i:Nat),0=(i:Int)/\i<=k/\lZ (aO d f.name).1.rows f.src f.dst k i= [])/\ ∀(i:Nat),(i<=k/\lZ (aO d f.name).1.rows f.src f.dst k i= [])->Br ((i:Int)<((((aO d f.name).1.rows.take k).length:Nat):Int)) (0<=(i:Int)/\Em aE ((aO d f.name).1.rows.take k) i fun e42=>tU e42 f.src/\tU e32 f.src/\sY ((gB e42 f.src).1) ((gB e32 f.src).1)/\Br (((gB e42 f.src).1)=((gB e32 f.src).1)) (0<=f.dst/\Em intD e42 ((f.dst).toNat) fun e65=>0<=f.dst/\Em intD e32 ((f.dst).toNat) fun e70=>Nb (e65=e70) ([[.int .i64 (i:Int)],[.int .i64 (k:Int)]]=(lN d f).map intD/\True) (bK ((i:Int)+1)/\ ∃(i' :Nat),((i:Int)+1)=(i' :Int)/\(i' <=k/\lZ (aO d f.name).1.rows f.src f.dst k i' = [])/\k - i' <k - i)) (bK ((i:Int)+1)/\ ∃(i' :Nat),((i:Int)+1)=(i' :Int)/\(i' <=k/\lZ (aO d f.name).1.rows f.src f.dst k i' = [])/\k - i' <k - i)) (bK ((k:Int)+1)/\ ∃(k' :Nat),((k:Int)+1)=(k' :Int)/\(k' <=(aO d f.name).1.rows.length/\mO (aO d f.name).1.rows f.src f.dst k' = [])/\(aO d f.name).1.rows.length - k' <(aO d f.name).1.rows.length - k)))) ([]=(lN d f).map intD/\True))))) (by kernel_rfl) ?_;refine lx fun n0=>lx fun n1=>?_;refine⟨aIb _ _ (by omega),dm (fun c0=>?_) fun c0=>?_⟩
 ·have hbad:lN d f= []:=by rw[lN,if_neg (by simpa using c0)]
  apply et1
  ·(rw[hbad]<;>rfl)
 ·have hok:jA d f=true:=by simpa using c0
  obtain⟨hT,hd0,hd1,hsl⟩:=aFq hok;have hT8:=cH hT;have hV:lN d f=mO (aO d f.name).1.rows f.src f.dst (aO d f.name).1.rows.length:=by rw[lN,if_pos hok]
  refine⟨kX (tZ _ f.name (by omega)) rfl,aAH _,⟨0,rfl,aDB _,rfl⟩,fun k ⟨hk,hv⟩=>?_⟩;refine dd (fun c1=>?_) fun c1=>?_
  ·refine⟨by omega,rfl,by omega,fun e32 h32=>?_⟩;have hl32:=rC hT (aDd h32);refine⟨rfl,by omega,by omega,aAH _,⟨0,rfl,aDB _,rfl⟩,fun i ⟨hi,hw⟩=>?_⟩;have htl:((aO d f.name).1.rows.take k).length=k:=by rw[aXg];omega
   refine dd (fun c2=>?_) fun c2=>?_
   ·refine⟨by omega,rfl,by omega,fun e42 h42=>?_⟩;have hx:(aO d f.name).1.rows[i]? =some e42:=by rw[List.getElem?_take_of_lt (by omega)] at h42;exact h42
    have hl42:=rC hT (aDd hx);have hb:=aSG (cols:=f.src) (c:=f.dst) hx h32;refine⟨aEE _ _ (by omega),aEE _ _ (by omega),aDy _ _,dd (fun g61=>?_) fun g61=>?_⟩
    ·refine⟨by omega,rfl,by omega,fun e65 h65=>?_⟩;refine⟨by omega,rfl,by omega,fun e70 h70=>?_⟩;refine dn (fun c3=>?_) fun c3=>?_
     ·have hB:aQg (aO d f.name).1.rows f.src f.dst i k=true:=by rw[hb,bO h65,bO h70];simp[*]
      have hE:=aI9 hv hw hB (by omega) (by omega:k<(aO d f.name).1.rows.length);apply et1
      ·(rw[hV,hE]<;>rfl)
     ·refine⟨⟨by omega,by omega⟩,?_⟩;exact⟨i+1,rfl,⟨by omega,aER hw (by rw[hb];(rw[bO h65,bO h70];simp[*];done))⟩,by omega⟩
    ·refine⟨⟨by omega,by omega⟩,?_⟩;exact⟨i+1,rfl,⟨by omega,aER hw (by rw[hb];(simp[g61];done))⟩,by omega⟩
   ·refine⟨⟨by omega,by omega⟩,?_⟩;exact⟨k+1,rfl,⟨by omega,aIa hv (by obtain rfl:i=k:=(by omega);exact hw)⟩,by omega⟩
  ·have hE:lN d f= []:=by rw[hV,show (aO d f.name).1.rows.length=k by omega,hv]
   apply et1
   ·(rw[hE]<;>rfl)
abbrev aAz (d:aX)(f:aR):AV × List (Nat × Rs):=(.own 0,[(0,.arr 3 1 true ((lN d f).map intD))])
abbrev aGC (d:aX)(f:aR):Prop:=Cn 223 [.agg [.sl 142 3 (d.tables.map aS)],.agg [.str f.name,.sl 3 1 (f.src.map intD),.int .i64 f.dst]] (aAz d f).1 (aAz d f).2
theorem aT9 (d:aX)(f:aR)(hc:bM d<=1048576):aGC d f:=by
 refine cq Tryz.func223 (.call (.tup [.agg [.p none (.str ((aO d f.name).1.name)),vI ((aO d f.name).1.arity),.p none (.sl 91 1 ((aO d f.name).1.rows.map aE))],vB ((aO d f.name).2)]) []<| .loop Nat (Q1 Nat) ([7,8,9,10,11,12]++rg 20 64) [4000,5600] (fun k=>[(7,vI (k:Int))]) (fun k=>[]) (fun k=>k<=(aO d f.name).1.rows.length/\mO (aO d f.name).1.rows f.src f.dst k= []) (fun k=>(aO d f.name).1.rows.length - k) (fun k=> .len ((aO d f.name).1.rows.length)<| .br (.call (vB (jA d f)) []<| .lit<| .br (.elem _ aE ((aO d f.name).1.rows) (fun e36=>bJ (qI e36 f.src)<| .loop Nat (Q1 Nat) ([10,11,12]++rg 43 41) [5600] (fun i=>[(10,vI (i:Int))]) (fun i=>[]) (fun i=>i<=k/\lZ (aO d f.name).1.rows f.src f.dst k i= []) (fun i=>k - i) (fun i=> .br (.elem _ aE ((aO d f.name).1.rows) (fun e52=>bJ (qI e52 f.src)<| .call (vI (cI ((gB e52 f.src).1) ((gB e36 f.src).1))) []<| .br (.elem _ aE ((aO d f.name).1.rows) (fun e67=> .elem _ intD e67 (fun e71=> .elem _ aE ((aO d f.name).1.rows) (fun e76=> .elem _ intD e76 (fun e80=> .lit<| .lit<| .lit<| .br (.fin [(0,8600)]) (.back [])))))) (.back []))) (.back [])))) (.fin [(0,8700)])) (.fin [(0,8700)]))) (p:=Lx (d.tables.map aS)<| Lx (f.src.map intD)<| rM Tryz.prog 126 [.agg [.sl 142 3 (d.tables.map aS)],.one (.str f.name)] (.tup [.agg [.p none (.str ((aO d f.name).1.name)),vI ((aO d f.name).1.arity),.p none (.sl 91 1 ((aO d f.name).1.rows.map aE))],vB ((aO d f.name).2)]) []/\((∃(k:Nat),0=(k:Int)/\k<=(aO d f.name).1.rows.length/\mO (aO d f.name).1.rows f.src f.dst k= [])/\ ∀(k:Nat),(k<=(aO d f.name).1.rows.length/\mO (aO d f.name).1.rows f.src f.dst k= [])->Lm aE ((aO d f.name).1.rows)/\Br ((k:Int)<(((aO d f.name).1.rows.length:Nat):Int)) (yI d f/\Bb (jA d f) (0<=(k:Int)/\Em aE ((aO d f.name).1.rows) k fun e36=>tV e36 f.src/\((∃(i:Nat),0=(i:Int)/\i<=k/\lZ (aO d f.name).1.rows f.src f.dst k i= [])/\ ∀(i:Nat),(i<=k/\lZ (aO d f.name).1.rows f.src f.dst k i= [])->Br ((i:Int)<(k:Int)) (0<=(i:Int)/\Em aE ((aO d f.name).1.rows) i fun e52=>tV e52 f.src/\gI ((gB e52 f.src).1) ((gB e36 f.src).1)/\Br ((cI ((gB e52 f.src).1) ((gB e36 f.src).1))=0) (0<=(i:Int)/\Em aE ((aO d f.name).1.rows) i fun e67=>0<=f.dst/\Em intD e67 ((f.dst).toNat) fun e71=>0<=(k:Int)/\Em aE ((aO d f.name).1.rows) k fun e76=>0<=f.dst/\Em intD e76 ((f.dst).toNat) fun e80=>Nb (e71=e80) ([[.int .i64 (i:Int)],[.int .i64 (k:Int)]]=(lN d f).map intD/\True) (bK ((i:Int)+1)/\ ∃(i' :Nat),((i:Int)+1)=(i' :Int)/\(i' <=k/\lZ (aO d f.name).1.rows f.src f.dst k i' = [])/\k - i' <k - i)) (bK ((i:Int)+1)/\ ∃(i' :Nat),((i:Int)+1)=(i' :Int)/\(i' <=k/\lZ (aO d f.name).1.rows f.src f.dst k i' = [])/\k - i' <k - i)) (bK ((k:Int)+1)/\ ∃(k' :Nat),((k:Int)+1)=(k' :Int)/\(k' <=(aO d f.name).1.rows.length/\mO (aO d f.name).1.rows f.src f.dst k' = [])/\(aO d f.name).1.rows.length - k' <(aO d f.name).1.rows.length - k))) ([]=(lN d f).map intD/\True)) ([]=(lN d f).map intD/\True))) (by kernel_rfl) ?_;refine lx fun n0=>lx fun n1=>?_;refine⟨kX (uA _ f.name (by omega)) rfl,⟨0,rfl,aDB _,rfl⟩,fun k ⟨hk,hv⟩=>?_⟩;refine⟨aAH _,dd (fun g25=>?_) fun g25=>?_⟩
 ·refine⟨aIc _ _ (by omega),db (fun c0=>?_) fun c0=>?_⟩
  ·have hok:jA d f=true:=c0;obtain⟨hT,hd0,hd1,hsl⟩:=aFq hok;have hT8:=cH hT;have hV:lN d f=mO (aO d f.name).1.rows f.src f.dst (aO d f.name).1.rows.length:=by rw[lN,if_pos hok]
   refine⟨by omega,rfl,by omega,fun e36 h36=>?_⟩;have hl36:=rC hT (aDd h36);refine⟨aEF _ _ (by omega),⟨0,rfl,aDB _,rfl⟩,fun i ⟨hi,hw⟩=>?_⟩;refine dd (fun c1=>?_) fun c1=>?_
   ·refine⟨by omega,rfl,by omega,fun e52 h52=>?_⟩;have hl52:=rC hT (aDd h52);have hb:=aSG (cols:=f.src) (c:=f.dst) h52 h36;refine⟨aEF _ _ (by omega),kG _ _,dd (fun g63=>?_) fun g63=>?_⟩
    ·refine⟨by omega,rfl,by omega,fun e67 h67=>?_⟩;obtain rfl:=(aY h52 h67).symm;refine⟨by omega,rfl,by omega,fun e71 h71=>?_⟩;refine⟨by omega,rfl,by omega,fun e76 h76=>?_⟩;obtain rfl:=(aY h36 h76).symm;refine⟨by omega,rfl,by omega,fun e80 h80=>?_⟩;refine dn (fun c2=>?_) fun c2=>?_
     ·have hB:aQg (aO d f.name).1.rows f.src f.dst i k=true:=by rw[hb,bO h71,bO h80,fG.1 g63];simp[c2]
      have hE:=aI9 hv hw hB (by omega) (by omega:k<(aO d f.name).1.rows.length);apply et1
      ·(rw[hV,hE]<;>rfl)
     ·refine⟨⟨by omega,by omega⟩,?_⟩;exact⟨i+1,rfl,⟨by omega,aER hw (by rw[hb];(rw[bO h71,bO h80];simp[c2];done))⟩,by omega⟩
    ·refine⟨⟨by omega,by omega⟩,?_⟩;exact⟨i+1,rfl,⟨by omega,aER hw (by rw[hb];(simp[show ¬(gB e52 f.src).1=(gB e36 f.src).1 from fun q=>g63 (fG.2 q)];done))⟩,by omega⟩
   ·refine⟨⟨by omega,by omega⟩,?_⟩;exact⟨k+1,rfl,⟨by omega,aIa hv (by obtain rfl:i=k:=(by omega);exact hw)⟩,by omega⟩
  ·have hE:lN d f= []:=by (rw[lN,if_neg (by rw[c0];decide)];done)
   apply et1
   ·(rw[hE]<;>rfl)
 ·have hE:lN d f= []:=by (rw[lN];split<;>first|(rw[show (aO d f.name).1.rows.length=k by omega,hv];done)|rfl)
  apply et1
  ·(rw[hE]<;>rfl)
abbrev aET (d:aX)(f:aR):Prop:=Cn 189 [.agg [.sl 142 3 (d.tables.map aS)],.agg [.str f.name,.sl 3 1 (f.src.map intD),.int .i64 f.dst]] (vB (mA d f)) []
theorem aQn (d:aX)(f:aR)(hc:bM d<=1048576):aET d f:=by
 refine cq Tryz.func189 (.call (vB (jA d f)) []<| .br (bJ (aAy d f)<| .len ((lN d f).length)<| .fin []) (.fin [])) (p:=Lx (d.tables.map aS)<| Lx (f.src.map intD)<| yH d f/\Bb (jA d f) (aGB d f/\Lm intD (lN d f)/\(decide ((((lN d f).length:Nat):Int)=0))=(mA d f)/\True) ((false)=(mA d f)/\True)) (by kernel_rfl) ?_;refine lx fun n0=>lx fun n1=>?_;refine⟨aIb _ _ (by omega),db (fun g8=>?_) fun g8=>?_⟩
 ·refine⟨aT8 _ _ (by omega),aAH _,?_,trivial⟩
  ·(simp[mA, *];done)
 ·apply et1
  ·(simp[mA, *];done)
abbrev aEU (d:aX)(f:aR):Prop:=Cn 180 [.agg [.sl 142 3 (d.tables.map aS)],.agg [.str f.name,.sl 3 1 (f.src.map intD),.int .i64 f.dst]] (vB (mA d f)) []
theorem aQo (d:aX)(f:aR)(hc:bM d<=1048576):aEU d f:=by
 refine cq Tryz.func180 (.call (vB (jA d f)) []<| .br (bJ (aAz d f)<| .len ((lN d f).length)<| .fin []) (.fin [])) (p:=Lx (d.tables.map aS)<| Lx (f.src.map intD)<| yI d f/\Bb (jA d f) (aGC d f/\Lm intD (lN d f)/\(decide ((((lN d f).length:Nat):Int)=0))=(mA d f)/\True) ((false)=(mA d f)/\True)) (by kernel_rfl) ?_;refine lx fun n0=>lx fun n1=>?_;refine⟨aIc _ _ (by omega),db (fun g8=>?_) fun g8=>?_⟩
 ·refine⟨aT9 _ _ (by omega),aAH _,?_,trivial⟩
  ·(simp[mA, *];done)
 ·apply et1
  ·(simp[mA, *];done)
abbrev aBA (d:aX)(x:aP):AV × List (Nat × Rs):=(.own 0,[(0,.arr 3 1 true ((zM d x).map intD))])
abbrev aGD (d:aX)(x:aP):Prop:=Cn 234 [.agg [.sl 142 3 (d.tables.map aS)],.agg [.str x.name,.int .i64 x.column,.str x.into,.int .i64 x.intoColumn]] (aBA d x).1 (aBA d x).2
theorem aTa (d:aX)(x:aP)(hc:bM d<=1048576):aGD d x:=by
 refine cq Tryz.func234 (.call (vB (iC d x)) []<| .br (.fin []) (.call (.tup [.agg [.p none (.str ((aO d x.name).1.name)),vI ((aO d x.name).1.arity),.p none (.sl 91 1 ((aO d x.name).1.rows.map aE))],vB ((aO d x.name).2)]) []<| .call (.tup [.agg [.p none (.str ((aO d x.into).1.name)),vI ((aO d x.into).1.arity),.p none (.sl 91 1 ((aO d x.into).1.rows.map aE))],vB ((aO d x.into).2)]) []<| .len ((aO d x.into).1.rows.length)<| .loop (Nat × (List Int)) (Q2 Nat (List Int)) ([9,11,34]++rg 38 13) [3400,4800,4900] (fun yy0=>[(38,vI (yy0.1:Int)),(9,.own 3400)]) (fun yy0=>[(3400,some (.arr 3 1 true (yy0.2.map intD)))]) (fun yy0=>yy0.1<=(aO d x.into).1.rows.length/\yy0.2=jB ((aO d x.into).1.rows.take yy0.1) x.intoColumn) (fun yy0=>(aO d x.into).1.rows.length - yy0.1) (fun yy0=> .br (.elem _ aE ((aO d x.into).1.rows) (fun e40=> .elem _ intD e40 (fun e46=> .app Int intD yy0.2 ([e46]:List Int)<| .back [(3400,4900)]))) (.len ((aO d x.name).1.rows.length)<| .loop (Nat × (List Int)) (Q2 Nat (List Int)) ([12,14,15,51]++rg 55 18) [5100,7000,7100] (fun yy1=>[(55,vI (yy1.1:Int)),(12,.own 5100)]) (fun yy1=>[(5100,some (.arr 3 1 true (yy1.2.map intD)))]) (fun yy1=>yy1.1<=(aO d x.name).1.rows.length/\yy1.2=(jB ((aO d x.name).1.rows.take yy1.1) x.column).filter fun v=> !decide (v∈yy0.2)) (fun yy1=>(aO d x.name).1.rows.length - yy1.1) (fun yy1=> .br (.elem _ aE ((aO d x.name).1.rows) (fun e57=> .elem _ intD e57 (fun e62=> .call (vB (decide (e62∈yy0.2))) []<| .br (.app Int intD yy1.2 ([e62]:List Int)<| .back [(5100,7100)]) (.back [(5100,5100)])))) (.callx [.own 0] [(0,.arr 3 1 true (yy1.2.map intD))] [(0,5100)] (.tup []) [(0,.arr 3 1 true ((kV yy1.2).map intD))]<| .callx [.own 0] [(0,.arr 3 1 true ((kV yy1.2).map intD))] [(0,5100)] (.own 1) [(1,.arr 3 1 true ((vL (kV yy1.2)).map intD))]<| .fin [(0,7601)])))))) (p:=Lx (d.tables.map aS)<| yK d x/\Nr (iC d x) ([]=(zM d x).map intD/\True) (rM Tryz.prog 86 [.agg [.sl 142 3 (d.tables.map aS)],.one (.str x.name)] (.tup [.agg [.p none (.str ((aO d x.name).1.name)),vI ((aO d x.name).1.arity),.p none (.sl 91 1 ((aO d x.name).1.rows.map aE))],vB ((aO d x.name).2)]) []/\(rM Tryz.prog 86 [.agg [.sl 142 3 (d.tables.map aS)],.one (.str x.into)] (.tup [.agg [.p none (.str ((aO d x.into).1.name)),vI ((aO d x.into).1.arity),.p none (.sl 91 1 ((aO d x.into).1.rows.map aE))],vB ((aO d x.into).2)]) []/\(Lm aE ((aO d x.into).1.rows)/\((∃(k:Nat) (there:List Int),0=(k:Int)/\[]=there.map intD/\k<=(aO d x.into).1.rows.length/\there=jB ((aO d x.into).1.rows.take k) x.intoColumn)/\ ∀(k:Nat) (there:List Int),(k<=(aO d x.into).1.rows.length/\there=jB ((aO d x.into).1.rows.take k) x.intoColumn)->Br ((k:Int)<(((aO d x.into).1.rows.length:Nat):Int)) (0<=(k:Int)/\Em aE ((aO d x.into).1.rows) k fun e40=>0<=x.intoColumn/\Em intD e40 ((x.intoColumn).toNat) fun e46=>Ap intD there ([e46]:List Int) 8 (bK ((k:Int)+1)/\ ∃(k' :Nat) (there' :List Int),((k:Int)+1)=(k' :Int)/\(there++[e46]).map intD=there'.map intD/\(k' <=(aO d x.into).1.rows.length/\there' =jB ((aO d x.into).1.rows.take k') x.intoColumn)/\(aO d x.into).1.rows.length - k' <(aO d x.into).1.rows.length - k)) (Lm aE ((aO d x.name).1.rows)/\((∃(j:Nat) (out:List Int),0=(j:Int)/\[]=out.map intD/\j<=(aO d x.name).1.rows.length/\out=(jB ((aO d x.name).1.rows.take j) x.column).filter fun v=> !decide (v∈there))/\ ∀(j:Nat) (out:List Int),(j<=(aO d x.name).1.rows.length/\out=(jB ((aO d x.name).1.rows.take j) x.column).filter fun v=> !decide (v∈there))->Br ((j:Int)<(((aO d x.name).1.rows.length:Nat):Int)) (0<=(j:Int)/\Em aE ((aO d x.name).1.rows) j fun e57=>0<=x.column/\Em intD e57 ((x.column).toNat) fun e62=>aOx there e62/\Nr (decide (e62∈there)) (Ap intD out ([e62]:List Int) 8 (bK ((j:Int)+1)/\ ∃(j' :Nat) (out' :List Int),((j:Int)+1)=(j' :Int)/\(out++[e62]).map intD=out'.map intD/\(j' <=(aO d x.name).1.rows.length/\out' =(jB ((aO d x.name).1.rows.take j') x.column).filter fun v=> !decide (v∈there))/\(aO d x.name).1.rows.length - j' <(aO d x.name).1.rows.length - j)) (bK ((j:Int)+1)/\ ∃(j' :Nat) (out' :List Int),((j:Int)+1)=(j' :Int)/\out.map intD=out'.map intD/\(j' <=(aO d x.name).1.rows.length/\out' =(jB ((aO d x.name).1.rows.take j') x.column).filter fun v=> !decide (v∈there))/\(aO d x.name).1.rows.length - j' <(aO d x.name).1.rows.length - j)) (vX Tryz.prog 250 [.own 0] [(0,.arr 3 1 true (out.map intD))] (.tup []) [(0,.arr 3 1 true ((kV out).map intD))]/\out.map intD=out.map intD/\vX Tryz.prog 251 [.own 0] [(0,.arr 3 1 true ((kV out).map intD))] (.own 1) [(1,.arr 3 1 true ((vL (kV out)).map intD))]/\(kV out).map intD=(kV out).map intD/\(vL (kV out)).map intD=(zM d x).map intD/\True)))))))) (by kernel_rfl) ?_;refine lx fun n0=>?_;refine⟨aIe _ _ (by omega),dm (fun c0=>?_) fun c0=>?_⟩
 ·have hbad:zM d x= []:=by rw[zM,if_neg (by simpa using c0)]
  apply et1
  ·(rw[hbad]<;>rfl)
 ·have hok:iC d x=true:=by simpa using c0
  obtain⟨hTa,hTb,hca,hcb⟩:=aAr hok;have hA8:=cH hTa;have hB8:=cH hTb;refine⟨kX (tZ _ x.name (by omega)) rfl,kX (tZ _ x.into (by omega)) rfl,aAH _,⟨0,([]:List Int),rfl,rfl,aDB _,rfl⟩,fun k there ⟨hk,hth⟩=>?_⟩;have htl:there.length=k:=by rw[hth,jB,aAH,aXg];omega
  refine dd (fun c1=>?_) fun c1=>?_
  ·refine⟨by omega,rfl,by omega,fun e40 h40=>?_⟩;have hl40:=rC hTb (aDd h40);refine⟨by omega,rfl,by omega,fun e46 h46=>?_⟩;refine ap ?_ (fun _=>rfl) (by (simp;omega));refine⟨⟨by omega,by omega⟩,?_⟩;exact⟨k+1,_,rfl,rfl,⟨by omega,by rw[oD _ _ h40,<-hth,bO h46]⟩,by omega⟩
  ·have hTH:there=jB (aO d x.into).1.rows x.intoColumn:=by rw[hth,aGT (by omega)]
   refine⟨aAH _,⟨0,([]:List Int),rfl,rfl,aDB _,rfl⟩,fun j out ⟨hj,ho⟩=>?_⟩;have hol:out.length<=j:=by rw[ho];refine Nat.le_trans (List.length_filter_le _ _) ?_;simp[jB];omega
   refine dd (fun c2=>?_) fun c2=>?_
   ·refine⟨by omega,rfl,by omega,fun e57 h57=>?_⟩;have hl57:=rC hTa (aDd h57);refine⟨by omega,rfl,by omega,fun e62 h62=>?_⟩;refine⟨ctI _ _,dm (fun c3=>?_) fun c3=>?_⟩
    ·refine ap ?_ (fun _=>rfl) (by (simp[hth];omega));refine⟨⟨by omega,by omega⟩,?_⟩;exact⟨j+1,_,rfl,rfl,⟨by omega,by rw[oD _ _ h57,List.filter_append,<-ho,bO h62,List.filter_cons_of_pos (by simpa using c3)];rfl⟩,by omega⟩
    ·refine⟨⟨by omega,by omega⟩,?_⟩;exact⟨j+1,_,rfl,rfl,⟨by omega,by rw[oD _ _ h57,List.filter_append,<-ho,bO h62,List.filter_cons_of_neg (by simpa using c3)];simp⟩,by omega⟩
   ·have hE:zM d x=vL (kV out):=by rw[zM,if_pos hok,aFr,ho,hTH,aGT (by omega)]
    refine⟨aLq out (by omega),rfl,aTM (kV out) (by (rw[wW];omega)),rfl,?_,trivial⟩
    ·(rw[hE]<;>rfl)
abbrev aEV (d:aX)(x:aP):Prop:=Cn 190 [.agg [.sl 142 3 (d.tables.map aS)],.agg [.str x.name,.int .i64 x.column,.str x.into,.int .i64 x.intoColumn]] (vB (mB d x)) []
theorem aQp (d:aX)(x:aP)(hc:bM d<=1048576):aEV d x:=by
 refine cq Tryz.func190 (.call (vB (iC d x)) []<| .br (bJ (aBA d x)<| .len ((zM d x).length)<| .fin []) (.fin [])) (p:=Lx (d.tables.map aS)<| yK d x/\Bb (iC d x) (aGD d x/\Lm intD (zM d x)/\(decide ((((zM d x).length:Nat):Int)=0))=(mB d x)/\True) ((false)=(mB d x)/\True)) (by kernel_rfl) ?_;refine lx fun n0=>?_;refine⟨aIe _ _ (by omega),db (fun g8=>?_) fun g8=>?_⟩
 ·refine⟨aTa _ _ (by omega),aAH _,?_,trivial⟩
  ·(rw[mB,g8,aOy,aTQ g8];rfl)
 ·apply et1
  ·(simp[mB, *];done)
abbrev aBB (d:aX)(x:aP):AV × List (Nat × Rs):=(.own 0,[(0,.arr 3 1 true ((zN d x).map intD))])
abbrev aGE (d:aX)(x:aP):Prop:=Cn 225 [.agg [.sl 142 3 (d.tables.map aS)],.agg [.str x.name,.int .i64 x.column,.str x.into,.int .i64 x.intoColumn]] (aBB d x).1 (aBB d x).2
theorem aTb (d:aX)(x:aP)(hc:bM d<=1048576):aGE d x:=by
 refine cq Tryz.func225 (.call (vB (iC d x)) []<| .br (.fin [(0,1500)]) (.call (.tup [.agg [.p none (.str ((aO d x.name).1.name)),vI ((aO d x.name).1.arity),.p none (.sl 91 1 ((aO d x.name).1.rows.map aE))],vB ((aO d x.name).2)]) []<| .call (.tup [.agg [.p none (.str ((aO d x.into).1.name)),vI ((aO d x.into).1.arity),.p none (.sl 91 1 ((aO d x.into).1.rows.map aE))],vB ((aO d x.into).2)]) []<| .loop (Nat × (List Int)) (Q2 Nat (List Int)) ([5,10,11,12,13,14,15]++rg 35 55) [1500,8800,8900] (fun yy0=>[(10,vI (yy0.1:Int)),(5,.own 1500)]) (fun yy0=>[(1500,some (.arr 3 1 true (yy0.2.map intD)))]) (fun yy0=>yy0.1<=10/\yy0.2=pV d x yy0.1) (fun yy0=>10 - yy0.1) (fun yy0=> .br (.loop (Nat × Bool) (Q2 Nat Bool) ([11,13]++rg 39 21) [] (fun yy1=>[(13,vI (yy1.1:Int)),(11,vB yy1.2)]) (fun yy1=>[]) (fun yy1=>yy1.1<=(aO d x.name).1.rows.length/\yy1.2=decide ((yy0.1:Int)∈jB ((aO d x.name).1.rows.take yy1.1) x.column)) (fun yy1=>(aO d x.name).1.rows.length - yy1.1) (fun yy1=> .len ((aO d x.name).1.rows.length)<| .br (.br (.back []) (.elem _ aE ((aO d x.name).1.rows) (fun e51=> .elem _ intD e51 (fun e55=> .back [])))) (.loop (Nat × Bool) (Q2 Nat Bool) ([12,14]++rg 60 21) [] (fun yy2=>[(14,vI (yy2.1:Int)),(12,vB yy2.2)]) (fun yy2=>[]) (fun yy2=>yy2.1<=(aO d x.into).1.rows.length/\yy2.2=decide ((yy0.1:Int)∈jB ((aO d x.into).1.rows.take yy2.1) x.intoColumn)) (fun yy2=>(aO d x.into).1.rows.length - yy2.1) (fun yy2=> .len ((aO d x.into).1.rows.length)<| .br (.br (.back []) (.elem _ aE ((aO d x.into).1.rows) (fun e72=> .elem _ intD e72 (fun e76=> .back [])))) (.br (.lit<| .lit<| .br (.app Int intD yy0.2 ([(yy0.1:Int)]:List Int)<| .back [(1500,8900)]) (.back [(1500,1500)])) (.back [(1500,1500)])))))) (.fin [(0,1500)])))) (p:=Lx (d.tables.map aS)<| yL d x/\Nr (iC d x) ([]=(zN d x).map intD/\True) (rM Tryz.prog 126 [.agg [.sl 142 3 (d.tables.map aS)],.one (.str x.name)] (.tup [.agg [.p none (.str ((aO d x.name).1.name)),vI ((aO d x.name).1.arity),.p none (.sl 91 1 ((aO d x.name).1.rows.map aE))],vB ((aO d x.name).2)]) []/\(rM Tryz.prog 126 [.agg [.sl 142 3 (d.tables.map aS)],.one (.str x.into)] (.tup [.agg [.p none (.str ((aO d x.into).1.name)),vI ((aO d x.into).1.arity),.p none (.sl 91 1 ((aO d x.into).1.rows.map aE))],vB ((aO d x.into).2)]) []/\((∃(v:Nat) (out:List Int),0=(v:Int)/\[]=out.map intD/\v<=10/\out=pV d x v)/\ ∀(v:Nat) (out:List Int),(v<=10/\out=pV d x v)->Br ((v:Int)<=9) ((∃(k:Nat) (p:Bool),0=(k:Int)/\(false)=p/\k<=(aO d x.name).1.rows.length/\p=decide ((v:Int)∈jB ((aO d x.name).1.rows.take k) x.column))/\ ∀(k:Nat) (p:Bool),(k<=(aO d x.name).1.rows.length/\p=decide ((v:Int)∈jB ((aO d x.name).1.rows.take k) x.column))->Lm aE ((aO d x.name).1.rows)/\Br ((k:Int)<(((aO d x.name).1.rows.length:Nat):Int)) (Bb (p) (bK ((k:Int)+1)/\ ∃(k' :Nat) (p' :Bool),((k:Int)+1)=(k' :Int)/\(true)=p' /\(k' <=(aO d x.name).1.rows.length/\p' =decide ((v:Int)∈jB ((aO d x.name).1.rows.take k') x.column))/\(aO d x.name).1.rows.length - k' <(aO d x.name).1.rows.length - k) (0<=(k:Int)/\Em aE ((aO d x.name).1.rows) k fun e51=>0<=x.column/\Em intD e51 ((x.column).toNat) fun e55=>bK ((k:Int)+1)/\ ∃(k' :Nat) (p' :Bool),((k:Int)+1)=(k' :Int)/\(decide (e55=(v:Int)))=p' /\(k' <=(aO d x.name).1.rows.length/\p' =decide ((v:Int)∈jB ((aO d x.name).1.rows.take k') x.column))/\(aO d x.name).1.rows.length - k' <(aO d x.name).1.rows.length - k)) ((∃(j:Nat) (q:Bool),0=(j:Int)/\(false)=q/\j<=(aO d x.into).1.rows.length/\q=decide ((v:Int)∈jB ((aO d x.into).1.rows.take j) x.intoColumn))/\ ∀(j:Nat) (q:Bool),(j<=(aO d x.into).1.rows.length/\q=decide ((v:Int)∈jB ((aO d x.into).1.rows.take j) x.intoColumn))->Lm aE ((aO d x.into).1.rows)/\Br ((j:Int)<(((aO d x.into).1.rows.length:Nat):Int)) (Bb (q) (bK ((j:Int)+1)/\ ∃(j' :Nat) (q' :Bool),((j:Int)+1)=(j' :Int)/\(true)=q' /\(j' <=(aO d x.into).1.rows.length/\q' =decide ((v:Int)∈jB ((aO d x.into).1.rows.take j') x.intoColumn))/\(aO d x.into).1.rows.length - j' <(aO d x.into).1.rows.length - j) (0<=(j:Int)/\Em aE ((aO d x.into).1.rows) j fun e72=>0<=x.intoColumn/\Em intD e72 ((x.intoColumn).toNat) fun e76=>bK ((j:Int)+1)/\ ∃(j' :Nat) (q' :Bool),((j:Int)+1)=(j' :Int)/\(decide (e76=(v:Int)))=q' /\(j' <=(aO d x.into).1.rows.length/\q' =decide ((v:Int)∈jB ((aO d x.into).1.rows.take j') x.intoColumn))/\(aO d x.into).1.rows.length - j' <(aO d x.into).1.rows.length - j)) (Bb (p) (Nr (q) (Ap intD out ([(v:Int)]:List Int) 8 (bK ((v:Int)+1)/\ ∃(v' :Nat) (out' :List Int),((v:Int)+1)=(v' :Int)/\(out++[(v:Int)]).map intD=out'.map intD/\(v' <=10/\out' =pV d x v')/\10 - v' <10 - v)) (bK ((v:Int)+1)/\ ∃(v' :Nat) (out' :List Int),((v:Int)+1)=(v' :Int)/\out.map intD=out'.map intD/\(v' <=10/\out' =pV d x v')/\10 - v' <10 - v)) (bK ((v:Int)+1)/\ ∃(v' :Nat) (out' :List Int),((v:Int)+1)=(v' :Int)/\out.map intD=out'.map intD/\(v' <=10/\out' =pV d x v')/\10 - v' <10 - v)))) (out.map intD=(zN d x).map intD/\True))))) (by kernel_rfl) ?_;refine lx fun n0=>?_;refine⟨aIf _ _ (by omega),dm (fun c0=>?_) fun c0=>?_⟩
 ·have hbad:zN d x= []:=by rw[zN,if_neg (by simpa using c0)]
  apply et1
  ·(rw[hbad]<;>rfl)
 ·have hok:iC d x=true:=by simpa using c0
  obtain⟨hTa,hTb,hca,hcb⟩:=aAr hok;have hA8:=cH hTa;have hB8:=cH hTb;refine⟨kX (uA _ x.name (by omega)) rfl,kX (uA _ x.into (by omega)) rfl,⟨0,([]:List Int),rfl,rfl,by omega,rfl⟩,fun v out ⟨hvv,ho⟩=>?_⟩;have hol:=aTO d x v;rw[<-ho] at hol;refine dd (fun c1=>?_) fun c1=>?_
  ·refine⟨⟨0,false,rfl,rfl,aDB _,rfl⟩,fun k p ⟨hk,hp⟩=>?_⟩;refine⟨aAH _,dd (fun c2=>?_) fun c2=>?_⟩
   ·obtain⟨ra,hra⟩:=cK (l:=(aO d x.name).1.rows) (k:=k) (by omega);refine db (fun g47=>?_) fun g47=>?_
    ·refine⟨⟨by omega,by omega⟩,?_⟩;exact⟨k+1,_,rfl,rfl,⟨by omega,by rw[oD _ _ hra,wX,<-hp,g47];rfl⟩,by omega⟩
    ·refine⟨by omega,rfl,by omega,fun e51 h51=>?_⟩;have hl51:=rC hTa (aDd h51);refine⟨by omega,rfl,by omega,fun e55 h55=>?_⟩;refine⟨⟨by omega,by omega⟩,?_⟩;exact⟨k+1,_,rfl,rfl,⟨by omega,by obtain rfl:=aY h51 hra;rw[oD _ _ hra,wX,<-hp,g47,bO h55,Bool.false_or];exact decide_eq_decide.2 ⟨Eq.symm,Eq.symm⟩⟩,by omega⟩
   ·have hP:p=decide ((v:Int)∈jB (aO d x.name).1.rows x.column):=by rw[hp,aGT (by omega)]
    refine⟨⟨0,false,rfl,rfl,aDB _,rfl⟩,fun j q ⟨hj,hq⟩=>?_⟩;refine⟨aAH _,dd (fun c3=>?_) fun c3=>?_⟩
    ·obtain⟨rb,hrb⟩:=cK (l:=(aO d x.into).1.rows) (k:=j) (by omega);refine db (fun g68=>?_) fun g68=>?_
     ·refine⟨⟨by omega,by omega⟩,?_⟩;exact⟨j+1,_,rfl,rfl,⟨by omega,by rw[oD _ _ hrb,wX,<-hq,g68];rfl⟩,by omega⟩
     ·refine⟨by omega,rfl,by omega,fun e72 h72=>?_⟩;have hl72:=rC hTb (aDd h72);refine⟨by omega,rfl,by omega,fun e76 h76=>?_⟩;refine⟨⟨by omega,by omega⟩,?_⟩;exact⟨j+1,_,rfl,rfl,⟨by omega,by obtain rfl:=aY h72 hrb;rw[oD _ _ hrb,wX,<-hq,g68,bO h76,Bool.false_or];exact decide_eq_decide.2 ⟨Eq.symm,Eq.symm⟩⟩,by omega⟩
    ·have hQ:q=decide ((v:Int)∈jB (aO d x.into).1.rows x.intoColumn):=by rw[hq,aGT (by omega)]
     refine db (fun g82=>?_) fun g82=>?_
     ·refine dm (fun c4=>?_) fun c4=>?_
      ·refine ap ?_ (fun _=>rfl) (by (simp;omega));refine⟨⟨by omega,by omega⟩,?_⟩;exact⟨v+1,_,rfl,rfl,⟨by omega,by rw[ho,aTN (by rw[aES,<-hP,<-hQ,g82,c4];rfl)]⟩,by omega⟩
      ·refine⟨⟨by omega,by omega⟩,?_⟩;exact⟨v+1,_,rfl,rfl,⟨by omega,by rw[ho,aPA (by rw[aES,<-hP,<-hQ,g82,c4];rfl)]⟩,by omega⟩
     ·refine⟨⟨by omega,by omega⟩,?_⟩;exact⟨v+1,_,rfl,rfl,⟨by omega,by rw[ho,aPA (by rw[aES,<-hP,<-hQ,g82];rfl)]⟩,by omega⟩
  ·have hE:zN d x=out:=by rw[zN,if_pos hok,ho,show v=10 by omega]
   apply et1
   ·(rw[hE]<;>rfl)
abbrev aEW (d:aX)(x:aP):Prop:=Cn 181 [.agg [.sl 142 3 (d.tables.map aS)],.agg [.str x.name,.int .i64 x.column,.str x.into,.int .i64 x.intoColumn]] (vB (mB d x)) []
theorem aQq (d:aX)(x:aP)(hc:bM d<=1048576):aEW d x:=by
 refine cq Tryz.func181 (.call (vB (iC d x)) []<| .br (bJ (aBB d x)<| .len ((zN d x).length)<| .fin []) (.fin [])) (p:=Lx (d.tables.map aS)<| yL d x/\Bb (iC d x) (aGE d x/\Lm intD (zN d x)/\(decide ((((zN d x).length:Nat):Int)=0))=(mB d x)/\True) ((false)=(mB d x)/\True)) (by kernel_rfl) ?_;refine lx fun n0=>?_;refine⟨aIf _ _ (by omega),db (fun g8=>?_) fun g8=>?_⟩
 ·refine⟨aTb _ _ (by omega),aAH _,?_,trivial⟩
  ·(rw[mB,g8,aOy,aTR g8];rfl)
 ·apply et1
  ·(simp[mB, *];done)
def mC (d:aX)(l:List aR)(m:List aP):Bool:=l.all (mA d)&&(m.all (mB d)&&(decide ((l.length:Int)<=8)&&decide ((m.length:Int)<=8)))
abbrev aGF (d:aX)(l:List aR)(m:List aP):Prop:=Cn 133 [.agg [.sl 142 3 (d.tables.map aS)],.one (.sl 121 3 (l.map aN)),.one (.sl 123 4 (m.map aQ))] (vB (mC d l m)) []
theorem aTc (d:aX)(l:List aR)(m:List aP)(hc:bM d<=1048576):aGF d l m:=by
 refine cq Tryz.func133 (.len l.length<| .loop Nat (Q1 Nat) ([8]++rg 13 9) [800] (fun k=>[(13,vI (k:Int))]) (fun k=>[]) (fun k=>k<=l.length/\(l.take k).all (mA d)=true) (fun k=>l.length - k) (fun k=> .br (.elem _ aN l (fun e15=> .call (vB (mA d e15)) []<| .br (.fin []) (.back []))) (.len m.length<| .loop Nat (Q1 Nat) ([10]++rg 24 9) [1000] (fun j=>[(24,vI (j:Int))]) (fun j=>[]) (fun j=>j<=m.length/\(m.take j).all (mB d)=true) (fun j=>m.length - j) (fun j=> .br (.elem _ aQ m (fun e26=> .call (vB (mB d e26)) []<| .br (.fin []) (.back []))) (.len l.length<| .br (.len m.length<| .fin []) (.fin [])))))) (p:=Lx (d.tables.map aS)<| Lx (l.map aN)<| Lx (m.map aQ)<| Lm aN l/\((∃(k:Nat),0=(k:Int)/\k<=l.length/\(l.take k).all (mA d)=true)/\ ∀(k:Nat),(k<=l.length/\(l.take k).all (mA d)=true)->Br ((k:Int)<(l.length:Int)) (0<=(k:Int)/\Em aN l k fun e15=>aET d e15/\Nr (mA d e15) ((false)=(mC d l m)/\True) (bK ((k:Int)+1)/\ ∃(k' :Nat),((k:Int)+1)=(k' :Int)/\(k' <=l.length/\(l.take k').all (mA d)=true)/\l.length - k' <l.length - k)) (Lm aQ m/\((∃(j:Nat),0=(j:Int)/\j<=m.length/\(m.take j).all (mB d)=true)/\ ∀(j:Nat),(j<=m.length/\(m.take j).all (mB d)=true)->Br ((j:Int)<(m.length:Int)) (0<=(j:Int)/\Em aQ m j fun e26=>aEV d e26/\Nr (mB d e26) ((false)=(mC d l m)/\True) (bK ((j:Int)+1)/\ ∃(j' :Nat),((j:Int)+1)=(j' :Int)/\(j' <=m.length/\(m.take j').all (mB d)=true)/\m.length - j' <m.length - j)) (Lm aN l/\Br ((l.length:Int)<=8) (Lm aQ m/\(decide ((m.length:Int)<=8))=(mC d l m)/\True) ((false)=(mC d l m)/\True)))))) (by kernel_rfl) ?_;refine lx fun n0=>lx fun n1=>lx fun n2=>?_;refine⟨aAH _,⟨0,rfl,aDB _,rfl⟩,fun k ⟨hk,ha⟩=>?_⟩;refine dd (fun c0=>?_) fun c0=>?_
 ·refine⟨by omega,rfl,by omega,fun e15 h15=>?_⟩;refine⟨aQn _ _ (by omega),dm (fun c1=>?_) fun c1=>?_⟩
  ·have hL:l.all (mA d)=false:=eX h15 (by simpa using c1);apply et1
   ·(simp[mC,hL];done)
  ·refine⟨⟨by omega,by omega⟩,?_⟩;exact⟨k+1,rfl,⟨by omega,cO h15 ha (by simpa using c1)⟩,by omega⟩
 ·have hL:=dJ (by omega) ha;refine⟨aAH _,⟨0,rfl,aDB _,rfl⟩,fun j ⟨hj,hb⟩=>?_⟩;refine dd (fun c2=>?_) fun c2=>?_
  ·refine⟨by omega,rfl,by omega,fun e26 h26=>?_⟩;refine⟨aQp _ _ (by omega),dm (fun c3=>?_) fun c3=>?_⟩
   ·have hM:m.all (mB d)=false:=eX h26 (by simpa using c3);apply et1
    ·(simp[mC,hL,hM];done)
   ·refine⟨⟨by omega,by omega⟩,?_⟩;exact⟨j+1,rfl,⟨by omega,cO h26 hb (by simpa using c3)⟩,by omega⟩
  ·have hM:=dJ (by omega) hb;refine⟨aAH _,dd (fun g36=>?_) fun g36=>?_⟩
   ·refine⟨aAH _,?_,trivial⟩
    ·(simp[mC,hL,hM, *];done)
   ·apply et1
    ·(simp[mC,hL,hM, *];done)
abbrev aGG (d:aX)(l:List aR)(m:List aP):Prop:=Cn 124 [.agg [.sl 142 3 (d.tables.map aS)],.one (.sl 121 3 (l.map aN)),.one (.sl 123 4 (m.map aQ))] (vB (mC d l m)) []
theorem aTd (d:aX)(l:List aR)(m:List aP)(hc:bM d<=1048576):aGG d l m:=by
 refine cq Tryz.func124 (.len l.length<| .br (.fin []) (.len m.length<| .lit<| .lit<| .br (.fin []) (.loop Nat (Q1 Nat) ([7]++rg 17 13) [] (fun k=>[(7,vI (k:Int))]) (fun k=>[]) (fun k=>k<=l.length/\(l.take k).all (mA d)=true) (fun k=>l.length - k) (fun k=> .len l.length<| .br (.elem _ aN l (fun e26=> .call (vB (mA d e26)) []<| .br (.fin []) (.back []))) (.loop Nat (Q1 Nat) ([8]++rg 30 13) [] (fun j=>[(8,vI (j:Int))]) (fun j=>[]) (fun j=>j<=m.length/\(m.take j).all (mB d)=true) (fun j=>m.length - j) (fun j=> .len m.length<| .br (.elem _ aQ m (fun e39=> .call (vB (mB d e39)) []<| .br (.fin []) (.back []))) (.fin []))))))) (p:=Lx (d.tables.map aS)<| Lx (l.map aN)<| Lx (m.map aQ)<| Lm aN l/\Br (8<(l.length:Int)) ((false)=(mC d l m)/\True) (Lm aQ m/\Br (8<(m.length:Int)) ((false)=(mC d l m)/\True) ((∃(k:Nat),0=(k:Int)/\k<=l.length/\(l.take k).all (mA d)=true)/\ ∀(k:Nat),(k<=l.length/\(l.take k).all (mA d)=true)->Lm aN l/\Br ((k:Int)<(l.length:Int)) (0<=(k:Int)/\Em aN l k fun e26=>aEU d e26/\Nr (mA d e26) ((false)=(mC d l m)/\True) (bK ((k:Int)+1)/\ ∃(k' :Nat),((k:Int)+1)=(k' :Int)/\(k' <=l.length/\(l.take k').all (mA d)=true)/\l.length - k' <l.length - k)) ((∃(j:Nat),0=(j:Int)/\j<=m.length/\(m.take j).all (mB d)=true)/\ ∀(j:Nat),(j<=m.length/\(m.take j).all (mB d)=true)->Lm aQ m/\Br ((j:Int)<(m.length:Int)) (0<=(j:Int)/\Em aQ m j fun e39=>aEW d e39/\Nr (mB d e39) ((false)=(mC d l m)/\True) (bK ((j:Int)+1)/\ ∃(j' :Nat),((j:Int)+1)=(j' :Int)/\(j' <=m.length/\(m.take j').all (mB d)=true)/\m.length - j' <m.length - j)) ((true)=(mC d l m)/\True))))) (by kernel_rfl) ?_;refine lx fun n0=>lx fun n1=>lx fun n2=>?_;refine⟨aAH _,dd (fun g12=>?_) fun g12=>?_⟩
 ·have hbad:(decide ((l.length:Int)<=8)&&decide ((m.length:Int)<=8))=false:=by (simp;omega)
  apply et1
  ·(rw[mC,hbad];simp;done)
 ·refine⟨aAH _,dd (fun c0=>?_) fun c0=>?_⟩
  ·have hbad:(decide ((l.length:Int)<=8)&&decide ((m.length:Int)<=8))=false:=by (simp;omega)
   apply et1
   ·(rw[mC,hbad];simp;done)
  ·have hz:(decide ((l.length:Int)<=8)&&decide ((m.length:Int)<=8))=true:=by simp;omega
   refine⟨⟨0,rfl,aDB _,rfl⟩,fun k ⟨hk,ha⟩=>?_⟩;refine⟨aAH _,dd (fun c1=>?_) fun c1=>?_⟩
   ·refine⟨by omega,rfl,by omega,fun e26 h26=>?_⟩;refine⟨aQo _ _ (by omega),dm (fun c2=>?_) fun c2=>?_⟩
    ·have hL:l.all (mA d)=false:=eX h26 (by simpa using c2);apply et1
     ·(rw[mC,hL];rfl)
    ·refine⟨⟨by omega,by omega⟩,?_⟩;exact⟨k+1,rfl,⟨by omega,cO h26 ha (by simpa using c2)⟩,by omega⟩
   ·have hL:=dJ (by omega) ha;refine⟨⟨0,rfl,aDB _,rfl⟩,fun j ⟨hj,hb⟩=>?_⟩;refine⟨aAH _,dd (fun c3=>?_) fun c3=>?_⟩
    ·refine⟨by omega,rfl,by omega,fun e39 h39=>?_⟩;refine⟨aQq _ _ (by omega),dm (fun c4=>?_) fun c4=>?_⟩
     ·have hM:m.all (mB d)=false:=eX h39 (by simpa using c4);apply et1
      ·(rw[mC,hL,hM,hz];rfl)
     ·refine⟨⟨by omega,by omega⟩,?_⟩;exact⟨j+1,rfl,⟨by omega,cO h39 hb (by simpa using c4)⟩,by omega⟩
    ·have hM:=dJ (by omega) hb;apply et1
     ·(rw[mC,hL,hM,hz];rfl)
def iL (s:StoreD):Bool:=(gK s.database s.catalogue.version).2&&(decide ((gK s.database s.catalogue.version).1=s.catalogue)&&mC s.database s.dependencies s.inclusions)
abbrev aGH (s:StoreD):Prop:=Cn 81 [.agg [.sl 142 3 (s.database.tables.map aS),.int .i64 s.catalogue.version,.sl 88 4 (s.catalogue.tables.map aF),.sl 121 3 (s.dependencies.map aN),.sl 123 4 (s.inclusions.map aQ)]] (vB (iL s)) []
theorem aTe (s:StoreD)(hc:dZ s<=1048576):aGH s:=by
 refine cq Tryz.func81 (bJ (aCt s.database s.catalogue.version)<| .br (.call (vB (decide (((gK s.database s.catalogue.version).1)=s.catalogue))) []<| .lit<| .br (.call (vB (mC s.database s.dependencies s.inclusions)) []<| .fin []) (.fin [])) (.fin [])) (p:=Lx (s.database.tables.map aS)<| Lx (s.catalogue.tables.map aF)<| Lx (s.dependencies.map aN)<| Lx (s.inclusions.map aQ)<| aIZ s.database s.catalogue.version/\Bb ((gK s.database s.catalogue.version).2) (aDz ((gK s.database s.catalogue.version).1) s.catalogue/\Br (((gK s.database s.catalogue.version).1)=s.catalogue) (aGF s.database s.dependencies s.inclusions/\(mC s.database s.dependencies s.inclusions)=(iL s)/\True) ((false)=(iL s)/\True)) ((false)=(iL s)/\True)) (by kernel_rfl) ?_;refine lx fun n0=>lx fun n1=>lx fun n2=>lx fun n3=>?_;have hS:dZ s=bM s.database+bS s.catalogue+cC s.dependencies+cR s.inclusions:=rfl;have hsm:=aLn s.database s.catalogue.version;refine⟨aVu s.database s.catalogue.version,db (fun g15=>?_) fun g15=>?_⟩
 ·refine⟨aQ8 _ _,dd (fun g21=>?_) fun g21=>?_⟩
  ·refine⟨aTc s.database _ _ (by omega),?_,trivial⟩
   ·(simp[iL, *];done)
  ·apply et1
   ·(simp[iL, *];done)
 ·apply et1
  ·(simp[iL, *];done)
abbrev aGI (s:StoreD):Prop:=Cn 72 [.agg [.sl 142 3 (s.database.tables.map aS),.int .i64 s.catalogue.version,.sl 88 4 (s.catalogue.tables.map aF),.sl 121 3 (s.dependencies.map aN),.sl 123 4 (s.inclusions.map aQ)]] (vB (iL s)) []
theorem aTf (s:StoreD)(hc:dZ s<=1048576):aGI s:=by
 refine cq Tryz.func72 (bJ (aCu s.database s.catalogue.version)<| .br (.call (vB (decide (((gK s.database s.catalogue.version).1)=s.catalogue))) []<| .lit<| .br (.call (vB (mC s.database s.dependencies s.inclusions)) []<| .fin []) (.fin [])) (.fin [])) (p:=Lx (s.database.tables.map aS)<| Lx (s.catalogue.tables.map aF)<| Lx (s.dependencies.map aN)<| Lx (s.inclusions.map aQ)<| aI0 s.database s.catalogue.version/\Bb ((gK s.database s.catalogue.version).2) (aEB ((gK s.database s.catalogue.version).1) s.catalogue/\Br (((gK s.database s.catalogue.version).1)=s.catalogue) (aGG s.database s.dependencies s.inclusions/\(mC s.database s.dependencies s.inclusions)=(iL s)/\True) ((false)=(iL s)/\True)) ((false)=(iL s)/\True)) (by kernel_rfl) ?_;refine lx fun n0=>lx fun n1=>lx fun n2=>lx fun n3=>?_;have hS:dZ s=bM s.database+bS s.catalogue+cC s.dependencies+cR s.inclusions:=rfl;have hsm:=aLn s.database s.catalogue.version;refine⟨aVv s.database s.catalogue.version,db (fun g15=>?_) fun g15=>?_⟩
 ·refine⟨aQ9 _ _ (by omega),dd (fun g21=>?_) fun g21=>?_⟩
  ·refine⟨aTd s.database _ _ (by omega),?_,trivial⟩
   ·(simp[iL, *];done)
  ·apply et1
   ·(simp[iL, *];done)
 ·apply et1
  ·(simp[iL, *];done)
abbrev aDD (x:aD):AV × List (Nat × Rs):=(.agg [.p none (.str x.name),vI x.arity,vI x.rowCount,.own 0],[(0,.arr 220 3 true (x.groups.map aC))])
abbrev aIw (x:aD):Prop:=Cn 128 [.agg [.str x.name,.int .i64 x.arity,.int .i64 x.rowCount,.sl 220 3 (x.groups.map aC)]] (aDD x).1 (aDD x).2
theorem aWV (x:aD)(hc:bD x<=1048576):aIw x:=by
 refine cq Tryz.func128 (.loop (Nat × (List aI)) (Q2 Nat (List aI)) ([4,5,6]++rg 14 57) [300,500,2100,2800,2900,3600,5100,6100,6200,6300,6800,6900,9000,9001] (fun yy0=>[(4,vI (yy0.1:Int))]) (fun yy0=>[(300,some (.box 88 [.p none (.str x.name),vI x.arity,vI x.rowCount,.own 9000])),(9000,some (.arr 220 3 true (yy0.2.map aC)))]) (fun yy0=>yy0.1<=x.groups.length/\yy0.2=x.groups.take yy0.1) (fun yy0=>x.groups.length - yy0.1) (fun yy0=> .len x.groups.length<| .br (.elem _ aC x.groups (fun e25=> .app Int intD ([]:List Int) e25.columns<| .elem _ aC x.groups (fun e33=> .app Int intD ([]:List Int) e33.counts<| .loop (Nat × (List (List Int))) (Q2 Nat (List (List Int))) ([6]++rg 38 27) [500,5100,6100,6200,6300,9001] (fun yy1=>[(6,vI (yy1.1:Int))]) (fun yy1=>[(500,some (.box 220 [.own 2800,.own 9001,.own 3600])),(9001,some (.arr 91 1 true (yy1.2.map aE)))]) (fun yy1=>yy1.1<=e25.values.length/\yy1.2=e25.values.take yy1.1) (fun yy1=>e25.values.length - yy1.1) (fun yy1=> .elem _ aC x.groups (fun e42=> .len e42.values.length<| .br (.elem _ aC x.groups (fun e55=> .elem _ aE e55.values (fun e59=> .app Int intD ([]:List Int) e59<| .appx (List Int) aE yy1.2 (([]:List Int)++e59)<| .back [(500,500),(9001,6300)]))) (.appx aI aC yy0.2 (⟨([]:List Int)++e25.columns,yy1.2,([]:List Int)++e33.counts⟩:aI)<| .back [(300,300),(9000,6900)])))))) (.fin [(0,9000)]))) (p:=Lx (x.groups.map aC)<| (∃(k:Nat) (out:List aI),0=(k:Int)/\x.name=x.name/\x.arity=x.arity/\x.rowCount=x.rowCount/\[]=out.map aC/\k<=x.groups.length/\out=x.groups.take k)/\ ∀(k:Nat) (out:List aI),(k<=x.groups.length/\out=x.groups.take k)->Lm aC x.groups/\Br ((k:Int)<(x.groups.length:Int)) (0<=(k:Int)/\Em aC x.groups k fun e25=>Ap intD ([]:List Int) e25.columns 8 (0<=(k:Int)/\Em aC x.groups k fun e33=>Ap intD ([]:List Int) e33.counts 8 ((∃(i:Nat) (v:List (List Int)),0=(i:Int)/\[]=v.map aE/\i<=e25.values.length/\v=e25.values.take i)/\ ∀(i:Nat) (v:List (List Int)),(i<=e25.values.length/\v=e25.values.take i)->0<=(k:Int)/\Em aC x.groups k fun e42=>Lm aE e42.values/\Br ((i:Int)<(e42.values.length:Int)) (0<=(k:Int)/\Em aC x.groups k fun e55=>0<=(i:Int)/\Em aE e55.values i fun e59=>Ap intD ([]:List Int) e59 8 (v.map aE=v.map aE/\(([]:List Int)++e59).map intD=(([]:List Int)++e59).map intD/\(v.length+1)*24<=140737488355328/\bK ((i:Int)+1)/\ ∃(i' :Nat) (v' :List (List Int)),((i:Int)+1)=(i' :Int)/\(v++[([]:List Int)++e59]).map aE=v'.map aE/\(i' <=e25.values.length/\v' =e25.values.take i')/\e25.values.length - i' <e25.values.length - i)) (out.map aC=out.map aC/\(([]:List Int)++e25.columns).map intD=(⟨([]:List Int)++e25.columns,v,([]:List Int)++e33.counts⟩:aI).columns.map intD/\v.map aE=(⟨([]:List Int)++e25.columns,v,([]:List Int)++e33.counts⟩:aI).values.map aE/\(([]:List Int)++e33.counts).map intD=(⟨([]:List Int)++e25.columns,v,([]:List Int)++e33.counts⟩:aI).counts.map intD/\(out.length+1)*72<=140737488355328/\bK ((k:Int)+1)/\ ∃(k' :Nat) (out' :List aI),((k:Int)+1)=(k' :Int)/\x.name=x.name/\x.arity=x.arity/\x.rowCount=x.rowCount/\(out++[(⟨([]:List Int)++e25.columns,v,([]:List Int)++e33.counts⟩:aI)]).map aC=out'.map aC/\(k' <=x.groups.length/\out' =x.groups.take k')/\x.groups.length - k' <x.groups.length - k)))) (x.name=x.name/\x.arity=x.arity/\x.rowCount=x.rowCount/\out.map aC=x.groups.map aC/\True)) (by kernel_rfl) ?_;refine lx fun n0=>?_;have q2:bD x=x.name.size+dB x.groups:=rfl;have q5:=gY x.groups;refine⟨⟨0,([]:List aI),rfl,rfl,rfl,rfl,rfl,aDB _,rfl⟩,fun k out ⟨hk,ho⟩=>?_⟩;refine⟨aAH _,dd (fun c0=>?_) fun c0=>?_⟩
 ·refine⟨by omega,rfl,by omega,fun e25 h25=>?_⟩
  try (obtain rfl:=(aY h25 h25).symm)
  have q1:=iP h25;have q3:bP e25=cD e25.columns+cM e25.values+cD e25.counts:=rfl;have q6:cD e25.columns=e25.columns.length:=rfl;have q7:cD e25.counts=e25.counts.length:=rfl;have q8:=fX e25.values;refine ap ?_ (fun _=>rfl) (by (simp;omega));refine⟨by omega,rfl,by omega,fun e33 h33=>?_⟩
  try (obtain rfl:=(aY h25 h33).symm)
  refine ap ?_ (fun _=>rfl) (by (simp;omega));refine⟨⟨0,([]:List (List Int)),rfl,rfl,aDB _,rfl⟩,fun i v ⟨hi,hv⟩=>?_⟩;refine⟨by omega,rfl,by omega,fun e42 h42=>?_⟩
  try (obtain rfl:=(aY h25 h42).symm)
  refine⟨aAH _,dd (fun c1=>?_) fun c1=>?_⟩
  ·refine⟨by omega,rfl,by omega,fun e55 h55=>?_⟩
   try (obtain rfl:=(aY h25 h55).symm)
   refine⟨by omega,rfl,by omega,fun e59 h59=>?_⟩;have hp3:=aBu h59;refine ap ?_ (fun _=>rfl) (by (simp;omega));refine⟨rfl,rfl,by (simp[hv];omega),⟨by omega,by omega⟩,?_⟩;exact⟨i+1,_,rfl,rfl,⟨by omega,by rw[hv,bT h59];rfl⟩,by omega⟩
  ·have hvv:v=e25.values:=by rw[hv,aGT (by omega)]
   refine⟨rfl,rfl,rfl,rfl,by (simp[ho];omega),⟨by omega,by omega⟩,?_⟩;exact⟨k+1,_,rfl,rfl,rfl,rfl,rfl,⟨by omega,by rw[ho,bT h25,hvv];rfl⟩,by omega⟩
 ·refine⟨rfl,rfl,rfl,?_,trivial⟩
  ·(rw[ho,aGT (by omega)])
end Go.Proofs.YtlidmoeecphbmaaGreat
