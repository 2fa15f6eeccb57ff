/-
  Contracts and plain laws, joined: part 6.
-/
import Derived.Test.YtgamjlgfnmpcjaaGreatDoorst4
import Derived.Test.YtgamjlgfnmpcjaaGreatDoorst3
import Derived.Shelf.Strconv.Itoa3
namespace Go.Proofs.YtgamjlgfnmpcjaaGreatDoor
open Go.ChangeShapes Go.WideShapes Go.ChangeAt Go.RowKit
set_option linter.unusedVariables false
set_option linter.unusedSimpArgs false
set_option maxRecDepth 100000
set_option maxHeartbeats 4000000
abbrev rI (name:ByteArray)(arity:Int)(rows:List (List Int)):AV × List (Nat × Rs):=(.tup [.agg [.p none (.str ((gT name arity rows).1.name)),vI ((gT name arity rows).1.arity),.own 0],vB ((gT name arity rows).2)],[(0,.arr 38 1 true ((gT name arity rows).1.rows.map aB))])
abbrev yV (name:ByteArray)(arity:Int)(rows:List (List Int)):Prop:=Cn 94 [.one (.str name),.one (.int .i64 arity),.one (.sl 38 1 (rows.map aB))] (rI name arity rows).1 (rI name arity rows).2
theorem aHc (name:ByteArray)(arity:Int)(rows:List (List Int))(hc:aX rows<=1048576):yV name arity rows:=by
 refine cq Tryz.func94 (.loop (Nat × (List (List Int))) (Q2 Nat (List (List Int))) ([9]++rg 13 20) [800,3100,9000] (fun yy0=>[(9,vI (yy0.1:Int))]) (fun yy0=>[(800,some (.box 37 [.p none (.str name),vI arity,.own 9000])),(9000,some (.arr 38 1 true (yy0.2.map aB)))]) (fun yy0=>yy0.1<=rows.length/\yy0.2=bG (rows.take yy0.1)) (fun yy0=>rows.length - yy0.1) (fun yy0=> .len rows.length<| .br (.len yy0.2.length<| .lit<| .lit<| .br (.elem _ aB rows (fun e29=>bC (jB yy0.2 e29)<| .back [(800,800),(9000,3100)])) (.call (vB (aL (⟨name,arity,yy0.2⟩:aJ))) []<| .br (.fin []) (.fin [(0,9000)]))) (.call (vB (aL (⟨name,arity,yy0.2⟩:aJ))) []<| .br (.fin []) (.fin [(0,9000)])))) (p:=Lx (rows.map aB)<| (∃(k:Nat) (acc:List (List Int)),0=(k:Int)/\name=name/\arity=arity/\[]=acc.map aB/\k<=rows.length/\acc=bG (rows.take k))/\ ∀(k:Nat) (acc:List (List Int)),(k<=rows.length/\acc=bG (rows.take k))->Lm aB rows/\Br ((k:Int)<(rows.length:Int)) (Lm aB acc/\Br ((acc.length:Int)<=8) (0<=(k:Int)/\Em aB rows k fun e29=>mA acc e29/\dO ((k:Int)+1)/\ ∃(k' :Nat) (acc' :List (List Int)),((k:Int)+1)=(k' :Int)/\name=name/\arity=arity/\(eN e29 acc).map aB=acc'.map aB/\(k' <=rows.length/\acc' =bG (rows.take k'))/\rows.length - k' <rows.length - k) (fW (⟨name,arity,acc⟩:aJ)/\Nr (aL (⟨name,arity,acc⟩:aJ)) (ByteArray.empty=((gT name arity rows).1.name)/\0=((gT name arity rows).1.arity)/\(false)=((gT name arity rows).2)/\[]=(gT name arity rows).1.rows.map aB/\True) (name=((gT name arity rows).1.name)/\arity=((gT name arity rows).1.arity)/\(true)=((gT name arity rows).2)/\acc.map aB=(gT name arity rows).1.rows.map aB/\True))) (fW (⟨name,arity,acc⟩:aJ)/\Nr (aL (⟨name,arity,acc⟩:aJ)) (ByteArray.empty=((gT name arity rows).1.name)/\0=((gT name arity rows).1.arity)/\(false)=((gT name arity rows).2)/\[]=(gT name arity rows).1.rows.map aB/\True) (name=((gT name arity rows).1.name)/\arity=((gT name arity rows).1.arity)/\(true)=((gT name arity rows).2)/\acc.map aB=(gT name arity rows).1.rows.map aB/\True))) (by kernel_rfl) ?_;refine lx fun n0=>?_;have hlen:=cI rows;refine⟨⟨0,([]:List (List Int)),rfl,rfl,rfl,rfl,aB2 _,rfl⟩,fun k acc ⟨hk,ha⟩=>?_⟩;refine⟨aBS _,dd (fun g17=>?_) fun g17=>?_⟩
 ·refine⟨aBS _,dd (fun c0=>?_) fun c0=>?_⟩
  ·have hp:=aEj rows k;rw[<-ha] at hp;refine⟨by omega,rfl,by omega,fun e29 h29=>?_⟩;have hp3:=hX h29;refine⟨vX acc e29 (by omega) (by omega) (by omega),⟨by omega,by omega⟩,?_⟩;exact⟨k+1,_,rfl,rfl,rfl,rfl,⟨by omega,by rw[ha,bR h29,pD]⟩,by omega⟩
  ·have hend:=aEk (name:=name) (arity:=arity) ha (by omega);refine⟨lY (⟨name,arity,acc⟩:aJ),dm (fun c1=>?_) fun c1=>?_⟩
   ·have hbad:aL ⟨name,arity,bG rows⟩=false:=by rw[<-hend.1];simpa using c1
    apply et4<;>((rw[aDY hbad]<;>rfl))
   ·have hok0:aL ⟨name,arity,acc⟩=true:=by simpa using c1
    have hok:aL ⟨name,arity,bG rows⟩=true:=by rw[<-hend.1];exact hok0
    have hacc:=hend.2 hok0;apply et4<;>(first|(rw[oG hok]<;>rfl)|(rw[oG hok];exact congrArg (List.map aB) hacc))
 ·have hend:=aEk (name:=name) (arity:=arity) ha (by omega);refine⟨lY (⟨name,arity,acc⟩:aJ),dm (fun c1=>?_) fun c1=>?_⟩
  ·have hbad:aL ⟨name,arity,bG rows⟩=false:=by rw[<-hend.1];simpa using c1
   apply et4<;>((rw[aDY hbad]<;>rfl))
  ·have hok0:aL ⟨name,arity,acc⟩=true:=by simpa using c1
   have hok:aL ⟨name,arity,bG rows⟩=true:=by rw[<-hend.1];exact hok0
   have hacc:=hend.2 hok0;apply et4<;>(first|(rw[oG hok]<;>rfl)|(rw[oG hok];exact congrArg (List.map aB) hacc))
abbrev kH (x:TableStatsD):AV × List (Nat × Rs):=(.tup [.agg [.p none (.str ((bB x).1.name)),vI ((bB x).1.arity),.own 0],vB ((bB x).2)],[(0,.arr 38 1 true ((bB x).1.rows.map aB))])
abbrev nB (x:TableStatsD):Prop:=Cn 59 [.agg [.str x.name,.int .i64 x.arity,.int .i64 x.rowCount,.sl 62 3 (x.groups.map aA)]] (kH x).1 (kH x).2
theorem xW (x:TableStatsD)(hc:aT x<=1048576):nB x:=by
 refine cq Tryz.func59 (.len x.groups.length<| .br (.fin []) (.len x.groups.length<| .elem _ aA x.groups (fun e22=>bC (rI x.name x.arity e22.values)<| .fin [(0,2500)]))) (p:=Lx (x.groups.map aA)<| Lm aA x.groups/\Br ((x.groups.length:Int)=0) (ByteArray.empty=((bB x).1.name)/\0=((bB x).1.arity)/\(false)=((bB x).2)/\[]=(bB x).1.rows.map aB/\True) (Lm aA x.groups/\dO ((x.groups.length:Int) - 1)/\0<=((x.groups.length:Int) - 1)/\Em aA x.groups (((x.groups.length:Int) - 1).toNat) fun e22=>yV x.name x.arity e22.values/\((gT x.name x.arity e22.values).1.name)=((bB x).1.name)/\((gT x.name x.arity e22.values).1.arity)=((bB x).1.arity)/\((gT x.name x.arity e22.values).2)=((bB x).2)/\(gT x.name x.arity e22.values).1.rows.map aB=(bB x).1.rows.map aB/\True)) (by kernel_rfl) ?_;refine lx fun n0=>?_;have q2:aT x=x.name.size+cD x.groups:=rfl;have q5:=dZ x.groups;refine⟨aBS _,dd (fun c0=>?_) fun c0=>?_⟩
 ·have hT:bB x=(aAd,false):=by rw[bB,if_pos (by omega)]
  apply et4<;>((rw[hT]<;>rfl))
 ·have hT:bB x=gT x.name x.arity (iO x):=by rw[bB,if_neg (by omega)]
  refine⟨aBS _,⟨by omega,by omega⟩,by omega,rfl,by omega,fun e22 h22=>?_⟩;have i22:x.groups[x.groups.length - 1]? =some e22:=by rw[<-h22];congr 1;omega
  have hL:iO x=e22.values:=aEf i22;rw[hL] at hT;have q1:=eO i22;have q3:aR e22=bY e22.columns+aX e22.values+bY e22.counts:=rfl;have q6:bY e22.columns=e22.columns.length:=rfl;have q7:bY e22.counts=e22.counts.length:=rfl;have q8:=cI e22.values;refine⟨aHc _ _ _ (by omega),?_,?_,?_,?_,trivial⟩<;>((rw[hT]<;>rfl))
abbrev jF (x:TableStatsD):Prop:=Cn 28 [.agg [.str x.name,.int .i64 x.arity,.int .i64 x.rowCount,.sl 62 3 (x.groups.map aA)]] (vB (aU x)) []
theorem rJ (x:TableStatsD)(hc:aT x<=1048576):jF x:=by
 refine cq Tryz.func28 (bC (kH x)<| .br (bC (hY ((bB x).1))<| .call (vB (decide ((aF ((bB x).1))=x))) []<| .fin []) (.fin [])) (p:=Lx (x.groups.map aA)<| nB x/\Bb ((bB x).2) (jC ((bB x).1)/\fA (aF ((bB x).1)) x/\(decide ((aF ((bB x).1))=x))=(aU x)/\True) ((false)=(aU x)/\True)) (by kernel_rfl) ?_;refine lx fun n0=>?_;have hst:=kG (bB x).1;have hsame:=aH8 x;refine⟨xW x (by omega),db (fun g11=>?_) fun g11=>?_⟩
 ·refine⟨sI ((bB x).1),iF _ _ (by omega),?_,trivial⟩
  ·(rw[<-hsame,g11];simp;done)
 ·apply et1
  ·(rw[<-hsame,g11];simp;done)
def eH (x:TableStatsD)(cols:List Int):List Int:=if aU x=true then cK (bT (bS x) cols).2 else []
theorem rK {x:TableStatsD}{cols:List Int}(h:aU x=true):eH x cols=cK (bT (bS x) cols).2:=by rw[eH,if_pos h]
theorem aD1 {x:TableStatsD}{cols:List Int}(h:aU x=false):eH x cols= []:=by rw[eH,if_neg (by rw[h];decide)]
theorem wH (x:TableStatsD)(cols:List Int):(eH x cols).length<=8:=by
 cases h:aU x with
 | false=>rw[aD1 h];exact aB2 _
 | true=>rw[rK h,sK];exact(sJ _ _).2
abbrev jG (x:TableStatsD)(cols:List Int):AV × List (Nat × Rs):=(.own 0,[(0,.arr 3 1 true ((eH x cols).map aE))])
abbrev mF (x:TableStatsD)(cols:List Int):Prop:=Cn 21 [.agg [.str x.name,.int .i64 x.arity,.int .i64 x.rowCount,.sl 62 3 (x.groups.map aA)],.one (.sl 3 1 (cols.map aE))] (jG x cols).1 (jG x cols).2
theorem wI (x:TableStatsD)(cols:List Int)(hc:aT x<=1048576)(hl:cols.length<=1048576):mF x cols:=by
 refine cq Tryz.func21 (bC (iI x)<| .br (.fin []) (bC (uB (bS x) cols)<| .fin [(0,1600)])) (p:=Lx (x.groups.map aA)<| Lx (cols.map aE)<| kW x/\Nr (aU x) ([]=(eH x cols).map aE/\True) (aAu (bS x) cols/\(cK (bT (bS x) cols).2).map aE=(eH x cols).map aE/\True)) (by kernel_rfl) ?_;refine lx fun n0=>lx fun n1=>?_;refine⟨uA x (by omega),dm (fun c0=>?_) fun c0=>?_⟩
 ·have hE:eH x cols= []:=aD1 (by simpa using c0);apply et1
  ·(rw[hE]<;>rfl)
 ·have hE:=rK (cols:=cols) (by simpa using c0:aU x=true);refine⟨aJQ (bS x) _ (by omega),?_,trivial⟩
  ·(rw[hE]<;>rfl)
abbrev rL (x:TableStatsD)(cols:List Int):Prop:=Cn 23 [.agg [.str x.name,.int .i64 x.arity,.int .i64 x.rowCount,.sl 62 3 (x.groups.map aA)],.one (.sl 3 1 (cols.map aE))] (vI ((eH x cols).getD 0 0)) []
theorem aC7 (x:TableStatsD)(cols:List Int)(hc:aT x<=1048576)(hl:cols.length<=1048576):rL x cols:=by
 refine cq Tryz.func23 (bC (jG x cols)<| .len ((eH x cols).length)<| .br (.fin []) (.len ((eH x cols).length)<| .elem _ aE (eH x cols) (fun e14=> .fin []))) (p:=Lx (x.groups.map aA)<| Lx (cols.map aE)<| mF x cols/\Lm aE (eH x cols)/\Br ((((eH x cols).length:Nat):Int)=0) (0=((eH x cols).getD 0 0)/\True) (0<=(0:Int)/\Lm aE (eH x cols)/\0<(((eH x cols).length:Nat):Int)/\Em aE (eH x cols) 0 fun e14=>e14=((eH x cols).getD 0 0)/\True)) (by kernel_rfl) ?_;refine lx fun n0=>lx fun n1=>?_;refine⟨wI _ _ (by omega) (by omega),aBS _,dd (fun c0=>?_) fun c0=>?_⟩
 ·have hz:eH x cols= []:=aGC (by omega);apply et1
  ·(rw[hz]<;>rfl)
 ·refine⟨by omega,aBS _,by omega,rfl,by omega,fun e14 h14=>?_⟩;apply et1
  ·(rw[bW h14])
def dig (x:Int):Int:=IntKind.u8.wrap (48+x)
def cT (l:List Int):ByteArray:=lS (l.map dig)
theorem aHd (a b:List Int):lS (a++b)=lS a++lS b:=by
 apply ByteArray.ext;simp[lS,ByteArray.data_append]
theorem wJ (a b:List Int):cT (a++b)=cT a++cT b:=by rw[cT,aHr,aHd];rfl
theorem dU (l:List Int):(cT l).size=l.length:=by simp[cT,lS,ByteArray.size]
theorem aMQ {n:Int}(h0:0<=n)(h9:n<=9):Int.tmod n 10=n:=by rw[Int.tmod_eq_emod_of_nonneg h0];omega
theorem aMR {n:Int}(h0:0<=n)(h9:n<=9):Int.tdiv n 10=0:=by rw[Int.tdiv_eq_ediv_of_nonneg h0];omega
theorem aKk (s:ByteArray):s++(⟨#[]⟩:ByteArray)=s:=by
 apply ByteArray.ext;simp[ByteArray.data_append]
end Go.Proofs.YtgamjlgfnmpcjaaGreatDoor
namespace Go.Proofs
open Go.Shelf
namespace YtgamjlgfnmpcjaaGreatDoor
def Tryz.lays171_ren:Go.Shelf.Ren:=⟨fun | 171=>65 | 243=>99 | 246=>113 | 283=>127 | 284=>128 | 285=>129 | 286=>130 | 129=>126 | 317=>146 | 318=>147 | 319=>148 | 320=>149 | 337=>154 | 338=>155 | n=>n,fun | 3=>3 | 9=>9 | 2=>2 | 4=>4 | 171=>134 | 0=>0 | 53=>133 | 37=>33 | 5=>5 | 173=>136 | 212=>153 | 51=>131 | 20=>20 | 213=>154 | 46=>118 | 232=>161 | 233=>162 | n=>n,fun | 17=>0 | 18=>1 | 19=>2 | n=>n⟩
theorem Tryz.lays171:Go.Proofs.Lays.n171 Tryz.prog Tryz.lays171_ren:={
 mixed:=by kernel_rfl
 f129:=Tryz.func126.trans (congrArg some (by kernel_rfl))
 f171:=Tryz.func65.trans (congrArg some (by kernel_rfl))
 f243:=Tryz.func99.trans (congrArg some (by kernel_rfl))
 f246:=Tryz.func113.trans (congrArg some (by kernel_rfl))
 f283:=Tryz.func127.trans (congrArg some (by kernel_rfl))
 f284:=Tryz.func128.trans (congrArg some (by kernel_rfl))
 f285:=Tryz.func129.trans (congrArg some (by kernel_rfl))
 f286:=Tryz.func130.trans (congrArg some (by kernel_rfl))
 f317:=Tryz.func146.trans (congrArg some (by kernel_rfl))
 f318:=Tryz.func147.trans (congrArg some (by kernel_rfl))
 f319:=Tryz.func148.trans (congrArg some (by kernel_rfl))
 f320:=Tryz.func149.trans (congrArg some (by kernel_rfl))
 f337:=Tryz.func154.trans (congrArg some (by kernel_rfl))
 f338:=Tryz.func155.trans (congrArg some (by kernel_rfl))
 t0:=Tryz.underlying0
 a0:=Tryz.isAgg0
 z0:=Tryz.sizeOf0
 v0:=Tryz.zeroValue0
 t2:=Tryz.underlying2
 a2:=Tryz.isAgg2
 z2:=Tryz.sizeOf2
 v2:=Tryz.zeroValue2
 t3:=Tryz.underlying3
 a3:=Tryz.isAgg3
 z3:=Tryz.sizeOf3
 v3:=Tryz.zeroValue3
 t4:=Tryz.underlying4
 a4:=Tryz.isAgg4
 z4:=Tryz.sizeOf4
 v4:=Tryz.zeroValue4
 t5:=Tryz.underlying5
 a5:=Tryz.isAgg5
 z5:=Tryz.sizeOf5
 v5:=Tryz.zeroValue5
 t9:=Tryz.underlying9
 a9:=Tryz.isAgg9
 z9:=Tryz.sizeOf9
 v9:=Tryz.zeroValue9
 t20:=Tryz.underlying20
 a20:=Tryz.isAgg20
 z20:=Tryz.sizeOf20
 v20:=Tryz.zeroValue20
 t37:=Tryz.underlying33
 a37:=Tryz.isAgg33
 z37:=Tryz.sizeOf33
 v37:=Tryz.zeroValue33
 t46:=Tryz.underlying118
 a46:=Tryz.isAgg118
 z46:=Tryz.sizeOf118
 v46:=Tryz.zeroValue118
 t51:=Tryz.underlying131
 a51:=Tryz.isAgg131
 z51:=Tryz.sizeOf131
 v51:=Tryz.zeroValue131
 t53:=Tryz.underlying133
 a53:=Tryz.isAgg133
 z53:=Tryz.sizeOf133
 v53:=Tryz.zeroValue133
 t171:=Tryz.underlying134
 a171:=Tryz.isAgg134
 z171:=Tryz.sizeOf134
 v171:=Tryz.zeroValue134
 t173:=Tryz.underlying136
 a173:=Tryz.isAgg136
 z173:=Tryz.sizeOf136
 v173:=Tryz.zeroValue136
 t212:=Tryz.underlying153
 a212:=Tryz.isAgg153
 z212:=Tryz.sizeOf153
 v212:=Tryz.zeroValue153
 t213:=Tryz.underlying154
 a213:=Tryz.isAgg154
 z213:=Tryz.sizeOf154
 t232:=Tryz.underlying161
 a232:=Tryz.isAgg161
 z232:=Tryz.sizeOf161
 v232:=Tryz.zeroValue161
 t233:=Tryz.underlying162
 a233:=Tryz.isAgg162
 z233:=Tryz.sizeOf162
 v233:=Tryz.zeroValue162
 g17:=by kernel_rfl
 g18:=by kernel_rfl
 g19:=by kernel_rfl }
end YtgamjlgfnmpcjaaGreatDoor
end Go.Proofs
namespace Go.Proofs.YtgamjlgfnmpcjaaGreatDoor
open Go.ChangeShapes Go.WideShapes Go.ChangeAt Go.RowKit
set_option linter.unusedVariables false
set_option linter.unusedSimpArgs false
theorem aJR {n:Int}(h:0<=n/\n<=9):(⟨(Lib.decDigits n.toNat).toArray⟩:ByteArray)=cT [n]:=by
 have:n=0\/n=1\/n=2\/n=3\/n=4\/n=5\/n=6\/n=7\/n=8\/n=9:=by omega
 rcases this with rfl | rfl | rfl | rfl | rfl | rfl | rfl | rfl | rfl | rfl<;>decide+kernel
theorem aJS (n:Int)(h:0<=n/\n<=9):zC Tryz.prog 65 [.one (.int .i64 n)] (.p none (.str (cT [n]))) []:=by
 refine⟨by kernel_rfl,fun A w vs hA ha=>?_⟩;obtain⟨v,vs',e,hv,hv2⟩:=ha;simp only[aDm] at hv;unfold dR at hv;subst hv;have ev:vs= #[.int .i64 n]:=by apply Array.ext';rw[e,show vs' = [] from hv2]
 rw[ev];have c:=Any.strconv_Itoa_small Tryz.lays171 n.toNat (by omega) w;rw[show (n.toNat:Int)=n by omega,aJR h] at c;refine c.mono ?_;rintro en w' ⟨he,hw⟩;subst hw;refine⟨.string (cT [n]),fun _=>False,fun _=>none,he,Below.refl _ _,by simp,by simp,?_,by simp,by simp,by simp,by simp,?_⟩
 ·intro h r hr;simp[aN] at hr
 unfold aC;unfold dR;trivial
end Go.Proofs.YtgamjlgfnmpcjaaGreatDoor
namespace Go.Proofs.YtgamjlgfnmpcjaaGreatDoor
open Go.ChangeShapes Go.WideShapes Go.ChangeAt Go.RowKit
set_option linter.unusedVariables false
set_option linter.unusedSimpArgs false
set_option maxRecDepth 100000
set_option maxHeartbeats 4000000
abbrev yW (n:Int):Prop:=Cn 34 [.one (.int .i64 n)] (.p none (.str (cT [n]))) []
theorem aHe (n:Int)(hn:0<=n/\n<=9):yW n:=by
 refine cq Tryz.func34 (.call (.p none (.str (cT [n]))) []<| .fin []) (p:=zC Tryz.prog 65 [.one (.int .i64 n)] (.p none (.str (cT [n]))) []/\(cT [n])=(cT [n])/\True) (by kernel_rfl) ?_;refine⟨aJS _ (by omega),?_⟩;exact⟨rfl,trivial⟩
abbrev rM (n:Int):Prop:=Cn 30 [.one (.int .i64 n)] (.p none (.str (cT [n]))) []
theorem aC8 (n:Int)(hn:0<=n/\n<=9):rM n:=by
 refine cq Tryz.func30 (.br (.fin []) (.loop (Int × ByteArray) (Q2 Int ByteArray) ([0,3,5,10,11,12,13,14,15]++rg 18 9) [2100] (fun yy0=>[(0,vI yy0.1),(3,.p none (.str yy0.2))]) (fun yy0=>[]) (fun yy0=>((yy0.1=n/\yy0.2=⟨#[]⟩)\/(yy0.1=0/\yy0.2=cT [n]))/\(0<=yy0.1/\yy0.1<=9)) (fun yy0=>yy0.1.toNat) (fun yy0=> .br (.no<| .bytes [IntKind.u8.wrap ((48:Int)+(Int.tmod yy0.1 (10:Int)))]<| .back []) (.no<| .fin [])))) (p:=Br (n=0) ((⟨#[48]⟩:ByteArray)=(cT [n])/\True) ((∃(m:Int) (s:ByteArray),n=m/\(⟨#[]⟩:ByteArray)=s/\((m=n/\s=⟨#[]⟩)\/(m=0/\s=cT [n]))/\(0<=m/\m<=9))/\ ∀(m:Int) (s:ByteArray),(((m=n/\s=⟨#[]⟩)\/(m=0/\s=cT [n]))/\(0<=m/\m<=9))->Nb (m=0) ((10:Int)≠0/\(decide ((Int.tmod m (10:Int))<0))=false/\dO ((48:Int)+(Int.tmod m (10:Int)))/\[[.int .u8 (IntKind.u8.wrap ((48:Int)+(Int.tmod m (10:Int))))]]= [IntKind.u8.wrap ((48:Int)+(Int.tmod m (10:Int)))].map bN/\(lS [IntKind.u8.wrap ((48:Int)+(Int.tmod m (10:Int)))]).size+s.size<=9223372036854775807/\(10:Int)≠0/\dO (Int.tdiv m (10:Int))/\ ∃(m' :Int) (s' :ByteArray),(Int.tdiv m (10:Int))=m' /\((lS [IntKind.u8.wrap ((48:Int)+(Int.tmod m (10:Int)))])++s)=s' /\(((m' =n/\s' =⟨#[]⟩)\/(m' =0/\s' =cT [n]))/\(0<=m' /\m' <=9))/\m'.toNat<m.toNat) ((decide (n<0))=false/\s=(cT [n])/\True))) (by kernel_rfl) ?_;refine dd (fun c0=>?_) fun c0=>?_
 ·apply et1
  ·first|(subst c0;rfl)|(rcases hv with ⟨rfl,_⟩ | ⟨_,rfl⟩;(exact absurd c1 c0);rfl)
 ·refine⟨⟨n,(⟨#[]⟩:ByteArray),rfl,rfl,.inl ⟨rfl,rfl⟩,hn⟩,fun m s ⟨hv,hb⟩=>?_⟩;refine dn (fun c1=>?_) fun c1=>?_
  ·have htm:=aMQ hb.1 hb.2;have htd:=aMR hb.1 hb.2;have hdone:lS [IntKind.u8.wrap (48+Int.tmod m 10)]++s=cT [n]:=by rcases hv with ⟨rfl,rfl⟩ | ⟨rfl,_⟩;(rw[aKk,htm];rfl);(exact absurd rfl c1)
   refine⟨by omega,by simp;omega,by first|exact⟨by omega,by omega⟩|(rw[htd];exact⟨by omega,by omega⟩),rfl,by rcases hv with ⟨_,rfl⟩ | ⟨_,rfl⟩;(show 1+0<=9223372036854775807;omega);(show 1+1<=9223372036854775807;omega),by omega,by first|exact⟨by omega,by omega⟩|(rw[htd];exact⟨by omega,by omega⟩),?_⟩;exact⟨Int.tdiv m (10:Int),_,rfl,rfl,⟨.inr ⟨htd,hdone⟩,by rw[htd];omega⟩,by rw[htd];omega⟩
  ·refine⟨by simp;omega,?_,trivial⟩
   ·first|(subst c0;rfl)|(rcases hv with ⟨rfl,_⟩ | ⟨_,rfl⟩;(exact absurd c1 c0);rfl)
abbrev rN (l:List Int):Prop:=Cn 35 [.one (.sl 3 1 (l.map aE))] (.p none (.str (cT l))) []
theorem aC9 (l:List Int)(hl:l.length<=1048576)(hd: ∀x∈l,0<=x/\x<=9):rN l:=by
 refine cq Tryz.func35 (.len l.length<| .loop (Nat × (List Int)) (Q2 Nat (List Int)) ([3,5,6]++rg 9 11) [600,1700,1800] (fun yy0=>[(3,.own 600),(9,vI (yy0.1:Int))]) (fun yy0=>[(600,some (.arr 5 1 true (yy0.2.map bN)))]) (fun yy0=>yy0.1<=l.length/\yy0.2=(l.take yy0.1).map dig) (fun yy0=>l.length - yy0.1) (fun yy0=> .br (.elem _ aE l (fun e11=> .app Int bN yy0.2 ([IntKind.u8.wrap ((48:Int)+e11)]:List Int)<| .back [(600,1800)])) (.bytes yy0.2<| .fin []))) (p:=Lx (l.map aE)<| Lm aE l/\((∃(k:Nat) (out:List Int),0=(k:Int)/\[]=out.map bN/\k<=l.length/\out=(l.take k).map dig)/\ ∀(k:Nat) (out:List Int),(k<=l.length/\out=(l.take k).map dig)->Br ((k:Int)<(l.length:Int)) (0<=(k:Int)/\Em aE l k fun e11=>dO ((48:Int)+e11)/\Ap bN out ([IntKind.u8.wrap ((48:Int)+e11)]:List Int) 1 (dO ((k:Int)+1)/\ ∃(k' :Nat) (out' :List Int),((k:Int)+1)=(k' :Int)/\(out++[IntKind.u8.wrap ((48:Int)+e11)]).map bN=out'.map bN/\(k' <=l.length/\out' =(l.take k').map dig)/\l.length - k' <l.length - k)) (out.map bN=out.map bN/\(lS out)=(cT l)/\True))) (by kernel_rfl) ?_;refine lx fun n0=>?_;refine⟨aBS _,⟨0,([]:List Int),rfl,rfl,aB2 _,rfl⟩,fun k out ⟨hk,ho⟩=>?_⟩;refine dd (fun c0=>?_) fun c0=>?_
 ·refine⟨by omega,rfl,by omega,fun e11 h11=>?_⟩;have hx:=hd _ (aCO h11);refine⟨⟨by omega,by omega⟩,?_⟩;refine ap ?_ (fun _=>rfl) (by simp[ho];omega);refine⟨⟨by omega,by omega⟩,?_⟩;exact⟨k+1,out++[IntKind.u8.wrap ((48:Int)+e11)],rfl,rfl,⟨by omega,by rw[ho,bR h11,aHr];rfl⟩,by omega⟩
 ·refine⟨rfl,?_,trivial⟩
  ·rw[ho,aE4 (by omega)];rfl
abbrev rO (l:List Int):Prop:=Cn 31 [.one (.sl 3 1 (l.map aE))] (.p none (.str (cT l))) []
theorem aCa (l:List Int)(hl:l.length<=1048576)(hd: ∀x∈l,0<=x/\x<=9):rO l:=by
 refine cq Tryz.func31 (.loop Nat (Q1 Nat) (rg 3 15) [] (fun k=>[(4,vI (k:Int)),(3,.p none (.str (cT (l.take k))))]) (fun k=>[]) (fun k=>k<=l.length) (fun k=>l.length - k) (fun k=> .len l.length<| .br (.elem _ aE l (fun e14=> .call (.p none (.str (cT [e14]))) []<| .back [])) (.fin []))) (p:=Lx (l.map aE)<| (∃(k:Nat),0=(k:Int)/\(⟨#[]⟩:ByteArray)=(cT (l.take k))/\k<=l.length)/\ ∀(k:Nat),k<=l.length->Lm aE l/\Br ((k:Int)<(l.length:Int)) (0<=(k:Int)/\Em aE l k fun e14=>rM e14/\(cT (l.take k)).size+(cT [e14]).size<=9223372036854775807/\dO ((k:Int)+1)/\ ∃(k' :Nat),((k:Int)+1)=(k' :Int)/\((cT (l.take k))++(cT [e14]))=(cT (l.take k'))/\k' <=l.length/\l.length - k' <l.length - k) ((cT (l.take k))=(cT l)/\True)) (by kernel_rfl) ?_;refine lx fun n0=>?_;refine⟨⟨0,(by first|rfl|(rw[bR h14,wJ];done)),(by first|rfl|(rw[bR h14,wJ];done)),aB2 _⟩,fun k hk=>?_⟩;refine⟨aBS _,dd (fun c0=>?_) fun c0=>?_⟩
 ·refine⟨by omega,rfl,by omega,fun e14 h14=>?_⟩;have hx:=hd _ (aCO h14);refine⟨aC8 _ (by omega),by first|(rw[dU,dU];simp;omega)|(simp only[ByteArray.size_append,dU];simp;omega),⟨by omega,by omega⟩,?_⟩;exact⟨k+1,(by first|rfl|(rw[bR h14,wJ];done)),(by first|rfl|(rw[bR h14,wJ];done)),by omega,by omega⟩
 ·apply et1
  ·rw[aE4 (by omega)]
theorem aKl {t:aJ}{cols:List Int}{x:Int}(h:x∈(bT t cols).2):0<=x/\x<=8:=by
 cases h0:(aL t&&cO (t.arity - 1) cols) with
 | false=>rw[vW h0] at h;simp at h
 | true=>
   rw[lZ h0] at h;simp only[aH1,aJl] at h;obtain⟨g,_,rfl⟩:=h;have h1:=(tW h0).1;have h2:=List.length_filter_le (fun x=>decide (g=x)) (fM t cols);unfold eG;omega
theorem aAv {x:TableStatsD}{cols:List Int}{y:Int}(h:y∈eH x cols):0<=y/\y<=9:=by
 cases h0:aU x with
 | false=>rw[aD1 h0] at h;simp at h
 | true=>
   rw[rK h0] at h;have:=aKl ((pF _).mem_iff.1 h);omega
def fsG (x:TableStatsD)(k:Nat):aG:=x.groups.getD k cG
def wK (x:TableStatsD):Nat->ByteArray
 | 0=>x.name++(⟨#[58]⟩:ByteArray)++cT [x.rowCount]
 | k+1=>wK x k++((⟨#[32]⟩:ByteArray)++cT (fsG x k).columns++(⟨#[61]⟩:ByteArray)++cT (eH x (fsG x k).columns))
def kI (x:TableStatsD):ByteArray:=if aU x=true then wK x x.groups.length else ⟨#[]⟩
theorem wL {x:TableStatsD}(h:aU x=true):kI x=wK x x.groups.length:=by rw[kI,if_pos h]
theorem zN {x:TableStatsD}(h:aU x=false):kI x=⟨#[]⟩:=by rw[kI,if_neg (by rw[h];decide)]
theorem aAw {n:Int}(hn:1<=n/\n<=3):(aM n).length<=7/\ ∀c∈aM n,c.length<=3/\ ∀y∈c,0<=y/\y<=9:=by
 have:n=1\/n=2\/n=3:=by omega
 rcases this with rfl | rfl | rfl<;>decide
theorem aAx {x:TableStatsD}(h:aU x=true):(0<=x.rowCount/\x.rowCount<=8)/\x.groups.length<=7/\x.name.size=1:=by
 have h1:=aH9 h;have h2:=bJ (jE h).1;have h3:=(aAw (aC1 h)).1;have h4:=(fK (jE h).1).2.1;have e:(bS x).rows=iO x:=rfl;rw[e] at h2;refine⟨by rw[h1];omega,by rw[aAs h,aBS];exact h3,?_⟩;have e2:(bS x).name=x.name:=rfl;simp only[dX,e2,aBT,aMX] at h4;omega
theorem wM {x:TableStatsD}(h:aU x=true){g:aG}(hg:g∈x.groups):g.columns.length<=3/\(∀y∈g.columns,0<=y/\y<=9)/\eH x g.columns=cK g.counts/\g.counts.length<=8/\ ∀y∈cK g.counts,0<=y/\y<=9:=by
 rw[aAs h] at hg;obtain⟨c,hc,rfl⟩:=aJl.1 hg;obtain⟨c1,c2⟩:=(aAw (aC1 h)).2 c hc;have e:eH x c=cK (bT (bS x) c).2:=rK h;refine⟨c1,c2,e,?_,fun y hy=>?_⟩
 ·have:=wH x c;rw[e,sK] at this;exact this
 have hy:y∈cK (bT (bS x) c).2:=hy;rw[<-e] at hy;exact aAv hy
theorem aKm {x:TableStatsD}{k:Nat}(hk:k<x.groups.length):fsG x k∈x.groups:=by
 rw[fsG,aFr,aCp hk];exact aMv hk
theorem aAy {x:TableStatsD}(h:aU x=true): ∀k,k<=x.groups.length->(wK x k).size<=3+k*13
 | 0,_=>by
   have:=(aAx h).2.2;have e:(⟨#[58]⟩:ByteArray).size=1:=rfl;rw[wK,ByteArray.size_append,ByteArray.size_append,dU,e];simp only[aJv,List.length_nil];omega
 | k+1,hk=>by
   have ih:=aAy h k (by omega);have hg:=wM h (aKm (x:=x) (k:=k) (by omega));have hs:=wH x (fsG x k).columns;have e:(⟨#[32]⟩:ByteArray).size=1:=rfl;have e2:(⟨#[61]⟩:ByteArray).size=1:=rfl;rw[wK,ByteArray.size_append,ByteArray.size_append,ByteArray.size_append,ByteArray.size_append,dU,dU,e,e2];omega
abbrev kJ (x:TableStatsD):Prop:=Cn 8 [.agg [.str x.name,.int .i64 x.arity,.int .i64 x.rowCount,.sl 62 3 (x.groups.map aA)]] (.p none (.str (kI x))) []
theorem sL (x:TableStatsD)(hc:aT x<=1048576):kJ x:=by
 refine cq Tryz.func8 (.call (vB (aU x)) []<| .br (.fin []) (.call (.p none (.str (cT [x.rowCount]))) []<| .len x.groups.length<| .loop Nat (Q1 Nat) ([3,5]++rg 19 18) [500,3200] (fun k=>[(19,vI (k:Int)),(3,.p none (.str (wK x k)))]) (fun k=>[]) (fun k=>k<=x.groups.length) (fun k=>x.groups.length - k) (fun k=> .br (.elem _ aA x.groups (fun e21=> .call (.p none (.str (cT e21.columns))) []<| bC (jG x e21.columns)<| .call (.p none (.str (cT (eH x e21.columns)))) []<| .back [])) (.fin [])))) (p:=Lx (x.groups.map aA)<| mE x/\Nr (aU x) ((⟨#[]⟩:ByteArray)=(kI x)/\True) (x.name.size+(⟨#[58]⟩:ByteArray).size<=9223372036854775807/\(yW x.rowCount/\((x.name++(⟨#[58]⟩:ByteArray)).size+(cT [x.rowCount]).size<=9223372036854775807/\(Lm aA x.groups/\((∃(k:Nat),0=(k:Int)/\((x.name++(⟨#[58]⟩:ByteArray))++(cT [x.rowCount]))=(wK x k)/\k<=x.groups.length)/\ ∀(k:Nat),k<=x.groups.length->Br ((k:Int)<(x.groups.length:Int)) (0<=(k:Int)/\Em aA x.groups k fun e21=>rN e21.columns/\(⟨#[32]⟩:ByteArray).size+(cT e21.columns).size<=9223372036854775807/\((⟨#[32]⟩:ByteArray)++(cT e21.columns)).size+(⟨#[61]⟩:ByteArray).size<=9223372036854775807/\mF x e21.columns/\rN (eH x e21.columns)/\(((⟨#[32]⟩:ByteArray)++(cT e21.columns))++(⟨#[61]⟩:ByteArray)).size+(cT (eH x e21.columns)).size<=9223372036854775807/\(wK x k).size+((((⟨#[32]⟩:ByteArray)++(cT e21.columns))++(⟨#[61]⟩:ByteArray))++(cT (eH x e21.columns))).size<=9223372036854775807/\dO ((k:Int)+1)/\ ∃(k' :Nat),((k:Int)+1)=(k' :Int)/\((wK x k)++((((⟨#[32]⟩:ByteArray)++(cT e21.columns))++(⟨#[61]⟩:ByteArray))++(cT (eH x e21.columns))))=(wK x k')/\k' <=x.groups.length/\x.groups.length - k' <x.groups.length - k) ((wK x k)=(kI x)/\True))))))) (by kernel_rfl) ?_;refine lx fun n0=>?_;have y1:(⟨#[58]⟩:ByteArray).size=1:=rfl;have y2:(⟨#[32]⟩:ByteArray).size=1:=rfl;have y3:(⟨#[61]⟩:ByteArray).size=1:=rfl;refine⟨wE _ (by omega),dm (fun c0=>?_) fun c0=>?_⟩
 ·apply et1
  ·first|(rw[zN (by simpa using c0)];done)|(rw[wL hok,show x.groups.length=k by omega])
 ·have hok:aU x=true:=by simpa using c0
  obtain⟨f1,f2,f3⟩:=aAx hok;have f4:(cT [x.rowCount]).size=1:=dU _;refine⟨by first|omega|(simp only[ByteArray.size_append];omega),aHe _ (by omega),by first|omega|(simp only[ByteArray.size_append];omega),aBS _,⟨0,(by first|rfl|(rw[wK,z5];done)),(by first|rfl|(rw[wK,z5];done)),aB2 _⟩,fun k hk=>?_⟩;have hz:=aAy hok k (by omega);refine dd (fun c1=>?_) fun c1=>?_
  ·refine⟨by omega,rfl,by omega,fun e21 h21=>?_⟩;obtain⟨w1,w2,w3,w4,w5⟩:=wM hok (aCO h21);have hsl:=wH x e21.columns;have hd2: ∀y∈eH x e21.columns,0<=y/\y<=9:=fun y hy=>aAv hy;have z1:=dU e21.columns;have z2:=dU (eH x e21.columns);have z3:=dU (cK e21.counts);have z4:=sK e21.counts;have z5:fsG x k=e21:=bW h21;refine⟨aC9 _ (by omega) (by assumption),by first|omega|(simp only[ByteArray.size_append];omega),by first|omega|(simp only[ByteArray.size_append];omega),wI _ e21.columns (by omega) (by omega),aC9 _ (by omega) (by assumption),by first|omega|(simp only[ByteArray.size_append];omega),by first|omega|(simp only[ByteArray.size_append];omega),⟨by omega,by omega⟩,?_⟩;exact⟨k+1,(by first|rfl|(rw[wK,z5];done)),(by first|rfl|(rw[wK,z5];done)),by omega,by omega⟩
  ·apply et1
   ·first|(rw[zN (by simpa using c0)];done)|(rw[wL hok,show x.groups.length=k by omega])
abbrev kK (x:TableStatsD):Prop:=Cn 6 [.agg [.str x.name,.int .i64 x.arity,.int .i64 x.rowCount,.sl 62 3 (x.groups.map aA)]] (.p none (.str (kI x))) []
theorem sM (x:TableStatsD)(hc:aT x<=1048576):kK x:=by
 refine cq Tryz.func6 (.call (vB (aU x)) []<| .br (.fin []) (.call (.p none (.str (cT [x.rowCount]))) []<| .loop Nat (Q1 Nat) ([3,4]++rg 15 27) [] (fun k=>[(4,vI (k:Int)),(3,.p none (.str (wK x k)))]) (fun k=>[]) (fun k=>k<=x.groups.length) (fun k=>x.groups.length - k) (fun k=> .len x.groups.length<| .br (.elem _ aA x.groups (fun e27=> .call (.p none (.str (cT e27.columns))) []<| .elem _ aA x.groups (fun e36=> .call (.p none (.sl 3 1 ((cK e36.counts).map aE))) []<| .call (.p none (.str (cT (cK e36.counts)))) []<| .back []))) (.fin [])))) (p:=Lx (x.groups.map aA)<| jF x/\Nr (aU x) ((⟨#[]⟩:ByteArray)=(kI x)/\True) (x.name.size+(⟨#[58]⟩:ByteArray).size<=9223372036854775807/\(rM x.rowCount/\((x.name++(⟨#[58]⟩:ByteArray)).size+(cT [x.rowCount]).size<=9223372036854775807/\((∃(k:Nat),0=(k:Int)/\((x.name++(⟨#[58]⟩:ByteArray))++(cT [x.rowCount]))=(wK x k)/\k<=x.groups.length)/\ ∀(k:Nat),k<=x.groups.length->Lm aA x.groups/\Br ((k:Int)<(x.groups.length:Int)) ((wK x k).size+(⟨#[32]⟩:ByteArray).size<=9223372036854775807/\0<=(k:Int)/\Em aA x.groups k fun e27=>rO e27.columns/\((wK x k)++(⟨#[32]⟩:ByteArray)).size+(cT e27.columns).size<=9223372036854775807/\(((wK x k)++(⟨#[32]⟩:ByteArray))++(cT e27.columns)).size+(⟨#[61]⟩:ByteArray).size<=9223372036854775807/\0<=(k:Int)/\Em aA x.groups k fun e36=>rH e36.counts/\rO (cK e36.counts)/\((((wK x k)++(⟨#[32]⟩:ByteArray))++(cT e27.columns))++(⟨#[61]⟩:ByteArray)).size+(cT (cK e36.counts)).size<=9223372036854775807/\dO ((k:Int)+1)/\ ∃(k' :Nat),((k:Int)+1)=(k' :Int)/\(((((wK x k)++(⟨#[32]⟩:ByteArray))++(cT e27.columns))++(⟨#[61]⟩:ByteArray))++(cT (cK e36.counts)))=(wK x k')/\k' <=x.groups.length/\x.groups.length - k' <x.groups.length - k) ((wK x k)=(kI x)/\True)))))) (by kernel_rfl) ?_;refine lx fun n0=>?_;have y1:(⟨#[58]⟩:ByteArray).size=1:=rfl;have y2:(⟨#[32]⟩:ByteArray).size=1:=rfl;have y3:(⟨#[61]⟩:ByteArray).size=1:=rfl;refine⟨rJ _ (by omega),dm (fun c0=>?_) fun c0=>?_⟩
 ·apply et1
  ·first|(rw[zN (by simpa using c0)];done)|(rw[wL hok,show x.groups.length=k by omega])
 ·have hok:aU x=true:=by simpa using c0
  obtain⟨f1,f2,f3⟩:=aAx hok;have f4:(cT [x.rowCount]).size=1:=dU _;refine⟨by first|omega|(simp only[ByteArray.size_append];omega),aC8 _ (by omega),by first|omega|(simp only[ByteArray.size_append];omega),⟨0,(by first|rfl|(rw[wK,z5,w3];simp only[ByteArray.append_assoc];done)),(by first|rfl|(rw[wK,z5,w3];simp only[ByteArray.append_assoc];done)),aB2 _⟩,fun k hk=>?_⟩;have hz:=aAy hok k (by omega);refine⟨aBS _,dd (fun c1=>?_) fun c1=>?_⟩
  ·refine⟨by first|omega|(simp only[ByteArray.size_append];omega),by omega,rfl,by omega,fun e27 h27=>?_⟩;obtain⟨w1,w2,w3,w4,w5⟩:=wM hok (aCO h27);have hsl:=wH x e27.columns;have hd2: ∀y∈eH x e27.columns,0<=y/\y<=9:=fun y hy=>aAv hy;have z1:=dU e27.columns;have z2:=dU (eH x e27.columns);have z3:=dU (cK e27.counts);have z4:=sK e27.counts;have z5:fsG x k=e27:=bW h27;refine⟨aCa _ (by omega) (by assumption),by first|omega|(simp only[ByteArray.size_append];omega),by first|omega|(simp only[ByteArray.size_append];omega),by omega,rfl,by omega,fun e36 h36=>?_⟩;obtain rfl:=bF h27 h36;refine⟨aC6 _ (by omega),aCa _ (by omega) (by assumption),by first|omega|(simp only[ByteArray.size_append];omega),⟨by omega,by omega⟩,?_⟩;exact⟨k+1,(by first|rfl|(rw[wK,z5,w3];simp only[ByteArray.append_assoc];done)),(by first|rfl|(rw[wK,z5,w3];simp only[ByteArray.append_assoc];done)),by omega,by omega⟩
  ·apply et1
   ·first|(rw[zN (by simpa using c0)];done)|(rw[wL hok,show x.groups.length=k by omega])
abbrev oH (x:List Int):AV × List (Nat × Rs):=(.own 0,[(0,.arr 3 1 true (x.map aE))])
abbrev sN (x:List Int):Prop:=Cn 97 [.one (.sl 3 1 (x.map aE))] (oH x).1 (oH x).2
theorem aD2 (x:List Int)(hc:bY x<=1048576):sN x:=by
 refine cq Tryz.func97 (.len x.length<| .mk x.length [.int .i64 (0:Int)] ((List.replicate x.length (0:Int)).map aE)<| .loop (Nat × (List Int)) (Q2 Nat (List Int)) ([3,4]++rg 8 13) [700] (fun yy0=>[(3,.own 700),(4,vI (yy0.1:Int))]) (fun yy0=>[(700,some (.arr 3 1 true (yy0.2.map aE)))]) (fun yy0=>yy0.1<=x.length/\yy0.2=x.take yy0.1++List.replicate (x.length - yy0.1) (0:Int)) (fun yy0=>x.length - yy0.1) (fun yy0=> .len x.length<| .br (.elem _ aE x (fun e18=> .len yy0.2.length<| .set Int aE yy0.2 (fun s5_7=>e18) (fun s5_7=> .back [(700,700)]))) (.fin [(0,700)]))) (p:=Lx (x.map aE)<| Lm aE x/\((x.length:Int)=(x.length:Int)/\(x.length:Int)=(x.length:Int)/\8*x.length<=281474976710656/\x.length<=9223372036854775807/\List.replicate x.length [.int .i64 (0:Int)]=(List.replicate x.length (0:Int)).map aE/\((∃(k:Nat) (out:List Int),0=(k:Int)/\(List.replicate x.length (0:Int)).map aE=out.map aE/\k<=x.length/\out=x.take k++List.replicate (x.length - k) (0:Int))/\ ∀(k:Nat) (out:List Int),(k<=x.length/\out=x.take k++List.replicate (x.length - k) (0:Int))->Lm aE x/\Br ((k:Int)<(x.length:Int)) (0<=(k:Int)/\Em aE x k fun e18=>0<=(k:Int)/\Lm aE out/\(k:Int)<(out.length:Int)/\(out.map aE=out.map aE/\k<out.length/\ ∀s5_7,out[k]? =some s5_7->nV (aE s5_7)=true/\0+1<=(aE s5_7).length/\(aE s5_7).take 0++[.int .i64 e18]++(aE s5_7).drop (0+1)=aE e18/\dO ((k:Int)+1)/\ ∃(k' :Nat) (out' :List Int),((k:Int)+1)=(k' :Int)/\(out.set k e18).map aE=out'.map aE/\(k' <=x.length/\out' =x.take k' ++List.replicate (x.length - k') (0:Int))/\x.length - k' <x.length - k)) (out.map aE=x.map aE/\True)))) (by kernel_rfl) ?_;refine lx fun n0=>?_;refine⟨aBS _,rfl,rfl,by have:=aCQ x;omega,by have:=aCQ x;omega,by (rw[aLK];done),⟨0,List.replicate x.length (0:Int),rfl,rfl,aB2 _,by simp⟩,fun k out ⟨hk,ho⟩=>?_⟩;have hl:out.length=x.length:=by rw[ho];exact aAc hk
 refine⟨aBS _,dd (fun c0=>?_) fun c0=>?_⟩
 ·refine⟨by omega,rfl,by omega,fun e18 h18=>?_⟩;refine⟨by omega,aBS _,by omega,rfl,by omega,fun s5_7 hs5_7=>⟨rfl,aCd rfl,rfl,?_⟩⟩;refine⟨⟨by omega,by omega⟩,?_⟩;exact⟨k+1,out.set k e18,rfl,rfl,⟨by omega,by rw[ho];exact xN ‹x[k]? =some _›⟩,by omega⟩
 ·apply et1
  ·rw[ho,xO hk (by omega)]
abbrev uC (x:List (List Int)):AV × List (Nat × Rs):=(.own 0,[(0,.arr 38 1 true (x.map aB))])
abbrev aAz (x:List (List Int)):Prop:=Cn 98 [.one (.sl 38 1 (x.map aB))] (uC x).1 (uC x).2
theorem aJT (x:List (List Int))(hc:aX x<=1048576):aAz x:=by
 refine cq Tryz.func98 (.len x.length<| .mk x.length [.sl 3 1 (([]:List Int).map aE)] ((List.replicate x.length ([]:List Int)).map aB)<| .loop (Nat × (List (List Int))) (Q2 Nat (List (List Int))) ([3,4]++rg 8 14) [700,2000] (fun yy0=>[(3,.own 700),(4,vI (yy0.1:Int))]) (fun yy0=>[(700,some (.arr 38 1 true (yy0.2.map aB)))]) (fun yy0=>yy0.1<=x.length/\yy0.2=x.take yy0.1++List.replicate (x.length - yy0.1) ([]:List Int)) (fun yy0=>x.length - yy0.1) (fun yy0=> .len x.length<| .br (.elem _ aB x (fun e18=>bC (oH e18)<| .len yy0.2.length<| .setm (List Int) aB yy0.2 (fun s5_8=>e18) (fun s5_8=> .back [(700,700)]))) (.fin [(0,700)]))) (p:=Lx (x.map aB)<| Lm aB x/\((x.length:Int)=(x.length:Int)/\(x.length:Int)=(x.length:Int)/\24*x.length<=281474976710656/\x.length<=9223372036854775807/\List.replicate x.length [.sl 3 1 (([]:List Int).map aE)]=(List.replicate x.length ([]:List Int)).map aB/\((∃(k:Nat) (out:List (List Int)),0=(k:Int)/\(List.replicate x.length ([]:List Int)).map aB=out.map aB/\k<=x.length/\out=x.take k++List.replicate (x.length - k) ([]:List Int))/\ ∀(k:Nat) (out:List (List Int)),(k<=x.length/\out=x.take k++List.replicate (x.length - k) ([]:List Int))->Lm aB x/\Br ((k:Int)<(x.length:Int)) (0<=(k:Int)/\Em aB x k fun e18=>sN e18/\(0<=(k:Int)/\Lm aB out/\(k:Int)<(out.length:Int)/\(out.map aB=out.map aB/\k<out.length/\ ∀s5_8,out[k]? =some s5_8->0+1<=(aB s5_8).length/\(aB s5_8).take 0++((aB e18).drop 0).take 1++(aB s5_8).drop (0+1)=aB e18/\e18.map aE=e18.map aE/\dO ((k:Int)+1)/\ ∃(k' :Nat) (out' :List (List Int)),((k:Int)+1)=(k' :Int)/\(out.set k e18).map aB=out'.map aB/\(k' <=x.length/\out' =x.take k' ++List.replicate (x.length - k') ([]:List Int))/\x.length - k' <x.length - k))) (out.map aB=x.map aB/\True)))) (by kernel_rfl) ?_;refine lx fun n0=>?_;refine⟨aBS _,rfl,rfl,by have:=cI x;omega,by have:=cI x;omega,by (rw[aLK];rfl),⟨0,List.replicate x.length ([]:List Int),rfl,rfl,aB2 _,by simp⟩,fun k out ⟨hk,ho⟩=>?_⟩;have hl:out.length=x.length:=by rw[ho];exact aAc hk
 refine⟨aBS _,dd (fun c0=>?_) fun c0=>?_⟩
 ·refine⟨by omega,rfl,by omega,fun e18 h18=>?_⟩;refine⟨aD2 e18 (by (have:=aCR ‹x[k]? =some _›;omega)),by omega,aBS _,by omega,rfl,by omega,fun s5_8 hs5_8=>?_⟩;refine⟨aCd rfl,rfl,rfl,⟨by omega,by omega⟩,?_⟩;exact⟨k+1,out.set k e18,rfl,rfl,⟨by omega,by rw[ho];exact xN ‹x[k]? =some _›⟩,by omega⟩
 ·apply et1
  ·rw[ho,xO hk (by omega)]
abbrev kO (x:aG):AV × List (Nat × Rs):=(.agg [.own 0,.own 1,.own 2],[(0,.arr 3 1 true (x.columns.map aE)),(1,.arr 38 1 true (x.values.map aB)),(2,.arr 3 1 true (x.counts.map aE))])
abbrev pN (x:aG):Prop:=Cn 64 [.agg [.sl 3 1 (x.columns.map aE),.sl 38 1 (x.values.map aB),.sl 3 1 (x.counts.map aE)]] (kO x).1 (kO x).2
theorem aBb (x:aG)(hc:aR x<=1048576):pN x:=by
 refine cq Tryz.func64 (bC (oH x.columns)<| bC (uC x.values)<| bC (oH x.counts)<| .fin [(0,600),(1,1000),(2,1400)]) (p:=Lx (x.columns.map aE)<| Lx (x.values.map aB)<| Lx (x.counts.map aE)<| sN x.columns/\aAz x.values/\sN x.counts/\x.columns.map aE=x.columns.map aE/\x.values.map aB=x.values.map aB/\x.counts.map aE=x.counts.map aE/\True) (by kernel_rfl) ?_;refine lx fun n0=>lx fun n1=>lx fun n2=>?_;unfold aR at hc;refine⟨aD2 x.columns (by omega),aJT x.values (by omega),aD2 x.counts (by omega),?_⟩;exact⟨rfl,rfl,rfl,trivial⟩
abbrev jH (x:List aG):AV × List (Nat × Rs):=(.own 0,[(0,.arr 62 3 true (x.map aA))])
abbrev oI (x:List aG):Prop:=Cn 33 [.one (.sl 62 3 (x.map aA))] (jH x).1 (jH x).2
theorem aBA (x:List aG)(hc:cD x<=1048576):oI x:=by
 refine cq Tryz.func33 (.len x.length<| .mk x.length [.sl 3 1 (cG.columns.map aE),.sl 38 1 (cG.values.map aB),.sl 3 1 (cG.counts.map aE)] ((List.replicate x.length cG).map aA)<| .loop (Nat × (List aG)) (Q2 Nat (List aG)) ([3,4]++rg 8 14) [700,2000,2001,2002] (fun yy0=>[(3,.own 700),(4,vI (yy0.1:Int))]) (fun yy0=>[(700,some (.arr 62 3 true (yy0.2.map aA)))]) (fun yy0=>yy0.1<=x.length/\yy0.2=x.take yy0.1++List.replicate (x.length - yy0.1) cG) (fun yy0=>x.length - yy0.1) (fun yy0=> .len x.length<| .br (.elem _ aA x (fun e18=>bC (kO e18)<| .len yy0.2.length<| .setm aG aA yy0.2 (fun s5_8=>e18) (fun s5_8=> .back [(700,700)]))) (.fin [(0,700)]))) (p:=Lx (x.map aA)<| Lm aA x/\((x.length:Int)=(x.length:Int)/\(x.length:Int)=(x.length:Int)/\72*x.length<=281474976710656/\x.length<=9223372036854775807/\List.replicate x.length [.sl 3 1 (cG.columns.map aE),.sl 38 1 (cG.values.map aB),.sl 3 1 (cG.counts.map aE)]=(List.replicate x.length cG).map aA/\((∃(k:Nat) (out:List aG),0=(k:Int)/\(List.replicate x.length cG).map aA=out.map aA/\k<=x.length/\out=x.take k++List.replicate (x.length - k) cG)/\ ∀(k:Nat) (out:List aG),(k<=x.length/\out=x.take k++List.replicate (x.length - k) cG)->Lm aA x/\Br ((k:Int)<(x.length:Int)) (0<=(k:Int)/\Em aA x k fun e18=>pN e18/\(0<=(k:Int)/\Lm aA out/\(k:Int)<(out.length:Int)/\(out.map aA=out.map aA/\k<out.length/\ ∀s5_8,out[k]? =some s5_8->0+3<=(aA s5_8).length/\(aA s5_8).take 0++((aA e18).drop 0).take 3++(aA s5_8).drop (0+3)=aA e18/\e18.columns.map aE=e18.columns.map aE/\e18.values.map aB=e18.values.map aB/\e18.counts.map aE=e18.counts.map aE/\dO ((k:Int)+1)/\ ∃(k' :Nat) (out' :List aG),((k:Int)+1)=(k' :Int)/\(out.set k e18).map aA=out'.map aA/\(k' <=x.length/\out' =x.take k' ++List.replicate (x.length - k') cG)/\x.length - k' <x.length - k))) (out.map aA=x.map aA/\True)))) (by kernel_rfl) ?_;refine lx fun n0=>?_;refine⟨aBS _,rfl,rfl,by have:=dZ x;omega,by have:=dZ x;omega,by (rw[aLK];rfl),⟨0,List.replicate x.length cG,rfl,rfl,aB2 _,by simp⟩,fun k out ⟨hk,ho⟩=>?_⟩;have hl:out.length=x.length:=by rw[ho];exact aAc hk
 refine⟨aBS _,dd (fun c0=>?_) fun c0=>?_⟩
 ·refine⟨by omega,rfl,by omega,fun e18 h18=>?_⟩;refine⟨aBb e18 (by (have:=eO ‹x[k]? =some _›;omega)),by omega,aBS _,by omega,rfl,by omega,fun s5_8 hs5_8=>?_⟩;refine⟨aCd rfl,rfl,rfl,rfl,rfl,⟨by omega,by omega⟩,?_⟩;exact⟨k+1,out.set k e18,rfl,rfl,⟨by omega,by rw[ho];exact xN ‹x[k]? =some _›⟩,by omega⟩
 ·apply et1
  ·rw[ho,xO hk (by omega)]
abbrev fH (x:TableStatsD):AV × List (Nat × Rs):=(.agg [.p none (.str x.name),vI x.arity,vI x.rowCount,.own 0],[(0,.arr 62 3 true (x.groups.map aA))])
abbrev gN (x:TableStatsD):Prop:=Cn 7 [.agg [.str x.name,.int .i64 x.arity,.int .i64 x.rowCount,.sl 62 3 (x.groups.map aA)]] (fH x).1 (fH x).2
theorem nO (x:TableStatsD)(hc:aT x<=1048576):gN x:=by
 refine cq Tryz.func7 (bC (jH x.groups)<| .fin [(0,1500)]) (p:=Lx (x.groups.map aA)<| oI x.groups/\x.name=x.name/\x.arity=x.arity/\x.rowCount=x.rowCount/\x.groups.map aA=x.groups.map aA/\True) (by kernel_rfl) ?_;refine lx fun n0=>?_;unfold aT at hc;refine⟨aBA x.groups (by omega),?_⟩;exact⟨rfl,rfl,rfl,rfl,trivial⟩
abbrev xX (x:List Int):Prop:=Cn 100 [.one (.sl 3 1 (x.map aE)),.one (.sl 3 1 (x.map aE))] (vB true) []
theorem aD3 (x:List Int):xX x:=by
 refine cq Tryz.func100 (.len x.length<| .len x.length<| .no<| .loop Nat (Q1 Nat) ([5]++rg 11 15) [] (fun k=>[(5,vI (k:Int))]) (fun k=>[]) (fun k=>k<=x.length) (fun k=>x.length - k) (fun k=> .len x.length<| .br (.elem _ aE x (fun e19=> .elem _ aE x (fun e23=> .no<| .back []))) (.fin []))) (p:=Lx (x.map aE)<| Lx (x.map aE)<| Lm aE x/\(Lm aE x/\((!(decide ((x.length:Int)=(x.length:Int))))=false/\((∃(k:Nat),0=(k:Int)/\k<=x.length)/\ ∀(k:Nat),k<=x.length->Lm aE x/\Br ((k:Int)<(x.length:Int)) (0<=(k:Int)/\Em aE x k fun e19=>0<=(k:Int)/\Em aE x k fun e23=>(!(decide (e19=e23)))=false/\dO ((k:Int)+1)/\ ∃(k' :Nat),((k:Int)+1)=(k' :Int)/\k' <=x.length/\x.length - k' <x.length - k) ((true)=true/\True))))) (by kernel_rfl) ?_;refine lx fun n0=>lx fun n1=>?_;refine⟨aBS _,aBS _,by simp,⟨0,rfl,aB2 _⟩,fun k hk=>?_⟩;refine⟨aBS _,dd (fun c1=>?_) fun c1=>?_⟩
 ·obtain⟨y,hy⟩:=cS (l:=x) (k:=k) (by omega);refine⟨by omega,rfl,by omega,fun e19 h19=>?_⟩
  try (obtain rfl:=bF hy h19)
  refine⟨by omega,rfl,by omega,fun e23 h23=>?_⟩
  try (obtain rfl:=bF hy h23)
  refine⟨by simp,⟨by omega,by omega⟩,?_⟩;exact⟨k+1,rfl,by omega,by omega⟩
 ·apply et1
  ·rfl
abbrev aBB (x:List (List Int)):Prop:=Cn 101 [.one (.sl 38 1 (x.map aB)),.one (.sl 38 1 (x.map aB))] (vB true) []
theorem aJU (x:List (List Int)):aBB x:=by
 refine cq Tryz.func101 (.len x.length<| .len x.length<| .no<| .loop Nat (Q1 Nat) ([5]++rg 11 16) [] (fun k=>[(5,vI (k:Int))]) (fun k=>[]) (fun k=>k<=x.length) (fun k=>x.length - k) (fun k=> .len x.length<| .br (.elem _ aB x (fun e19=> .elem _ aB x (fun e23=> .call (vB true) []<| .back []))) (.fin []))) (p:=Lx (x.map aB)<| Lx (x.map aB)<| Lm aB x/\(Lm aB x/\((!(decide ((x.length:Int)=(x.length:Int))))=false/\((∃(k:Nat),0=(k:Int)/\k<=x.length)/\ ∀(k:Nat),k<=x.length->Lm aB x/\Br ((k:Int)<(x.length:Int)) (0<=(k:Int)/\Em aB x k fun e19=>0<=(k:Int)/\Em aB x k fun e23=>zC Tryz.prog 100 [.one (.sl 3 1 (e19.map aE)),.one (.sl 3 1 (e23.map aE))] (vB true) []/\dO ((k:Int)+1)/\ ∃(k' :Nat),((k:Int)+1)=(k' :Int)/\k' <=x.length/\x.length - k' <x.length - k) ((true)=true/\True))))) (by kernel_rfl) ?_;refine lx fun n0=>lx fun n1=>?_;refine⟨aBS _,aBS _,by simp,⟨0,rfl,aB2 _⟩,fun k hk=>?_⟩;refine⟨aBS _,dd (fun c1=>?_) fun c1=>?_⟩
 ·obtain⟨y,hy⟩:=cS (l:=x) (k:=k) (by omega);refine⟨by omega,rfl,by omega,fun e19 h19=>?_⟩
  try (obtain rfl:=bF hy h19)
  refine⟨by omega,rfl,by omega,fun e23 h23=>?_⟩
  try (obtain rfl:=bF hy h23)
  refine⟨by exact aD3 _,⟨by omega,by omega⟩,?_⟩;exact⟨k+1,rfl,by omega,by omega⟩
 ·apply et1
  ·rfl
abbrev zF (x:aG):Prop:=Cn 66 [.agg [.sl 3 1 (x.columns.map aE),.sl 38 1 (x.values.map aB),.sl 3 1 (x.counts.map aE)],.agg [.sl 3 1 (x.columns.map aE),.sl 38 1 (x.values.map aB),.sl 3 1 (x.counts.map aE)]] (vB true) []
theorem aBc (x:aG):zF x:=by
 refine cq Tryz.func66 (.call (vB true) []<| .call (vB true) []<| .call (vB true) []<| .fin []) (p:=Lx (x.columns.map aE)<| Lx (x.values.map aB)<| Lx (x.counts.map aE)<| Lx (x.columns.map aE)<| Lx (x.values.map aB)<| Lx (x.counts.map aE)<| xX x.columns/\aBB x.values/\xX x.counts/\(true)=true/\True) (by kernel_rfl) ?_;refine lx fun n0=>lx fun n1=>lx fun n2=>lx fun n3=>lx fun n4=>lx fun n5=>?_;refine⟨by exact aD3 x.columns,by exact aJU x.values,by exact aD3 x.counts,?_,trivial⟩
 ·rfl
abbrev oJ (x:List aG):Prop:=Cn 36 [.one (.sl 62 3 (x.map aA)),.one (.sl 62 3 (x.map aA))] (vB true) []
theorem aBC (x:List aG):oJ x:=by
 refine cq Tryz.func36 (.len x.length<| .len x.length<| .no<| .loop Nat (Q1 Nat) ([5]++rg 11 16) [] (fun k=>[(5,vI (k:Int))]) (fun k=>[]) (fun k=>k<=x.length) (fun k=>x.length - k) (fun k=> .len x.length<| .br (.elem _ aA x (fun e19=> .elem _ aA x (fun e23=> .call (vB true) []<| .back []))) (.fin []))) (p:=Lx (x.map aA)<| Lx (x.map aA)<| Lm aA x/\(Lm aA x/\((!(decide ((x.length:Int)=(x.length:Int))))=false/\((∃(k:Nat),0=(k:Int)/\k<=x.length)/\ ∀(k:Nat),k<=x.length->Lm aA x/\Br ((k:Int)<(x.length:Int)) (0<=(k:Int)/\Em aA x k fun e19=>0<=(k:Int)/\Em aA x k fun e23=>zC Tryz.prog 66 [.agg [.sl 3 1 (e19.columns.map aE),.sl 38 1 (e19.values.map aB),.sl 3 1 (e19.counts.map aE)],.agg [.sl 3 1 (e23.columns.map aE),.sl 38 1 (e23.values.map aB),.sl 3 1 (e23.counts.map aE)]] (vB true) []/\dO ((k:Int)+1)/\ ∃(k' :Nat),((k:Int)+1)=(k' :Int)/\k' <=x.length/\x.length - k' <x.length - k) ((true)=true/\True))))) (by kernel_rfl) ?_;refine lx fun n0=>lx fun n1=>?_;refine⟨aBS _,aBS _,by simp,⟨0,rfl,aB2 _⟩,fun k hk=>?_⟩;refine⟨aBS _,dd (fun c1=>?_) fun c1=>?_⟩
 ·obtain⟨y,hy⟩:=cS (l:=x) (k:=k) (by omega);refine⟨by omega,rfl,by omega,fun e19 h19=>?_⟩
  try (obtain rfl:=bF hy h19)
  refine⟨by omega,rfl,by omega,fun e23 h23=>?_⟩
  try (obtain rfl:=bF hy h23)
  refine⟨by exact aBc _,⟨by omega,by omega⟩,?_⟩;exact⟨k+1,rfl,by omega,by omega⟩
 ·apply et1
  ·rfl
abbrev pO (x:TableStatsD):Prop:=Cn 9 [.agg [.str x.name,.int .i64 x.arity,.int .i64 x.rowCount,.sl 62 3 (x.groups.map aA)],.agg [.str x.name,.int .i64 x.arity,.int .i64 x.rowCount,.sl 62 3 (x.groups.map aA)]] (vB true) []
theorem sZ (x:TableStatsD):pO x:=by
 refine cq Tryz.func9 (.no<| .no<| .no<| .call (vB true) []<| .fin []) (p:=Lx (x.groups.map aA)<| Lx (x.groups.map aA)<| (!(x.name.toList==x.name.toList))=false/\(!(decide (x.arity=x.arity)))=false/\(!(decide (x.rowCount=x.rowCount)))=false/\oJ x.groups/\(true)=true/\True) (by kernel_rfl) ?_;refine lx fun n0=>lx fun n1=>?_;refine⟨by simp,by simp,by simp,by exact aBC x.groups,?_,trivial⟩
 ·rfl
abbrev sO (x:List Int)(m:Int):Prop:=Cn 95 [.one (.sl 3 1 (x.map aE)),.one (.int .i64 m)] (vI (bI (bY x) m)) []
theorem aD4 (x:List Int)(m:Int)(hf:aCP x)(h0:0<=m)(h1:m<=1048576):sO x m:=by
 refine cq Tryz.func95 (.len x.length<| .br (.fin []) (.fin [])) (p:=Lx (x.map aE)<| Lm aE x/\dO (m - (x.length:Int))/\Br ((m - (x.length:Int))<0) ((-1:Int)=(bI (bY x) m)/\True) ((m - (x.length:Int))=(bI (bY x) m)/\True)) (by kernel_rfl) ?_;refine lx fun n0=>?_;refine⟨aBS _,⟨by omega,by omega⟩,dd (fun c0=>?_) fun c0=>?_⟩
 ·apply et1
  ·unfold bY;(rw[fI (by omega)];done)
 ·apply et1
  ·unfold bY;(rw[dV (by omega)];done)
abbrev aBD (x:List (List Int))(m:Int):Prop:=Cn 96 [.one (.sl 38 1 (x.map aB)),.one (.int .i64 m)] (vI (bI (aX x) m)) []
theorem aJV (x:List (List Int))(m:Int)(hf:aDO x)(h0:0<=m)(h1:m<=1048576):aBD x m:=by
 refine cq Tryz.func96 (.len x.length<| .br (.fin []) (.loop (Nat × Int) (Q2 Nat Int) ([1,5]++rg 12 14) [] (fun yy0=>[(5,vI (yy0.1:Int)),(1,vI yy0.2)]) (fun yy0=>[]) (fun yy0=>yy0.1<=x.length/\yy0.2=m - x.length - (gO bY (x.take yy0.1):Nat)/\0<=yy0.2) (fun yy0=>x.length - yy0.1) (fun yy0=> .len x.length<| .br (.elem _ aB x (fun e20=> .call (vI (bI (bY e20) yy0.2)) []<| .br (.fin []) (.back []))) (.fin [])))) (p:=Lx (x.map aB)<| Lm aB x/\(dO (m - (x.length:Int))/\Br ((m - (x.length:Int))<0) ((-1:Int)=(bI (aX x) m)/\True) ((∃(k:Nat) (z:Int),0=(k:Int)/\(m - (x.length:Int))=z/\k<=x.length/\z=m - x.length - (gO bY (x.take k):Nat)/\0<=z)/\ ∀(k:Nat) (z:Int),(k<=x.length/\z=m - x.length - (gO bY (x.take k):Nat)/\0<=z)->Lm aB x/\Br ((k:Int)<(x.length:Int)) (0<=(k:Int)/\Em aB x k fun e20=>sO e20 z/\Br ((bI (bY e20) z)<0) ((-1:Int)=(bI (aX x) m)/\True) (dO ((k:Int)+1)/\ ∃(k' :Nat) (z' :Int),((k:Int)+1)=(k' :Int)/\(bI (bY e20) z)=z' /\(k' <=x.length/\z' =m - x.length - (gO bY (x.take k'):Nat)/\0<=z')/\x.length - k' <x.length - k)) (z=(bI (aX x) m)/\True)))) (by kernel_rfl) ?_;refine lx fun n0=>?_;have hS:aX x=x.length+gO bY x:=rfl;refine⟨aBS _,⟨by omega,by omega⟩,dd (fun c0=>?_) fun c0=>?_⟩
 ·apply et1
  ·(rw[fI (by omega)];done)
 ·refine⟨⟨0,m - (x.length:Int),rfl,rfl,aB2 _,by simp[gO],by omega⟩,fun k z ⟨hk,hz,hz0⟩=>?_⟩;refine⟨aBS _,dd (fun c1=>?_) fun c1=>?_⟩
  ·obtain⟨y,hy⟩:=cS (l:=x) (k:=k) (by omega);have hfy:=hf y (aCO hy);refine⟨by omega,rfl,by omega,fun e20 h20=>?_⟩;obtain rfl:=bF hy h20;refine⟨aD4 e20 _ (by assumption) (by omega) (by omega),dd (fun c2=>?_) fun c2=>?_⟩
   ·have y3:=xM c2;have y4:=rX bY ‹x[k]? =some _›;have y5:=aGB bY x (k+1);apply et1
    ·(rw[fI (by omega)];done)
   ·have y2:=dV (vN c2);have y3:=vN c2;have y4:=rX bY ‹x[k]? =some _›;refine⟨⟨by omega,by omega⟩,?_⟩;exact⟨k+1,bI (bY e20) z,rfl,rfl,⟨by omega,by rw[y2,y4,hz];omega,by rw[y2];omega⟩,by omega⟩
  ·have y6:k=x.length:=by omega
   rw[y6,aLL] at hz;apply et1
   ·(rw[dV (by omega)];omega)
abbrev pP (x:aG)(m:Int):Prop:=Cn 63 [.agg [.sl 3 1 (x.columns.map aE),.sl 38 1 (x.values.map aB),.sl 3 1 (x.counts.map aE)],.one (.int .i64 m)] (vI (bI (aR x) m)) []
theorem aBd (x:aG)(m:Int)(hf:qT x)(h0:0<=m)(h1:m<=1048576):pP x m:=by
 refine cq Tryz.func63 (.call (vI (bI (bY x.columns) m)) []<| .br (.fin []) (.call (vI (bI (aX x.values) (bI (bY x.columns) m))) []<| .br (.fin []) (.call (vI (bI (bY x.counts) (bI (aX x.values) (bI (bY x.columns) m)))) []<| .br (.fin []) (.fin [])))) (p:=Lx (x.columns.map aE)<| Lx (x.values.map aB)<| Lx (x.counts.map aE)<| sO x.columns m/\Br ((bI (bY x.columns) m)<0) ((-1:Int)=(bI (aR x) m)/\True) (aBD x.values (bI (bY x.columns) m)/\Br ((bI (aX x.values) (bI (bY x.columns) m))<0) ((-1:Int)=(bI (aR x) m)/\True) (sO x.counts (bI (aX x.values) (bI (bY x.columns) m))/\Br ((bI (bY x.counts) (bI (aX x.values) (bI (bY x.columns) m)))<0) ((-1:Int)=(bI (aR x) m)/\True) ((bI (bY x.counts) (bI (aX x.values) (bI (bY x.columns) m)))=(bI (aR x) m)/\True)))) (by kernel_rfl) ?_;refine lx fun n0=>lx fun n1=>lx fun n2=>?_;obtain⟨f_columns,f_values,f_counts⟩:=hf;have hmx:maxLen=9223372036854775807:=rfl;refine⟨aD4 x.columns _ (by assumption) (by omega) (by omega),dd (fun c0=>?_) fun c0=>?_⟩
 ·have y0:=xM c0;apply et1
  ·unfold aR;(rw[fI (by omega)];done)
 ·have y0:=vN c0;rw[dV y0] at*;refine⟨aJV x.values _ (by assumption) (by omega) (by omega),dd (fun c1=>?_) fun c1=>?_⟩
  ·have y1:=xM c1;apply et1
   ·unfold aR;(rw[fI (by omega)];done)
  ·have y1:=vN c1;rw[dV y1] at*;refine⟨aD4 x.counts _ (by assumption) (by omega) (by omega),dd (fun c2=>?_) fun c2=>?_⟩
   ·have y2:=xM c2;apply et1
    ·unfold aR;(rw[fI (by omega)];done)
   ·have y2:=vN c2;rw[dV y2] at*;apply et1
    ·unfold aR;(rw[dV (by omega)];omega)
abbrev oK (x:List aG)(m:Int):Prop:=Cn 29 [.one (.sl 62 3 (x.map aA)),.one (.int .i64 m)] (vI (bI (cD x) m)) []
theorem aBE (x:List aG)(m:Int)(hf:kU x)(h0:0<=m)(h1:m<=1048576):oK x m:=by
 refine cq Tryz.func29 (.len x.length<| .br (.fin []) (.loop (Nat × Int) (Q2 Nat Int) ([1,5]++rg 12 14) [] (fun yy0=>[(5,vI (yy0.1:Int)),(1,vI yy0.2)]) (fun yy0=>[]) (fun yy0=>yy0.1<=x.length/\yy0.2=m - x.length - (gO aR (x.take yy0.1):Nat)/\0<=yy0.2) (fun yy0=>x.length - yy0.1) (fun yy0=> .len x.length<| .br (.elem _ aA x (fun e20=> .call (vI (bI (aR e20) yy0.2)) []<| .br (.fin []) (.back []))) (.fin [])))) (p:=Lx (x.map aA)<| Lm aA x/\(dO (m - (x.length:Int))/\Br ((m - (x.length:Int))<0) ((-1:Int)=(bI (cD x) m)/\True) ((∃(k:Nat) (z:Int),0=(k:Int)/\(m - (x.length:Int))=z/\k<=x.length/\z=m - x.length - (gO aR (x.take k):Nat)/\0<=z)/\ ∀(k:Nat) (z:Int),(k<=x.length/\z=m - x.length - (gO aR (x.take k):Nat)/\0<=z)->Lm aA x/\Br ((k:Int)<(x.length:Int)) (0<=(k:Int)/\Em aA x k fun e20=>pP e20 z/\Br ((bI (aR e20) z)<0) ((-1:Int)=(bI (cD x) m)/\True) (dO ((k:Int)+1)/\ ∃(k' :Nat) (z' :Int),((k:Int)+1)=(k' :Int)/\(bI (aR e20) z)=z' /\(k' <=x.length/\z' =m - x.length - (gO aR (x.take k'):Nat)/\0<=z')/\x.length - k' <x.length - k)) (z=(bI (cD x) m)/\True)))) (by kernel_rfl) ?_;refine lx fun n0=>?_;have hS:cD x=x.length+gO aR x:=rfl;refine⟨aBS _,⟨by omega,by omega⟩,dd (fun c0=>?_) fun c0=>?_⟩
 ·apply et1
  ·(rw[fI (by omega)];done)
 ·refine⟨⟨0,m - (x.length:Int),rfl,rfl,aB2 _,by simp[gO],by omega⟩,fun k z ⟨hk,hz,hz0⟩=>?_⟩;refine⟨aBS _,dd (fun c1=>?_) fun c1=>?_⟩
  ·obtain⟨y,hy⟩:=cS (l:=x) (k:=k) (by omega);have hfy:=hf y (aCO hy);refine⟨by omega,rfl,by omega,fun e20 h20=>?_⟩;obtain rfl:=bF hy h20;refine⟨aBd e20 _ (by assumption) (by omega) (by omega),dd (fun c2=>?_) fun c2=>?_⟩
   ·have y3:=xM c2;have y4:=rX aR ‹x[k]? =some _›;have y5:=aGB aR x (k+1);apply et1
    ·(rw[fI (by omega)];done)
   ·have y2:=dV (vN c2);have y3:=vN c2;have y4:=rX aR ‹x[k]? =some _›;refine⟨⟨by omega,by omega⟩,?_⟩;exact⟨k+1,bI (aR e20) z,rfl,rfl,⟨by omega,by rw[y2,y4,hz];omega,by rw[y2];omega⟩,by omega⟩
  ·have y6:k=x.length:=by omega
   rw[y6,aLL] at hz;apply et1
   ·(rw[dV (by omega)];omega)
abbrev pQ (x:TableStatsD)(m:Int):Prop:=Cn 5 [.agg [.str x.name,.int .i64 x.arity,.int .i64 x.rowCount,.sl 62 3 (x.groups.map aA)],.one (.int .i64 m)] (vI (bI (aT x) m)) []
theorem aBe (x:TableStatsD)(m:Int)(hf:qU x)(h0:0<=m)(h1:m<=1048576):pQ x m:=by
 refine cq Tryz.func5 (.br (.fin []) (.call (vI (bI (cD x.groups) (m - (x.name.size:Int)))) []<| .br (.fin []) (.fin []))) (p:=Lx (x.groups.map aA)<| dO (m - (x.name.size:Int))/\Br ((m - (x.name.size:Int))<0) ((-1:Int)=(bI (aT x) m)/\True) (oK x.groups (m - (x.name.size:Int))/\Br ((bI (cD x.groups) (m - (x.name.size:Int)))<0) ((-1:Int)=(bI (aT x) m)/\True) ((bI (cD x.groups) (m - (x.name.size:Int)))=(bI (aT x) m)/\True))) (by kernel_rfl) ?_;refine lx fun n0=>?_;obtain⟨f_name,f_arity,f_rowCount,f_groups⟩:=hf;have hmx:maxLen=9223372036854775807:=rfl;have g_name:x.name.size<=maxLen:=f_name;refine⟨⟨by omega,by omega⟩,dd (fun c0=>?_) fun c0=>?_⟩
 ·apply et1
  ·unfold aT;(rw[fI (by omega)];done)
 ·refine⟨aBE x.groups _ (by assumption) (by omega) (by omega),dd (fun c1=>?_) fun c1=>?_⟩
  ·have y1:=xM c1;apply et1
   ·unfold aT;(rw[fI (by omega)];done)
  ·have y1:=vN c1;rw[dV y1] at*;apply et1
   ·unfold aT;(rw[dV (by omega)];omega)
theorem lawFormatStats (a0:TableStatsD)(h0:qU a0):zC Tryz.prog 3 [.agg [.str a0.name,.int .i64 a0.arity,.int .i64 a0.rowCount,.sl 62 3 (a0.groups.map aA)]] (vB true) []:=by
 refine cq Tryz.func3 (.call (vI (bI (aT a0) (1048576:Int))) []<| .br (.fin []) (bC (fH a0)<| .call (.p none (.str (kI a0))) []<| bC (fH a0)<| .call (.p none (.str (kI a0))) []<| .no<| bC (fH a0)<| .call (vB true) []<| .fin [])) (p:=Lx (a0.groups.map aA)<| pQ a0 (1048576:Int)/\Br ((bI (aT a0) (1048576:Int))<0) ((true)=true/\True) (gN a0/\kK a0/\gN a0/\kJ a0/\(!((kI a0).toList==(kI a0).toList))=false/\gN a0/\pO a0/\(true)=true/\True)) (by kernel_rfl) ?_;refine lx fun n0=>?_;refine⟨aBe a0 _ (by first|assumption|exact hf) (by omega) (by omega),dd (fun c0=>?_) fun c0=>?_⟩
 ·apply et1
  ·rfl
 ·try (have y0:=vN c0;try rw[dV y0] at*)
  refine⟨nO a0 (by first|omega|(have:=cTableStatsS_el ‹x[k]? =some _›;omega)),sM _ (by omega),nO a0 (by first|omega|(have:=cTableStatsS_el ‹x[k]? =some _›;omega)),sL _ (by omega),by first|(simp;done)|(simp;omega)|(simp[*];done),nO a0 (by first|omega|(have:=cTableStatsS_el ‹x[k]? =some _›;omega)),by first|exact sZ a0|exact sZ _,?_,trivial⟩
  ·rfl
structure Cu where
 i:Nat
 h:Int
def aEo (h:Int):Int:=IntKind.i64.wrap (IntKind.i64.wrap (h*6364136223846793005)+1442695040888963407)
def aKn (h:Int):Int:=iL .and .i64 (iL .xor .i64 (h/2^33) (h/2^45)) 255
def rP (l:List Int):Nat->Int
 | 0=>10101+(l.length:Int)
 | k+1=>iL .and .i64 (IntKind.i64.wrap (IntKind.i64.wrap (IntKind.i64.wrap (rP l k*131)+IntKind.i64.wrap (l.getD k 0))+7)) 1073741823
def aI (l:List Int):Cu:=⟨0,rP l (min l.length 4000)⟩
def aP (l:List Int)(u:Cu):Int × Cu:=if (u.i:Int)<(l.length:Int) then (iL .and .i64 (IntKind.i64.wrap (aKn (aEo u.h)+IntKind.i64.wrap (l.getD u.i 0))) 255,⟨u.i+1,aEo u.h⟩) else (aKn (aEo u.h),⟨u.i,aEo u.h⟩)
theorem aEp (m:Int)(k:Nat)(hk:k<=9223372036854775807):0<=iL .and .i64 m (k:Int)/\iL .and .i64 m (k:Int)<=(k:Int):=by
 have e2:(BitVec.ofInt 64 (k:Int)).toNat=k:=by simp;omega
 have hle:(BitVec.ofInt 64 m).toNat&&&k<=k:=Nat.and_le_right;unfold iL;show 0<=IntKind.i64.wrap ((BitVec.ofInt 64 m&&&BitVec.ofInt 64 (k:Int)).toNat:Nat)/\IntKind.i64.wrap ((BitVec.ofInt 64 m&&&BitVec.ofInt 64 (k:Int)).toNat:Nat)<=_;rw[BitVec.toNat_and,e2,IntWalk.i64_in _ ⟨by omega,by omega⟩];omega
theorem aKo {l:List Int}{k:Nat}{x:Int}(h:l[k]? =some x):rP l (k+1)=iL .and .i64 (IntKind.i64.wrap (IntKind.i64.wrap (IntKind.i64.wrap (rP l k*131)+IntKind.i64.wrap x)+7)) 1073741823:=by rw[rP,aFr,h];rfl
theorem aKp {l:List Int}{u:Cu}{x:Int}(h:(u.i:Int)<(l.length:Int))(hx:l[u.i]? =some x):aP l u=(iL .and .i64 (IntKind.i64.wrap (aKn (aEo u.h)+IntKind.i64.wrap x)) 255,⟨u.i+1,aEo u.h⟩):=by
 rw[aP,if_pos h,aFr,hx];rfl
theorem aJW {l:List Int}{u:Cu}(h: ¬(u.i:Int)<(l.length:Int)):aP l u=(aKn (aEo u.h),⟨u.i,aEo u.h⟩):=by rw[aP,if_neg h]
theorem kL (l:List Int)(u:Cu):0<=(aP l u).1/\(aP l u).1<=255:=by
 unfold aP;split
 ·exact aEp _ 255 (by decide)
 exact aEp _ 255 (by decide)
def aD (l:List Int)(u:Cu)(n:Int):Int × Cu:=
 if n<=0 then (0,u) else if n<=256 then (Int.tmod (aP l u).1 n,(aP l u).2) else
  (Int.tmod ((aP l u).1*16777216+(aP l (aP l u).2).1*65536+(aP l (aP l (aP l u).2).2).1*256+(aP l (aP l (aP l (aP l u).2).2).2).1) n,(aP l (aP l (aP l (aP l u).2).2).2).2)
theorem aGe {x n:Int}(hx:0<=x)(hn:0<n):0<=Int.tmod x n/\Int.tmod x n<n:=⟨Int.tmod_nonneg n hx,Int.tmod_lt_of_pos x hn⟩
theorem dE (l:List Int)(u:Cu){n:Int}(hn:0<n):0<=(aD l u n).1/\(aD l u n).1<n:=by
 unfold aD;rw[if_neg (by omega)];have h1:=kL l u;have h2:=kL l (aP l u).2;have h3:=kL l (aP l (aP l u).2).2;have h4:=kL l (aP l (aP l (aP l u).2).2).2;split
 ·exact aGe (by omega) hn
 exact aGe (by omega) hn
theorem aKq (l:List Int)(u:Cu){n:Int}(h:n<=0):aD l u n=(0,u):=by rw[aD,if_pos h]
theorem aKr (l:List Int)(u:Cu){n:Int}(h: ¬n<=0)(h2:n<=256):aD l u n=(Int.tmod (aP l u).1 n,(aP l u).2):=by rw[aD,if_neg h,if_pos h2]
theorem aKs (l:List Int)(u:Cu){n:Int}(h: ¬n<=0)(h2: ¬n<=256):aD l u n=(Int.tmod ((aP l u).1*16777216+(aP l (aP l u).2).1*65536+(aP l (aP l (aP l u).2).2).1*256+(aP l (aP l (aP l (aP l u).2).2).2).1) n,(aP l (aP l (aP l (aP l u).2).2).2).2):=by rw[aD,if_neg h,if_neg h2]
def itN {σ:Type}(f:σ->σ):Nat->σ->σ
 | 0,s=>s
 | k+1,s=>f (itN f k s)
def cB (f:Cu->Int × Cu):Nat->Cu->List Int × Cu
 | 0,u=>([],u)
 | k+1,u=>((cB f k u).1++[(f (cB f k u).2).1],(f (cB f k u).2).2)
theorem oL (f:Cu->Int × Cu)(u:Cu): ∀k,(cB f k u).1.length=k
 | 0=>rfl
 | k+1=>by rw[cB,aJw,oL f u k];rfl
theorem aEq {f:Cu->Int × Cu}{P:Int->Prop}(h: ∀u,P (f u).1)(u:Cu): ∀k,∀x∈(cB f k u).1,P x
 | 0,x,hx=>by simp[cB] at hx
 | k+1,x,hx=>by
   rw[cB,aFZ] at hx;rcases hx with hx | hx
   ·exact aEq h u k x hx
   rw[aM3] at hx;subst hx;exact h _
abbrev iJ (l:List Int)(u:Cu):List AV × List (Nat × Rs) × AV × List (Nat × Rs):=([.ptr 0 0],[(0,.box 102 [.p none (.sl 5 1 (l.map bN)),vI (u.i:Int),vI u.h])],vI ((aP l u).1),[(0,.box 102 [.p none (.sl 5 1 (l.map bN)),vI (((aP l u).2.i:Nat):Int),vI ((aP l u).2.h)])])
abbrev oM (l:List Int)(u:Cu):Prop:=Cm 102 (iJ l u).1 (iJ l u).2.1 (iJ l u).2.2.1 (iJ l u).2.2.2
theorem aBF (l:List Int)(u:Cu)(hl:l.length<=1048576):oM l u:=by
 refine cqx Tryz.func102 (.raw<| .raw<| .len l.length<| .br (.elem _ bN l (fun e44=> .raw<| .raw<| .fin [(0,0)])) (.fin [(0,0)])) (p:=(0<=(33:Int)/\(33:Int)<=64)/\(0<=(45:Int)/\(45:Int)<=64)/\Lm bN l/\Br ((u.i:Int)<(l.length:Int)) (0<=(u.i:Int)/\Em bN l u.i fun e44=>dO ((u.i:Int)+1)/\(iL .and .i64 (IntKind.i64.wrap ((iL .and .i64 (iL .xor .i64 ((IntKind.i64.wrap ((IntKind.i64.wrap (u.h*6364136223846793005))+1442695040888963407))/2^33) ((IntKind.i64.wrap ((IntKind.i64.wrap (u.h*6364136223846793005))+1442695040888963407))/2^45)) (255:Int))+(IntKind.i64.wrap e44))) (255:Int))=((aP l u).1)/\l.map bN=l.map bN/\((u.i:Int)+1)=(((aP l u).2.i:Nat):Int)/\(IntKind.i64.wrap ((IntKind.i64.wrap (u.h*6364136223846793005))+1442695040888963407))=((aP l u).2.h)/\True) ((iL .and .i64 (iL .xor .i64 ((IntKind.i64.wrap ((IntKind.i64.wrap (u.h*6364136223846793005))+1442695040888963407))/2^33) ((IntKind.i64.wrap ((IntKind.i64.wrap (u.h*6364136223846793005))+1442695040888963407))/2^45)) (255:Int))=((aP l u).1)/\l.map bN=l.map bN/\(u.i:Int)=(((aP l u).2.i:Nat):Int)/\(IntKind.i64.wrap ((IntKind.i64.wrap (u.h*6364136223846793005))+1442695040888963407))=((aP l u).2.h)/\True)) (by kernel_rfl) ?_;refine⟨⟨by omega,by omega⟩,⟨by omega,by omega⟩,aBS _,dd (fun c0=>?_) fun c0=>?_⟩
 ·refine⟨by omega,rfl,by omega,fun e44 h44=>?_⟩;refine⟨⟨by omega,by omega⟩,?_,rfl,?_,?_,trivial⟩<;>((rw[aKp c0 h44]<;>rfl))
 ·refine⟨?_,rfl,?_,?_,trivial⟩<;>((rw[aJW c0]<;>rfl))
abbrev cP (l:List Int)(u:Cu)(n:Int):List AV × List (Nat × Rs) × AV × List (Nat × Rs):=([.ptr 0 0,vI n],[(0,.box 102 [.p none (.sl 5 1 (l.map bN)),vI (u.i:Int),vI u.h])],vI ((aD l u n).1),[(0,.box 102 [.p none (.sl 5 1 (l.map bN)),vI (((aD l u n).2.i:Nat):Int),vI ((aD l u n).2.h)])])
abbrev cX (l:List Int)(u:Cu)(n:Int):Prop:=Cm 69 (cP l u n).1 (cP l u n).2.1 (cP l u n).2.2.1 (cP l u n).2.2.2
theorem eW (l:List Int)(u:Cu)(hl:l.length<=1048576)(n:Int):cX l u n:=by
 refine cqx Tryz.func69 (.br (.fin [(0,0)]) (.br (bQ (iJ l u) [(0,0)]<| .fin [(0,0)]) (bQ (iJ l u) [(0,0)]<| bQ (iJ l ((aP l u).2)) [(0,0)]<| bQ (iJ l ((aP l ((aP l u).2)).2)) [(0,0)]<| bQ (iJ l ((aP l ((aP l ((aP l u).2)).2)).2)) [(0,0)]<| .fin [(0,0)]))) (p:=Br (n<=0) (0=((aD l u n).1)/\l.map bN=l.map bN/\(u.i:Int)=(((aD l u n).2.i:Nat):Int)/\u.h=((aD l u n).2.h)/\True) (Br (n<=256) (oM l u/\l.map bN=l.map bN/\(u.i:Int)=(u.i:Int)/\u.h=u.h/\n≠0/\(Int.tmod ((aP l u).1) n)=((aD l u n).1)/\l.map bN=l.map bN/\(((aP l u).2.i:Nat):Int)=(((aD l u n).2.i:Nat):Int)/\((aP l u).2.h)=((aD l u n).2.h)/\True) (oM l u/\l.map bN=l.map bN/\(u.i:Int)=(u.i:Int)/\u.h=u.h/\oM l ((aP l u).2)/\l.map bN=l.map bN/\(((aP l u).2.i:Nat):Int)=(((aP l u).2.i:Nat):Int)/\((aP l u).2.h)=((aP l u).2.h)/\oM l ((aP l ((aP l u).2)).2)/\l.map bN=l.map bN/\(((aP l ((aP l u).2)).2.i:Nat):Int)=((((aP l ((aP l u).2)).2).i:Nat):Int)/\((aP l ((aP l u).2)).2.h)=(((aP l ((aP l u).2)).2).h)/\oM l ((aP l ((aP l ((aP l u).2)).2)).2)/\l.map bN=l.map bN/\(((aP l ((aP l ((aP l u).2)).2)).2.i:Nat):Int)=((((aP l ((aP l ((aP l u).2)).2)).2).i:Nat):Int)/\((aP l ((aP l ((aP l u).2)).2)).2.h)=(((aP l ((aP l ((aP l u).2)).2)).2).h)/\dO (((aP l u).1)*16777216)/\dO (((aP l ((aP l u).2)).1)*65536)/\dO ((((aP l u).1)*16777216)+(((aP l ((aP l u).2)).1)*65536))/\dO (((aP l ((aP l ((aP l u).2)).2)).1)*256)/\dO (((((aP l u).1)*16777216)+(((aP l ((aP l u).2)).1)*65536))+(((aP l ((aP l ((aP l u).2)).2)).1)*256))/\dO ((((((aP l u).1)*16777216)+(((aP l ((aP l u).2)).1)*65536))+(((aP l ((aP l ((aP l u).2)).2)).1)*256))+((aP l ((aP l ((aP l ((aP l u).2)).2)).2)).1))/\n≠0/\(Int.tmod ((((((aP l u).1)*16777216)+(((aP l ((aP l u).2)).1)*65536))+(((aP l ((aP l ((aP l u).2)).2)).1)*256))+((aP l ((aP l ((aP l ((aP l u).2)).2)).2)).1)) n)=((aD l u n).1)/\l.map bN=l.map bN/\(((aP l ((aP l ((aP l ((aP l u).2)).2)).2)).2.i:Nat):Int)=(((aD l u n).2.i:Nat):Int)/\((aP l ((aP l ((aP l ((aP l u).2)).2)).2)).2.h)=((aD l u n).2.h)/\True))) (by kernel_rfl) ?_;have w1:=kL l u;have w2:=kL l (aP l u).2;have w3:=kL l (aP l (aP l u).2).2;have w4:=kL l (aP l (aP l (aP l u).2).2).2;refine dd (fun c0=>?_) fun c0=>?_
 ·refine⟨?_,rfl,?_,?_,trivial⟩<;>((rw[aKq l u c0]<;>rfl))
 ·refine dd (fun c1=>?_) fun c1=>?_
  ·refine⟨aBF l u (by assumption),rfl,rfl,rfl,by omega,?_,rfl,?_,?_,trivial⟩<;>((rw[aKr l u c0 c1]<;>rfl))
  ·refine⟨aBF l u (by assumption),rfl,rfl,rfl,aBF l ((aP l u).2) (by assumption),rfl,rfl,rfl,aBF l ((aP l ((aP l u).2)).2) (by assumption),rfl,rfl,rfl,aBF l ((aP l ((aP l ((aP l u).2)).2)).2) (by assumption),rfl,rfl,rfl,⟨by omega,by omega⟩,⟨by omega,by omega⟩,⟨by omega,by omega⟩,⟨by omega,by omega⟩,⟨by omega,by omega⟩,⟨by omega,by omega⟩,by omega,?_,rfl,?_,?_,trivial⟩<;>((rw[aKs l u c0 c1]<;>rfl))
abbrev mG (l:List Int)(u:Cu)(n:Int):List AV × List (Nat × Rs) × AV × List (Nat × Rs):=([.ptr 0 0,vI n],[(0,.box 102 [.p none (.sl 5 1 (l.map bN)),vI (u.i:Int),vI u.h])],vB (decide ((aD l u n).1=0)),[(0,.box 102 [.p none (.sl 5 1 (l.map bN)),vI (((aD l u n).2.i:Nat):Int),vI ((aD l u n).2.h)])])
abbrev wN (l:List Int)(u:Cu)(n:Int):Prop:=Cm 68 (mG l u n).1 (mG l u n).2.1 (mG l u n).2.2.1 (mG l u n).2.2.2
theorem aFk (l:List Int)(u:Cu)(hl:l.length<=1048576)(n:Int):wN l u n:=by
 refine cqx Tryz.func68 (bQ (cP l u n) [(0,0)]<| .fin [(0,0)]) (p:=cX l u n/\n=n/\l.map bN=l.map bN/\(u.i:Int)=(u.i:Int)/\u.h=u.h/\(decide (((aD l u n).1)=0))=(decide ((aD l u n).1=0))/\l.map bN=l.map bN/\(((aD l u n).2.i:Nat):Int)=(((aD l u n).2.i:Nat):Int)/\((aD l u n).2.h)=((aD l u n).2.h)/\True) (by kernel_rfl) ?_;refine⟨eW l u (by assumption) n,rfl,rfl,rfl,rfl,?_,rfl,rfl,rfl,trivial⟩
 ·rfl
def eI (l:List Int)(u:Cu)(xs:List Int):Int × Cu:=(xs.getD (aD l u xs.length).1.toNat 0,(aD l u xs.length).2)
theorem aKu {l:List Int}{u:Cu}{xs:List Int}{x:Int}(h:xs[(aD l u xs.length).1.toNat]? =some x):eI l u xs=(x,(aD l u xs.length).2):=by rw[eI,aFr,h];rfl
abbrev mH (l:List Int)(u:Cu)(xs:List Int):List AV × List (Nat × Rs) × AV × List (Nat × Rs):=([.ptr 0 0,.own 1],[(0,.box 102 [.p none (.sl 5 1 (l.map bN)),vI (u.i:Int),vI u.h]),(1,.arr 3 1 true (xs.map aE))],vI ((eI l u xs).1),[(0,.box 102 [.p none (.sl 5 1 (l.map bN)),vI (((eI l u xs).2.i:Nat):Int),vI ((eI l u xs).2.h)])])
abbrev wO (l:List Int)(u:Cu)(xs:List Int):Prop:=Cm 93 (mH l u xs).1 (mH l u xs).2.1 (mH l u xs).2.2.1 (mH l u xs).2.2.2
theorem aFl (l:List Int)(u:Cu)(hl:l.length<=1048576)(xs:List Int)(hx:0<xs.length):wO l u xs:=by
 refine cqx Tryz.func93 (.len xs.length<| bQ (cP l u (xs.length:Int)) [(0,0)]<| .len xs.length<| .elem _ aE xs (fun e11=> .fin [(0,0)])) (p:=Lm aE xs/\cX l u (xs.length:Int)/\(xs.length:Int)=(xs.length:Int)/\l.map bN=l.map bN/\(u.i:Int)=(u.i:Int)/\u.h=u.h/\0<=((aD l u (xs.length:Int)).1)/\Lm aE xs/\((aD l u (xs.length:Int)).1)<(xs.length:Int)/\Em aE xs (((aD l u (xs.length:Int)).1).toNat) fun e11=>e11=((eI l u xs).1)/\l.map bN=l.map bN/\(((aD l u (xs.length:Int)).2.i:Nat):Int)=(((eI l u xs).2.i:Nat):Int)/\((aD l u (xs.length:Int)).2.h)=((eI l u xs).2.h)/\True) (by kernel_rfl) ?_;have hb:=dE l u (n:=xs.length) (by omega);refine⟨aBS _,eW l u (by assumption) (xs.length:Int),rfl,rfl,rfl,rfl,by omega,aBS _,by omega,rfl,by omega,fun e11 h11=>?_⟩;refine⟨?_,rfl,?_,?_,trivial⟩<;>(first|rfl|(rw[aKu (by assumption)]<;>rfl))
abbrev sP (l:List Int):List AV × List (Nat × Rs) × AV × List (Nat × Rs):=([.p none (.sl 5 1 (l.map bN))],[],.ptr 0 0,[(0,.box 102 [.p none (.sl 5 1 (l.map bN)),vI (((aI l).i:Nat):Int),vI ((aI l).h)])])
abbrev aD5 (l:List Int):Prop:=Cm 57 (sP l).1 (sP l).2.1 (sP l).2.2.1 (sP l).2.2.2
theorem aLM (l:List Int)(hl:l.length<=1048576):aD5 l:=by
 refine cqx Tryz.func57 (.len l.length<| .loop Nat (Q1 Nat) ([3,4]++rg 8 20) [] (fun k=>[(4,vI (k:Int)),(3,vI (rP l k))]) (fun k=>[]) (fun k=>k<=l.length/\k<=4000) (fun k=>4000 - k) (fun k=> .len l.length<| .br (.lit<| .lit<| .br (.raw<| .elem _ bN l (fun e22=> .raw<| .raw<| .raw<| .back [])) (.fin [(0,3100)])) (.fin [(0,3100)]))) (p:=Lm bN l/\(dO ((10101:Int)+(l.length:Int))/\((∃(k:Nat),0=(k:Int)/\((10101:Int)+(l.length:Int))=(rP l k)/\k<=l.length/\k<=4000)/\ ∀(k:Nat),(k<=l.length/\k<=4000)->Lm bN l/\Br ((k:Int)<(l.length:Int)) (Br ((k:Int)<4000) (0<=(k:Int)/\Em bN l k fun e22=>dO ((k:Int)+1)/\ ∃(k' :Nat),((k:Int)+1)=(k' :Int)/\(iL .and .i64 (IntKind.i64.wrap ((IntKind.i64.wrap ((IntKind.i64.wrap ((rP l k)*131))+(IntKind.i64.wrap e22)))+7)) (1073741823:Int))=(rP l k')/\(k' <=l.length/\k' <=4000)/\4000 - k' <4000 - k) (l.map bN=l.map bN/\0=(((aI l).i:Nat):Int)/\(rP l k)=((aI l).h)/\True)) (l.map bN=l.map bN/\0=(((aI l).i:Nat):Int)/\(rP l k)=((aI l).h)/\True)))) (by kernel_rfl) ?_;refine⟨aBS _,⟨by omega,by omega⟩,⟨0,(by rfl),(by rfl),aB2 _,aB2 _⟩,fun k ⟨hk,hk2⟩=>?_⟩;refine⟨aBS _,dd (fun g12=>?_) fun g12=>?_⟩
 ·refine dd (fun c0=>?_) fun c0=>?_
  ·refine⟨by omega,rfl,by omega,fun e22 h22=>?_⟩;refine⟨⟨by omega,by omega⟩,?_⟩;exact⟨k+1,(by rfl),(by (rw[aKo h22];done)),⟨by omega,by omega⟩,by omega⟩
  ·refine⟨rfl,?_,?_,trivial⟩<;>(first|rfl|(rw[aI,show min l.length 4000=k by omega]<;>rfl))
 ·refine⟨rfl,?_,?_,trivial⟩<;>(first|rfl|(rw[aI,show min l.length 4000=k by omega]<;>rfl))
def aJX (x:Int):Prop:=0<=x/\x<=255
theorem aFm {n:Int}(h:(Lit.int .u8 n).wf=true):aJX n:=by
 simp[Lit.wf,IntKind.min,IntKind.max,IntKind.bits,IntKind.signed] at h;exact⟨by omega,by omega⟩
def aFn (l:List Int):Prop:= ∀x∈l,aJX x
def aJY:Rd Int:=fun _ cs n=>cs= [.int .u8 n]/\aJX n
theorem aHf {H:Type}{enc:TypeId × Value->H}{P:Program}{w:World}{base:Nat}{spare:Nat->Bool}{held:Bool}{t:TypeId}{fuel:Nat}{cs:List Value}{x:DataW H × List MemPlace}(ht:P.underlying t=some (.int .u8))(h:DataW.trod enc P w base spare held fuel t cs=some x): ∃n,aJY w cs n:=by
 obtain⟨n,rfl,_,hw⟩:=DataW.trod_int ht h;exact⟨n,rfl,aFm hw⟩
def RByteS:Rd (List Int):=fun w cs l=>fF (Lv w) w [.sl 5 1 (l.map bN)] cs/\aFn l
theorem openByteS {H:Type}{enc:TypeId × Value->H}{w:World}{base:Nat}{spare:Nat->Bool}{held:Bool}{fuel:Nat}{cs:List Value}{x:DataW H × List MemPlace}(h:DataW.trod enc Tryz.prog w base spare held fuel 33 cs=some x): ∃l,RByteS w cs l:=by
 obtain⟨l,hl⟩:=oP (k:=1) (R:=aJY) Tryz.underlying33 (by kernel_rfl) (by omega) (fun _ _ _ h=>aHf Tryz.underlying5 h) h;have hf:aFn l:=hl.all_ (fun _ _ _ h=>h.2);obtain⟨A,c,rfl,_⟩:=id hl;exact⟨l,iB (vF (R:=aJY) (enc:=bN) (fun cs x h=>by obtain⟨rfl,_⟩:=h;exact iB aCz mT) hl) mT,hf⟩
abbrev aCb (l:List Int):Prop:=Cn 10 [.one (.sl 5 1 (l.map bN))] (vB (decide (1048576<(l.length:Int)))) []
theorem aKv (l:List Int):aCb l:=by
 refine cq Tryz.func10 (.len l.length<| .fin []) (p:=Lx (l.map bN)<| Lm bN l/\(decide (1048576<(l.length:Int)))=(decide (1048576<(l.length:Int)))/\True) (by kernel_rfl) ?_;refine lx fun n0=>?_;refine⟨aBS _,?_,trivial⟩
 ·rfl
def cC (l:List Int)(val:Int)(c:Cu):Int × Cu:=aD l c val
def dQ (l:List Int)(u:Cu)(xs:List ByteArray):ByteArray × Cu:=(xs.getD (aD l u xs.length).1.toNat ⟨#[]⟩,(aD l u xs.length).2)
theorem aJZ {l:List Int}{u:Cu}{xs:List ByteArray}{x:ByteArray}(h:xs[(aD l u xs.length).1.toNat]? =some x):dQ l u xs=(x,(aD l u xs.length).2):=by rw[dQ,aFr,h];rfl
theorem aCc (l:List Int)(u:Cu){xs:List ByteArray}(h:0<xs.length):(dQ l u xs).1∈xs:=by
 have hb:=dE l u (n:=xs.length) (by omega);have hlt:(aD l u xs.length).1.toNat<xs.length:=by omega
 rw[dQ,aFr,aCp hlt];exact aMv hlt
theorem uD (l:List Int)(u:Cu){xs:List ByteArray}{m:Nat}(h:0<xs.length)(hs: ∀x∈xs,x.size<=m):(dQ l u xs).1.size<=m:=hs _ (aCc l u h)
structure TS where
 rows:List (List Int)
 cu:Cu
def aFo (l:List Int)(ar:Nat)(val:Int)(s:TS):TS:=⟨eN (cB (cC l val) ar s.cu).1 s.rows,(cB (cC l val) ar s.cu).2⟩
theorem aEr (l:List Int)(ar:Nat)(val:Int)(s:TS): ∀j,(itN (aFo l ar val) j s).rows.length<=s.rows.length+j
 | 0=>aLB _
 | j+1=>by
   have h:=aEr l ar val s j;have h2:=aAo (row:=(cB (cC l val) ar (itN (aFo l ar val) j s).cu).1) (xs:=(itN (aFo l ar val) j s).rows);rw[itN,aFo]
   dsimp only
   omega
theorem aEs {l:List Int}{ar m:Nat}(hm:ar<=m){val:Int}{s:TS}(hs: ∀r∈s.rows,r.length<=m): ∀j,∀r∈(itN (aFo l ar val) j s).rows,r.length<=m
 | 0,r,hr=>hs r hr
 | j+1,r,hr=>by
   rw[itN,aFo] at hr;rcases qZ.1 hr with rfl | hr
   ·rw[oL];exact hm
   exact aEs hm hs j r hr
def cV (l:List Int)(u:Cu)(ar:Nat)(most val:Int)(j:Nat):TS:=itN (aFo l ar val) j ⟨[],(aD l u (most+1)).2⟩
def aMT (l:List Int)(u:Cu)(ar:Nat)(most val:Int):TS:=cV l u ar most val (aD l u (most+1)).1.toNat
def nP (l:List Int)(u:Cu)(nm:ByteArray)(ar most val:Int):aJ × Cu:=(⟨nm,ar,(aMT l u ar.toNat most val).rows⟩,(aMT l u ar.toNat most val).cu)
theorem aBG (l:List Int)(u:Cu)(ar:Nat)(most val:Int)(j:Nat):(cV l u ar most val j).rows.length<=j:=by
 have h:=aEr l ar val ⟨[],(aD l u (most+1)).2⟩ j;simpa [cV] using h
theorem aJ0 (l:List Int)(u:Cu){ar:Nat}(har:ar<=3)(most val:Int){j:Nat}(hj:j<=8):aX (cV l u ar most val j).rows<=32:=by
 have h1:=aBG l u ar most val j;have h2:=iH (l:=(cV l u ar most val j).rows) (m:=3) (aEs har (by simp) j);omega
theorem aGf (l:List Int)(u:Cu)(nm:ByteArray)(ar:Int){most:Int}(h0:0<=most)(val:Int):((nP l u nm ar most val).1.rows.length:Int)<=most:=by
 have h1:=aBG l u ar.toNat most val (aD l u (most+1)).1.toNat;have h2:=dE l u (n:=most+1) (by omega);show ((cV l u ar.toNat most val (aD l u (most+1)).1.toNat).rows.length:Int)<=most;omega
def aEt {α:Type}(l:List α)(i:Nat)(f:α->α):List α:=match l[i]? with | some e=>l.set i (f e) | none=>l
theorem aEu {α:Type}{l:List α}{i:Nat}{f:α->α}{e:α}(h:l[i]? =some e):aEt l i f=l.set i (f e):=by rw[aEt,h]
def t4N (l:List Int)(u:Cu):ByteArray × Cu:=dQ l u [⟨#[114]⟩,⟨#[115]⟩,⟨#[116]⟩]
def yX (l:List Int)(u:Cu):Int × Cu:=aD l (t4N l u).2 3
def jI (l:List Int)(u:Cu):aJ × Cu:=nP l (yX l u).2 (t4N l u).1 (1+(yX l u).1) 6 4
def iM (l:List Int)(u:Cu):Int × Cu:=aD l (jI l u).2 12
def cF (l:List Int)(u:Cu):aJ × Cu:=
 if (iM l u).1=0 then (⟨(dQ l (iM l u).2 [⟨#[]⟩,⟨#[82]⟩,⟨#[114,115]⟩,⟨#[122]⟩]).1,(jI l u).1.arity,(jI l u).1.rows⟩,(dQ l (iM l u).2 [⟨#[]⟩,⟨#[82]⟩,⟨#[114,115]⟩,⟨#[122]⟩]).2)
 else if (iM l u).1=1 then (⟨(jI l u).1.name,(eI l (iM l u).2 [0,4,-1]).1,(jI l u).1.rows⟩,(eI l (iM l u).2 [0,4,-1]).2)
 else if (iM l u).1=2 then (⟨(jI l u).1.name,(jI l u).1.arity,(jI l u).1.rows++[[0]]⟩,(iM l u).2)
 else if (iM l u).1=3 then (⟨(jI l u).1.name,(jI l u).1.arity,(jI l u).1.rows++[[9,9,10]]⟩,(iM l u).2)
 else ((jI l u).1,(iM l u).2)
theorem wP (l:List (List Int))(r:List Int):aX (l++[r])=aX l+1+r.length:=by
 simp only[aX,mM,aJw,aJv,List.length_nil,aHr,aHl,List.map_nil,List.sum_append,List.sum_cons,List.sum_nil];show _+1+(_+(r.length+0))=_;omega
theorem aLN (l:List Int)(u:Cu):(jI l u).1.name.size<=1/\aX (jI l u).1.rows<=32/\(jI l u).1.rows.length<=6:=by
 have h1:(t4N l u).1.size<=1:=uD l u (by decide) (by decide);have h2:=dE l (t4N l u).2 (n:=3) (by omega);have h3:=dE l (yX l u).2 (n:=6+1) (by omega);have h4:=aJ0 l (yX l u).2 (ar:=(1+(yX l u).1).toNat) (by have e:(yX l u).1=(aD l (t4N l u).2 3).1:=rfl;omega) 6 4 (j:=(aD l (yX l u).2 (6+1)).1.toNat) (by omega);have h5:=aGf l (yX l u).2 (t4N l u).1 (1+(yX l u).1) (most:=6) (by omega) 4;exact⟨h1,h4,by have e:(jI l u).1=(nP l (yX l u).2 (t4N l u).1 (1+(yX l u).1) 6 4).1:=rfl;rw[e];omega⟩
theorem aJ1 (l:List Int)(u:Cu):cN (cF l u).1<=40/\(cF l u).1.rows.length<=8:=by
 have h:=aLN l u;have hs:(dQ l (iM l u).2 [⟨#[]⟩,⟨#[82]⟩,⟨#[114,115]⟩,⟨#[122]⟩]).1.size<=2:=uD l _ (by decide) (by decide);have e: ∀t:aJ,cN t=t.name.size+aX t.rows:=fun _=>rfl;unfold cF;split
 ·rw[e];dsimp only;omega
 split
 ·rw[e];dsimp only;omega
 split
 ·rw[e];dsimp only;rw[wP,aJw];simp only[aJv,List.length_nil];omega
 split
 ·rw[e];dsimp only;rw[wP,aJw];simp only[aJv,List.length_nil];omega
 rw[e];dsimp only;omega
abbrev fL (l:List Int)(u:Cu)(xs:List ByteArray):List AV × List (Nat × Rs) × AV × List (Nat × Rs):=([.ptr 0 0,.own 1],[(0,.box 102 [.p none (.sl 5 1 (l.map bN)),vI (u.i:Int),vI u.h]),(1,.arr 9 1 true (xs.map aAb))],.p none (.str ((dQ l u xs).1)),[(0,.box 102 [.p none (.sl 5 1 (l.map bN)),vI (((dQ l u xs).2.i:Nat):Int),vI ((dQ l u xs).2.h)])])
abbrev jJ (l:List Int)(u:Cu)(xs:List ByteArray):Prop:=Cm 92 (fL l u xs).1 (fL l u xs).2.1 (fL l u xs).2.2.1 (fL l u xs).2.2.2
theorem sQ (l:List Int)(u:Cu)(hl:l.length<=1048576)(xs:List ByteArray)(hx:0<xs.length):jJ l u xs:=by
 refine cqx Tryz.func92 (.len xs.length<| bQ (cP l u (xs.length:Int)) [(0,0)]<| .len xs.length<| .elem _ aAb xs (fun e11=> .fin [(0,0)])) (p:=Lm aAb xs/\cX l u (xs.length:Int)/\(xs.length:Int)=(xs.length:Int)/\l.map bN=l.map bN/\(u.i:Int)=(u.i:Int)/\u.h=u.h/\0<=((aD l u (xs.length:Int)).1)/\Lm aAb xs/\((aD l u (xs.length:Int)).1)<(xs.length:Int)/\Em aAb xs (((aD l u (xs.length:Int)).1).toNat) fun e11=>e11=((dQ l u xs).1)/\l.map bN=l.map bN/\(((aD l u (xs.length:Int)).2.i:Nat):Int)=(((dQ l u xs).2.i:Nat):Int)/\((aD l u (xs.length:Int)).2.h)=((dQ l u xs).2.h)/\True) (by kernel_rfl) ?_;have hb:=dE l u (n:=xs.length) (by omega);refine⟨aBS _,eW l u (by assumption) (xs.length:Int),rfl,rfl,rfl,rfl,by omega,aBS _,by omega,rfl,by omega,fun e11 h11=>?_⟩;refine⟨?_,rfl,?_,?_,trivial⟩<;>(first|rfl|(rw[aJZ (by assumption)]<;>rfl))
abbrev sR (l:List Int)(u:Cu)(nm:ByteArray)(ar:Int)(most:Int)(val:Int):List AV × List (Nat × Rs) × AV × List (Nat × Rs):=([.ptr 0 0,.p none (.str nm),vI ar,vI most,vI val],[(0,.box 102 [.p none (.sl 5 1 (l.map bN)),vI (u.i:Int),vI u.h])],.agg [.p none (.str ((nP l u nm ar most val).1.name)),vI ((nP l u nm ar most val).1.arity),.own 1],[(0,.box 102 [.p none (.sl 5 1 (l.map bN)),vI (((nP l u nm ar most val).2.i:Nat):Int),vI ((nP l u nm ar most val).2.h)]),(1,.arr 38 1 true ((nP l u nm ar most val).1.rows.map aB))])
abbrev aD6 (l:List Int)(u:Cu)(nm:ByteArray)(ar:Int)(most:Int)(val:Int):Prop:=Cm 91 (sR l u nm ar most val).1 (sR l u nm ar most val).2.1 (sR l u nm ar most val).2.2.1 (sR l u nm ar most val).2.2.2
theorem aLO (l:List Int)(u:Cu)(hl:l.length<=1048576)(nm:ByteArray)(ar most val:Int)(har:0<=ar/\ar<=3)(hm:0<=most/\most<=8):aD6 l u nm ar most val:=by
 refine cqx Tryz.func91 (bQ (cP l u (most+1)) [(0,0)]<| .loop Nat (Q1 Nat) ([12,13,14]++rg 22 21) [0,1100,2600,3600,3700,4100,9001] (fun j=>[(12,vI ((aD l u (most+1)).1 - (j:Int)))]) (fun j=>[(1100,some (.box 37 [.p none (.str nm),vI ar,.own 9001])),(9001,some (.arr 38 1 true ((cV l u ar.toNat most val j).rows.map aB))),(0,some (.box 102 [.p none (.sl 5 1 (l.map bN)),vI (((cV l u ar.toNat most val j).cu.i:Nat):Int),vI ((cV l u ar.toNat most val j).cu.h)]))]) (fun j=>(j:Int)<=(aD l u (most+1)).1) (fun j=>((aD l u (most+1)).1 - j).toNat) (fun j=> .br (.loop Nat (Q1 Nat) ([13,14]++rg 26 12) [0,2600,3600,3700] (fun i=>[(14,vI (i:Int)),(13,.own 2600)]) (fun i=>[(2600,some (.arr 3 1 true ((cB (cC l val) i (cV l u ar.toNat most val j).cu).1.map aE))),(0,some (.box 102 [.p none (.sl 5 1 (l.map bN)),vI (((cB (cC l val) i (cV l u ar.toNat most val j).cu).2.i:Nat):Int),vI ((cB (cC l val) i (cV l u ar.toNat most val j).cu).2.h)]))]) (fun i=>(i:Int)<=ar) (fun i=>(ar - i).toNat) (fun i=> .br (bQ (cP l ((cB (cC l val) i (cV l u ar.toNat most val j).cu).2) val) [(0,0)]<| .app Int aE ((cB (cC l val) i (cV l u ar.toNat most val j).cu).1) ([(aD l ((cB (cC l val) i (cV l u ar.toNat most val j).cu).2) val).1]:List Int)<| .back [(0,0),(2600,3700)]) (bC (jB ((cV l u ar.toNat most val j).rows) ((cB (cC l val) i (cV l u ar.toNat most val j).cu).1))<| .back [(0,0),(1100,1100),(9001,4100)]))) (.fin [(0,0),(1,9001)]))) (p:=dO (most+1)/\(cX l u (most+1)/\(most+1)=(most+1)/\l.map bN=l.map bN/\(u.i:Int)=(u.i:Int)/\u.h=u.h/\((∃(j:Nat),((aD l u (most+1)).1)=((aD l u (most+1)).1 - (j:Int))/\nm=nm/\ar=ar/\[]=(cV l u ar.toNat most val j).rows.map aB/\l.map bN=l.map bN/\(((aD l u (most+1)).2.i:Nat):Int)=(((cV l u ar.toNat most val j).cu.i:Nat):Int)/\((aD l u (most+1)).2.h)=((cV l u ar.toNat most val j).cu.h)/\(j:Int)<=(aD l u (most+1)).1)/\ ∀(j:Nat),(j:Int)<=(aD l u (most+1)).1->Br (0<((aD l u (most+1)).1 - (j:Int))) ((∃(i:Nat),0=(i:Int)/\[]=(cB (cC l val) i (cV l u ar.toNat most val j).cu).1.map aE/\l.map bN=l.map bN/\(((cV l u ar.toNat most val j).cu.i:Nat):Int)=(((cB (cC l val) i (cV l u ar.toNat most val j).cu).2.i:Nat):Int)/\((cV l u ar.toNat most val j).cu.h)=((cB (cC l val) i (cV l u ar.toNat most val j).cu).2.h)/\(i:Int)<=ar)/\ ∀(i:Nat),(i:Int)<=ar->Br ((i:Int)<ar) (cX l ((cB (cC l val) i (cV l u ar.toNat most val j).cu).2) val/\val=val/\l.map bN=l.map bN/\(((cB (cC l val) i (cV l u ar.toNat most val j).cu).2.i:Nat):Int)=(((cB (cC l val) i (cV l u ar.toNat most val j).cu).2.i:Nat):Int)/\((cB (cC l val) i (cV l u ar.toNat most val j).cu).2.h)=((cB (cC l val) i (cV l u ar.toNat most val j).cu).2.h)/\Ap aE ((cB (cC l val) i (cV l u ar.toNat most val j).cu).1) ([(aD l ((cB (cC l val) i (cV l u ar.toNat most val j).cu).2) val).1]:List Int) 8 (dO ((i:Int)+1)/\ ∃(i' :Nat),((i:Int)+1)=(i' :Int)/\(((cB (cC l val) i (cV l u ar.toNat most val j).cu).1)++[(aD l ((cB (cC l val) i (cV l u ar.toNat most val j).cu).2) val).1]).map aE=(cB (cC l val) i' (cV l u ar.toNat most val j).cu).1.map aE/\l.map bN=l.map bN/\(((aD l ((cB (cC l val) i (cV l u ar.toNat most val j).cu).2) val).2.i:Nat):Int)=(((cB (cC l val) i' (cV l u ar.toNat most val j).cu).2.i:Nat):Int)/\((aD l ((cB (cC l val) i (cV l u ar.toNat most val j).cu).2) val).2.h)=((cB (cC l val) i' (cV l u ar.toNat most val j).cu).2.h)/\(i' :Int)<=ar/\(ar - i').toNat<(ar - i).toNat)) (mA ((cV l u ar.toNat most val j).rows) ((cB (cC l val) i (cV l u ar.toNat most val j).cu).1)/\dO (((aD l u (most+1)).1 - (j:Int)) - 1)/\ ∃(j' :Nat),(((aD l u (most+1)).1 - (j:Int)) - 1)=((aD l u (most+1)).1 - ((j' :Nat):Int))/\nm=nm/\ar=ar/\(eN ((cB (cC l val) i (cV l u ar.toNat most val j).cu).1) ((cV l u ar.toNat most val j).rows)).map aB=(cV l u ar.toNat most val j').rows.map aB/\l.map bN=l.map bN/\(((cB (cC l val) i (cV l u ar.toNat most val j).cu).2.i:Nat):Int)=(((cV l u ar.toNat most val j').cu.i:Nat):Int)/\((cB (cC l val) i (cV l u ar.toNat most val j).cu).2.h)=((cV l u ar.toNat most val j').cu.h)/\(j' :Int)<=(aD l u (most+1)).1/\((aD l u (most+1)).1 - j').toNat<((aD l u (most+1)).1 - j).toNat)) (nm=((nP l u nm ar most val).1.name)/\ar=((nP l u nm ar most val).1.arity)/\l.map bN=l.map bN/\(((cV l u ar.toNat most val j).cu.i:Nat):Int)=(((nP l u nm ar most val).2.i:Nat):Int)/\((cV l u ar.toNat most val j).cu.h)=((nP l u nm ar most val).2.h)/\(cV l u ar.toNat most val j).rows.map aB=(nP l u nm ar most val).1.rows.map aB/\True)))) (by kernel_rfl) ?_;have w1:=dE l u (n:=most+1) (by omega);refine⟨⟨by omega,by omega⟩,eW l u (by assumption) (most+1),rfl,rfl,rfl,rfl,⟨0,(by first|rfl|omega|(rw[<-ei];rfl)),(by first|rfl|omega|(rw[<-ei];rfl)),(by first|rfl|omega|(rw[<-ei];rfl)),(by first|rfl|omega|(rw[<-ei];rfl)),(by first|rfl|omega|(rw[<-ei];rfl)),(by first|rfl|omega|(rw[<-ei];rfl)),(by first|rfl|omega|(rw[<-ei];rfl)),by omega⟩,fun j hj=>?_⟩;have hz0:=aBG l u ar.toNat most val j;have hzc:=aJ0 l u (ar:=ar.toNat) (by omega) most val (j:=j) (by omega);refine dd (fun c0=>?_) fun c0=>?_
 ·refine⟨⟨0,rfl,rfl,rfl,rfl,rfl,by omega⟩,fun i hi=>?_⟩;have hz1:=oL (cC l val) (cV l u ar.toNat most val j).cu i;refine dd (fun c1=>?_) fun c1=>?_
  ·refine⟨eW l ((cB (cC l val) i (cV l u ar.toNat most val j).cu).2) (by assumption) val,rfl,rfl,rfl,rfl,?_⟩;refine ap ?_ (fun _=>rfl) (by first|omega|(simp;omega));refine⟨⟨by omega,by omega⟩,?_⟩;exact⟨i+1,rfl,rfl,rfl,rfl,rfl,by omega,by omega⟩
  ·have ei:ar.toNat=i:=by omega
   refine⟨vX ((cV l u ar.toNat most val j).rows) ((cB (cC l val) i (cV l u ar.toNat most val j).cu).1) (by omega) (by omega) (by omega),⟨by omega,by omega⟩,?_⟩;exact⟨j+1,(by first|rfl|omega|(rw[<-ei];rfl)),(by first|rfl|omega|(rw[<-ei];rfl)),(by first|rfl|omega|(rw[<-ei];rfl)),(by first|rfl|omega|(rw[<-ei];rfl)),(by first|rfl|omega|(rw[<-ei];rfl)),(by first|rfl|omega|(rw[<-ei];rfl)),(by first|rfl|omega|(rw[<-ei];rfl)),by omega,by omega⟩
 ·have ej:(aD l u (most+1)).1.toNat=j:=by omega
  refine⟨?_,?_,rfl,?_,?_,?_,trivial⟩<;>(first|rfl|(simp only[nP,aMT,ej];done))
def eV {α:Type}(p:α->Bool)(l:List α):Int:=match l.findIdx? p with | some k=>(k:Int) | none=> -1
theorem aGg {α:Type}{p:α->Bool}{l:List α}{k:Nat}{x:α}(h:l[k]? =some x)(ha:(l.take k).all (fun y=> !p y)=true)(hx:p x=true):eV p l=(k:Int):=by
 obtain⟨hk,rfl⟩:=aEA.1 h
 have:l.findIdx? p=some k:=by
  rw[List.findIdx?_eq_some_iff_getElem];refine⟨hk,hx,fun j hj=>?_⟩;have:=aFJ.1 ha l[j] (List.mem_iff_getElem.2 ⟨j,by rw[aM4];omega,by rw[List.getElem_take]⟩);simpa using this
 rw[eV,this]
theorem aD7 {α:Type}{p:α->Bool}{l:List α}(ha:l.all (fun y=> !p y)=true):eV p l= -1:=by
 have:l.findIdx? p=none:=by
  rw[List.findIdx?_eq_none_iff];intro x hx;have:=aFJ.1 ha x hx;simpa using this
 rw[eV,this]
theorem aEv {α:Type}{p:α->Bool}{l:List α}(h:0<=eV p l): ∃(k:Nat) (x:α),eV p l=(k:Int)/\l[k]? =some x/\p x=true/\k<l.length:=by
 unfold eV at*;cases e:l.findIdx? p with
 | none=>rw[e] at h;exact absurd h (by decide)
 | some k=>
   rw[List.findIdx?_eq_some_iff_getElem] at e;obtain⟨hk,hx,_⟩:=e;exact⟨k,l[k],rfl,aCp hk,hx,hk⟩
theorem aKw {α:Type}(p:α->Bool)(l:List α): -1<=eV p l/\eV p l<(l.length:Int):=by
 by_cases h:0<=eV p l
 ·obtain⟨k,x,h1,_,_,h4⟩:=aEv h;omega
 unfold eV at*;cases e:l.findIdx? p with
 | none=>simp only;omega
 | some k=>rw[e] at h;simp only at h;omega
abbrev gU (row:List Int):List Int->Bool:=fun x=>decide (x=row)
abbrev aCe (x:List Int)(row:List Int):Prop:=Cn 110 [.one (.sl 3 1 (x.map aE)),.ref [.sl 3 1 (row.map aE)]] (vB (decide (x=row))) []
theorem aKx (x row:List Int):aCe x row:=by
 refine cq Tryz.func110 (.call (vB (decide (x=row))) []<| .fin []) (p:=Lx (x.map aE)<| Lx (row.map aE)<| lE x row/\(decide (x=row))=(decide (x=row))/\True) (by kernel_rfl) ?_;refine lx fun n0=>lx fun n1=>?_;refine⟨vO _ _,?_,trivial⟩
 ·rfl
abbrev aCf (l:List (List Int))(row:List Int):Prop:=Cn 109 [.one (.sl 38 1 (l.map aB)),.fn 110 [[.sl 3 1 (row.map aE)]]] (vI (eV (gU row) l)) []
theorem aKy (l:List (List Int))(row:List Int):aCf l row:=by
 refine cq Tryz.func109 (.len l.length<| .loop Nat (Q1 Nat) ([5]++rg 8 9++[18]) [] (fun k=>[(8,vI (k:Int))]) (fun k=>[]) (fun k=>k<=l.length/\(l.take k).all (fun y=> !gU row y)=true) (fun k=>l.length - k) (fun k=> .br (.elem _ aB l (fun e14=> .call (vB (decide (e14=row))) []<| .br (.fin []) (.back []))) (.fin []))) (p:=Lx (l.map aB)<| Lm aB l/\((∃(k:Nat),0=(k:Int)/\k<=l.length/\(l.take k).all (fun y=> !gU row y)=true)/\ ∀(k:Nat),(k<=l.length/\(l.take k).all (fun y=> !gU row y)=true)->Br ((k:Int)<(l.length:Int)) (0<=(k:Int)/\Em aB l k fun e14=>aCe e14 row/\Br (e14=row) ((k:Int)=(eV (gU row) l)/\True) (dO ((k:Int)+1)/\ ∃(k' :Nat),((k:Int)+1)=(k' :Int)/\(k' <=l.length/\(l.take k').all (fun y=> !gU row y)=true)/\l.length - k' <l.length - k)) ((-1:Int)=(eV (gU row) l)/\True))) (by kernel_rfl) ?_;refine lx fun n0=>?_;refine⟨aBS _,⟨0,rfl,aB2 _,rfl⟩,fun k ⟨hk,ha⟩=>?_⟩;refine dd (fun c0=>?_) fun c0=>?_
 ·refine⟨by omega,rfl,by omega,fun e14 h14=>?_⟩;refine⟨aKx _ _,dd (fun c1=>?_) fun c1=>?_⟩
  ·have hE:=aGg (p:=gU row) h14 ha (by simpa [gU] using c1);apply et1
   ·rw[hE]
  ·refine⟨⟨by omega,by omega⟩,?_⟩;exact⟨k+1,rfl,⟨by omega,hZ h14 ha (by simpa [gU] using c1)⟩,by omega⟩
 ·have hE:=aD7 (p:=gU row) (fS (by omega) ha);apply et1
  ·rw[hE]
abbrev wQ (t:aJ)(row:List Int):Prop:=Cn 86 [.agg [.str t.name,.int .i64 t.arity,.sl 38 1 (t.rows.map aB)],.one (.sl 3 1 (row.map aE))] (vI (eV (gU row) t.rows)) []
theorem aFp (t:aJ)(row:List Int):wQ t row:=by
 refine cq Tryz.func86 (.call (vI (eV (gU row) t.rows)) []<| .fin []) (p:=Lx (t.rows.map aB)<| Lx (row.map aE)<| aCf t.rows row/\(eV (gU row) t.rows)=(eV (gU row) t.rows)/\True) (by kernel_rfl) ?_;refine lx fun n0=>lx fun n1=>?_;refine⟨aKy _ _,?_⟩;exact⟨rfl,trivial⟩
def eL (t:aJ)(row:List Int):Bool:=aL t&&decide (0<=eV (gU row) t.rows)
def dN (t:aJ)(row:List Int):Bool:=aL t&&(dM t.arity row&&(decide (eV (gU row) t.rows<0)&&decide ((t.rows.length:Int)<8)))
def cE (t:aJ)(row:List Int):aJ × Bool:=if dN t row=true then (⟨t.name,t.arity,eN row t.rows⟩,true) else (t,false)
def eA (t:aJ)(row:List Int):aJ × Bool:=if eL t row=true then (⟨t.name,t.arity,t.rows.eraseIdx (eV (gU row) t.rows).toNat⟩,true) else (t,false)
theorem eJ {t:aJ}{row:List Int}(h:dN t row=true):cE t row=(⟨t.name,t.arity,eN row t.rows⟩,true):=by rw[cE,if_pos h]
theorem jO {t:aJ}{row:List Int}(h:dN t row=false):cE t row=(t,false):=by rw[cE,if_neg (by rw[h];decide)]
theorem oN {t:aJ}{row:List Int}(h:eL t row=true):eA t row=(⟨t.name,t.arity,t.rows.eraseIdx (eV (gU row) t.rows).toNat⟩,true):=by rw[eA,if_pos h]
theorem zO {t:aJ}{row:List Int}(h:eL t row=false):eA t row=(t,false):=by rw[eA,if_neg (by rw[h];decide)]
theorem uE {t:aJ}{row:List Int}(h:eL t row=true):aL t=true/\0<=eV (gU row) t.rows:=by
 simpa only [eL,aBT,aMX] using h
theorem yY {t:aJ}{row:List Int}(h:dN t row=true):aL t=true/\dM t.arity row=true/\eV (gU row) t.rows<0/\(t.rows.length:Int)<8:=by
 simpa only [dN,aBT,aMX] using h
theorem aBH {t:aJ}(h:aL t=true):aX t.rows<=32:=by
 have hT:=bJ h;have:=iH (l:=t.rows) (m:=3) fun r hr=>by have:=aDZ h hr;omega
 omega
theorem tA {t:aJ}(h:aL t=true):cN t<=64:=by
 have h1:=aBH h;have h2:=pE h;have h3:cN t=t.name.size+aX t.rows:=rfl;omega
theorem aEw (l:List (List Int))(r:List Int):aX (l++[r])=aX l+1+r.length:=by
 induction l with
 | nil=>rw[aMg,dY]
 | cons a l ih=>rw[List.cons_append,dY,dY,ih];omega
theorem aHg {t:aJ}{row:List Int}(h:dN t row=true):aX (t.rows++[row])<=64:=by
 obtain⟨h1,h2,_,_⟩:=yY h;have hT:=bJ h1;have h3:=aBH h1;simp only[dM,aBT,aMX] at h2;rw[aEw];omega
theorem aJ2 {t:aJ}{row:List Int}(h:aL t=true):dA (bV (t.rows++[row]))=eN row t.rows:=by
 rw[<-mZ,pD,rF (wF (fK h).2.2)]
theorem aEx: ∀{l:List (List Int)} {k:Nat} {row:List Int},Asc l->l[k]? =some row->l.filter (fun x=> !gU row x)=l.eraseIdx k
 | [],k,row,_,hk=>by simp at hk
 | a::l,0,row,ha,hk=>by
   simp at hk;subst hk;rw[List.eraseIdx_cons_zero,List.filter_cons_of_neg (by simp[gU])];refine List.filter_eq_self.2 fun y hy=>?_;have:=(List.pairwise_cons.1 ha).1 y hy;have hne: ¬y=a:=fun e=>by rw[e,lI] at this;omega
   simp[gU,hne]
 | a::l,k+1,row,ha,hk=>by
   have hk' :l[k]? =some row:=by simpa using hk
   have:=(List.pairwise_cons.1 ha).1 row (aCO hk');have hne: ¬a=row:=fun e=>by rw[e,lI] at this;omega
   rw[List.eraseIdx_cons_succ,List.filter_cons_of_pos (by simp[gU,hne]),aEx (List.pairwise_cons.1 ha).2 hk']
theorem aJ3 {t:aJ}{row:List Int}(h:eL t row=true):t.rows.filter (fun x=> !gU row x)=t.rows.eraseIdx (eV (gU row) t.rows).toNat:=by
 obtain⟨h1,h2⟩:=uE h;obtain⟨k,x,e,hx,hp,_⟩:=aEv h2;have hxr:x=row:=by simpa [gU] using hp
 subst hxr;rw[e,Int.toNat_natCast];exact aEx (wF (fK h1).2.2) hx
abbrev aBI (t:aJ)(row:List Int):Prop:=Cn 87 [.agg [.str t.name,.int .i64 t.arity,.sl 38 1 (t.rows.map aB)],.one (.sl 3 1 (row.map aE))] (vB (eL t row)) []
theorem aJ4 (t:aJ)(row:List Int):aBI t row:=by
 refine cq Tryz.func87 (.call (vB (aL t)) []<| .br (.call (vI (eV (gU row) t.rows)) []<| .fin []) (.fin [])) (p:=Lx (t.rows.map aB)<| Lx (row.map aE)<| iY t/\Bb (aL t) (wQ t row/\(decide (0<=(eV (gU row) t.rows)))=(eL t row)/\True) ((false)=(eL t row)/\True)) (by kernel_rfl) ?_;refine lx fun n0=>lx fun n1=>?_;refine⟨oA t,db (fun g7=>?_) fun g7=>?_⟩
 ·refine⟨aFp _ _,?_,trivial⟩
  ·first|(simp[eL, *];done)|(simp[eL,g7];done)
 ·apply et1
  ·first|(simp[eL, *];done)|(simp[eL,g7];done)
abbrev uF (t:aJ)(row:List Int):Prop:=Cn 53 [.agg [.str t.name,.int .i64 t.arity,.sl 38 1 (t.rows.map aB)],.one (.sl 3 1 (row.map aE))] (vB (eL t row)) []
theorem aEy (t:aJ)(row:List Int):uF t row:=by
 refine cq Tryz.func53 (.loop Nat (Q1 Nat) (rg 5 20) [] (fun k=>[(5,vI (k:Int))]) (fun k=>[]) (fun k=>k<=t.rows.length/\(t.rows.take k).all (fun y=> !gU row y)=true) (fun k=>t.rows.length - k) (fun k=> .len t.rows.length<| .br (.call (vB (aL t)) []<| .lit<| .br (.elem _ aB t.rows (fun e20=> .call (vI (aZ e20 row)) []<| .br (.fin []) (.back []))) (.fin [])) (.fin []))) (p:=Lx (t.rows.map aB)<| Lx (row.map aE)<| (∃(k:Nat),0=(k:Int)/\k<=t.rows.length/\(t.rows.take k).all (fun y=> !gU row y)=true)/\ ∀(k:Nat),(k<=t.rows.length/\(t.rows.take k).all (fun y=> !gU row y)=true)->Lm aB t.rows/\Br ((k:Int)<(t.rows.length:Int)) (fW t/\Bb (aL t) (0<=(k:Int)/\Em aB t.rows k fun e20=>dC e20 row/\Br ((aZ e20 row)=0) ((true)=(eL t row)/\True) (dO ((k:Int)+1)/\ ∃(k' :Nat),((k:Int)+1)=(k' :Int)/\(k' <=t.rows.length/\(t.rows.take k').all (fun y=> !gU row y)=true)/\t.rows.length - k' <t.rows.length - k)) ((false)=(eL t row)/\True)) ((false)=(eL t row)/\True)) (by kernel_rfl) ?_;refine lx fun n0=>lx fun n1=>?_;refine⟨⟨0,rfl,aB2 _,rfl⟩,fun k ⟨hk,ha⟩=>?_⟩;refine⟨aBS _,dd (fun g11=>?_) fun g11=>?_⟩
 ·refine⟨lY t,db (fun c0=>?_) fun c0=>?_⟩
  ·refine⟨by omega,rfl,by omega,fun e20 h20=>?_⟩;refine⟨eR _ _,dd (fun c1=>?_) fun c1=>?_⟩
   ·have hE:=aGg (p:=gU row) h20 ha (by simpa [gU] using cR.1 c1);apply et1
    ·first|(rw[hE];done)|(rw[eL,hE,c0];simp)
   ·refine⟨⟨by omega,by omega⟩,?_⟩;exact⟨k+1,rfl,⟨by omega,hZ h20 ha (by simpa [gU] using fun q=>c1 (cR.2 q))⟩,by omega⟩
  ·have hE:eL t row=false:=by first|(rw[eL,aD7 (fS (by omega) ha)];simp;done)|(rw[eL,c0];rfl)
   apply et1
   ·first|(rw[hE];done)|(rw[eL,hE,c0];simp)
 ·have hE:eL t row=false:=by first|(rw[eL,aD7 (fS (by omega) ha)];simp;done)|(rw[eL,c0];rfl)
  apply et1
  ·first|(rw[hE];done)|(rw[eL,hE,c0];simp)
abbrev pG (t:aJ):AV × List (Nat × Rs):=(.agg [.p none (.str t.name),vI t.arity,.own 0],[(0,.arr 38 1 true (t.rows.map aB))])
abbrev uG (t:aJ):Prop:=Cn 85 [.agg [.str t.name,.int .i64 t.arity,.sl 38 1 (t.rows.map aB)]] (pG t).1 (pG t).2
theorem aEz (t:aJ)(hc:cN t<=1048576):uG t:=by
 refine cq Tryz.func85 (bC (aCV t.rows)<| .fin [(0,500)]) (p:=Lx (t.rows.map aB)<| aE1 t.rows/\t.name=t.name/\t.arity=t.arity/\t.rows.map aB=t.rows.map aB/\True) (by kernel_rfl) ?_;refine lx fun n0=>?_;have q1:cN t=t.name.size+aX t.rows:=rfl;have q2:=cI t.rows;refine⟨cpR _ (by omega),?_⟩;exact⟨rfl,rfl,rfl,trivial⟩
abbrev pH (t:aJ):AV × List (Nat × Rs):=(.agg [.p none (.str t.name),vI t.arity,.own 0],[(0,.arr 38 1 true (t.rows.map aB))])
abbrev uH (t:aJ):Prop:=Cn 52 [.agg [.str t.name,.int .i64 t.arity,.sl 38 1 (t.rows.map aB)]] (pH t).1 (pH t).2
theorem aFA (t:aJ)(hc:cN t<=1048576):uH t:=by
 refine cq Tryz.func52 (.loop (Nat × (List (List Int))) (Q2 Nat (List (List Int))) ([4]++rg 10 19) [300,1900,2500,2600,2700,9000] (fun yy0=>[(4,vI (yy0.1:Int))]) (fun yy0=>[(300,some (.box 37 [.p none (.str t.name),vI t.arity,.own 9000])),(9000,some (.arr 38 1 true (yy0.2.map aB)))]) (fun yy0=>yy0.1<=t.rows.length/\yy0.2=t.rows.take yy0.1) (fun yy0=>t.rows.length - yy0.1) (fun yy0=> .len t.rows.length<| .br (.elem _ aB t.rows (fun e23=> .app Int aE ([]:List Int) e23<| .appx (List Int) aB yy0.2 (([]:List Int)++e23)<| .back [(300,300),(9000,2700)])) (.fin [(0,9000)]))) (p:=Lx (t.rows.map aB)<| (∃(k:Nat) (out:List (List Int)),0=(k:Int)/\t.name=t.name/\t.arity=t.arity/\[]=out.map aB/\k<=t.rows.length/\out=t.rows.take k)/\ ∀(k:Nat) (out:List (List Int)),(k<=t.rows.length/\out=t.rows.take k)->Lm aB t.rows/\Br ((k:Int)<(t.rows.length:Int)) (0<=(k:Int)/\Em aB t.rows k fun e23=>Ap aE ([]:List Int) e23 8 (out.map aB=out.map aB/\(([]:List Int)++e23).map aE=(([]:List Int)++e23).map aE/\(out.length+1)*24<=140737488355328/\dO ((k:Int)+1)/\ ∃(k' :Nat) (out' :List (List Int)),((k:Int)+1)=(k' :Int)/\t.name=t.name/\t.arity=t.arity/\(out++[([]:List Int)++e23]).map aB=out'.map aB/\(k' <=t.rows.length/\out' =t.rows.take k')/\t.rows.length - k' <t.rows.length - k)) (t.name=t.name/\t.arity=t.arity/\out.map aB=t.rows.map aB/\True)) (by kernel_rfl) ?_;refine lx fun n0=>?_;have q1:cN t=t.name.size+aX t.rows:=rfl;have q2:=cI t.rows;refine⟨⟨0,([]:List (List Int)),rfl,rfl,rfl,rfl,aB2 _,rfl⟩,fun k out ⟨hk,ho⟩=>?_⟩;refine⟨aBS _,dd (fun c0=>?_) fun c0=>?_⟩
 ·refine⟨by omega,rfl,by omega,fun e23 h23=>?_⟩;have hp3:=hX h23;refine ap ?_ (fun _=>rfl) (by (simp;omega));refine⟨rfl,rfl,by (simp[ho];omega),⟨by omega,by omega⟩,?_⟩;exact⟨k+1,_,rfl,rfl,rfl,rfl,⟨by omega,by rw[ho,bR h23];rfl⟩,by omega⟩
 ·refine⟨rfl,rfl,?_,trivial⟩
  ·(rw[ho,aE4 (by omega)])
end Go.Proofs.YtgamjlgfnmpcjaaGreatDoor
