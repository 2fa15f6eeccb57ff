/-
  Contracts and plain laws, joined: part 19.
-/
import Derived.Test.YtlidmoeecphbmaaGreateb17
import Derived.Test.YtlidmoeecphbmaaGreateb3
import Derived.Shelf.SlicesE.Clone
import Derived.Ground.SlgnProg
namespace Go.Proofs.YtlidmoeecphbmaaGreat
open Go.ChangeShapes Go.WideShapes Go.ChangeAt Go.RowKit
set_option linter.unusedVariables false
set_option linter.unusedSimpArgs false
set_option maxRecDepth 100000
set_option maxHeartbeats 4000000
theorem aN9 {d:aJ}{k:Nat}{b:Int}{x:aB}(hb:b=kR d k)(hx:d.costs[k]? =some x)(h: ¬0<x.num):b=kR d (k+1):=aQG hb (by rw[aBl,bD hx,decide_eq_false h];rfl)
theorem aNa {d:aJ}{k:Nat}{b:Int}{x:aB}(hb:b=kR d k)(hx:d.costs[k]? =some x)(h:0<x.num)(h2:b<0):(k:Int)=kR d (k+1):=aN4 hb (by rw[aBl,bD hx,decide_eq_true h,decide_eq_true h2];rfl)
theorem aKZ {d:aJ}{k:Nat}{b y z:Int}{x:aB}(hb:b=kR d k)(hx:d.costs[k]? =some x)(h:0<x.num)(hy:d.others[k]? =some y)(hz:d.others[b.toNat]? =some z)(h2:y<z):(k:Int)=kR d (k+1):=aN4 hb (by rw[aBl,bD hx,bD hy,bD hz,decide_eq_true h,decide_eq_true h2,Bool.or_true];rfl)
theorem aNb {d:aJ}{k:Nat}{b y z:Int}{x:aB}(hb:b=kR d k)(hx:d.costs[k]? =some x)(h1: ¬b<0)(hy:d.others[k]? =some y)(hz:d.others[b.toNat]? =some z)(h2: ¬y<z):b=kR d (k+1):=aQG hb (by rw[aBl,bD hx,bD hy,bD hz,decide_eq_false h1,decide_eq_false h2,Bool.or_false,Bool.and_false])
theorem aWa {d:aJ}(h:dF d=false):jZ d= -1:=by rw[jZ,if_neg (by rw[h];decide)]
theorem aNc {d:aJ}(h:dF d=true):jZ d=eU d:=by rw[jZ,if_pos h]
theorem aQK {d:aJ}{k:Nat}{b:Int}(hb:b=kR d k)(h:d.others.length=k):eU d=b:=by rw[eU,h,hb]
abbrev aBn (d:aJ):Prop:=Cn 104 [.agg [.sl 3 1 (d.basic.map intD),.sl 3 1 (d.others.map intD),.sl 61 1 (d.table.map aF),.sl 38 2 (d.limits.map aA),.sl 38 2 (d.costs.map aA),.int .i64 d.value.num,.int .i64 d.value.den]] (vI (eU d)) []
theorem aNd (d:aJ)(hd:dF d=true):aBn d:=by
 refine cq Tryz.func104 (.len d.costs.length<| .loop (Nat × Int) (Q2 Nat Int) ([3,4,5]++rg 9 27) [500] (fun yy0=>[(9,vI (yy0.1:Int)),(3,vI yy0.2)]) (fun yy0=>[]) (fun yy0=>yy0.1<=d.others.length/\yy0.2=kR d yy0.1) (fun yy0=>d.others.length - yy0.1) (fun yy0=> .br (.elem _ aA d.costs (fun e12=> .br (.lit<| .lit<| .br (.back []) (.elem _ intD d.others (fun e24=> .elem _ intD d.others (fun e29=> .lit<| .lit<| .lit<| .lit<| .lit<| .br (.back []) (.back []))))) (.back []))) (.fin []))) (p:=Lx (d.basic.map intD)<| Lx (d.others.map intD)<| Lx (d.table.map aF)<| Lx (d.limits.map aA)<| Lx (d.costs.map aA)<| Lm aA d.costs/\((∃(k:Nat) (b:Int),0=(k:Int)/\(-1:Int)=b/\k<=d.others.length/\b=kR d k)/\ ∀(k:Nat) (b:Int),(k<=d.others.length/\b=kR d k)->Br ((k:Int)<(d.costs.length:Int)) (0<=(k:Int)/\Em aA d.costs k fun e12=>Br (0<e12.num) (Br (b<0) (bK ((k:Int)+1)/\ ∃(k' :Nat) (b' :Int),((k:Int)+1)=(k' :Int)/\(k:Int)=b' /\(k' <=d.others.length/\b' =kR d k')/\d.others.length - k' <d.others.length - k) (0<=(k:Int)/\Em intD d.others k fun e24=>0<=b/\Em intD d.others ((b).toNat) fun e29=>Br (e24<e29) (bK ((k:Int)+1)/\ ∃(k' :Nat) (b' :Int),((k:Int)+1)=(k' :Int)/\(k:Int)=b' /\(k' <=d.others.length/\b' =kR d k')/\d.others.length - k' <d.others.length - k) (bK ((k:Int)+1)/\ ∃(k' :Nat) (b' :Int),((k:Int)+1)=(k' :Int)/\b=b' /\(k' <=d.others.length/\b' =kR d k')/\d.others.length - k' <d.others.length - k))) (bK ((k:Int)+1)/\ ∃(k' :Nat) (b' :Int),((k:Int)+1)=(k' :Int)/\b=b' /\(k' <=d.others.length/\b' =kR d k')/\d.others.length - k' <d.others.length - k)) (b=(eU d)/\True))) (by kernel_rfl) ?_;refine lx fun n0=>lx fun n1=>lx fun n2=>lx fun n3=>lx fun n4=>?_;obtain⟨b1,b2,b3,b4,b5,b6,b7,b8⟩:=iH hd;refine⟨aA8 _,⟨0,-1,rfl,rfl,aCC _,rfl⟩,fun k b ⟨hk,hb⟩=>?_⟩;refine dd (fun c0=>?_) fun c0=>?_
 ·have eb:=zT d k;refine⟨by omega,rfl,by omega,fun e12 h12=>?_⟩;refine dd (fun g17=>?_) fun g17=>?_
  ·refine dd (fun g20=>?_) fun g20=>?_
   ·refine⟨⟨by omega,by omega⟩,?_⟩;exact⟨k+1,(k:Int),rfl,rfl,⟨by omega,by exact aNa hb h12 g17 g20⟩,by omega⟩
   ·refine⟨by omega,rfl,by omega,fun e24 h24=>?_⟩;refine⟨by omega,rfl,by omega,fun e29 h29=>?_⟩;refine dd (fun c1=>?_) fun c1=>?_
    ·refine⟨⟨by omega,by omega⟩,?_⟩;exact⟨k+1,(k:Int),rfl,rfl,⟨by omega,by exact aKZ hb h12 g17 h24 h29 c1⟩,by omega⟩
    ·refine⟨⟨by omega,by omega⟩,?_⟩;exact⟨k+1,b,rfl,rfl,⟨by omega,by exact aNb hb h12 g20 h24 h29 c1⟩,by omega⟩
  ·refine⟨⟨by omega,by omega⟩,?_⟩;exact⟨k+1,b,rfl,rfl,⟨by omega,by exact aN9 hb h12 g17⟩,by omega⟩
 ·apply et1
  ·(rw[aQK hb (by omega)];done)
abbrev aHl (d:aJ):Prop:=Cn 95 [.agg [.sl 3 1 (d.basic.map intD),.sl 3 1 (d.others.map intD),.sl 61 1 (d.table.map aF),.sl 38 2 (d.limits.map aA),.sl 38 2 (d.costs.map aA),.int .i64 d.value.num,.int .i64 d.value.den]] (vI (jZ d)) []
theorem aUm (d:aJ)(h0:d.basic.length<=1048576)(h1:d.others.length<=1048576):aHl d:=by
 refine cq Tryz.func95 (.call (vB (dF d)) []<| .br (.fin []) (.loop (Nat × Int) (Q2 Nat Int) ([3,4]++rg 8 32) [] (fun yy0=>[(4,vI (yy0.1:Int)),(3,vI yy0.2)]) (fun yy0=>[]) (fun yy0=>yy0.1<=d.others.length/\yy0.2=kR d yy0.1) (fun yy0=>d.others.length - yy0.1) (fun yy0=> .len d.others.length<| .br (.elem _ aA d.costs (fun e18=> .br (.lit<| .lit<| .br (.back []) (.elem _ intD d.others (fun e29=> .elem _ intD d.others (fun e34=> .lit<| .lit<| .lit<| .lit<| .lit<| .br (.back []) (.back []))))) (.back []))) (.fin [])))) (p:=Lx (d.basic.map intD)<| Lx (d.others.map intD)<| Lx (d.table.map aF)<| Lx (d.limits.map aA)<| Lx (d.costs.map aA)<| wA d/\Nr (dF d) ((-1:Int)=(jZ d)/\True) ((∃(k:Nat) (b:Int),0=(k:Int)/\(-1:Int)=b/\k<=d.others.length/\b=kR d k)/\ ∀(k:Nat) (b:Int),(k<=d.others.length/\b=kR d k)->Lm intD d.others/\Br ((k:Int)<(d.others.length:Int)) (0<=(k:Int)/\Em aA d.costs k fun e18=>Br (0<e18.num) (Br (b<0) (bK ((k:Int)+1)/\ ∃(k' :Nat) (b' :Int),((k:Int)+1)=(k' :Int)/\(k:Int)=b' /\(k' <=d.others.length/\b' =kR d k')/\d.others.length - k' <d.others.length - k) (0<=(k:Int)/\Em intD d.others k fun e29=>0<=b/\Em intD d.others ((b).toNat) fun e34=>Br (e29<e34) (bK ((k:Int)+1)/\ ∃(k' :Nat) (b' :Int),((k:Int)+1)=(k' :Int)/\(k:Int)=b' /\(k' <=d.others.length/\b' =kR d k')/\d.others.length - k' <d.others.length - k) (bK ((k:Int)+1)/\ ∃(k' :Nat) (b' :Int),((k:Int)+1)=(k' :Int)/\b=b' /\(k' <=d.others.length/\b' =kR d k')/\d.others.length - k' <d.others.length - k))) (bK ((k:Int)+1)/\ ∃(k' :Nat) (b' :Int),((k:Int)+1)=(k' :Int)/\b=b' /\(k' <=d.others.length/\b' =kR d k')/\d.others.length - k' <d.others.length - k)) (b=(jZ d)/\True))) (by kernel_rfl) ?_;refine lx fun n0=>lx fun n1=>lx fun n2=>lx fun n3=>lx fun n4=>?_;refine⟨aHk d (by omega) (by omega),dm (fun c0=>?_) fun c0=>?_⟩
 ·apply et1
  ·(rw[aWa c0];done)
 ·have hd:dF d=true:=c0;obtain⟨b1,b2,b3,b4,b5,b6,b7,b8⟩:=iH hd;refine⟨⟨0,-1,rfl,rfl,aCC _,rfl⟩,fun k b ⟨hk,hb⟩=>?_⟩;refine⟨aA8 _,dd (fun c1=>?_) fun c1=>?_⟩
  ·have eb:=zT d k;refine⟨by omega,rfl,by omega,fun e18 h18=>?_⟩;refine dd (fun g22=>?_) fun g22=>?_
   ·refine dd (fun g25=>?_) fun g25=>?_
    ·refine⟨⟨by omega,by omega⟩,?_⟩;exact⟨k+1,(k:Int),rfl,rfl,⟨by omega,by exact aNa hb h18 g22 g25⟩,by omega⟩
    ·refine⟨by omega,rfl,by omega,fun e29 h29=>?_⟩;refine⟨by omega,rfl,by omega,fun e34 h34=>?_⟩;refine dd (fun c2=>?_) fun c2=>?_
     ·refine⟨⟨by omega,by omega⟩,?_⟩;exact⟨k+1,(k:Int),rfl,rfl,⟨by omega,by exact aKZ hb h18 g22 h29 h34 c2⟩,by omega⟩
     ·refine⟨⟨by omega,by omega⟩,?_⟩;exact⟨k+1,b,rfl,rfl,⟨by omega,by exact aNb hb h18 g25 h29 h34 c2⟩,by omega⟩
   ·refine⟨⟨by omega,by omega⟩,?_⟩;exact⟨k+1,b,rfl,rfl,⟨by omega,by exact aN9 hb h18 g22⟩,by omega⟩
  ·apply et1
   ·(rw[aNc c0,aQK hb (by omega)];done)
theorem gV {d:aJ}{i j:Nat}{r:List aB}{x:aB}(hr:d.table[i]? =some r)(hx:r[j]? =some x):iF d i j=x:=by rw[iF,bD hr,bD hx]
theorem aNe {d:aJ}{j n k:Nat}{b:Int}{l x:aB}{r:List aB}(hk:k<n)(hr:d.table[k]? =some r)(hx:r[j]? =some x)(h:x.num<=0):eN d j (n - k) k b l=eN d j (n - (k+1)) (k+1) b l:=aPG hk (by rw[gV hr hx];exact h)
theorem aQL {d:aJ}{j n k:Nat}{b:Int}{l x m:aB}{r:List aB}(hk:k<n)(hr:d.table[k]? =some r)(hx:r[j]? =some x)(h: ¬x.num<=0)(hm:d.limits[k]? =some m)(h2:(aX m x).2=false):eN d j (n - k) k b l= -1:=aRo hk (by rw[gV hr hx];exact h) (by rw[gV hr hx,bD hm];exact h2)
theorem aAf {d:aJ}{j n k:Nat}{b:Int}{l x m:aB}{r:List aB}(hk:k<n)(hr:d.table[k]? =some r)(hx:r[j]? =some x)(h: ¬x.num<=0)(hm:d.limits[k]? =some m)(h2:(aX m x).2=true)(h3:mJ d b (eW (aX m x).1 l) k=true):eN d j (n - k) k b l=eN d j (n - (k+1)) (k+1) (k:Int) (aX m x).1:=by
 have e:=aRp (d:=d) (j:=j) (b:=b) (l:=l) hk (by rw[gV hr hx];exact h) (by rw[gV hr hx,bD hm];exact h2) (by rw[gV hr hx,bD hm];exact h3);rw[e,gV hr hx,bD hm]
theorem aL8 {d:aJ}{j n k:Nat}{b:Int}{l x m:aB}{r:List aB}(hk:k<n)(hr:d.table[k]? =some r)(hx:r[j]? =some x)(h: ¬x.num<=0)(hm:d.limits[k]? =some m)(h2:(aX m x).2=true)(h3:mJ d b (eW (aX m x).1 l) k=false):eN d j (n - k) k b l=eN d j (n - (k+1)) (k+1) b l:=aUi hk (by rw[gV hr hx];exact h) (by rw[gV hr hx,bD hm];exact h2) (by rw[gV hr hx,bD hm];exact h3)
theorem aWx {d:aJ}{b c:Int}{k:Nat}(h:b<0):mJ d b c k=true:=by rw[mJ,decide_eq_true h];rfl
theorem aWy {d:aJ}{b c:Int}{k:Nat}(h:c<0):mJ d b c k=true:=by rw[mJ,decide_eq_true h];simp
theorem aWz {d:aJ}{b c y z:Int}{k:Nat}(h:c=0)(hy:d.basic[k]? =some y)(hz:d.basic[b.toNat]? =some z)(h2:y<z):mJ d b c k=true:=by rw[mJ,decide_eq_true h,bD hy,bD hz,decide_eq_true h2];simp
theorem aXA {d:aJ}{b c:Int}{k:Nat}(h: ¬b<0)(h1: ¬c<0)(h2: ¬c=0):mJ d b c k=false:=by rw[mJ,decide_eq_false h,decide_eq_false h1,decide_eq_false h2];rfl
theorem aXB {d:aJ}{b c y z:Int}{k:Nat}(h: ¬b<0)(h1: ¬c<0)(hy:d.basic[k]? =some y)(hz:d.basic[b.toNat]? =some z)(h2: ¬y<z):mJ d b c k=false:=by rw[mJ,decide_eq_false h,decide_eq_false h1,bD hy,bD hz,decide_eq_false h2];simp
theorem aK0 {d:aJ}{j k:Nat}{b:Int}{l:aB}(h:d.basic.length<=k)(hv:eN d j (d.basic.length - k) k b l=gG d j):gG d j=b:=by rw[<-hv,Nat.sub_eq_zero_of_le h,eN]
theorem aHm {d:aJ}{j:Int}(h:dF d=true)(hj:0<=j/\j<d.others.length):oN d j=gG d j.toNat:=by rw[oN,if_pos ⟨h,hj⟩]
theorem aWb {d:aJ}{j:Int}(h:dF d=false):oN d j= -1:=by rw[oN,if_neg (by rw[h];simp)]
theorem aUn {d:aJ}{j:Int}(h: ¬(0<=j/\j<d.others.length)):oN d j= -1:=by rw[oN,if_neg (fun q=>h q.2)]
abbrev aHn (d:aJ)(j:Int):Prop:=Cn 105 [.agg [.sl 3 1 (d.basic.map intD),.sl 3 1 (d.others.map intD),.sl 61 1 (d.table.map aF),.sl 38 2 (d.limits.map aA),.sl 38 2 (d.costs.map aA),.int .i64 d.value.num,.int .i64 d.value.den],.one (.int .i64 j)] (vI (gG d j.toNat)) []
theorem aUo (d:aJ)(j:Int)(hd:dF d=true)(hj:0<=j/\j<d.others.length):aHn d j:=by
 refine cq Tryz.func105 (.len d.basic.length<| .loop (Nat × Int × Int × Int) (Q4 Nat Int Int Int) ([5,7,8,9,10]++rg 15 61) [600,800] (fun yy0=>[(15,vI (yy0.1:Int)),(5,vI yy0.2.1)]) (fun yy0=>[(600,some (.box 38 [vI yy0.2.2.1,vI yy0.2.2.2]))]) (fun yy0=>yy0.1<=d.basic.length/\(-1<=yy0.2.1/\yy0.2.1<yy0.1)/\eN d j.toNat (d.basic.length - yy0.1) yy0.1 yy0.2.1 ⟨yy0.2.2.1,yy0.2.2.2⟩=gG d j.toNat) (fun yy0=>d.basic.length - yy0.1) (fun yy0=> .br (.elem _ aF d.table (fun e21=> .elem _ aA e21 (fun e24=> .br (.back [(600,600)]) (.elem _ aA d.limits (fun e32=> .elem _ aF d.table (fun e37=> .elem _ aA e37 (fun e40=>bH (vX e32 e40)<| .br (.fin []) (.call (vI (eW ((aX e32 e40).1) (⟨yy0.2.2.1,yy0.2.2.2⟩:aB))) []<| .br (.back [(600,600)]) (.lit<| .lit<| .br (.back [(600,600)]) (.lit<| .lit<| .br (.elem _ intD d.basic (fun e63=> .elem _ intD d.basic (fun e68=> .lit<| .lit<| .lit<| .lit<| .lit<| .br (.back [(600,600)]) (.back [(600,600)])))) (.back [(600,600)]))))))))))) (.fin []))) (p:=Lx (d.basic.map intD)<| Lx (d.others.map intD)<| Lx (d.table.map aF)<| Lx (d.limits.map aA)<| Lx (d.costs.map aA)<| Lm intD d.basic/\((∃(k:Nat) (b:Int) (ln:Int) (ld:Int),0=(k:Int)/\(-1:Int)=b/\0=ln/\0=ld/\k<=d.basic.length/\(-1<=b/\b<k)/\eN d j.toNat (d.basic.length - k) k b ⟨ln,ld⟩=gG d j.toNat)/\ ∀(k:Nat) (b:Int) (ln:Int) (ld:Int),(k<=d.basic.length/\(-1<=b/\b<k)/\eN d j.toNat (d.basic.length - k) k b ⟨ln,ld⟩=gG d j.toNat)->Br ((k:Int)<(d.basic.length:Int)) (0<=(k:Int)/\Em aF d.table k fun e21=>0<=j/\Em aA e21 ((j).toNat) fun e24=>Br (e24.num<=0) (bK ((k:Int)+1)/\ ∃(k' :Nat) (b' :Int) (ln' :Int) (ld' :Int),((k:Int)+1)=(k' :Int)/\b=b' /\ln=ln' /\ld=ld' /\(k' <=d.basic.length/\(-1<=b' /\b' <k')/\eN d j.toNat (d.basic.length - k') k' b' ⟨ln',ld'⟩=gG d j.toNat)/\d.basic.length - k' <d.basic.length - k) (0<=(k:Int)/\Em aA d.limits k fun e32=>0<=(k:Int)/\Em aF d.table k fun e37=>0<=j/\Em aA e37 ((j).toNat) fun e40=>aBe e32 e40/\Nr ((aX e32 e40).2) ((-1:Int)=(gG d j.toNat)/\True) (aHb ((aX e32 e40).1) (⟨ln,ld⟩:aB)/\Br (b<0) (bK ((k:Int)+1)/\ ∃(k' :Nat) (b' :Int) (ln' :Int) (ld' :Int),((k:Int)+1)=(k' :Int)/\(k:Int)=b' /\((aX e32 e40).1.num)=ln' /\((aX e32 e40).1.den)=ld' /\(k' <=d.basic.length/\(-1<=b' /\b' <k')/\eN d j.toNat (d.basic.length - k') k' b' ⟨ln',ld'⟩=gG d j.toNat)/\d.basic.length - k' <d.basic.length - k) (Br ((eW ((aX e32 e40).1) (⟨ln,ld⟩:aB))<0) (bK ((k:Int)+1)/\ ∃(k' :Nat) (b' :Int) (ln' :Int) (ld' :Int),((k:Int)+1)=(k' :Int)/\(k:Int)=b' /\((aX e32 e40).1.num)=ln' /\((aX e32 e40).1.den)=ld' /\(k' <=d.basic.length/\(-1<=b' /\b' <k')/\eN d j.toNat (d.basic.length - k') k' b' ⟨ln',ld'⟩=gG d j.toNat)/\d.basic.length - k' <d.basic.length - k) (Br ((eW ((aX e32 e40).1) (⟨ln,ld⟩:aB))=0) (0<=(k:Int)/\Em intD d.basic k fun e63=>0<=b/\Em intD d.basic ((b).toNat) fun e68=>Br (e63<e68) (bK ((k:Int)+1)/\ ∃(k' :Nat) (b' :Int) (ln' :Int) (ld' :Int),((k:Int)+1)=(k' :Int)/\(k:Int)=b' /\((aX e32 e40).1.num)=ln' /\((aX e32 e40).1.den)=ld' /\(k' <=d.basic.length/\(-1<=b' /\b' <k')/\eN d j.toNat (d.basic.length - k') k' b' ⟨ln',ld'⟩=gG d j.toNat)/\d.basic.length - k' <d.basic.length - k) (bK ((k:Int)+1)/\ ∃(k' :Nat) (b' :Int) (ln' :Int) (ld' :Int),((k:Int)+1)=(k' :Int)/\b=b' /\ln=ln' /\ld=ld' /\(k' <=d.basic.length/\(-1<=b' /\b' <k')/\eN d j.toNat (d.basic.length - k') k' b' ⟨ln',ld'⟩=gG d j.toNat)/\d.basic.length - k' <d.basic.length - k)) (bK ((k:Int)+1)/\ ∃(k' :Nat) (b' :Int) (ln' :Int) (ld' :Int),((k:Int)+1)=(k' :Int)/\b=b' /\ln=ln' /\ld=ld' /\(k' <=d.basic.length/\(-1<=b' /\b' <k')/\eN d j.toNat (d.basic.length - k') k' b' ⟨ln',ld'⟩=gG d j.toNat)/\d.basic.length - k' <d.basic.length - k)))))) (b=(gG d j.toNat)/\True))) (by kernel_rfl) ?_;refine lx fun n0=>lx fun n1=>lx fun n2=>lx fun n3=>lx fun n4=>?_;obtain⟨b1,b2,b3,b4,b5,b6,b7,b8⟩:=iH hd;refine⟨aA8 _,⟨0,-1,0,0,rfl,rfl,rfl,rfl,aCC _,by omega,rfl⟩,fun k b ln ld ⟨hk,hb,hv⟩=>?_⟩;refine dd (fun c0=>?_) fun c0=>?_
 ·refine⟨by omega,rfl,by omega,fun e21 h21=>?_⟩;have hrl:=(b5 _ (aCf h21)).1;refine⟨by omega,rfl,by omega,fun e24 h24=>?_⟩;refine dd (fun c1=>?_) fun c1=>?_
  ·refine⟨⟨by omega,by omega⟩,?_⟩;exact⟨k+1,b,ln,ld,rfl,rfl,rfl,rfl,⟨by omega,by omega,by exact(aNe (by omega) h21 h24 c1).symm.trans hv⟩,by omega⟩
  ·refine⟨by omega,rfl,by omega,fun e32 h32=>?_⟩;refine⟨by omega,rfl,by omega,fun e37 h37=>?_⟩;obtain rfl:=aW h21 h37;refine⟨by omega,rfl,by omega,fun e40 h40=>?_⟩;obtain rfl:=aW h24 h40;refine⟨aNU e32 e40,dm (fun c2=>?_) fun c2=>?_⟩
   ·apply et1
    ·(rw[<-hv,aQL (by omega) h21 h24 c1 h32 c2];done)
   ·refine⟨aU9 ((aX e32 e40).1) (⟨ln,ld⟩:aB),dd (fun g52=>?_) fun g52=>?_⟩
    ·refine⟨⟨by omega,by omega⟩,?_⟩;exact⟨k+1,(k:Int),(aX e32 e40).1.num,(aX e32 e40).1.den,rfl,rfl,rfl,rfl,⟨by omega,by omega,by exact(aAf (by omega) h21 h24 c1 h32 c2 (aWx g52)).symm.trans hv⟩,by omega⟩
    ·refine dd (fun g56=>?_) fun g56=>?_
     ·refine⟨⟨by omega,by omega⟩,?_⟩;exact⟨k+1,(k:Int),(aX e32 e40).1.num,(aX e32 e40).1.den,rfl,rfl,rfl,rfl,⟨by omega,by omega,by exact(aAf (by omega) h21 h24 c1 h32 c2 (aWy g56)).symm.trans hv⟩,by omega⟩
     ·refine dd (fun g59=>?_) fun g59=>?_
      ·refine⟨by omega,rfl,by omega,fun e63 h63=>?_⟩;refine⟨by omega,rfl,by omega,fun e68 h68=>?_⟩;refine dd (fun c3=>?_) fun c3=>?_
       ·refine⟨⟨by omega,by omega⟩,?_⟩;exact⟨k+1,(k:Int),(aX e32 e40).1.num,(aX e32 e40).1.den,rfl,rfl,rfl,rfl,⟨by omega,by omega,by exact(aAf (by omega) h21 h24 c1 h32 c2 (aWz g59 h63 h68 c3)).symm.trans hv⟩,by omega⟩
       ·refine⟨⟨by omega,by omega⟩,?_⟩;exact⟨k+1,b,ln,ld,rfl,rfl,rfl,rfl,⟨by omega,by omega,by exact(aL8 (by omega) h21 h24 c1 h32 c2 (aXB g52 g56 h63 h68 c3)).symm.trans hv⟩,by omega⟩
      ·refine⟨⟨by omega,by omega⟩,?_⟩;exact⟨k+1,b,ln,ld,rfl,rfl,rfl,rfl,⟨by omega,by omega,by exact(aL8 (by omega) h21 h24 c1 h32 c2 (aXA g52 g56 g59)).symm.trans hv⟩,by omega⟩
 ·apply et1
  ·(rw[aK0 (by omega) hv];done)
abbrev aHo (d:aJ)(j:Int):Prop:=Cn 97 [.agg [.sl 3 1 (d.basic.map intD),.sl 3 1 (d.others.map intD),.sl 61 1 (d.table.map aF),.sl 38 2 (d.limits.map aA),.sl 38 2 (d.costs.map aA),.int .i64 d.value.num,.int .i64 d.value.den],.one (.int .i64 j)] (vI (oN d j)) []
theorem aUp (d:aJ)(j:Int)(h0:d.basic.length<=1048576)(h1:d.others.length<=1048576):aHo d j:=by
 refine cq Tryz.func97 (.call (vB (dF d)) []<| .br (.fin []) (.len d.others.length<| .call (vB (decide (0<=j/\j<=((d.others.length:Int) - 1)))) []<| .lit<| .lit<| .br (.fin []) (.loop (Nat × Int × Int × Int) (Q4 Nat Int Int Int) ([5,7,8,9,10]++rg 24 64) [600,800] (fun yy0=>[(7,vI (yy0.1:Int)),(5,vI yy0.2.1)]) (fun yy0=>[(600,some (.box 38 [vI yy0.2.2.1,vI yy0.2.2.2]))]) (fun yy0=>yy0.1<=d.basic.length/\(-1<=yy0.2.1/\yy0.2.1<yy0.1)/\eN d j.toNat (d.basic.length - yy0.1) yy0.1 yy0.2.1 ⟨yy0.2.2.1,yy0.2.2.2⟩=gG d j.toNat) (fun yy0=>d.basic.length - yy0.1) (fun yy0=> .len d.basic.length<| .br (.elem _ aF d.table (fun e34=> .elem _ aA e34 (fun e37=> .br (.back [(600,600)]) (.elem _ aA d.limits (fun e45=> .elem _ aF d.table (fun e50=> .elem _ aA e50 (fun e53=>bH (oM e45 e53)<| .br (.fin []) (.call (vI (eW ((aX e45 e53).1) (⟨yy0.2.2.1,yy0.2.2.2⟩:aB))) []<| .br (.back [(600,600)]) (.lit<| .lit<| .br (.back [(600,600)]) (.lit<| .lit<| .br (.elem _ intD d.basic (fun e76=> .elem _ intD d.basic (fun e81=> .lit<| .lit<| .lit<| .lit<| .lit<| .br (.back [(600,600)]) (.back [(600,600)])))) (.back [(600,600)]))))))))))) (.fin []))))) (p:=Lx (d.basic.map intD)<| Lx (d.others.map intD)<| Lx (d.table.map aF)<| Lx (d.limits.map aA)<| Lx (d.costs.map aA)<| wA d/\Nr (dF d) ((-1:Int)=(oN d j)/\True) (Lm intD d.others/\(bK ((d.others.length:Int) - 1)/\(eX j (0:Int) ((d.others.length:Int) - 1)/\Nb (0<=j/\j<=((d.others.length:Int) - 1)) ((-1:Int)=(oN d j)/\True) ((∃(k:Nat) (b:Int) (ln:Int) (ld:Int),0=(k:Int)/\(-1:Int)=b/\0=ln/\0=ld/\k<=d.basic.length/\(-1<=b/\b<k)/\eN d j.toNat (d.basic.length - k) k b ⟨ln,ld⟩=gG d j.toNat)/\ ∀(k:Nat) (b:Int) (ln:Int) (ld:Int),(k<=d.basic.length/\(-1<=b/\b<k)/\eN d j.toNat (d.basic.length - k) k b ⟨ln,ld⟩=gG d j.toNat)->Lm intD d.basic/\Br ((k:Int)<(d.basic.length:Int)) (0<=(k:Int)/\Em aF d.table k fun e34=>0<=j/\Em aA e34 ((j).toNat) fun e37=>Br (e37.num<=0) (bK ((k:Int)+1)/\ ∃(k' :Nat) (b' :Int) (ln' :Int) (ld' :Int),((k:Int)+1)=(k' :Int)/\b=b' /\ln=ln' /\ld=ld' /\(k' <=d.basic.length/\(-1<=b' /\b' <k')/\eN d j.toNat (d.basic.length - k') k' b' ⟨ln',ld'⟩=gG d j.toNat)/\d.basic.length - k' <d.basic.length - k) (0<=(k:Int)/\Em aA d.limits k fun e45=>0<=(k:Int)/\Em aF d.table k fun e50=>0<=j/\Em aA e50 ((j).toNat) fun e53=>rO e45 e53/\Nr ((aX e45 e53).2) ((-1:Int)=(oN d j)/\True) (aHc ((aX e45 e53).1) (⟨ln,ld⟩:aB)/\Br (b<0) (bK ((k:Int)+1)/\ ∃(k' :Nat) (b' :Int) (ln' :Int) (ld' :Int),((k:Int)+1)=(k' :Int)/\(k:Int)=b' /\((aX e45 e53).1.num)=ln' /\((aX e45 e53).1.den)=ld' /\(k' <=d.basic.length/\(-1<=b' /\b' <k')/\eN d j.toNat (d.basic.length - k') k' b' ⟨ln',ld'⟩=gG d j.toNat)/\d.basic.length - k' <d.basic.length - k) (Br ((eW ((aX e45 e53).1) (⟨ln,ld⟩:aB))<0) (bK ((k:Int)+1)/\ ∃(k' :Nat) (b' :Int) (ln' :Int) (ld' :Int),((k:Int)+1)=(k' :Int)/\(k:Int)=b' /\((aX e45 e53).1.num)=ln' /\((aX e45 e53).1.den)=ld' /\(k' <=d.basic.length/\(-1<=b' /\b' <k')/\eN d j.toNat (d.basic.length - k') k' b' ⟨ln',ld'⟩=gG d j.toNat)/\d.basic.length - k' <d.basic.length - k) (Br ((eW ((aX e45 e53).1) (⟨ln,ld⟩:aB))=0) (0<=(k:Int)/\Em intD d.basic k fun e76=>0<=b/\Em intD d.basic ((b).toNat) fun e81=>Br (e76<e81) (bK ((k:Int)+1)/\ ∃(k' :Nat) (b' :Int) (ln' :Int) (ld' :Int),((k:Int)+1)=(k' :Int)/\(k:Int)=b' /\((aX e45 e53).1.num)=ln' /\((aX e45 e53).1.den)=ld' /\(k' <=d.basic.length/\(-1<=b' /\b' <k')/\eN d j.toNat (d.basic.length - k') k' b' ⟨ln',ld'⟩=gG d j.toNat)/\d.basic.length - k' <d.basic.length - k) (bK ((k:Int)+1)/\ ∃(k' :Nat) (b' :Int) (ln' :Int) (ld' :Int),((k:Int)+1)=(k' :Int)/\b=b' /\ln=ln' /\ld=ld' /\(k' <=d.basic.length/\(-1<=b' /\b' <k')/\eN d j.toNat (d.basic.length - k') k' b' ⟨ln',ld'⟩=gG d j.toNat)/\d.basic.length - k' <d.basic.length - k)) (bK ((k:Int)+1)/\ ∃(k' :Nat) (b' :Int) (ln' :Int) (ld' :Int),((k:Int)+1)=(k' :Int)/\b=b' /\ln=ln' /\ld=ld' /\(k' <=d.basic.length/\(-1<=b' /\b' <k')/\eN d j.toNat (d.basic.length - k') k' b' ⟨ln',ld'⟩=gG d j.toNat)/\d.basic.length - k' <d.basic.length - k)))))) (b=(oN d j)/\True)))))) (by kernel_rfl) ?_;refine lx fun n0=>lx fun n1=>lx fun n2=>lx fun n3=>lx fun n4=>?_;refine⟨aHk d (by omega) (by omega),dm (fun g15=>?_) fun g15=>?_⟩
 ·apply et1
  ·(rw[aWb g15];done)
 ·refine⟨aA8 _,⟨by omega,by omega⟩,iP _ _ _,dn (fun c0=>?_) fun c0=>?_⟩
  ·apply et1
   ·(rw[aUn (by omega)];done)
  ·have hd:dF d=true:=g15;have hj:0<=j/\j<d.others.length:=by omega
   obtain⟨b1,b2,b3,b4,b5,b6,b7,b8⟩:=iH hd;refine⟨⟨0,-1,0,0,rfl,rfl,rfl,rfl,aCC _,by omega,rfl⟩,fun k b ln ld ⟨hk,hb,hv⟩=>?_⟩;refine⟨aA8 _,dd (fun c1=>?_) fun c1=>?_⟩
   ·refine⟨by omega,rfl,by omega,fun e34 h34=>?_⟩;have hrl:=(b5 _ (aCf h34)).1;refine⟨by omega,rfl,by omega,fun e37 h37=>?_⟩;refine dd (fun c2=>?_) fun c2=>?_
    ·refine⟨⟨by omega,by omega⟩,?_⟩;exact⟨k+1,b,ln,ld,rfl,rfl,rfl,rfl,⟨by omega,by omega,by exact(aNe (by omega) h34 h37 c2).symm.trans hv⟩,by omega⟩
    ·refine⟨by omega,rfl,by omega,fun e45 h45=>?_⟩;refine⟨by omega,rfl,by omega,fun e50 h50=>?_⟩;obtain rfl:=aW h34 h50;refine⟨by omega,rfl,by omega,fun e53 h53=>?_⟩;obtain rfl:=aW h37 h53;refine⟨aCw e45 e53,dm (fun c3=>?_) fun c3=>?_⟩
     ·apply et1
      ·(rw[aHm hd hj,<-hv,aQL (by omega) h34 h37 c2 h45 c3];done)
     ·refine⟨aUa ((aX e45 e53).1) (⟨ln,ld⟩:aB),dd (fun g65=>?_) fun g65=>?_⟩
      ·refine⟨⟨by omega,by omega⟩,?_⟩;exact⟨k+1,(k:Int),(aX e45 e53).1.num,(aX e45 e53).1.den,rfl,rfl,rfl,rfl,⟨by omega,by omega,by exact(aAf (by omega) h34 h37 c2 h45 c3 (aWx g65)).symm.trans hv⟩,by omega⟩
      ·refine dd (fun g69=>?_) fun g69=>?_
       ·refine⟨⟨by omega,by omega⟩,?_⟩;exact⟨k+1,(k:Int),(aX e45 e53).1.num,(aX e45 e53).1.den,rfl,rfl,rfl,rfl,⟨by omega,by omega,by exact(aAf (by omega) h34 h37 c2 h45 c3 (aWy g69)).symm.trans hv⟩,by omega⟩
       ·refine dd (fun g72=>?_) fun g72=>?_
        ·refine⟨by omega,rfl,by omega,fun e76 h76=>?_⟩;refine⟨by omega,rfl,by omega,fun e81 h81=>?_⟩;refine dd (fun c4=>?_) fun c4=>?_
         ·refine⟨⟨by omega,by omega⟩,?_⟩;exact⟨k+1,(k:Int),(aX e45 e53).1.num,(aX e45 e53).1.den,rfl,rfl,rfl,rfl,⟨by omega,by omega,by exact(aAf (by omega) h34 h37 c2 h45 c3 (aWz g72 h76 h81 c4)).symm.trans hv⟩,by omega⟩
         ·refine⟨⟨by omega,by omega⟩,?_⟩;exact⟨k+1,b,ln,ld,rfl,rfl,rfl,rfl,⟨by omega,by omega,by exact(aL8 (by omega) h34 h37 c2 h45 c3 (aXB g65 g69 h76 h81 c4)).symm.trans hv⟩,by omega⟩
        ·refine⟨⟨by omega,by omega⟩,?_⟩;exact⟨k+1,b,ln,ld,rfl,rfl,rfl,rfl,⟨by omega,by omega,by exact(aL8 (by omega) h34 h37 c2 h45 c3 (aXA g65 g69 g72)).symm.trans hv⟩,by omega⟩
   ·apply et1
    ·(rw[aHm hd hj,aK0 (by omega) hv];done)
theorem mY (d:aJ)(i j k:Nat):fB d i j (k+1)=fB d i j k++[(aIm d i j k).1]:=by simp[fB,List.range_succ]
theorem mZ (d:aJ)(i j k:Nat):eB d i j (k+1)=(eB d i j k&&(aIm d i j k).2):=by simp[eB,List.range_succ]
theorem aDk {d:aJ}{i j k:Nat}{x a:aB}(ha:iF d i j=a)(hx:iF d i k=x)(h: ¬k=j):aIm d i j k=aX x a:=by rw[aIm,if_neg h,ha,hx]
theorem aDl {d:aJ}{i j k:Nat}{a:aB}(ha:iF d i j=a)(h:k=j):aIm d i j k=aX (aP 1) a:=by rw[aIm,if_pos h,ha];rfl
theorem fS (l p:List aB)(j k:Nat):eG l p j (k+1)=eG l p j k++[(chX l (l.getD j zR) p j k).1]:=by simp[eG,List.range_succ]
theorem gW (l p:List aB)(j k:Nat):fF l p j (k+1)=(fF l p j k&&(chX l (l.getD j zR) p j k).2):=by simp[fF,List.range_succ]
theorem wL {l p:List aB}{j k:Nat}{x c y:aB}(h: ¬k=j)(hx:l[k]? =some x)(hc:l[j]? =some c)(hy:p[k]? =some y):chX l (l.getD j zR) p j k=bW x c y:=by rw[chX,if_neg h,bD hx,bD hc,bD hy]
theorem wM {l p:List aB}{j k:Nat}{c y:aB}(h:k=j)(hc:l[j]? =some c)(hy:p[k]? =some y):chX l (l.getD j zR) p j k=bW (aP 0) c y:=by rw[chX,if_pos h,bD hc,bD hy];rfl
theorem kE (d:aJ)(i j k:Nat):gP d i j (k+1)=gP d i j k++[aCx d i j k]:=by simp[gP,List.range_succ]
theorem kF (d:aJ)(i j k:Nat):hX d i j (k+1)=hX d i j k++[aEk d i j k]:=by simp[hX,List.range_succ]
theorem kG (d:aJ)(i j k:Nat):gH d i j (k+1)=(gH d i j k&&aL6 d i j k):=by simp[gH,List.range_succ]
theorem aAg {F R C L f g:Bool}(h1:f=(F&&R))(h2:g=(f&&C)):(g&&L)=(F&&(R&&(C&&L))):=by subst h1;subst h2;cases F<;>cases R<;>cases C<;>rfl
theorem aK1 {d:aJ}{i j r:Nat}(h:r=i):aCx d i j r=fB d i j d.others.length/\aEk d i j r=(dY d i j).1/\aL6 d i j r=true:=by rw[aCx,aEk,aL6,if_pos h,if_pos h,if_pos h];exact⟨rfl,rfl,rfl⟩
theorem aUq {d:aJ}{i j r:Nat}{p:List aB}{x c l:aB}{row:List aB}(h: ¬r=i)(hp:p=fB d i j d.others.length)(hr:d.table[r]? =some row)(hc:row[j]? =some c)(hx:d.limits[r]? =some x)(hl:(dY d i j).1=l):aCx d i j r=eG row p j d.others.length/\aEk d i j r=(bW x c l).1/\aL6 d i j r=(fF row p j d.others.length&&(bW x c l).2):=by
 rw[aCx,aEk,aL6,if_neg h,if_neg h,if_neg h,aUj,gV hr hc,bD hx,bD hr,hl,<-hp];exact⟨rfl,rfl,rfl⟩
theorem aCy {d:aJ}{i j:Int}(h: ¬((0<=i/\i<d.basic.length)/\0<=j/\j<d.others.length)):bL d i j=(zV,false):=by rw[bL,if_neg (fun q=>h q.2)]
theorem aWc {d:aJ}{i j:Int}(h:dF d=false):bL d i j=(zV,false):=by rw[bL,if_neg (by rw[h];simp)]
theorem jX {d:aJ}{i j:Int}(h: ¬((iF d i.toNat j.toNat).num≠0/\lX d i.toNat j.toNat=true/\(zU d i.toNat j.toNat).2=true)):bL d i j=(zV,false):=by
 rw[bL];split
 ·rw[fJ,if_neg h]
 rfl
theorem aNf {d:aJ}{i j:Int}(h:dF d=true)(hi:0<=i/\i<d.basic.length)(hj:0<=j/\j<d.others.length)(h1:(iF d i.toNat j.toNat).num≠0)(h2:lX d i.toNat j.toNat=true)(h3:(zU d i.toNat j.toNat).2=true):bL d i j=(rQ d i.toNat j.toNat,true):=by rw[bL,if_pos ⟨h,hi,hj⟩,fJ,if_pos ⟨h1,h2,h3⟩]
theorem aHp {d:aJ}{i j:Nat}(h:dF d=true)(hj:j<d.others.length)(hl:(dY d i j).2=true):zU d i j=((fQ d.value (dN (d.costs.getD j zR) (dY d i j).1).1).1,(dN (d.costs.getD j zR) (dY d i j).1).2&&(fQ d.value (dN (d.costs.getD j zR) (dY d i j).1).1).2):=by
 obtain⟨_,_,_,_,_,_,b7,b8⟩:=iH h;exact aPI b8 (aBm b7 hj) (aAe hl)
theorem aRx {α:Type}{l:List α}{i:Nat}{x:α}(h:l[i]? =some x):l.set i x=l:=by
 obtain⟨hi,rfl⟩:=aEa.1 h;simp
theorem aHq {p:Nat->Bool}{k n:Nat}(hk:k<=n)(h:(List.range k).all p=false):(List.range n).all p=false:=by
 cases e:(List.range n).all p with
 | false=>rfl
 | true=>
   rw[aIZ] at e;have:(List.range k).all p=true:=aIZ.2 fun x hx=>e x (aSN.2 (by have:=aSN.1 hx;omega));rw[this] at h;cases h
theorem aNg {d:aJ}{i j r k:Nat}{p:List aB}{f g:Bool}(hf:f=((eB d i j d.others.length&&(dY d i j).2)&&gH d i j r))(hr:r<=d.basic.length)(hp:p=fB d i j d.others.length)(hg:g=(f&&fF d.costs p j k))(hk:k<=d.others.length)(h:g=false):lX d i j=false:=by
 rw[lX,aQH,<-hp];subst hf;rw[hg] at h;simp only[Bool.and_eq_false_iff] at h ⊢;rcases h with (h | h) | h
 ·exact .inl (.inl h)
 ·exact .inl (.inr (aHq hr h))
 exact .inr (aHq hk h)
theorem aRy {d:aJ}{i j r k:Nat}{p:List aB}{f g:Bool}(hf:f=((eB d i j d.others.length&&(dY d i j).2)&&gH d i j r))(hr:r=d.basic.length)(hp:p=fB d i j d.others.length)(hg:g=(f&&fF d.costs p j k))(hk:k=d.others.length)(h:g=true):lX d i j=true:=by
 rw[lX,aQH,<-hp,<-hr,<-hf,<-hk,<-hg,h]
theorem aF2 {d:aJ}{i j r:Nat}{f:Bool}(hf:f=((eB d i j d.others.length&&(dY d i j).2)&&gH d i j r))(hr:r<=d.basic.length)(h:f=false):lX d i j=false:=by
 subst hf;rw[lX];simp only[Bool.and_eq_false_iff] at h ⊢;rcases h with h | h
 ·exact .inl (.inl h)
 exact .inl (.inr (aHq hr h))
theorem aF3 {d:aJ}{i j:Nat}(h:eB d i j d.others.length=false):lX d i j=false:=by
 rw[lX,h];rfl
theorem aK2 {d:aJ}{i j:Nat}(h:lX d i j=true):(dY d i j).2=true:=by
 simp only[lX,aB4] at h;exact h.1.1.2
theorem aBo {d:aJ}{i j:Nat}(hi:i<d.basic.length):(gP d i j d.basic.length).set i (fB d i j d.others.length)=gP d i j d.basic.length:=aRx (by simp[gP,hi,aCx])
abbrev iG (a:aB)(b:aB)(c:aB):AV × List (Nat × Rs):=(.tup [.agg [vI ((bW a b c).1.num),vI ((bW a b c).1.den)],vB ((bW a b c).2)],[])
abbrev jE (a:aB)(b:aB)(c:aB):Prop:=Cn 151 [.agg [.int .i64 a.num,.int .i64 a.den],.agg [.int .i64 b.num,.int .i64 b.den],.agg [.int .i64 c.num,.int .i64 c.den]] (iG a b c).1 (iG a b c).2
theorem nA (a b c:aB):jE a b c:=by
 refine cq Tryz.func151 (.br (.fin []) (.lit<| .lit<| .lit<| .br (.fin []) (bH (rN b c)<| bH (aBg a ((dN b c).1))<| .br (.fin []) (.fin [])))) (p:=Br (b.num=0) (a.num=((bW a b c).1.num)/\a.den=((bW a b c).1.den)/\(true)=((bW a b c).2)/\True) (Br (c.num=0) (a.num=((bW a b c).1.num)/\a.den=((bW a b c).1.den)/\(true)=((bW a b c).2)/\True) (vZ b c/\aHa a ((dN b c).1)/\Bb ((dN b c).2) ((((nQ a ((dN b c).1)).1).num)=((bW a b c).1.num)/\(((nQ a ((dN b c).1)).1).den)=((bW a b c).1.den)/\((nQ a ((dN b c).1)).2)=((bW a b c).2)/\True) ((((nQ a ((dN b c).1)).1).num)=((bW a b c).1.num)/\(((nQ a ((dN b c).1)).1).den)=((bW a b c).1.den)/\(false)=((bW a b c).2)/\True)))) (by kernel_rfl) ?_;refine dd (fun g15=>?_) fun g15=>?_
 ·apply et3<;>((rw[bW,if_pos (.inl (by exact g15))]<;>rfl))
 ·refine dd (fun c0=>?_) fun c0=>?_
  ·apply et3<;>((rw[bW,if_pos (.inr c0)]<;>rfl))
  ·refine⟨aH9 b c,aU8 a ((dN b c).1),db (fun g35=>?_) fun g35=>?_⟩
   ·apply et3<;>(first|(rw[bW,if_neg (by rintro(q|q);exact g15 q;exact c0 q)];simp[*];done)|(rw[bW,if_neg (by rintro(q|q);exact g15 q;exact c0 q)]<;>rfl))
   ·apply et3<;>(first|(rw[bW,if_neg (by rintro(q|q);exact g15 q;exact c0 q)];simp[*];done)|(rw[bW,if_neg (by rintro(q|q);exact g15 q;exact c0 q)]<;>rfl))
end Go.Proofs.YtlidmoeecphbmaaGreat
namespace Go.Proofs
open Go.Shelf
namespace YtlidmoeecphbmaaGreat
def Tryz.cloneRats_ren:Go.Shelf.Ren:=⟨fun | 41=>165 | n=>n,fun | 22=>61 | 23=>38 | 4=>4 | n=>n,fun | n=>n⟩
theorem Tryz.cloneRats:Go.Proofs.SlLaysE0.n41 Tryz.prog Tryz.cloneRats_ren:={
 mixed:=by kernel_rfl
 f41:=⟨Tryz.f165.name,by decide,Tryz.func165.trans (congrArg some (by kernel_rfl))⟩
 t4:=Tryz.underlying4
 a4:=Tryz.isAgg4
 z4:=Tryz.sizeOf4
 v4:=Tryz.zeroValue4
 t22:=Tryz.underlying61
 a22:=Tryz.isAgg61
 z22:=Tryz.sizeOf61
 v22:=Tryz.zeroValue61 }
end YtlidmoeecphbmaaGreat
end Go.Proofs
namespace Go.Proofs.YtlidmoeecphbmaaGreat
open Go.ChangeShapes Go.WideShapes Go.ChangeAt Go.RowKit
set_option linter.unusedVariables false
section
variable {P:Program}
theorem aRz {f:FuncId}{args:List Ar}{e k:Nat}{xs:List (List bP)}(hc:iZ P f=true)(h: ∀A w (vs:Array Value),(∀b,A b->b<w.heap.size)->nU A w args vs.toList->Calls P f vs w (fun en w' => ∃(v:Value) (F:List Nat),en= .returned v/\oV w' (.sl e k xs) v F/\F.Nodup/\(∀g∈F,w.heap.size<=g)/\Below w.heap.size w w' /\ ∀g∈F,g<w'.heap.size)):
 qI P f args (.own 0) [(0,.arr e k true xs)]:=by
 refine⟨hc,fun A w vs hA ha=>(h A w vs hA ha).mono fun en w' ⟨v,F,he,ho,hn,hg,hb,hlt⟩=>?_⟩;unfold oV at ho;obtain⟨css,Fs,r1,r2,r3⟩:=ho;have hpl:(⟨v,v.ownBlock.toList,Fs.flatten⟩:Pl).F=F:=by unfold Pl.F;exact r2.symm
 refine⟨v,fun _=>False,fun x=>if x=0 then some ⟨v,v.ownBlock.toList,Fs.flatten⟩ else none,he,hb,by simp,by simp,fun x r hx=>?_,fun x hx=>?_,fun x x' pl pl' hne hx hx' g hg hg' =>?_,fun x pl hx=>?_,fun x pl hx g hg' =>?_,?_⟩
 ·simp only[bC] at hx;split at hx
  ·rename_i e1;injection hx with hx
   subst hx;exact⟨_,if_pos e1,⟨css,Fs,r1,rfl,rfl,r3⟩⟩
  cases hx
 ·simp only[bC] at hx;split at hx
  ·cases hx
  rename_i e1;exact if_neg e1
 ·simp only at hx hx';split at hx
  ·split at hx'
   ·subst_vars;exact hne rfl
   cases hx'
  cases hx
 ·simp only at hx;split at hx
  ·injection hx with hx
   subst hx;rw[hpl];exact hn
  cases hx
 ·simp only at hx;split at hx
  ·injection hx with hx
   subst hx;rw[hpl] at hg';exact⟨hg g hg',hlt g hg'⟩
  cases hx
 unfold aH;intro pl hp;simp only[if_true,Option.some.injEq] at hp;subst hp;rfl
end
def aWd (x:aB):List Value:=[.int .i64 x.num,.int .i64 x.den]
theorem aEm {K:Nat->Prop}{w:World}: ∀{l:List aB} {css:List (List Value)},eH K w 2 (l.map aA) css->css=l.map aWd
 | [],css,h=>h
 | x::l,css,⟨c,css',e,h1,h2,h3⟩=>by
   subst e;obtain⟨v,vs,e1,m1,v2,vs2,e2,m2,m3⟩:=h2;unfold hY at m1 m2;rw[aEm h3,e1,e2,m1,m2,show vs2= [] from m3];rfl
theorem aK3 {w:World}: ∀(l:List aB),cL w 2 (l.map aA) (l.map aWd) (l.map fun _=>[])
 | []=>by unfold cL;exact⟨rfl,rfl⟩
 | x::l=>by
   rw[aKT,aKT,aKT];unfold cL;refine⟨_,_,_,_,rfl,rfl,rfl,?_,aK3 l⟩;have h1:oV w (.int .i64 x.num) (.int .i64 x.num) []:=by unfold oV;exact⟨rfl,rfl⟩
   have h2:oV w (.int .i64 x.den) (.int .i64 x.den) []:=by unfold oV;exact⟨rfl,rfl⟩
   exact mP (F1:=[]) (F2:=[]) h1 (mP (F1:=[]) (F2:=[]) h2 aME)
theorem aNh: ∀l:List aB,(l.map aWd).flatten.length=l.length*2
 | []=>rfl
 | x::l=>by simp only[aKT,aOJ,aSM,aPS,aNh l,aWd,List.length_nil];omega
theorem aBp (l:List aB)(h0:0<l.length)(hl:l.length<=1048576):qI Tryz.prog 165 [.one (.sl 38 2 (l.map aA))] (.own 0) [(0,.arr 38 2 true (l.map aA))]:=
 aRz (by kernel_rfl) fun A w vs hA ha=>by
  obtain⟨v,vs',e,hv,hv2⟩:=ha;simp only[aLt] at hv;unfold hY at hv;obtain⟨a,c,rfl,h1,h2,h3⟩:=hv;obtain⟨css,hr,hne⟩:=fY.vals h3;obtain⟨b,off,rfl,hcell⟩:=hne (by intro q;rw[List.map_eq_nil_iff] at q;rw[q] at h0;exact absurd h0 (Nat.lt_irrefl 0));have ev:vs= #[.slice (some ⟨b,off,none⟩) (l.map aA).length c]:=by apply Array.ext';rw[e,show vs' = [] from hv2]
  have hcs:=aEm hr;have hone:=aAy hr
  have hlen:css.flatten.length=(l.map aA).length*2:=by
   rw[hcs,aNh,aA8]
  rw[ev];have hT:fX Tryz.prog 38=some (true,2,16,.agg #[.int .i64 0,.int .i64 0]):=by kernel_rfl
  have hI:=fT hT w;refine(AnyE.slices_Clone Tryz.cloneRats _ _ 2 16 hI.2.2.2.2.2.1 hI.2.2.2.2.2.2.2 hI.2.2.2.2.2.2.1 hI.2.2.2.2.1 rfl (by omega) (fun w=>(fT hT w).2.1) b off _ c css.flatten w hlen (by simp[maxLen];omega) (by simp;omega) (fun j u hj=>by have:=hcell j u hj;rwa [Nat.add_zero] at this) hone).mono fun e w' ⟨v',he,ho,_,hb⟩=>?_;refine⟨v',v'.ownBlock.toList,he,?_,?_,fun g hg=>(uL ho g hg).1,hb,fun g hg=>(uL ho g hg).2⟩
  ·unfold oV;refine⟨css,l.map fun _=>[],aDE ho (fun g hg=>aCC g),?_,?_⟩
   ·simp
   rw[hcs];exact aK3 l
  cases v'.ownBlock<;>simp
end Go.Proofs.YtlidmoeecphbmaaGreat
namespace Go.Proofs.YtlidmoeecphbmaaGreat
open Go.ChangeShapes Go.WideShapes Go.ChangeAt Go.RowKit
set_option linter.unusedVariables false
set_option linter.unusedSimpArgs false
set_option maxRecDepth 100000
set_option maxHeartbeats 4000000
abbrev zX (f:Bool)(a:aB)(b:aB):List AV × List (Nat × Rs) × AV × List (Nat × Rs):=([.ptr 0 0,.agg [vI a.num,vI a.den],.agg [vI b.num,vI b.den]],[(0,.box 201 [vB f])],.agg [vI ((aX a b).1.num),vI ((aX a b).1.den)],[(0,.box 201 [vB (f || !(aX a b).2)])])
abbrev aHr (f:Bool)(a:aB)(b:aB):Prop:=Cm 166 (zX f a b).1 (zX f a b).2.1 (zX f a b).2.2.1 (zX f a b).2.2.2
theorem aWe (f:Bool)(a b:aB):aHr f a b:=by
 refine cqx Tryz.func166 (bH (vX a b)<| .br (.fin [(0,0)]) (.fin [(0,0)])) (p:=aBe a b/\Bb (f) (((aX a b).1.num)=((aX a b).1.num)/\((aX a b).1.den)=((aX a b).1.den)/\(true)=(f || !(aX a b).2)/\True) (((aX a b).1.num)=((aX a b).1.num)/\((aX a b).1.den)=((aX a b).1.den)/\(!((aX a b).2))=(f || !(aX a b).2)/\True)) (by kernel_rfl) ?_;refine⟨aNU a b,db (fun g20=>?_) fun g20=>?_⟩
 ·refine⟨rfl,rfl,?_,trivial⟩
  ·(rw[g20]<;>rfl)
 ·refine⟨rfl,rfl,?_,trivial⟩
  ·(rw[g20]<;>rfl)
abbrev sR (f:Bool)(a:aB)(b:aB)(c:aB):List AV × List (Nat × Rs) × AV × List (Nat × Rs):=([.ptr 0 0,.agg [vI a.num,vI a.den],.agg [vI b.num,vI b.den],.agg [vI c.num,vI c.den]],[(0,.box 201 [vB f])],.agg [vI ((dQ a b c).1.num),vI ((dQ a b c).1.den)],[(0,.box 201 [vB (f || !(dQ a b c).2)])])
abbrev aCz (f:Bool)(a:aB)(b:aB)(c:aB):Prop:=Cm 168 (sR f a b c).1 (sR f a b c).2.1 (sR f a b c).2.2.1 (sR f a b c).2.2.2
theorem aQM (f:Bool)(a b c:aB):aCz f a b c:=by
 refine cqx Tryz.func168 (.br (.fin [(0,0)]) (.lit<| .lit<| .lit<| .br (.fin [(0,0)]) (bH (aBd b c)<| bH (aBc a ((dN b c).1))<| .br (.fin [(0,0)]) (.lit<| .lit<| .br (.fin [(0,0)]) (.fin [(0,0)]))))) (p:=Br (b.num=0) (a.num=((dQ a b c).1.num)/\a.den=((dQ a b c).1.den)/\(f)=(f || !(dQ a b c).2)/\True) (Br (c.num=0) (a.num=((dQ a b c).1.num)/\a.den=((dQ a b c).1.den)/\(f)=(f || !(dQ a b c).2)/\True) (aH8 b c/\aH7 a ((dN b c).1)/\Bb (f) ((((fQ a ((dN b c).1)).1).num)=((dQ a b c).1.num)/\(((fQ a ((dN b c).1)).1).den)=((dQ a b c).1.den)/\(true)=(f || !(dQ a b c).2)/\True) (Nr ((dN b c).2) ((((fQ a ((dN b c).1)).1).num)=((dQ a b c).1.num)/\(((fQ a ((dN b c).1)).1).den)=((dQ a b c).1.den)/\(true)=(f || !(dQ a b c).2)/\True) ((((fQ a ((dN b c).1)).1).num)=((dQ a b c).1.num)/\(((fQ a ((dN b c).1)).1).den)=((dQ a b c).1.den)/\(!((fQ a ((dN b c).1)).2))=(f || !(dQ a b c).2)/\True))))) (by kernel_rfl) ?_;refine dd (fun g16=>?_) fun g16=>?_
 ·apply et3<;>((rw[dQ,if_pos (.inl g16)]<;>(simp;done)))
 ·refine dd (fun c0=>?_) fun c0=>?_
  ·apply et3<;>((rw[dQ,if_pos (.inr c0)]<;>(simp;done)))
  ·have hP:dQ a b c=((fQ a (dN b c).1).1,(dN b c).2&&(fQ a (dN b c).1).2):=by rw[dQ,if_neg (by rintro(q | q);exact g16 q;exact c0 q)]
   refine⟨aU6 b c,aU5 a ((dN b c).1),db (fun g39=>?_) fun g39=>?_⟩
   ·apply et3<;>((rw[hP]<;>(simp[*];done)))
   ·refine dm (fun g43=>?_) fun g43=>?_
    ·apply et3<;>((rw[hP]<;>(simp[*];done)))
    ·apply et3<;>((rw[hP]<;>(simp[*];done)))
abbrev oO (a:aB):Prop:=Cn 108 [.agg [.int .i64 a.num,.int .i64 a.den]] (.agg [vI ((dT a).num),vI ((dT a).den)]) []
theorem zY (a:aB)(ha: -9223372036854775807<=a.num/\a.num<=9223372036854775807):oO a:=by
 refine cq Tryz.func108 (.fin []) (p:=bK (-a.num)/\(-a.num)=((dT a).num)/\a.den=((dT a).den)/\True) (by kernel_rfl) ?_;refine⟨by exact⟨by omega,by omega⟩,?_,?_,trivial⟩<;>(rfl)
theorem aYK (a c:aB): -9223372036854775807<=(aX a c).1.num/\(aX a c).1.num<=9223372036854775807:=by
 cases e:(aX a c).2 with
 | true=>have:=cN (aAe e);omega
 | false=>rw[aNZ e];exact⟨by decide,by decide⟩
theorem aYL {α:Type}{A l:List α}{k:Nat}(h:A.length=k):(A++l.drop k)[k]? =l[k]? :=by
 subst h;rw[aM8 (aSO _)];simp[List.getElem?_drop]
theorem aDA {α:Type}{A l:List α}{k:Nat}{y:α}(h:A.length=k)(hk:k<l.length):(A++l.drop k).set k y=(A++[y])++l.drop (k+1):=by
 subst h;rw[List.drop_eq_getElem_cons hk,List.set_append_right _ _ (aSO _),Nat.sub_self,List.set_cons_zero,aLV];rfl
theorem aQN {α:Type}{A l:List α}{k:Nat}(h:l.length<=k):A++l.drop k=A:=by rw[List.drop_eq_nil_of_le h,aWr]
theorem nt2 (A B:Bool):(!A || !B)= !(A&&B):=by cases A<;>cases B<;>rfl
theorem nt3 (f A B:Bool):((f || !A) || !B)=(f || !(A&&B)):=by cases f<;>cases A<;>cases B<;>rfl
theorem aDm (l p:List aB)(j n:Nat):(eG l p j n).length=n:=by simp[eG]
theorem aUr {l p:List aB}{j k:Nat}{x c y:aB}(h: ¬k=j)(hx:l[k]? =some x)(hc:l.getD j zR=c)(hy:p[k]? =some y):chX l (l.getD j zR) p j k=dQ x (dT c) y:=by rw[chX,if_neg h,bD hx,hc,bD hy,aKV]
theorem aUs {l p:List aB}{j k:Nat}{c a:aB}(h:k=j)(hc:l.getD j zR=c)(hy:p.getD j zR=(aX aFE a).1)(vc:bA c=true)(va:bA a=true)(h0: ¬a.num=0):chX l (l.getD j zR) p j k=(dT (aX c a).1,(aX c a).2):=by
 rw[chX,if_pos h,hc,h,hy];exact aUh vc va h0
theorem aUt {d:aJ}{i j n:Nat}{a:aB}(hj:j<n)(ha:iF d i j=a):(fB d i j n).getD j zR=(aX aFE a).1:=by
 have e:(fB d i j n)[j]? =some (aIm d i j j).1:=by rw[fB,aXY,List.getElem?_range hj];rfl
 rw[bD e,aIm,if_pos rfl,ha]
abbrev mK (l:List aB)(p:List aB)(a:aB)(j:Int)(f:Bool):List AV × List (Nat × Rs) × AV × List (Nat × Rs):=([.p none (.sl 38 2 (l.map aA)),.rp none [.int .i64 j],.ptr 0 0,.rp none [.int .i64 a.num,.int .i64 a.den],.rp none [.sl 38 2 (p.map aA)]],[(0,.box 199 [.ptr 1 0]),(1,.box 201 [vB f])],.own 2,[(0,.box 199 [.ptr 1 0]),(1,.box 201 [vB (f || !fF l p j.toNat l.length)]),(2,.arr 38 2 true ((eG l p j.toNat l.length).map aA))])
abbrev wB (l:List aB)(p:List aB)(a:aB)(j:Int)(f:Bool):Prop:=Cm 167 (mK l p a j f).1 (mK l p a j f).2.1 (mK l p a j f).2.2.1 (mK l p a j f).2.2.2
theorem aHs (l p:List aB)(a:aB)(j:Int)(f:Bool)(hj:0<=j/\j<l.length)(hl:l.length<=15)(hp:p.length=l.length)(hv: ∀x∈l,bA x=true)(hva:bA a=true)(hnz: ¬a.num=0)(hpj:p.getD j.toNat zR=(aX aFE a).1):wB l p a j f:=by
 refine cqx Tryz.func167 (.elem _ aA l (fun e11=> .call (.own 0) [(0,.arr 38 2 true (l.map aA))]<| .len l.length<| .loop (Nat × (List aB) × Bool) (Q3 Nat (List aB) Bool) ([0,8]++rg 17 30) [1,1400] (fun yy0=>[(17,vI (yy0.1:Int)),(0,.own 1400)]) (fun yy0=>[(1400,some (.arr 38 2 true (yy0.2.1.map aA))),(1,some (.box 201 [vB yy0.2.2]))]) (fun yy0=>yy0.1<=l.length/\yy0.2.1=eG l p j.toNat yy0.1++l.drop yy0.1/\yy0.2.2=(f || !fF l p j.toNat yy0.1)/\yy0.2.1.length=l.length) (fun yy0=>l.length - yy0.1) (fun yy0=> .br (.br (oD (zX yy0.2.2 e11 a) [(0,1)]<| .call (.agg [vI ((dT ((aX e11 a).1)).num),vI ((dT ((aX e11 a).1)).den)]) []<| .len yy0.2.1.length<| .set aB aA yy0.2.1 (fun s7_8=>(dT ((aX e11 a).1))) (fun s7_8=> .back [(1,1),(1400,1400)])) (.len yy0.2.1.length<| .elem _ aA yy0.2.1 (fun e37=> .call (.agg [vI ((dT e11).num),vI ((dT e11).den)]) []<| .elem _ aA p (fun e42=>oD (sR yy0.2.2 e37 (dT e11) e42) [(0,1)]<| .len yy0.2.1.length<| .set aB aA yy0.2.1 (fun s8_15=>((dQ e37 (dT e11) e42).1)) (fun s8_15=> .back [(1,1),(1400,1400)]))))) (.fin [(0,0),(1,1),(2,1400)])))) (p:=0<=j/\Em aA l ((j).toNat) fun e11=>qI Tryz.prog 165 [.one (.sl 38 2 (l.map aA))] (.own 0) [(0,.arr 38 2 true (l.map aA))]/\(Lm aA l/\((∃(k:Nat) (o:List aB) (g:Bool),0=(k:Int)/\l.map aA=o.map aA/\(f)=g/\k<=l.length/\o=eG l p j.toNat k++l.drop k/\g=(f || !fF l p j.toNat k)/\o.length=l.length)/\ ∀(k:Nat) (o:List aB) (g:Bool),(k<=l.length/\o=eG l p j.toNat k++l.drop k/\g=(f || !fF l p j.toNat k)/\o.length=l.length)->Br ((k:Int)<(l.length:Int)) (Br ((k:Int)=j) (aHr g e11 a/\e11.num=e11.num/\e11.den=e11.den/\a.num=a.num/\a.den=a.den/\(g)=g/\(oO ((aX e11 a).1)/\(0<=(k:Int)/\Lm aA o/\(k:Int)<(o.length:Int)/\(o.map aA=o.map aA/\k<o.length/\ ∀s7_8,o[k]? =some s7_8->gI (aA s7_8)=true/\0+2<=(aA s7_8).length/\(aA s7_8).take 0++[.int .i64 ((dT ((aX e11 a).1)).num),.int .i64 ((dT ((aX e11 a).1)).den)]++(aA s7_8).drop (0+2)=aA (dT ((aX e11 a).1))/\bK ((k:Int)+1)/\ ∃(k' :Nat) (o' :List aB) (g' :Bool),((k:Int)+1)=(k' :Int)/\(o.set k (dT ((aX e11 a).1))).map aA=o'.map aA/\(g || !(aX e11 a).2)=g' /\(k' <=l.length/\o' =eG l p j.toNat k' ++l.drop k' /\g' =(f || !fF l p j.toNat k')/\o'.length=l.length)/\l.length - k' <l.length - k)))) (0<=(k:Int)/\Lm aA o/\(k:Int)<(o.length:Int)/\Em aA o k fun e37=>oO e11/\(0<=(k:Int)/\Em aA p k fun e42=>aCz g e37 (dT e11) e42/\e37.num=e37.num/\e37.den=e37.den/\((dT e11).num)=((dT e11).num)/\((dT e11).den)=((dT e11).den)/\e42.num=e42.num/\e42.den=e42.den/\(g)=g/\(0<=(k:Int)/\Lm aA o/\(k:Int)<(o.length:Int)/\(o.map aA=o.map aA/\k<o.length/\ ∀s8_15,o[k]? =some s8_15->gI (aA s8_15)=true/\0+2<=(aA s8_15).length/\(aA s8_15).take 0++[.int .i64 ((dQ e37 (dT e11) e42).1.num),.int .i64 ((dQ e37 (dT e11) e42).1.den)]++(aA s8_15).drop (0+2)=aA ((dQ e37 (dT e11) e42).1)/\bK ((k:Int)+1)/\ ∃(k' :Nat) (o' :List aB) (g' :Bool),((k:Int)+1)=(k' :Int)/\(o.set k ((dQ e37 (dT e11) e42).1)).map aA=o'.map aA/\(g || !(dQ e37 (dT e11) e42).2)=g' /\(k' <=l.length/\o' =eG l p j.toNat k' ++l.drop k' /\g' =(f || !fF l p j.toNat k')/\o'.length=l.length)/\l.length - k' <l.length - k))))) ((g)=(f || !fF l p j.toNat l.length)/\o.map aA=(eG l p j.toNat l.length).map aA/\True)))) (by kernel_rfl) ?_;refine⟨by omega,rfl,by omega,fun e11 h11=>?_⟩;have hc:l.getD j.toNat zR=e11:=bD h11;have hcv:=hv _ (aCf h11);have hcb:=cN hcv;refine⟨aBp l (by omega) (by omega),aA8 _,⟨0,l,f,rfl,rfl,rfl,aCC _,rfl,by simp[fF],rfl⟩,fun k o g ⟨hk,ho,hg,hL⟩=>?_⟩;refine dd (fun c0=>?_) fun c0=>?_
 ·refine dd (fun c1=>?_) fun c1=>?_
  ·refine⟨aWe g e11 a,rfl,rfl,rfl,rfl,rfl,zY ((aX e11 a).1) (by exact aYK _ _),by omega,aA8 _,by omega,rfl,by omega,fun s7_8 hs7_8=>⟨rfl,aDg rfl,rfl,?_⟩⟩;refine⟨⟨by omega,by omega⟩,?_⟩;exact⟨k+1,_,g || !(aX e11 a).2,rfl,rfl,rfl,⟨by omega,by (rw[ho,aDA (aDm _ _ _ _) (by omega),fS,aUs (by omega) hc hpj hcv hva hnz]<;>rfl),by (rw[hg,nt3,gW,aUs (by omega) hc hpj hcv hva hnz]<;>rfl),by rw[aJa];exact hL⟩,by omega⟩
  ·refine⟨by omega,aA8 _,by omega,rfl,by omega,fun e37 h37=>?_⟩;have w37:l[k]? =some e37:=by rw[<-aYL (A:=eG l p j.toNat k) (l:=l) (aDm l p j.toNat k),<-ho];exact h37
   refine⟨zY e11 (by omega),by omega,rfl,by omega,fun e42 h42=>?_⟩;refine⟨aQM g e37 (dT e11) e42,rfl,rfl,rfl,rfl,rfl,rfl,rfl,by omega,aA8 _,by omega,rfl,by omega,fun s8_15 hs8_15=>⟨rfl,aDg rfl,rfl,?_⟩⟩;refine⟨⟨by omega,by omega⟩,?_⟩;exact⟨k+1,_,g || !(dQ e37 (dT e11) e42).2,rfl,rfl,rfl,⟨by omega,by (rw[ho,aDA (aDm _ _ _ _) (by omega),fS,aUr (by omega) w37 hc h42]<;>rfl),by (rw[hg,nt3,gW,aUr (by omega) w37 hc h42]<;>rfl),by rw[aJa];exact hL⟩,by omega⟩
 ·apply et2<;>(first|(rw[hg,show k=l.length by omega];done)|(rw[ho,show k=l.length by omega,aQN (aSO _)];done))
end Go.Proofs.YtlidmoeecphbmaaGreat
