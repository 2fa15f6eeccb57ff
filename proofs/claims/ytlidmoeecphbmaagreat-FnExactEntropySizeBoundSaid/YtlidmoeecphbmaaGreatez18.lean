/-
  Contracts and plain laws, joined: part 19.
-/
import Derived.Test.YtlidmoeecphbmaaGreatez17
import Derived.Test.YtlidmoeecphbmaaGreatez3
import Derived.Shelf.SlicesE.Clone
import Derived.Ground.SlgnProg
namespace Go.Proofs.YtlidmoeecphbmaaGreat
open Go.ChangeShapes Go.WideShapes Go.ChangeAt Go.RowKit
set_option linter.unusedVariables false
set_option linter.unusedSimpArgs false
set_option maxRecDepth 100000
set_option maxHeartbeats 4000000
theorem pZ {d:aJ}(h: ¬((d.basic.length:Int)<=64/\(1<=(d.others.length:Int)/\(d.others.length:Int)<=15)/\(d.table.length:Int)=d.basic.length/\(d.limits.length:Int)=d.basic.length/\(d.costs.length:Int)=d.others.length)):dH d=false:=by
 cases e:dH d with
 | false=>rfl
 | true=>
   obtain⟨b1,b2,b3,_,_,b6,b7,_⟩:=iL e;exact absurd ⟨by omega,by omega,by omega,by omega,by omega⟩ h
theorem aSa {d:aJ}(h:(d.basic.length:Int)<=64/\(1<=(d.others.length:Int)/\(d.others.length:Int)<=15)/\(d.table.length:Int)=d.basic.length)(h1:qC (d.basic++d.others)=true)(h2:d.table.all (fun r=>hJ r d.others.length)=true)(h3:hJ d.limits d.basic.length=true)(h4:hJ d.costs d.others.length=true):dH d=aW d.value:=by
 simp only[dH,h1,h2,h3,h4,decide_eq_true h.1,decide_eq_true h.2.1,decide_eq_true h.2.2,Bool.true_and]
abbrev wO (d:aJ):Prop:=Cn 148 [.agg [.sl 3 1 (d.basic.map intD),.sl 3 1 (d.others.map intD),.sl 61 1 (d.table.map aG),.sl 38 2 (d.limits.map aA),.sl 38 2 (d.costs.map aA),.int .i64 d.value.num,.int .i64 d.value.den]] (vB (dH d)) []
theorem aIG (d:aJ)(h0:d.basic.length<=1048576)(h1:d.others.length<=1048576):wO d:=by
 refine cq Tryz.func148 (.len d.basic.length<| .len d.others.length<| .br (.fin []) (.call (vB (decide (1<=(d.others.length:Int)/\(d.others.length:Int)<=15))) []<| .lit<| .lit<| .br (.fin []) (.len d.table.length<| .lit<| .lit<| .lit<| .br (.fin []) (.len d.limits.length<| .lit<| .lit<| .lit<| .br (.fin []) (.len d.costs.length<| .lit<| .lit<| .lit<| .br (.fin []) (.app Int intD ([]:List Int) d.basic<| .app Int intD (([]:List Int)++d.basic) d.others<| .loop Nat (Q1 Nat) ([6]++rg 49 11) [] (fun k=>[(6,vI (k:Int))]) (fun k=>[]) (fun k=>k<=d.basic.length+d.others.length/\(∀i,i<k->((([]:List Int)++d.basic)++d.others).any (isD (i:Nat))=true)) (fun k=>d.basic.length+d.others.length - k) (fun k=> .br (.call (vB (((([]:List Int)++d.basic)++d.others).any (isD (k:Int)))) []<| .br (.fin []) (.back [])) (.loop Nat (Q1 Nat) ([7]++rg 60 22) [] (fun j=>[(7,vI (j:Int))]) (fun j=>[]) (fun j=>j<=d.basic.length/\(d.table.take j).all (fun r=>hJ r d.others.length)=true) (fun j=>d.basic.length - j) (fun j=> .br (.elem _ aG d.table (fun e68=> .len e68.length<| .br (.fin []) (.elem _ aG d.table (fun e77=> .call (vB (e77.all aW)) []<| .lit<| .lit<| .br (.fin []) (.back []))))) (.call (vB (d.limits.all aW)) []<| .br (.call (vB (d.costs.all aW)) []<| .lit<| .br (.call (vB (aW d.value)) []<| .fin []) (.fin [])) (.fin []))))))))))) (p:=Lx (d.basic.map intD)<| Lx (d.others.map intD)<| Lx (d.table.map aG)<| Lx (d.limits.map aA)<| Lx (d.costs.map aA)<| Lm intD d.basic/\(Lm intD d.others/\Br (64<(d.basic.length:Int)) ((false)=(dH d)/\True) (fB (d.others.length:Int) (1:Int) (15:Int)/\Nb (1<=(d.others.length:Int)/\(d.others.length:Int)<=15) ((false)=(dH d)/\True) (Lm aG d.table/\Nb ((d.table.length:Int)=(d.basic.length:Int)) ((false)=(dH d)/\True) (Lm aA d.limits/\Nb ((d.limits.length:Int)=(d.basic.length:Int)) ((false)=(dH d)/\True) (Lm aA d.costs/\Nb ((d.costs.length:Int)=(d.others.length:Int)) ((false)=(dH d)/\True) (Ap intD ([]:List Int) d.basic 8 (Ap intD (([]:List Int)++d.basic) d.others 8 ((∃(k:Nat),0=(k:Int)/\k<=d.basic.length+d.others.length/\(∀i,i<k->((([]:List Int)++d.basic)++d.others).any (isD (i:Nat))=true))/\ ∀(k:Nat),(k<=d.basic.length+d.others.length/\(∀i,i<k->((([]:List Int)++d.basic)++d.others).any (isD (i:Nat))=true))->bJ ((d.basic.length:Int)+(d.others.length:Int))/\Br ((k:Int)<((d.basic.length:Int)+(d.others.length:Int))) (aFH ((([]:List Int)++d.basic)++d.others) (k:Int)/\Nr (((([]:List Int)++d.basic)++d.others).any (isD (k:Int))) ((false)=(dH d)/\True) (bJ ((k:Int)+1)/\ ∃(k' :Nat),((k:Int)+1)=(k' :Int)/\(k' <=d.basic.length+d.others.length/\(∀i,i<k' ->((([]:List Int)++d.basic)++d.others).any (isD (i:Nat))=true))/\d.basic.length+d.others.length - k' <d.basic.length+d.others.length - k)) ((∃(j:Nat),0=(j:Int)/\j<=d.basic.length/\(d.table.take j).all (fun r=>hJ r d.others.length)=true)/\ ∀(j:Nat),(j<=d.basic.length/\(d.table.take j).all (fun r=>hJ r d.others.length)=true)->Br ((j:Int)<(d.basic.length:Int)) (0<=(j:Int)/\Em aG d.table j fun e68=>Lm aA e68/\Nb ((e68.length:Int)=(d.others.length:Int)) ((false)=(dH d)/\True) (0<=(j:Int)/\Em aG d.table j fun e77=>tA e77/\Nr (e77.all aW) ((false)=(dH d)/\True) (bJ ((j:Int)+1)/\ ∃(j' :Nat),((j:Int)+1)=(j' :Int)/\(j' <=d.basic.length/\(d.table.take j').all (fun r=>hJ r d.others.length)=true)/\d.basic.length - j' <d.basic.length - j))) (tA d.limits/\Bb (d.limits.all aW) (tA d.costs/\Bb (d.costs.all aW) (eQ d.value/\(aW d.value)=(dH d)/\True) ((false)=(dH d)/\True)) ((false)=(dH d)/\True)))))))))))) (by kernel_rfl) ?_;refine lx fun n0=>lx fun n1=>lx fun n2=>lx fun n3=>lx fun n4=>?_;refine⟨aAq _,aAq _,dd (fun g16=>?_) fun g16=>?_⟩
 ·apply et1
  ·(exact(pZ (by omega)).symm)
 ·refine⟨iT _ _ _,dn (fun g21=>?_) fun g21=>?_⟩
  ·apply et1
   ·(exact(pZ (by omega)).symm)
  ·refine⟨aAq _,dn (fun g28=>?_) fun g28=>?_⟩
   ·apply et1
    ·(exact(pZ (by omega)).symm)
   ·refine⟨aAq _,dn (fun g35=>?_) fun g35=>?_⟩
    ·apply et1
     ·(exact(pZ (by omega)).symm)
    ·refine⟨aAq _,dn (fun c0=>?_) fun c0=>?_⟩
     ·apply et1
      ·(exact(pZ (by omega)).symm)
     ·refine ap ?_ (fun _=>rfl) (by (simp;omega));refine ap ?_ (fun _=>rfl) (by (simp;omega));refine⟨⟨0,rfl,aBn _,fun i h=>absurd h (Nat.not_lt_zero _)⟩,fun k ⟨hk,ha⟩=>?_⟩;refine⟨⟨by omega,by omega⟩,dd (fun c1=>?_) fun c1=>?_⟩
      ·refine⟨aS9 ((([]:List Int)++d.basic)++d.others) (k:Int),dm (fun c2=>?_) fun c2=>?_⟩
       ·apply et1
        ·(exact(aPh (aXU (k:=k) (by simp;omega) c2)).symm)
       ·refine⟨⟨by omega,by omega⟩,?_⟩;exact⟨k+1,rfl,⟨by omega,upN (p:=fun i=>((([]:List Int)++d.basic)++d.others).any (isD (i:Nat))=true) ha c2⟩,by omega⟩
      ·have hp:qC (d.basic++d.others)=true:=aXT (n:=k) (by simp;omega) ha;refine⟨⟨0,rfl,aBn _,rfl⟩,fun j ⟨hj,hb⟩=>?_⟩;refine dd (fun c3=>?_) fun c3=>?_
       ·refine⟨by omega,rfl,by omega,fun e68 h68=>?_⟩;refine⟨aAq _,dn (fun g73=>?_) fun g73=>?_⟩
        ·apply et1
         ·(exact(aIC h68 (aPj (by omega))).symm)
        ·refine⟨by omega,rfl,by omega,fun e77 h77=>?_⟩;obtain rfl:=(aX h68 h77).symm;refine⟨aEH _,dm (fun c4=>?_) fun c4=>?_⟩
         ·apply et1
          ·(exact(aIC h68 (aCF c4)).symm)
         ·refine⟨⟨by omega,by omega⟩,?_⟩;exact⟨j+1,rfl,⟨by omega,cL h68 hb (aEF g73 c4)⟩,by omega⟩
       ·have hcl:=cZ (by omega) hb;refine⟨aEH _,db (fun g85=>?_) fun g85=>?_⟩
        ·refine⟨aEH _,db (fun g90=>?_) fun g90=>?_⟩
         ·refine⟨iA d.value,?_,trivial⟩
          ·(exact(aSa (by omega) hp hcl (aEF (by omega) g85) (aEF (by omega) g90)).symm)
         ·apply et1
          ·(exact(aOF (aCF g90)).symm)
        ·apply et1
         ·(exact(aPi (aCF g85)).symm)
theorem aOM {d:aJ}{k:Nat}{b:Int}{x:aB}(hb:b=kT d k)(hx:d.costs[k]? =some x)(h: ¬0<x.num):b=kT d (k+1):=aQm hb (by rw[aCG,bE hx,decide_eq_false h];rfl)
theorem aON {d:aJ}{k:Nat}{b:Int}{x:aB}(hb:b=kT d k)(hx:d.costs[k]? =some x)(h:0<x.num)(h2:b<0):(k:Int)=kT d (k+1):=aOH hb (by rw[aCG,bE hx,decide_eq_true h,decide_eq_true h2];rfl)
theorem aKs {d:aJ}{k:Nat}{b y z:Int}{x:aB}(hb:b=kT d k)(hx:d.costs[k]? =some x)(h:0<x.num)(hy:d.others[k]? =some y)(hz:d.others[b.toNat]? =some z)(h2:y<z):(k:Int)=kT d (k+1):=aOH hb (by rw[aCG,bE hx,bE hy,bE hz,decide_eq_true h,decide_eq_true h2,Bool.or_true];rfl)
theorem aOO {d:aJ}{k:Nat}{b y z:Int}{x:aB}(hb:b=kT d k)(hx:d.costs[k]? =some x)(h1: ¬b<0)(hy:d.others[k]? =some y)(hz:d.others[b.toNat]? =some z)(h2: ¬y<z):b=kT d (k+1):=aQm hb (by rw[aCG,bE hx,bE hy,bE hz,decide_eq_false h1,decide_eq_false h2,Bool.or_false,Bool.and_false])
theorem aXV {d:aJ}(h:dH d=false):kD d= -1:=by rw[kD,if_neg (by rw[h];decide)]
theorem aOP {d:aJ}(h:dH d=true):kD d=eY d:=by rw[kD,if_pos h]
theorem aQq {d:aJ}{k:Nat}{b:Int}(hb:b=kT d k)(h:d.others.length=k):eY d=b:=by rw[eY,h,hb]
abbrev aCI (d:aJ):Prop:=Cn 104 [.agg [.sl 3 1 (d.basic.map intD),.sl 3 1 (d.others.map intD),.sl 61 1 (d.table.map aG),.sl 38 2 (d.limits.map aA),.sl 38 2 (d.costs.map aA),.int .i64 d.value.num,.int .i64 d.value.den]] (vI (eY d)) []
theorem aOQ (d:aJ)(hd:dH d=true):aCI d:=by
 refine cq Tryz.func104 (.len d.costs.length<| .loop (Nat × Int) (Q2 Nat Int) ([3,4,5]++rg 9 27) [500] (fun yy0=>[(9,vI (yy0.1:Int)),(3,vI yy0.2)]) (fun yy0=>[]) (fun yy0=>yy0.1<=d.others.length/\yy0.2=kT d yy0.1) (fun yy0=>d.others.length - yy0.1) (fun yy0=> .br (.elem _ aA d.costs (fun e12=> .br (.lit<| .lit<| .br (.back []) (.elem _ intD d.others (fun e24=> .elem _ intD d.others (fun e29=> .lit<| .lit<| .lit<| .lit<| .lit<| .br (.back []) (.back []))))) (.back []))) (.fin []))) (p:=Lx (d.basic.map intD)<| Lx (d.others.map intD)<| Lx (d.table.map aG)<| Lx (d.limits.map aA)<| Lx (d.costs.map aA)<| Lm aA d.costs/\((∃(k:Nat) (b:Int),0=(k:Int)/\(-1:Int)=b/\k<=d.others.length/\b=kT d k)/\ ∀(k:Nat) (b:Int),(k<=d.others.length/\b=kT d k)->Br ((k:Int)<(d.costs.length:Int)) (0<=(k:Int)/\Em aA d.costs k fun e12=>Br (0<e12.num) (Br (b<0) (bJ ((k:Int)+1)/\ ∃(k' :Nat) (b' :Int),((k:Int)+1)=(k' :Int)/\(k:Int)=b' /\(k' <=d.others.length/\b' =kT d k')/\d.others.length - k' <d.others.length - k) (0<=(k:Int)/\Em intD d.others k fun e24=>0<=b/\Em intD d.others ((b).toNat) fun e29=>Br (e24<e29) (bJ ((k:Int)+1)/\ ∃(k' :Nat) (b' :Int),((k:Int)+1)=(k' :Int)/\(k:Int)=b' /\(k' <=d.others.length/\b' =kT d k')/\d.others.length - k' <d.others.length - k) (bJ ((k:Int)+1)/\ ∃(k' :Nat) (b' :Int),((k:Int)+1)=(k' :Int)/\b=b' /\(k' <=d.others.length/\b' =kT d k')/\d.others.length - k' <d.others.length - k))) (bJ ((k:Int)+1)/\ ∃(k' :Nat) (b' :Int),((k:Int)+1)=(k' :Int)/\b=b' /\(k' <=d.others.length/\b' =kT d k')/\d.others.length - k' <d.others.length - k)) (b=(eY d)/\True))) (by kernel_rfl) ?_;refine lx fun n0=>lx fun n1=>lx fun n2=>lx fun n3=>lx fun n4=>?_;obtain⟨b1,b2,b3,b4,b5,b6,b7,b8⟩:=iL hd;refine⟨aAq _,⟨0,-1,rfl,rfl,aBn _,rfl⟩,fun k b ⟨hk,hb⟩=>?_⟩;refine dd (fun c0=>?_) fun c0=>?_
 ·have eb:=aAJ d k;refine⟨by omega,rfl,by omega,fun e12 h12=>?_⟩;refine dd (fun g17=>?_) fun g17=>?_
  ·refine dd (fun g20=>?_) fun g20=>?_
   ·refine⟨⟨by omega,by omega⟩,?_⟩;exact⟨k+1,(k:Int),rfl,rfl,⟨by omega,by exact aON hb h12 g17 g20⟩,by omega⟩
   ·refine⟨by omega,rfl,by omega,fun e24 h24=>?_⟩;refine⟨by omega,rfl,by omega,fun e29 h29=>?_⟩;refine dd (fun c1=>?_) fun c1=>?_
    ·refine⟨⟨by omega,by omega⟩,?_⟩;exact⟨k+1,(k:Int),rfl,rfl,⟨by omega,by exact aKs hb h12 g17 h24 h29 c1⟩,by omega⟩
    ·refine⟨⟨by omega,by omega⟩,?_⟩;exact⟨k+1,b,rfl,rfl,⟨by omega,by exact aOO hb h12 g20 h24 h29 c1⟩,by omega⟩
  ·refine⟨⟨by omega,by omega⟩,?_⟩;exact⟨k+1,b,rfl,rfl,⟨by omega,by exact aOM hb h12 g17⟩,by omega⟩
 ·apply et1
  ·(rw[aQq hb (by omega)];done)
abbrev aIH (d:aJ):Prop:=Cn 95 [.agg [.sl 3 1 (d.basic.map intD),.sl 3 1 (d.others.map intD),.sl 61 1 (d.table.map aG),.sl 38 2 (d.limits.map aA),.sl 38 2 (d.costs.map aA),.int .i64 d.value.num,.int .i64 d.value.den]] (vI (kD d)) []
theorem aV0 (d:aJ)(h0:d.basic.length<=1048576)(h1:d.others.length<=1048576):aIH d:=by
 refine cq Tryz.func95 (.call (vB (dH d)) []<| .br (.fin []) (.loop (Nat × Int) (Q2 Nat Int) ([3,4]++rg 8 32) [] (fun yy0=>[(4,vI (yy0.1:Int)),(3,vI yy0.2)]) (fun yy0=>[]) (fun yy0=>yy0.1<=d.others.length/\yy0.2=kT d yy0.1) (fun yy0=>d.others.length - yy0.1) (fun yy0=> .len d.others.length<| .br (.elem _ aA d.costs (fun e18=> .br (.lit<| .lit<| .br (.back []) (.elem _ intD d.others (fun e29=> .elem _ intD d.others (fun e34=> .lit<| .lit<| .lit<| .lit<| .lit<| .br (.back []) (.back []))))) (.back []))) (.fin [])))) (p:=Lx (d.basic.map intD)<| Lx (d.others.map intD)<| Lx (d.table.map aG)<| Lx (d.limits.map aA)<| Lx (d.costs.map aA)<| wO d/\Nr (dH d) ((-1:Int)=(kD d)/\True) ((∃(k:Nat) (b:Int),0=(k:Int)/\(-1:Int)=b/\k<=d.others.length/\b=kT d k)/\ ∀(k:Nat) (b:Int),(k<=d.others.length/\b=kT d k)->Lm intD d.others/\Br ((k:Int)<(d.others.length:Int)) (0<=(k:Int)/\Em aA d.costs k fun e18=>Br (0<e18.num) (Br (b<0) (bJ ((k:Int)+1)/\ ∃(k' :Nat) (b' :Int),((k:Int)+1)=(k' :Int)/\(k:Int)=b' /\(k' <=d.others.length/\b' =kT d k')/\d.others.length - k' <d.others.length - k) (0<=(k:Int)/\Em intD d.others k fun e29=>0<=b/\Em intD d.others ((b).toNat) fun e34=>Br (e29<e34) (bJ ((k:Int)+1)/\ ∃(k' :Nat) (b' :Int),((k:Int)+1)=(k' :Int)/\(k:Int)=b' /\(k' <=d.others.length/\b' =kT d k')/\d.others.length - k' <d.others.length - k) (bJ ((k:Int)+1)/\ ∃(k' :Nat) (b' :Int),((k:Int)+1)=(k' :Int)/\b=b' /\(k' <=d.others.length/\b' =kT d k')/\d.others.length - k' <d.others.length - k))) (bJ ((k:Int)+1)/\ ∃(k' :Nat) (b' :Int),((k:Int)+1)=(k' :Int)/\b=b' /\(k' <=d.others.length/\b' =kT d k')/\d.others.length - k' <d.others.length - k)) (b=(kD d)/\True))) (by kernel_rfl) ?_;refine lx fun n0=>lx fun n1=>lx fun n2=>lx fun n3=>lx fun n4=>?_;refine⟨aIG d (by omega) (by omega),dm (fun c0=>?_) fun c0=>?_⟩
 ·apply et1
  ·(rw[aXV c0];done)
 ·have hd:dH d=true:=c0;obtain⟨b1,b2,b3,b4,b5,b6,b7,b8⟩:=iL hd;refine⟨⟨0,-1,rfl,rfl,aBn _,rfl⟩,fun k b ⟨hk,hb⟩=>?_⟩;refine⟨aAq _,dd (fun c1=>?_) fun c1=>?_⟩
  ·have eb:=aAJ d k;refine⟨by omega,rfl,by omega,fun e18 h18=>?_⟩;refine dd (fun g22=>?_) fun g22=>?_
   ·refine dd (fun g25=>?_) fun g25=>?_
    ·refine⟨⟨by omega,by omega⟩,?_⟩;exact⟨k+1,(k:Int),rfl,rfl,⟨by omega,by exact aON hb h18 g22 g25⟩,by omega⟩
    ·refine⟨by omega,rfl,by omega,fun e29 h29=>?_⟩;refine⟨by omega,rfl,by omega,fun e34 h34=>?_⟩;refine dd (fun c2=>?_) fun c2=>?_
     ·refine⟨⟨by omega,by omega⟩,?_⟩;exact⟨k+1,(k:Int),rfl,rfl,⟨by omega,by exact aKs hb h18 g22 h29 h34 c2⟩,by omega⟩
     ·refine⟨⟨by omega,by omega⟩,?_⟩;exact⟨k+1,b,rfl,rfl,⟨by omega,by exact aOO hb h18 g25 h29 h34 c2⟩,by omega⟩
   ·refine⟨⟨by omega,by omega⟩,?_⟩;exact⟨k+1,b,rfl,rfl,⟨by omega,by exact aOM hb h18 g22⟩,by omega⟩
  ·apply et1
   ·(rw[aOP c0,aQq hb (by omega)];done)
theorem gW {d:aJ}{i j:Nat}{r:List aB}{x:aB}(hr:d.table[i]? =some r)(hx:r[j]? =some x):iI d i j=x:=by rw[iI,bE hr,bE hx]
theorem aOR {d:aJ}{j n k:Nat}{b:Int}{l x:aB}{r:List aB}(hk:k<n)(hr:d.table[k]? =some r)(hx:r[j]? =some x)(h:x.num<=0):eS d j (n - k) k b l=eS d j (n - (k+1)) (k+1) b l:=aPk hk (by rw[gW hr hx];exact h)
theorem aQr {d:aJ}{j n k:Nat}{b:Int}{l x m:aB}{r:List aB}(hk:k<n)(hr:d.table[k]? =some r)(hx:r[j]? =some x)(h: ¬x.num<=0)(hm:d.limits[k]? =some m)(h2:(aZ m x).2=false):eS d j (n - k) k b l= -1:=aS2 hk (by rw[gW hr hx];exact h) (by rw[gW hr hx,bE hm];exact h2)
theorem aAx {d:aJ}{j n k:Nat}{b:Int}{l x m:aB}{r:List aB}(hk:k<n)(hr:d.table[k]? =some r)(hx:r[j]? =some x)(h: ¬x.num<=0)(hm:d.limits[k]? =some m)(h2:(aZ m x).2=true)(h3:mP d b (fA (aZ m x).1 l) k=true):eS d j (n - k) k b l=eS d j (n - (k+1)) (k+1) (k:Int) (aZ m x).1:=by
 have e:=aS3 (d:=d) (j:=j) (b:=b) (l:=l) hk (by rw[gW hr hx];exact h) (by rw[gW hr hx,bE hm];exact h2) (by rw[gW hr hx,bE hm];exact h3);rw[e,gW hr hx,bE hm]
theorem aMG {d:aJ}{j n k:Nat}{b:Int}{l x m:aB}{r:List aB}(hk:k<n)(hr:d.table[k]? =some r)(hx:r[j]? =some x)(h: ¬x.num<=0)(hm:d.limits[k]? =some m)(h2:(aZ m x).2=true)(h3:mP d b (fA (aZ m x).1 l) k=false):eS d j (n - k) k b l=eS d j (n - (k+1)) (k+1) b l:=aVW hk (by rw[gW hr hx];exact h) (by rw[gW hr hx,bE hm];exact h2) (by rw[gW hr hx,bE hm];exact h3)
theorem aXm {d:aJ}{b c:Int}{k:Nat}(h:b<0):mP d b c k=true:=by rw[mP,decide_eq_true h];rfl
theorem aXn {d:aJ}{b c:Int}{k:Nat}(h:c<0):mP d b c k=true:=by rw[mP,decide_eq_true h];simp
theorem aXo {d:aJ}{b c y z:Int}{k:Nat}(h:c=0)(hy:d.basic[k]? =some y)(hz:d.basic[b.toNat]? =some z)(h2:y<z):mP d b c k=true:=by rw[mP,decide_eq_true h,bE hy,bE hz,decide_eq_true h2];simp
theorem aXp {d:aJ}{b c:Int}{k:Nat}(h: ¬b<0)(h1: ¬c<0)(h2: ¬c=0):mP d b c k=false:=by rw[mP,decide_eq_false h,decide_eq_false h1,decide_eq_false h2];rfl
theorem aXq {d:aJ}{b c y z:Int}{k:Nat}(h: ¬b<0)(h1: ¬c<0)(hy:d.basic[k]? =some y)(hz:d.basic[b.toNat]? =some z)(h2: ¬y<z):mP d b c k=false:=by rw[mP,decide_eq_false h,decide_eq_false h1,bE hy,bE hz,decide_eq_false h2];simp
theorem aKt {d:aJ}{j k:Nat}{b:Int}{l:aB}(h:d.basic.length<=k)(hv:eS d j (d.basic.length - k) k b l=gL d j):gL d j=b:=by rw[<-hv,Nat.sub_eq_zero_of_le h,eS]
theorem aII {d:aJ}{j:Int}(h:dH d=true)(hj:0<=j/\j<d.others.length):oS d j=gL d j.toNat:=by rw[oS,if_pos ⟨h,hj⟩]
theorem aXW {d:aJ}{j:Int}(h:dH d=false):oS d j= -1:=by rw[oS,if_neg (by rw[h];simp)]
theorem aV1 {d:aJ}{j:Int}(h: ¬(0<=j/\j<d.others.length)):oS d j= -1:=by rw[oS,if_neg (fun q=>h q.2)]
abbrev aIJ (d:aJ)(j:Int):Prop:=Cn 105 [.agg [.sl 3 1 (d.basic.map intD),.sl 3 1 (d.others.map intD),.sl 61 1 (d.table.map aG),.sl 38 2 (d.limits.map aA),.sl 38 2 (d.costs.map aA),.int .i64 d.value.num,.int .i64 d.value.den],.one (.int .i64 j)] (vI (gL d j.toNat)) []
theorem aV2 (d:aJ)(j:Int)(hd:dH d=true)(hj:0<=j/\j<d.others.length):aIJ d j:=by
 refine cq Tryz.func105 (.len d.basic.length<| .loop (Nat × Int × Int × Int) (Q4 Nat Int Int Int) ([5,7,8,9,10]++rg 15 61) [600,800] (fun yy0=>[(15,vI (yy0.1:Int)),(5,vI yy0.2.1)]) (fun yy0=>[(600,some (.box 38 [vI yy0.2.2.1,vI yy0.2.2.2]))]) (fun yy0=>yy0.1<=d.basic.length/\(-1<=yy0.2.1/\yy0.2.1<yy0.1)/\eS d j.toNat (d.basic.length - yy0.1) yy0.1 yy0.2.1 ⟨yy0.2.2.1,yy0.2.2.2⟩=gL d j.toNat) (fun yy0=>d.basic.length - yy0.1) (fun yy0=> .br (.elem _ aG d.table (fun e21=> .elem _ aA e21 (fun e24=> .br (.back [(600,600)]) (.elem _ aA d.limits (fun e32=> .elem _ aG d.table (fun e37=> .elem _ aA e37 (fun e40=>bI (wL e32 e40)<| .br (.fin []) (.call (vI (fA ((aZ e32 e40).1) (⟨yy0.2.2.1,yy0.2.2.2⟩:aB))) []<| .br (.back [(600,600)]) (.lit<| .lit<| .br (.back [(600,600)]) (.lit<| .lit<| .br (.elem _ intD d.basic (fun e63=> .elem _ intD d.basic (fun e68=> .lit<| .lit<| .lit<| .lit<| .lit<| .br (.back [(600,600)]) (.back [(600,600)])))) (.back [(600,600)]))))))))))) (.fin []))) (p:=Lx (d.basic.map intD)<| Lx (d.others.map intD)<| Lx (d.table.map aG)<| Lx (d.limits.map aA)<| Lx (d.costs.map aA)<| Lm intD d.basic/\((∃(k:Nat) (b:Int) (ln:Int) (ld:Int),0=(k:Int)/\(-1:Int)=b/\0=ln/\0=ld/\k<=d.basic.length/\(-1<=b/\b<k)/\eS d j.toNat (d.basic.length - k) k b ⟨ln,ld⟩=gL d j.toNat)/\ ∀(k:Nat) (b:Int) (ln:Int) (ld:Int),(k<=d.basic.length/\(-1<=b/\b<k)/\eS d j.toNat (d.basic.length - k) k b ⟨ln,ld⟩=gL d j.toNat)->Br ((k:Int)<(d.basic.length:Int)) (0<=(k:Int)/\Em aG d.table k fun e21=>0<=j/\Em aA e21 ((j).toNat) fun e24=>Br (e24.num<=0) (bJ ((k:Int)+1)/\ ∃(k' :Nat) (b' :Int) (ln' :Int) (ld' :Int),((k:Int)+1)=(k' :Int)/\b=b' /\ln=ln' /\ld=ld' /\(k' <=d.basic.length/\(-1<=b' /\b' <k')/\eS d j.toNat (d.basic.length - k') k' b' ⟨ln',ld'⟩=gL d j.toNat)/\d.basic.length - k' <d.basic.length - k) (0<=(k:Int)/\Em aA d.limits k fun e32=>0<=(k:Int)/\Em aG d.table k fun e37=>0<=j/\Em aA e37 ((j).toNat) fun e40=>aBz e32 e40/\Nr ((aZ e32 e40).2) ((-1:Int)=(gL d j.toNat)/\True) (aHx ((aZ e32 e40).1) (⟨ln,ld⟩:aB)/\Br (b<0) (bJ ((k:Int)+1)/\ ∃(k' :Nat) (b' :Int) (ln' :Int) (ld' :Int),((k:Int)+1)=(k' :Int)/\(k:Int)=b' /\((aZ e32 e40).1.num)=ln' /\((aZ e32 e40).1.den)=ld' /\(k' <=d.basic.length/\(-1<=b' /\b' <k')/\eS d j.toNat (d.basic.length - k') k' b' ⟨ln',ld'⟩=gL d j.toNat)/\d.basic.length - k' <d.basic.length - k) (Br ((fA ((aZ e32 e40).1) (⟨ln,ld⟩:aB))<0) (bJ ((k:Int)+1)/\ ∃(k' :Nat) (b' :Int) (ln' :Int) (ld' :Int),((k:Int)+1)=(k' :Int)/\(k:Int)=b' /\((aZ e32 e40).1.num)=ln' /\((aZ e32 e40).1.den)=ld' /\(k' <=d.basic.length/\(-1<=b' /\b' <k')/\eS d j.toNat (d.basic.length - k') k' b' ⟨ln',ld'⟩=gL d j.toNat)/\d.basic.length - k' <d.basic.length - k) (Br ((fA ((aZ e32 e40).1) (⟨ln,ld⟩:aB))=0) (0<=(k:Int)/\Em intD d.basic k fun e63=>0<=b/\Em intD d.basic ((b).toNat) fun e68=>Br (e63<e68) (bJ ((k:Int)+1)/\ ∃(k' :Nat) (b' :Int) (ln' :Int) (ld' :Int),((k:Int)+1)=(k' :Int)/\(k:Int)=b' /\((aZ e32 e40).1.num)=ln' /\((aZ e32 e40).1.den)=ld' /\(k' <=d.basic.length/\(-1<=b' /\b' <k')/\eS d j.toNat (d.basic.length - k') k' b' ⟨ln',ld'⟩=gL d j.toNat)/\d.basic.length - k' <d.basic.length - k) (bJ ((k:Int)+1)/\ ∃(k' :Nat) (b' :Int) (ln' :Int) (ld' :Int),((k:Int)+1)=(k' :Int)/\b=b' /\ln=ln' /\ld=ld' /\(k' <=d.basic.length/\(-1<=b' /\b' <k')/\eS d j.toNat (d.basic.length - k') k' b' ⟨ln',ld'⟩=gL d j.toNat)/\d.basic.length - k' <d.basic.length - k)) (bJ ((k:Int)+1)/\ ∃(k' :Nat) (b' :Int) (ln' :Int) (ld' :Int),((k:Int)+1)=(k' :Int)/\b=b' /\ln=ln' /\ld=ld' /\(k' <=d.basic.length/\(-1<=b' /\b' <k')/\eS d j.toNat (d.basic.length - k') k' b' ⟨ln',ld'⟩=gL d j.toNat)/\d.basic.length - k' <d.basic.length - k)))))) (b=(gL d j.toNat)/\True))) (by kernel_rfl) ?_;refine lx fun n0=>lx fun n1=>lx fun n2=>lx fun n3=>lx fun n4=>?_;obtain⟨b1,b2,b3,b4,b5,b6,b7,b8⟩:=iL hd;refine⟨aAq _,⟨0,-1,0,0,rfl,rfl,rfl,rfl,aBn _,by omega,rfl⟩,fun k b ln ld ⟨hk,hb,hv⟩=>?_⟩;refine dd (fun c0=>?_) fun c0=>?_
 ·refine⟨by omega,rfl,by omega,fun e21 h21=>?_⟩;have hrl:=(b5 _ (aCX h21)).1;refine⟨by omega,rfl,by omega,fun e24 h24=>?_⟩;refine dd (fun c1=>?_) fun c1=>?_
  ·refine⟨⟨by omega,by omega⟩,?_⟩;exact⟨k+1,b,ln,ld,rfl,rfl,rfl,rfl,⟨by omega,by omega,by exact(aOR (by omega) h21 h24 c1).symm.trans hv⟩,by omega⟩
  ·refine⟨by omega,rfl,by omega,fun e32 h32=>?_⟩;refine⟨by omega,rfl,by omega,fun e37 h37=>?_⟩;obtain rfl:=aX h21 h37;refine⟨by omega,rfl,by omega,fun e40 h40=>?_⟩;obtain rfl:=aX h24 h40;refine⟨aNw e32 e40,dm (fun c2=>?_) fun c2=>?_⟩
   ·apply et1
    ·(rw[<-hv,aQr (by omega) h21 h24 c1 h32 c2];done)
   ·refine⟨aVN ((aZ e32 e40).1) (⟨ln,ld⟩:aB),dd (fun g52=>?_) fun g52=>?_⟩
    ·refine⟨⟨by omega,by omega⟩,?_⟩;exact⟨k+1,(k:Int),(aZ e32 e40).1.num,(aZ e32 e40).1.den,rfl,rfl,rfl,rfl,⟨by omega,by omega,by exact(aAx (by omega) h21 h24 c1 h32 c2 (aXm g52)).symm.trans hv⟩,by omega⟩
    ·refine dd (fun g56=>?_) fun g56=>?_
     ·refine⟨⟨by omega,by omega⟩,?_⟩;exact⟨k+1,(k:Int),(aZ e32 e40).1.num,(aZ e32 e40).1.den,rfl,rfl,rfl,rfl,⟨by omega,by omega,by exact(aAx (by omega) h21 h24 c1 h32 c2 (aXn g56)).symm.trans hv⟩,by omega⟩
     ·refine dd (fun g59=>?_) fun g59=>?_
      ·refine⟨by omega,rfl,by omega,fun e63 h63=>?_⟩;refine⟨by omega,rfl,by omega,fun e68 h68=>?_⟩;refine dd (fun c3=>?_) fun c3=>?_
       ·refine⟨⟨by omega,by omega⟩,?_⟩;exact⟨k+1,(k:Int),(aZ e32 e40).1.num,(aZ e32 e40).1.den,rfl,rfl,rfl,rfl,⟨by omega,by omega,by exact(aAx (by omega) h21 h24 c1 h32 c2 (aXo g59 h63 h68 c3)).symm.trans hv⟩,by omega⟩
       ·refine⟨⟨by omega,by omega⟩,?_⟩;exact⟨k+1,b,ln,ld,rfl,rfl,rfl,rfl,⟨by omega,by omega,by exact(aMG (by omega) h21 h24 c1 h32 c2 (aXq g52 g56 h63 h68 c3)).symm.trans hv⟩,by omega⟩
      ·refine⟨⟨by omega,by omega⟩,?_⟩;exact⟨k+1,b,ln,ld,rfl,rfl,rfl,rfl,⟨by omega,by omega,by exact(aMG (by omega) h21 h24 c1 h32 c2 (aXp g52 g56 g59)).symm.trans hv⟩,by omega⟩
 ·apply et1
  ·(rw[aKt (by omega) hv];done)
abbrev aIK (d:aJ)(j:Int):Prop:=Cn 97 [.agg [.sl 3 1 (d.basic.map intD),.sl 3 1 (d.others.map intD),.sl 61 1 (d.table.map aG),.sl 38 2 (d.limits.map aA),.sl 38 2 (d.costs.map aA),.int .i64 d.value.num,.int .i64 d.value.den],.one (.int .i64 j)] (vI (oS d j)) []
theorem aV3 (d:aJ)(j:Int)(h0:d.basic.length<=1048576)(h1:d.others.length<=1048576):aIK d j:=by
 refine cq Tryz.func97 (.call (vB (dH d)) []<| .br (.fin []) (.len d.others.length<| .call (vB (decide (0<=j/\j<=((d.others.length:Int) - 1)))) []<| .lit<| .lit<| .br (.fin []) (.loop (Nat × Int × Int × Int) (Q4 Nat Int Int Int) ([5,7,8,9,10]++rg 24 64) [600,800] (fun yy0=>[(7,vI (yy0.1:Int)),(5,vI yy0.2.1)]) (fun yy0=>[(600,some (.box 38 [vI yy0.2.2.1,vI yy0.2.2.2]))]) (fun yy0=>yy0.1<=d.basic.length/\(-1<=yy0.2.1/\yy0.2.1<yy0.1)/\eS d j.toNat (d.basic.length - yy0.1) yy0.1 yy0.2.1 ⟨yy0.2.2.1,yy0.2.2.2⟩=gL d j.toNat) (fun yy0=>d.basic.length - yy0.1) (fun yy0=> .len d.basic.length<| .br (.elem _ aG d.table (fun e34=> .elem _ aA e34 (fun e37=> .br (.back [(600,600)]) (.elem _ aA d.limits (fun e45=> .elem _ aG d.table (fun e50=> .elem _ aA e50 (fun e53=>bI (oR e45 e53)<| .br (.fin []) (.call (vI (fA ((aZ e45 e53).1) (⟨yy0.2.2.1,yy0.2.2.2⟩:aB))) []<| .br (.back [(600,600)]) (.lit<| .lit<| .br (.back [(600,600)]) (.lit<| .lit<| .br (.elem _ intD d.basic (fun e76=> .elem _ intD d.basic (fun e81=> .lit<| .lit<| .lit<| .lit<| .lit<| .br (.back [(600,600)]) (.back [(600,600)])))) (.back [(600,600)]))))))))))) (.fin []))))) (p:=Lx (d.basic.map intD)<| Lx (d.others.map intD)<| Lx (d.table.map aG)<| Lx (d.limits.map aA)<| Lx (d.costs.map aA)<| wO d/\Nr (dH d) ((-1:Int)=(oS d j)/\True) (Lm intD d.others/\(bJ ((d.others.length:Int) - 1)/\(fB j (0:Int) ((d.others.length:Int) - 1)/\Nb (0<=j/\j<=((d.others.length:Int) - 1)) ((-1:Int)=(oS d j)/\True) ((∃(k:Nat) (b:Int) (ln:Int) (ld:Int),0=(k:Int)/\(-1:Int)=b/\0=ln/\0=ld/\k<=d.basic.length/\(-1<=b/\b<k)/\eS d j.toNat (d.basic.length - k) k b ⟨ln,ld⟩=gL d j.toNat)/\ ∀(k:Nat) (b:Int) (ln:Int) (ld:Int),(k<=d.basic.length/\(-1<=b/\b<k)/\eS d j.toNat (d.basic.length - k) k b ⟨ln,ld⟩=gL d j.toNat)->Lm intD d.basic/\Br ((k:Int)<(d.basic.length:Int)) (0<=(k:Int)/\Em aG d.table k fun e34=>0<=j/\Em aA e34 ((j).toNat) fun e37=>Br (e37.num<=0) (bJ ((k:Int)+1)/\ ∃(k' :Nat) (b' :Int) (ln' :Int) (ld' :Int),((k:Int)+1)=(k' :Int)/\b=b' /\ln=ln' /\ld=ld' /\(k' <=d.basic.length/\(-1<=b' /\b' <k')/\eS d j.toNat (d.basic.length - k') k' b' ⟨ln',ld'⟩=gL d j.toNat)/\d.basic.length - k' <d.basic.length - k) (0<=(k:Int)/\Em aA d.limits k fun e45=>0<=(k:Int)/\Em aG d.table k fun e50=>0<=j/\Em aA e50 ((j).toNat) fun e53=>rZ e45 e53/\Nr ((aZ e45 e53).2) ((-1:Int)=(oS d j)/\True) (aHy ((aZ e45 e53).1) (⟨ln,ld⟩:aB)/\Br (b<0) (bJ ((k:Int)+1)/\ ∃(k' :Nat) (b' :Int) (ln' :Int) (ld' :Int),((k:Int)+1)=(k' :Int)/\(k:Int)=b' /\((aZ e45 e53).1.num)=ln' /\((aZ e45 e53).1.den)=ld' /\(k' <=d.basic.length/\(-1<=b' /\b' <k')/\eS d j.toNat (d.basic.length - k') k' b' ⟨ln',ld'⟩=gL d j.toNat)/\d.basic.length - k' <d.basic.length - k) (Br ((fA ((aZ e45 e53).1) (⟨ln,ld⟩:aB))<0) (bJ ((k:Int)+1)/\ ∃(k' :Nat) (b' :Int) (ln' :Int) (ld' :Int),((k:Int)+1)=(k' :Int)/\(k:Int)=b' /\((aZ e45 e53).1.num)=ln' /\((aZ e45 e53).1.den)=ld' /\(k' <=d.basic.length/\(-1<=b' /\b' <k')/\eS d j.toNat (d.basic.length - k') k' b' ⟨ln',ld'⟩=gL d j.toNat)/\d.basic.length - k' <d.basic.length - k) (Br ((fA ((aZ e45 e53).1) (⟨ln,ld⟩:aB))=0) (0<=(k:Int)/\Em intD d.basic k fun e76=>0<=b/\Em intD d.basic ((b).toNat) fun e81=>Br (e76<e81) (bJ ((k:Int)+1)/\ ∃(k' :Nat) (b' :Int) (ln' :Int) (ld' :Int),((k:Int)+1)=(k' :Int)/\(k:Int)=b' /\((aZ e45 e53).1.num)=ln' /\((aZ e45 e53).1.den)=ld' /\(k' <=d.basic.length/\(-1<=b' /\b' <k')/\eS d j.toNat (d.basic.length - k') k' b' ⟨ln',ld'⟩=gL d j.toNat)/\d.basic.length - k' <d.basic.length - k) (bJ ((k:Int)+1)/\ ∃(k' :Nat) (b' :Int) (ln' :Int) (ld' :Int),((k:Int)+1)=(k' :Int)/\b=b' /\ln=ln' /\ld=ld' /\(k' <=d.basic.length/\(-1<=b' /\b' <k')/\eS d j.toNat (d.basic.length - k') k' b' ⟨ln',ld'⟩=gL d j.toNat)/\d.basic.length - k' <d.basic.length - k)) (bJ ((k:Int)+1)/\ ∃(k' :Nat) (b' :Int) (ln' :Int) (ld' :Int),((k:Int)+1)=(k' :Int)/\b=b' /\ln=ln' /\ld=ld' /\(k' <=d.basic.length/\(-1<=b' /\b' <k')/\eS d j.toNat (d.basic.length - k') k' b' ⟨ln',ld'⟩=gL d j.toNat)/\d.basic.length - k' <d.basic.length - k)))))) (b=(oS d j)/\True)))))) (by kernel_rfl) ?_;refine lx fun n0=>lx fun n1=>lx fun n2=>lx fun n3=>lx fun n4=>?_;refine⟨aIG d (by omega) (by omega),dm (fun g15=>?_) fun g15=>?_⟩
 ·apply et1
  ·(rw[aXW g15];done)
 ·refine⟨aAq _,⟨by omega,by omega⟩,iT _ _ _,dn (fun c0=>?_) fun c0=>?_⟩
  ·apply et1
   ·(rw[aV1 (by omega)];done)
  ·have hd:dH d=true:=g15;have hj:0<=j/\j<d.others.length:=by omega
   obtain⟨b1,b2,b3,b4,b5,b6,b7,b8⟩:=iL hd;refine⟨⟨0,-1,0,0,rfl,rfl,rfl,rfl,aBn _,by omega,rfl⟩,fun k b ln ld ⟨hk,hb,hv⟩=>?_⟩;refine⟨aAq _,dd (fun c1=>?_) fun c1=>?_⟩
   ·refine⟨by omega,rfl,by omega,fun e34 h34=>?_⟩;have hrl:=(b5 _ (aCX h34)).1;refine⟨by omega,rfl,by omega,fun e37 h37=>?_⟩;refine dd (fun c2=>?_) fun c2=>?_
    ·refine⟨⟨by omega,by omega⟩,?_⟩;exact⟨k+1,b,ln,ld,rfl,rfl,rfl,rfl,⟨by omega,by omega,by exact(aOR (by omega) h34 h37 c2).symm.trans hv⟩,by omega⟩
    ·refine⟨by omega,rfl,by omega,fun e45 h45=>?_⟩;refine⟨by omega,rfl,by omega,fun e50 h50=>?_⟩;obtain rfl:=aX h34 h50;refine⟨by omega,rfl,by omega,fun e53 h53=>?_⟩;obtain rfl:=aX h37 h53;refine⟨aDP e45 e53,dm (fun c3=>?_) fun c3=>?_⟩
     ·apply et1
      ·(rw[aII hd hj,<-hv,aQr (by omega) h34 h37 c2 h45 c3];done)
     ·refine⟨aVO ((aZ e45 e53).1) (⟨ln,ld⟩:aB),dd (fun g65=>?_) fun g65=>?_⟩
      ·refine⟨⟨by omega,by omega⟩,?_⟩;exact⟨k+1,(k:Int),(aZ e45 e53).1.num,(aZ e45 e53).1.den,rfl,rfl,rfl,rfl,⟨by omega,by omega,by exact(aAx (by omega) h34 h37 c2 h45 c3 (aXm g65)).symm.trans hv⟩,by omega⟩
      ·refine dd (fun g69=>?_) fun g69=>?_
       ·refine⟨⟨by omega,by omega⟩,?_⟩;exact⟨k+1,(k:Int),(aZ e45 e53).1.num,(aZ e45 e53).1.den,rfl,rfl,rfl,rfl,⟨by omega,by omega,by exact(aAx (by omega) h34 h37 c2 h45 c3 (aXn g69)).symm.trans hv⟩,by omega⟩
       ·refine dd (fun g72=>?_) fun g72=>?_
        ·refine⟨by omega,rfl,by omega,fun e76 h76=>?_⟩;refine⟨by omega,rfl,by omega,fun e81 h81=>?_⟩;refine dd (fun c4=>?_) fun c4=>?_
         ·refine⟨⟨by omega,by omega⟩,?_⟩;exact⟨k+1,(k:Int),(aZ e45 e53).1.num,(aZ e45 e53).1.den,rfl,rfl,rfl,rfl,⟨by omega,by omega,by exact(aAx (by omega) h34 h37 c2 h45 c3 (aXo g72 h76 h81 c4)).symm.trans hv⟩,by omega⟩
         ·refine⟨⟨by omega,by omega⟩,?_⟩;exact⟨k+1,b,ln,ld,rfl,rfl,rfl,rfl,⟨by omega,by omega,by exact(aMG (by omega) h34 h37 c2 h45 c3 (aXq g65 g69 h76 h81 c4)).symm.trans hv⟩,by omega⟩
        ·refine⟨⟨by omega,by omega⟩,?_⟩;exact⟨k+1,b,ln,ld,rfl,rfl,rfl,rfl,⟨by omega,by omega,by exact(aMG (by omega) h34 h37 c2 h45 c3 (aXp g65 g69 g72)).symm.trans hv⟩,by omega⟩
   ·apply et1
    ·(rw[aII hd hj,aKt (by omega) hv];done)
theorem nE (d:aJ)(i j k:Nat):fF d i j (k+1)=fF d i j k++[(aJP d i j k).1]:=by simp[fF,List.range_succ]
theorem nF (d:aJ)(i j k:Nat):eD d i j (k+1)=(eD d i j k&&(aJP d i j k).2):=by simp[eD,List.range_succ]
theorem aEI {d:aJ}{i j k:Nat}{x a:aB}(ha:iI d i j=a)(hx:iI d i k=x)(h: ¬k=j):aJP d i j k=aZ x a:=by rw[aJP,if_neg h,ha,hx]
theorem aEJ {d:aJ}{i j k:Nat}{a:aB}(ha:iI d i j=a)(h:k=j):aJP d i j k=aZ (aP 1) a:=by rw[aJP,if_pos h,ha];rfl
theorem fX (l p:List aB)(j k:Nat):eH l p j (k+1)=eH l p j k++[(chX l (l.getD j zR) p j k).1]:=by simp[eH,List.range_succ]
theorem gX (l p:List aB)(j k:Nat):fJ l p j (k+1)=(fJ l p j k&&(chX l (l.getD j zR) p j k).2):=by simp[fJ,List.range_succ]
theorem wZ {l p:List aB}{j k:Nat}{x c y:aB}(h: ¬k=j)(hx:l[k]? =some x)(hc:l[j]? =some c)(hy:p[k]? =some y):chX l (l.getD j zR) p j k=bX x c y:=by rw[chX,if_neg h,bE hx,bE hc,bE hy]
theorem xA {l p:List aB}{j k:Nat}{c y:aB}(h:k=j)(hc:l[j]? =some c)(hy:p[k]? =some y):chX l (l.getD j zR) p j k=bX (aP 0) c y:=by rw[chX,if_pos h,bE hc,bE hy];rfl
theorem kH (d:aJ)(i j k:Nat):gR d i j (k+1)=gR d i j k++[aDQ d i j k]:=by simp[gR,List.range_succ]
theorem kI (d:aJ)(i j k:Nat):hX d i j (k+1)=hX d i j k++[aFG d i j k]:=by simp[hX,List.range_succ]
theorem kJ (d:aJ)(i j k:Nat):gM d i j (k+1)=(gM d i j k&&aME d i j k):=by simp[gM,List.range_succ]
theorem aAy {F R C L f g:Bool}(h1:f=(F&&R))(h2:g=(f&&C)):(g&&L)=(F&&(R&&(C&&L))):=by subst h1;subst h2;cases F<;>cases R<;>cases C<;>rfl
theorem aKu {d:aJ}{i j r:Nat}(h:r=i):aDQ d i j r=fF d i j d.others.length/\aFG d i j r=(dZ d i j).1/\aME d i j r=true:=by rw[aDQ,aFG,aME,if_pos h,if_pos h,if_pos h];exact⟨rfl,rfl,rfl⟩
theorem aV4 {d:aJ}{i j r:Nat}{p:List aB}{x c l:aB}{row:List aB}(h: ¬r=i)(hp:p=fF d i j d.others.length)(hr:d.table[r]? =some row)(hc:row[j]? =some c)(hx:d.limits[r]? =some x)(hl:(dZ d i j).1=l):aDQ d i j r=eH row p j d.others.length/\aFG d i j r=(bX x c l).1/\aME d i j r=(fJ row p j d.others.length&&(bX x c l).2):=by
 rw[aDQ,aFG,aME,if_neg h,if_neg h,if_neg h,aVX,gW hr hc,bE hx,bE hr,hl,<-hp];exact⟨rfl,rfl,rfl⟩
theorem aDR {d:aJ}{i j:Int}(h: ¬((0<=i/\i<d.basic.length)/\0<=j/\j<d.others.length)):bN d i j=(aAL,false):=by rw[bN,if_neg (fun q=>h q.2)]
theorem aXX {d:aJ}{i j:Int}(h:dH d=false):bN d i j=(aAL,false):=by rw[bN,if_neg (by rw[h];simp)]
theorem kB {d:aJ}{i j:Int}(h: ¬((iI d i.toNat j.toNat).num≠0/\mD d i.toNat j.toNat=true/\(aAK d i.toNat j.toNat).2=true)):bN d i j=(aAL,false):=by
 rw[bN];split
 ·rw[fN,if_neg h]
 rfl
theorem aOS {d:aJ}{i j:Int}(h:dH d=true)(hi:0<=i/\i<d.basic.length)(hj:0<=j/\j<d.others.length)(h1:(iI d i.toNat j.toNat).num≠0)(h2:mD d i.toNat j.toNat=true)(h3:(aAK d i.toNat j.toNat).2=true):bN d i j=(sB d i.toNat j.toNat,true):=by rw[bN,if_pos ⟨h,hi,hj⟩,fN,if_pos ⟨h1,h2,h3⟩]
theorem aIL {d:aJ}{i j:Nat}(h:dH d=true)(hj:j<d.others.length)(hl:(dZ d i j).2=true):aAK d i j=((fV d.value (dQ (d.costs.getD j zR) (dZ d i j).1).1).1,(dQ (d.costs.getD j zR) (dZ d i j).1).2&&(fV d.value (dQ (d.costs.getD j zR) (dZ d i j).1).1).2):=by
 obtain⟨_,_,_,_,_,_,b7,b8⟩:=iL h;exact aPm b8 (aCH b7 hj) (aAw hl)
theorem aSb {α:Type}{l:List α}{i:Nat}{x:α}(h:l[i]? =some x):l.set i x=l:=by
 obtain⟨hi,rfl⟩:=aHE.1 h;simp
theorem aIM {p:Nat->Bool}{k n:Nat}(hk:k<=n)(h:(List.range k).all p=false):(List.range n).all p=false:=by
 cases e:(List.range n).all p with
 | false=>rfl
 | true=>
   rw[aIt] at e;have:(List.range k).all p=true:=aIt.2 fun x hx=>e x (aSv.2 (by have:=aSv.1 hx;omega));rw[this] at h;cases h
theorem aOT {d:aJ}{i j r k:Nat}{p:List aB}{f g:Bool}(hf:f=((eD d i j d.others.length&&(dZ d i j).2)&&gM d i j r))(hr:r<=d.basic.length)(hp:p=fF d i j d.others.length)(hg:g=(f&&fJ d.costs p j k))(hk:k<=d.others.length)(h:g=false):mD d i j=false:=by
 rw[mD,aQn,<-hp];subst hf;rw[hg] at h;simp only[Bool.and_eq_false_iff] at h ⊢;rcases h with (h | h) | h
 ·exact .inl (.inl h)
 ·exact .inl (.inr (aIM hr h))
 exact .inr (aIM hk h)
theorem aSc {d:aJ}{i j r k:Nat}{p:List aB}{f g:Bool}(hf:f=((eD d i j d.others.length&&(dZ d i j).2)&&gM d i j r))(hr:r=d.basic.length)(hp:p=fF d i j d.others.length)(hg:g=(f&&fJ d.costs p j k))(hk:k=d.others.length)(h:g=true):mD d i j=true:=by
 rw[mD,aQn,<-hp,<-hr,<-hf,<-hk,<-hg,h]
theorem aFn {d:aJ}{i j r:Nat}{f:Bool}(hf:f=((eD d i j d.others.length&&(dZ d i j).2)&&gM d i j r))(hr:r<=d.basic.length)(h:f=false):mD d i j=false:=by
 subst hf;rw[mD];simp only[Bool.and_eq_false_iff] at h ⊢;rcases h with h | h
 ·exact .inl (.inl h)
 exact .inl (.inr (aIM hr h))
theorem aFo {d:aJ}{i j:Nat}(h:eD d i j d.others.length=false):mD d i j=false:=by
 rw[mD,h];rfl
theorem aKv {d:aJ}{i j:Nat}(h:mD d i j=true):(dZ d i j).2=true:=by
 simp only[mD,aBH] at h;exact h.1.1.2
theorem aCJ {d:aJ}{i j:Nat}(hi:i<d.basic.length):(gR d i j d.basic.length).set i (fF d i j d.others.length)=gR d i j d.basic.length:=aSb (by simp[gR,hi,aDQ])
abbrev iJ (a:aB)(b:aB)(c:aB):AV × List (Nat × Rs):=(.tup [.agg [vI ((bX a b c).1.num),vI ((bX a b c).1.den)],vB ((bX a b c).2)],[])
abbrev jK (a:aB)(b:aB)(c:aB):Prop:=Cn 151 [.agg [.int .i64 a.num,.int .i64 a.den],.agg [.int .i64 b.num,.int .i64 b.den],.agg [.int .i64 c.num,.int .i64 c.den]] (iJ a b c).1 (iJ a b c).2
theorem nG (a b c:aB):jK a b c:=by
 refine cq Tryz.func151 (.br (.fin []) (.lit<| .lit<| .lit<| .br (.fin []) (bI (rY b c)<| bI (aCB a ((dQ b c).1))<| .br (.fin []) (.fin [])))) (p:=Br (b.num=0) (a.num=((bX a b c).1.num)/\a.den=((bX a b c).1.den)/\(true)=((bX a b c).2)/\True) (Br (c.num=0) (a.num=((bX a b c).1.num)/\a.den=((bX a b c).1.den)/\(true)=((bX a b c).2)/\True) (wN b c/\aHw a ((dQ b c).1)/\Bb ((dQ b c).2) ((((nV a ((dQ b c).1)).1).num)=((bX a b c).1.num)/\(((nV a ((dQ b c).1)).1).den)=((bX a b c).1.den)/\((nV a ((dQ b c).1)).2)=((bX a b c).2)/\True) ((((nV a ((dQ b c).1)).1).num)=((bX a b c).1.num)/\(((nV a ((dQ b c).1)).1).den)=((bX a b c).1.den)/\(false)=((bX a b c).2)/\True)))) (by kernel_rfl) ?_;refine dd (fun g15=>?_) fun g15=>?_
 ·apply et3<;>((rw[bX,if_pos (.inl (by exact g15))]<;>rfl))
 ·refine dd (fun c0=>?_) fun c0=>?_
  ·apply et3<;>((rw[bX,if_pos (.inr c0)]<;>rfl))
  ·refine⟨aHv b c,aVM a ((dQ b c).1),db (fun g35=>?_) fun g35=>?_⟩
   ·apply et3<;>(first|(rw[bX,if_neg (by rintro(q|q);exact g15 q;exact c0 q)];simp[*];done)|(rw[bX,if_neg (by rintro(q|q);exact g15 q;exact c0 q)]<;>rfl))
   ·apply et3<;>(first|(rw[bX,if_neg (by rintro(q|q);exact g15 q;exact c0 q)];simp[*];done)|(rw[bX,if_neg (by rintro(q|q);exact g15 q;exact c0 q)]<;>rfl))
end Go.Proofs.YtlidmoeecphbmaaGreat
namespace Go.Proofs
open Go.Shelf
namespace YtlidmoeecphbmaaGreat
def Tryz.cloneRats_ren:Go.Shelf.Ren:=⟨fun | 41=>165 | n=>n,fun | 22=>61 | 23=>38 | 4=>4 | n=>n,fun | n=>n⟩
theorem Tryz.cloneRats:Go.Proofs.SlLaysE0.n41 Tryz.prog Tryz.cloneRats_ren:={
 mixed:=by kernel_rfl
 f41:=⟨Tryz.f165.name,by decide,Tryz.func165.trans (congrArg some (by kernel_rfl))⟩
 t4:=Tryz.underlying4
 a4:=Tryz.isAgg4
 z4:=Tryz.sizeOf4
 v4:=Tryz.zeroValue4
 t22:=Tryz.underlying61
 a22:=Tryz.isAgg61
 z22:=Tryz.sizeOf61
 v22:=Tryz.zeroValue61 }
end YtlidmoeecphbmaaGreat
end Go.Proofs
namespace Go.Proofs.YtlidmoeecphbmaaGreat
open Go.ChangeShapes Go.WideShapes Go.ChangeAt Go.RowKit
set_option linter.unusedVariables false
section
variable {P:Program}
theorem aSd {f:FuncId}{args:List Ar}{e k:Nat}{xs:List (List bP)}(hc:jF P f=true)(h: ∀A w (vs:Array Value),(∀b,A b->b<w.heap.size)->nZ A w args vs.toList->Calls P f vs w (fun en w' => ∃(v:Value) (F:List Nat),en= .returned v/\pA w' (.sl e k xs) v F/\F.Nodup/\(∀g∈F,w.heap.size<=g)/\Below w.heap.size w w' /\ ∀g∈F,g<w'.heap.size)):
 qJ P f args (.own 0) [(0,.arr e k true xs)]:=by
 refine⟨hc,fun A w vs hA ha=>(h A w vs hA ha).mono fun en w' ⟨v,F,he,ho,hn,hg,hb,hlt⟩=>?_⟩;unfold pA at ho;obtain⟨css,Fs,r1,r2,r3⟩:=ho;have hpl:(⟨v,v.ownBlock.toList,Fs.flatten⟩:Pl).F=F:=by unfold Pl.F;exact r2.symm
 refine⟨v,fun _=>False,fun x=>if x=0 then some ⟨v,v.ownBlock.toList,Fs.flatten⟩ else none,he,hb,by simp,by simp,fun x r hx=>?_,fun x hx=>?_,fun x x' pl pl' hne hx hx' g hg hg' =>?_,fun x pl hx=>?_,fun x pl hx g hg' =>?_,?_⟩
 ·simp only[bC] at hx;split at hx
  ·rename_i e1;injection hx with hx
   subst hx;exact⟨_,if_pos e1,⟨css,Fs,r1,rfl,rfl,r3⟩⟩
  cases hx
 ·simp only[bC] at hx;split at hx
  ·cases hx
  rename_i e1;exact if_neg e1
 ·simp only at hx hx';split at hx
  ·split at hx'
   ·subst_vars;exact hne rfl
   cases hx'
  cases hx
 ·simp only at hx;split at hx
  ·injection hx with hx
   subst hx;rw[hpl];exact hn
  cases hx
 ·simp only at hx;split at hx
  ·injection hx with hx
   subst hx;rw[hpl] at hg';exact⟨hg g hg',hlt g hg'⟩
  cases hx
 unfold aH;intro pl hp;simp only[if_true,Option.some.injEq] at hp;subst hp;rfl
end
def aXY (x:aB):List Value:=[.int .i64 x.num,.int .i64 x.den]
theorem aFI {K:Nat->Prop}{w:World}: ∀{l:List aB} {css:List (List Value)},eI K w 2 (l.map aA) css->css=l.map aXY
 | [],css,h=>h
 | x::l,css,⟨c,css',e,h1,h2,h3⟩=>by
   subst e;obtain⟨v,vs,e1,m1,v2,vs2,e2,m2,m3⟩:=h2;unfold hY at m1 m2;rw[aFI h3,e1,e2,m1,m2,show vs2= [] from m3];rfl
theorem aKw {w:World}: ∀(l:List aB),cP w 2 (l.map aA) (l.map aXY) (l.map fun _=>[])
 | []=>by unfold cP;exact⟨rfl,rfl⟩
 | x::l=>by
   rw[aLL,aLL,aLL];unfold cP;refine⟨_,_,_,_,rfl,rfl,rfl,?_,aKw l⟩;have h1:pA w (.int .i64 x.num) (.int .i64 x.num) []:=by unfold pA;exact⟨rfl,rfl⟩
   have h2:pA w (.int .i64 x.den) (.int .i64 x.den) []:=by unfold pA;exact⟨rfl,rfl⟩
   exact mV (F1:=[]) (F2:=[]) h1 (mV (F1:=[]) (F2:=[]) h2 aMc)
theorem aOU: ∀l:List aB,(l.map aXY).flatten.length=l.length*2
 | []=>rfl
 | x::l=>by simp only[aLL,aOr,aSu,aSt,aOU l,aXY,List.length_nil];omega
theorem aCK (l:List aB)(h0:0<l.length)(hl:l.length<=1048576):qJ Tryz.prog 165 [.one (.sl 38 2 (l.map aA))] (.own 0) [(0,.arr 38 2 true (l.map aA))]:=
 aSd (by kernel_rfl) fun A w vs hA ha=>by
  obtain⟨v,vs',e,hv,hv2⟩:=ha;simp only[aM1] at hv;unfold hY at hv;obtain⟨a,c,rfl,h1,h2,h3⟩:=hv;obtain⟨css,hr,hne⟩:=gE.vals h3;obtain⟨b,off,rfl,hcell⟩:=hne (by intro q;rw[List.map_eq_nil_iff] at q;rw[q] at h0;exact absurd h0 (Nat.lt_irrefl 0));have ev:vs= #[.slice (some ⟨b,off,none⟩) (l.map aA).length c]:=by apply Array.ext';rw[e,show vs' = [] from hv2]
  have hcs:=aFI hr;have hone:=aBQ hr
  have hlen:css.flatten.length=(l.map aA).length*2:=by
   rw[hcs,aOU,aAq]
  rw[ev];have hT:gD Tryz.prog 38=some (true,2,16,.agg #[.int .i64 0,.int .i64 0]):=by kernel_rfl
  have hI:=fY hT w;refine(AnyE.slices_Clone Tryz.cloneRats _ _ 2 16 hI.2.2.2.2.2.1 hI.2.2.2.2.2.2.2 hI.2.2.2.2.2.2.1 hI.2.2.2.2.1 rfl (by omega) (fun w=>(fY hT w).2.1) b off _ c css.flatten w hlen (by simp[maxLen];omega) (by simp;omega) (fun j u hj=>by have:=hcell j u hj;rwa [Nat.add_zero] at this) hone).mono fun e w' ⟨v',he,ho,_,hb⟩=>?_;refine⟨v',v'.ownBlock.toList,he,?_,?_,fun g hg=>(uX ho g hg).1,hb,fun g hg=>(uX ho g hg).2⟩
  ·unfold pA;refine⟨css,l.map fun _=>[],aD1 ho (fun g hg=>aBn g),?_,?_⟩
   ·simp
   rw[hcs];exact aKw l
  cases v'.ownBlock<;>simp
end Go.Proofs.YtlidmoeecphbmaaGreat
namespace Go.Proofs.YtlidmoeecphbmaaGreat
open Go.ChangeShapes Go.WideShapes Go.ChangeAt Go.RowKit
set_option linter.unusedVariables false
set_option linter.unusedSimpArgs false
set_option maxRecDepth 100000
set_option maxHeartbeats 4000000
abbrev aAN (f:Bool)(a:aB)(b:aB):List AV × List (Nat × Rs) × AV × List (Nat × Rs):=([.ptr 0 0,.agg [vI a.num,vI a.den],.agg [vI b.num,vI b.den]],[(0,.box 201 [vB f])],.agg [vI ((aZ a b).1.num),vI ((aZ a b).1.den)],[(0,.box 201 [vB (f || !(aZ a b).2)])])
abbrev aIN (f:Bool)(a:aB)(b:aB):Prop:=Cm 166 (aAN f a b).1 (aAN f a b).2.1 (aAN f a b).2.2.1 (aAN f a b).2.2.2
theorem aXZ (f:Bool)(a b:aB):aIN f a b:=by
 refine cqx Tryz.func166 (bI (wL a b)<| .br (.fin [(0,0)]) (.fin [(0,0)])) (p:=aBz a b/\Bb (f) (((aZ a b).1.num)=((aZ a b).1.num)/\((aZ a b).1.den)=((aZ a b).1.den)/\(true)=(f || !(aZ a b).2)/\True) (((aZ a b).1.num)=((aZ a b).1.num)/\((aZ a b).1.den)=((aZ a b).1.den)/\(!((aZ a b).2))=(f || !(aZ a b).2)/\True)) (by kernel_rfl) ?_;refine⟨aNw a b,db (fun g20=>?_) fun g20=>?_⟩
 ·refine⟨rfl,rfl,?_,trivial⟩
  ·(rw[g20]<;>rfl)
 ·refine⟨rfl,rfl,?_,trivial⟩
  ·(rw[g20]<;>rfl)
abbrev tB (f:Bool)(a:aB)(b:aB)(c:aB):List AV × List (Nat × Rs) × AV × List (Nat × Rs):=([.ptr 0 0,.agg [vI a.num,vI a.den],.agg [vI b.num,vI b.den],.agg [vI c.num,vI c.den]],[(0,.box 201 [vB f])],.agg [vI ((dS a b c).1.num),vI ((dS a b c).1.den)],[(0,.box 201 [vB (f || !(dS a b c).2)])])
abbrev aDS (f:Bool)(a:aB)(b:aB)(c:aB):Prop:=Cm 168 (tB f a b c).1 (tB f a b c).2.1 (tB f a b c).2.2.1 (tB f a b c).2.2.2
theorem aQs (f:Bool)(a b c:aB):aDS f a b c:=by
 refine cqx Tryz.func168 (.br (.fin [(0,0)]) (.lit<| .lit<| .lit<| .br (.fin [(0,0)]) (bI (aBy b c)<| bI (aBx a ((dQ b c).1))<| .br (.fin [(0,0)]) (.lit<| .lit<| .br (.fin [(0,0)]) (.fin [(0,0)]))))) (p:=Br (b.num=0) (a.num=((dS a b c).1.num)/\a.den=((dS a b c).1.den)/\(f)=(f || !(dS a b c).2)/\True) (Br (c.num=0) (a.num=((dS a b c).1.num)/\a.den=((dS a b c).1.den)/\(f)=(f || !(dS a b c).2)/\True) (aHu b c/\aHt a ((dQ b c).1)/\Bb (f) ((((fV a ((dQ b c).1)).1).num)=((dS a b c).1.num)/\(((fV a ((dQ b c).1)).1).den)=((dS a b c).1.den)/\(true)=(f || !(dS a b c).2)/\True) (Nr ((dQ b c).2) ((((fV a ((dQ b c).1)).1).num)=((dS a b c).1.num)/\(((fV a ((dQ b c).1)).1).den)=((dS a b c).1.den)/\(true)=(f || !(dS a b c).2)/\True) ((((fV a ((dQ b c).1)).1).num)=((dS a b c).1.num)/\(((fV a ((dQ b c).1)).1).den)=((dS a b c).1.den)/\(!((fV a ((dQ b c).1)).2))=(f || !(dS a b c).2)/\True))))) (by kernel_rfl) ?_;refine dd (fun g16=>?_) fun g16=>?_
 ·apply et3<;>((rw[dS,if_pos (.inl g16)]<;>(simp;done)))
 ·refine dd (fun c0=>?_) fun c0=>?_
  ·apply et3<;>((rw[dS,if_pos (.inr c0)]<;>(simp;done)))
  ·have hP:dS a b c=((fV a (dQ b c).1).1,(dQ b c).2&&(fV a (dQ b c).1).2):=by rw[dS,if_neg (by rintro(q | q);exact g16 q;exact c0 q)]
   refine⟨aVK b c,aVJ a ((dQ b c).1),db (fun g39=>?_) fun g39=>?_⟩
   ·apply et3<;>((rw[hP]<;>(simp[*];done)))
   ·refine dm (fun g43=>?_) fun g43=>?_
    ·apply et3<;>((rw[hP]<;>(simp[*];done)))
    ·apply et3<;>((rw[hP]<;>(simp[*];done)))
abbrev oT (a:aB):Prop:=Cn 108 [.agg [.int .i64 a.num,.int .i64 a.den]] (.agg [vI ((dV a).num),vI ((dV a).den)]) []
theorem aAO (a:aB)(ha: -9223372036854775807<=a.num/\a.num<=9223372036854775807):oT a:=by
 refine cq Tryz.func108 (.fin []) (p:=bJ (-a.num)/\(-a.num)=((dV a).num)/\a.den=((dV a).den)/\True) (by kernel_rfl) ?_;refine⟨by exact⟨by omega,by omega⟩,?_,?_,trivial⟩<;>(rfl)
end Go.Proofs.YtlidmoeecphbmaaGreat
