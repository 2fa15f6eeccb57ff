/-
  Contracts and plain laws, joined: part 10.
-/
import Derived.Test.YtlidmoeecphbmaaGreateb8
import Derived.Test.YtlidmoeecphbmaaGreateb3
import Derived.Shelf.Lay
import Derived.Shelf.SlicesE.Clone
import Derived.Ground.SlgnProg
namespace Go.Proofs.YtlidmoeecphbmaaGreat
open Go.ChangeShapes Go.WideShapes Go.ChangeAt Go.RowKit
set_option linter.unusedVariables false
set_option linter.unusedSimpArgs false
set_option maxRecDepth 100000
set_option maxHeartbeats 4000000
theorem aRm {α:Type}{p:α→Bool}{l:List α}{k:Nat}{x:α}(h:l[k]? =some x)(hp:p x=true):l.any p=true:=List.any_eq_true.2 ⟨x,List.mem_of_getElem? h,hp⟩
theorem aRn {α:Type}{p:α→Bool}{l:List α}{k:Nat}{x:α}(h:l[k]? =some x)(ha:(l.take k).any p=false)(hp:p x=false):(l.take (k+1)).any p=false:=by
 rw[List.take_add_one,h]
 simp[ha,hp]
theorem aRo {α:Type}{p:α→Bool}{l:List α}{k:Nat}(hge:l.length≤k)(ha:(l.take k).any p=false):l.any p=false:=by rwa [List.take_of_length_le hge] at ha
theorem upN {p:Nat→Prop}{k:Nat}(ha: ∀i,i<k→p i)(h:p k): ∀i,i<k+1→p i:=by
 intro i hi
 rcases Nat.lt_or_eq_of_le (Nat.le_of_lt_succ hi) with h' | rfl
 ·exact ha i h'
 ·exact h
theorem aW3 {l:List Int}{n:Nat}(hn:l.length≤n)(h: ∀i,i<n→l.any (isD (i:Nat))=true):pY l=true:=List.all_eq_true.2 fun i hi=>h i (by rw[List.mem_range] at hi;omega)
theorem aW4 {l:List Int}{k:Nat}(hk:k<l.length)(h:l.any (isD (k:Nat))=false):pY l=false:=by
 cases e:pY l with
 | false=>rfl
 | true=>rw[List.all_eq_true.1 e k (List.mem_range.2 hk)] at h;cases h
abbrev aEl (l:List Int)(n:Int):Prop:=cH Tryz.prog 183 [.one (.sl 3 1 (l.map intD)),.one (.int .i64 n)] (vB (l.any (isD n))) []
theorem aRp (l:List Int)(n:Int):aEl l n:=by
 refine aW bH aO Tryz.func183 (by kernel_rfl) (.loop Nat (Q1 Nat) (rg 5 13) [] (fun k=>[(5,vI (k:Int))]) (fun k=>[]) (fun k=>k≤l.length∧(l.take k).any (isD n)=false) (fun k=>l.length - k) (fun k=> .len l.length<| .br (.elem _ intD l (fun e14=> .br (.fin []) (.back []))) (.fin []))) (p:=(l.map intD).length≤9223372036854775807→(∃(k:Nat),0=(k:Int)∧k≤l.length∧(l.take k).any (isD n)=false)∧ ∀(k:Nat),(k≤l.length∧(l.take k).any (isD n)=false)→Lm intD l∧Br ((k:Int)<(l.length:Int)) (0≤(k:Int)∧Em intD l k fun e14=>Br (e14=n) ((true)=(l.any (isD n))∧True) (bO ((k:Int)+1)∧ ∃(k' :Nat),((k:Int)+1)=(k' :Int)∧(k' ≤l.length∧(l.take k').any (isD n)=false)∧l.length - k' <l.length - k)) ((false)=(l.any (isD n))∧True)) (by kernel_rfl) ?_
 intro n0
 simp only[List.length_map] at n0
 refine⟨⟨0,rfl,Nat.zero_le _,rfl⟩,fun k ⟨hk,ha⟩=>?_⟩
 refine⟨List.length_map _,dd (fun c0=>?_) fun c0=>?_⟩
 ·refine⟨by omega,rfl,by omega,fun e14 h14=>?_⟩
  refine dd (fun c1=>?_) fun c1=>?_
  ·refine⟨?_,trivial⟩
   ·(rw[aRm h14 (decide_eq_true c1)];done)
  ·refine⟨⟨by omega,by omega⟩,?_⟩
   exact⟨k+1,rfl,⟨by omega,aRn h14 ha (decide_eq_false c1)⟩,by omega⟩
 ·refine⟨?_,trivial⟩
  ·(rw[aRo (by omega) ha];done)
abbrev sR (l:List aB):Prop:=cH Tryz.prog 201 [.one (.sl 38 2 (l.map aA))] (vB (l.all bC)) []
theorem aDi (l:List aB):sR l:=by
 refine aW bH aO Tryz.func201 (by kernel_rfl) (.loop Nat (Q1 Nat) (rg 3 13) [] (fun k=>[(3,vI (k:Int))]) (fun k=>[]) (fun k=>k≤l.length∧(l.take k).all bC=true) (fun k=>l.length - k) (fun k=> .len l.length<| .br (.elem _ aA l (fun e12=> .call (vB (bC e12)) []<| .br (.fin []) (.back []))) (.fin []))) (p:=(l.map aA).length≤9223372036854775807→(∃(k:Nat),0=(k:Int)∧k≤l.length∧(l.take k).all bC=true)∧ ∀(k:Nat),(k≤l.length∧(l.take k).all bC=true)→Lm aA l∧Br ((k:Int)<(l.length:Int)) (0≤(k:Int)∧Em aA l k fun e12=>fK e12∧Nr (bC e12) ((false)=(l.all bC)∧True) (bO ((k:Int)+1)∧ ∃(k' :Nat),((k:Int)+1)=(k' :Int)∧(k' ≤l.length∧(l.take k').all bC=true)∧l.length - k' <l.length - k)) ((true)=(l.all bC)∧True)) (by kernel_rfl) ?_
 intro n0
 simp only[List.length_map] at n0
 refine⟨⟨0,rfl,Nat.zero_le _,rfl⟩,fun k ⟨hk,ha⟩=>?_⟩
 refine⟨List.length_map _,dd (fun c0=>?_) fun c0=>?_⟩
 ·refine⟨by omega,rfl,by omega,fun e12 h12=>?_⟩
  refine⟨jH e12,dm (fun c1=>?_) fun c1=>?_⟩
  ·refine⟨?_,trivial⟩
   ·(rw[eO h12 c1];done)
  ·refine⟨⟨by omega,by omega⟩,?_⟩
   exact⟨k+1,rfl,⟨by omega,cL h12 ha c1⟩,by omega⟩
 ·refine⟨?_,trivial⟩
  ·(rw[dC (by omega) ha];done)
theorem pW {d:aJ}(h: ¬((d.basic.length:Int)≤64∧(1≤(d.others.length:Int)∧(d.others.length:Int)≤15)∧(d.table.length:Int)=d.basic.length∧(d.limits.length:Int)=d.basic.length∧(d.costs.length:Int)=d.others.length)):dK d=false:=by
 cases e:dK d with
 | false=>rfl
 | true=>
   obtain⟨b1,b2,b3,_,_,b6,b7,_⟩:=iN e
   exact absurd ⟨by omega,by omega,by omega,by omega,by omega⟩ h
theorem aRq {d:aJ}(h:(d.basic.length:Int)≤64∧(1≤(d.others.length:Int)∧(d.others.length:Int)≤15)∧(d.table.length:Int)=d.basic.length)(h1:pY (d.basic++d.others)=true)(h2:d.table.all (fun r=>iC r d.others.length)=true)(h3:iC d.limits d.basic.length=true)(h4:iC d.costs d.others.length=true):dK d=bC d.value:=by
 simp only[dK,h1,h2,h3,h4,decide_eq_true h.1,decide_eq_true h.2.1,decide_eq_true h.2.2,Bool.true_and]
abbrev vZ (d:aJ):Prop:=cH Tryz.prog 148 [.agg [.sl 3 1 (d.basic.map intD),.sl 3 1 (d.others.map intD),.sl 61 1 (d.table.map aF),.sl 38 2 (d.limits.map aA),.sl 38 2 (d.costs.map aA),.int .i64 d.value.num,.int .i64 d.value.den]] (vB (dK d)) []
theorem aHk (d:aJ)(h0:d.basic.length≤1048576)(h1:d.others.length≤1048576):vZ d:=by
 refine aW bH aO Tryz.func148 (by kernel_rfl) (.len d.basic.length<| .len d.others.length<| .br (.fin []) (.call (vB (decide (1≤(d.others.length:Int)∧(d.others.length:Int)≤15))) []<| .lit<| .lit<| .br (.fin []) (.len d.table.length<| .lit<| .lit<| .lit<| .br (.fin []) (.len d.limits.length<| .lit<| .lit<| .lit<| .br (.fin []) (.len d.costs.length<| .lit<| .lit<| .lit<| .br (.fin []) (.app Int intD ([]:List Int) d.basic<| .app Int intD (([]:List Int)++d.basic) d.others<| .loop Nat (Q1 Nat) ([6]++rg 49 11) [] (fun k=>[(6,vI (k:Int))]) (fun k=>[]) (fun k=>k≤d.basic.length+d.others.length∧(∀i,i<k→((([]:List Int)++d.basic)++d.others).any (isD (i:Nat))=true)) (fun k=>d.basic.length+d.others.length - k) (fun k=> .br (.call (vB (((([]:List Int)++d.basic)++d.others).any (isD (k:Int)))) []<| .br (.fin []) (.back [])) (.loop Nat (Q1 Nat) ([7]++rg 60 22) [] (fun j=>[(7,vI (j:Int))]) (fun j=>[]) (fun j=>j≤d.basic.length∧(d.table.take j).all (fun r=>iC r d.others.length)=true) (fun j=>d.basic.length - j) (fun j=> .br (.elem _ aF d.table (fun e68=> .len e68.length<| .br (.fin []) (.elem _ aF d.table (fun e77=> .call (vB (e77.all bC)) []<| .lit<| .lit<| .br (.fin []) (.back []))))) (.call (vB (d.limits.all bC)) []<| .br (.call (vB (d.costs.all bC)) []<| .lit<| .br (.call (vB (bC d.value)) []<| .fin []) (.fin [])) (.fin []))))))))))) (p:=(d.basic.map intD).length≤9223372036854775807→(d.others.map intD).length≤9223372036854775807→(d.table.map aF).length≤9223372036854775807→(d.limits.map aA).length≤9223372036854775807→(d.costs.map aA).length≤9223372036854775807→Lm intD d.basic∧(Lm intD d.others∧Br (64<(d.basic.length:Int)) ((false)=(dK d)∧True) (fC (d.others.length:Int) (1:Int) (15:Int)∧Nb (1≤(d.others.length:Int)∧(d.others.length:Int)≤15) ((false)=(dK d)∧True) (Lm aF d.table∧Nb ((d.table.length:Int)=(d.basic.length:Int)) ((false)=(dK d)∧True) (Lm aA d.limits∧Nb ((d.limits.length:Int)=(d.basic.length:Int)) ((false)=(dK d)∧True) (Lm aA d.costs∧Nb ((d.costs.length:Int)=(d.others.length:Int)) ((false)=(dK d)∧True) ([]=([]:List Int).map intD∧d.basic.map intD=d.basic.map intD∧(∀x,bW (intD x)=true)∧(([]:List Int).length+d.basic.length)*8≤140737488355328∧((([]:List Int)++d.basic).map intD=(([]:List Int)++d.basic).map intD∧d.others.map intD=d.others.map intD∧(∀x,bW (intD x)=true)∧((([]:List Int)++d.basic).length+d.others.length)*8≤140737488355328∧((∃(k:Nat),0=(k:Int)∧k≤d.basic.length+d.others.length∧(∀i,i<k→((([]:List Int)++d.basic)++d.others).any (isD (i:Nat))=true))∧ ∀(k:Nat),(k≤d.basic.length+d.others.length∧(∀i,i<k→((([]:List Int)++d.basic)++d.others).any (isD (i:Nat))=true))→bO ((d.basic.length:Int)+(d.others.length:Int))∧Br ((k:Int)<((d.basic.length:Int)+(d.others.length:Int))) (aEl ((([]:List Int)++d.basic)++d.others) (k:Int)∧Nr (((([]:List Int)++d.basic)++d.others).any (isD (k:Int))) ((false)=(dK d)∧True) (bO ((k:Int)+1)∧ ∃(k' :Nat),((k:Int)+1)=(k' :Int)∧(k' ≤d.basic.length+d.others.length∧(∀i,i<k' →((([]:List Int)++d.basic)++d.others).any (isD (i:Nat))=true))∧d.basic.length+d.others.length - k' <d.basic.length+d.others.length - k)) ((∃(j:Nat),0=(j:Int)∧j≤d.basic.length∧(d.table.take j).all (fun r=>iC r d.others.length)=true)∧ ∀(j:Nat),(j≤d.basic.length∧(d.table.take j).all (fun r=>iC r d.others.length)=true)→Br ((j:Int)<(d.basic.length:Int)) (0≤(j:Int)∧Em aF d.table j fun e68=>Lm aA e68∧Nb ((e68.length:Int)=(d.others.length:Int)) ((false)=(dK d)∧True) (0≤(j:Int)∧Em aF d.table j fun e77=>sR e77∧Nr (e77.all bC) ((false)=(dK d)∧True) (bO ((j:Int)+1)∧ ∃(j' :Nat),((j:Int)+1)=(j' :Int)∧(j' ≤d.basic.length∧(d.table.take j').all (fun r=>iC r d.others.length)=true)∧d.basic.length - j' <d.basic.length - j))) (sR d.limits∧Bb (d.limits.all bC) (sR d.costs∧Bb (d.costs.all bC) (fK d.value∧(bC d.value)=(dK d)∧True) ((false)=(dK d)∧True)) ((false)=(dK d)∧True)))))))))))) (by kernel_rfl) ?_
 intro n0 n1 n2 n3 n4
 simp only[List.length_map] at n0 n1 n2 n3 n4
 refine⟨List.length_map _,List.length_map _,dd (fun g16=>?_) fun g16=>?_⟩
 ·refine⟨?_,trivial⟩
  ·(exact(pW (by omega)).symm)
 ·refine⟨iU _ _ _,dn (fun g21=>?_) fun g21=>?_⟩
  ·refine⟨?_,trivial⟩
   ·(exact(pW (by omega)).symm)
  ·refine⟨List.length_map _,dn (fun g28=>?_) fun g28=>?_⟩
   ·refine⟨?_,trivial⟩
    ·(exact(pW (by omega)).symm)
   ·refine⟨List.length_map _,dn (fun g35=>?_) fun g35=>?_⟩
    ·refine⟨?_,trivial⟩
     ·(exact(pW (by omega)).symm)
    ·refine⟨List.length_map _,dn (fun c0=>?_) fun c0=>?_⟩
     ·refine⟨?_,trivial⟩
      ·(exact(pW (by omega)).symm)
     ·refine⟨rfl,rfl,fun _=>rfl,by (simp;omega),?_⟩
      refine⟨rfl,rfl,fun _=>rfl,by (simp;omega),?_⟩
      refine⟨⟨0,rfl,Nat.zero_le _,fun i h=>absurd h (Nat.not_lt_zero _)⟩,fun k ⟨hk,ha⟩=>?_⟩
      refine⟨⟨by omega,by omega⟩,dd (fun c1=>?_) fun c1=>?_⟩
      ·refine⟨aRp ((([]:List Int)++d.basic)++d.others) (k:Int),dm (fun c2=>?_) fun c2=>?_⟩
       ·refine⟨?_,trivial⟩
        ·(exact(aOx (aW4 (k:=k) (by simp;omega) c2)).symm)
       ·refine⟨⟨by omega,by omega⟩,?_⟩
        exact⟨k+1,rfl,⟨by omega,upN (p:=fun i=>((([]:List Int)++d.basic)++d.others).any (isD (i:Nat))=true) ha c2⟩,by omega⟩
      ·have hp:pY (d.basic++d.others)=true:=aW3 (n:=k) (by simp;omega) ha
       refine⟨⟨0,rfl,Nat.zero_le _,rfl⟩,fun j ⟨hj,hb⟩=>?_⟩
       refine dd (fun c3=>?_) fun c3=>?_
       ·refine⟨by omega,rfl,by omega,fun e68 h68=>?_⟩
        refine⟨List.length_map _,dn (fun g73=>?_) fun g73=>?_⟩
        ·refine⟨?_,trivial⟩
         ·(exact(aHg h68 (aOz (by omega))).symm)
        ·refine⟨by omega,rfl,by omega,fun e77 h77=>?_⟩
         obtain rfl:=(aZ h68 h77).symm
         refine⟨aDi _,dm (fun c4=>?_) fun c4=>?_⟩
         ·refine⟨?_,trivial⟩
          ·(exact(aHg h68 (aBi c4)).symm)
         ·refine⟨⟨by omega,by omega⟩,?_⟩
          exact⟨j+1,rfl,⟨by omega,cL h68 hb (aDg g73 c4)⟩,by omega⟩
       ·have hcl:=dC (by omega) hb
        refine⟨aDi _,db (fun g85=>?_) fun g85=>?_⟩
        ·refine⟨aDi _,db (fun g90=>?_) fun g90=>?_⟩
         ·refine⟨jH d.value,?_,trivial⟩
          ·(exact(aRq (by omega) hp hcl (aDg (by omega) g85) (aDg (by omega) g90)).symm)
         ·refine⟨?_,trivial⟩
          ·(exact(aNX (aBi g90)).symm)
        ·refine⟨?_,trivial⟩
         ·(exact(aOy (aBi g85)).symm)
theorem aN4 {d:aJ}{k:Nat}{b:Int}{x:aB}(hb:b=kU d k)(hx:d.costs[k]? =some x)(h: ¬0<x.num):b=kU d (k+1):=aPz hb (by rw[aBj,bF hx,decide_eq_false h];rfl)
theorem aN5 {d:aJ}{k:Nat}{b:Int}{x:aB}(hb:b=kU d k)(hx:d.costs[k]? =some x)(h:0<x.num)(h2:b<0):(k:Int)=kU d (k+1):=aNZ hb (by rw[aBj,bF hx,decide_eq_true h,decide_eq_true h2];rfl)
theorem aKV {d:aJ}{k:Nat}{b y z:Int}{x:aB}(hb:b=kU d k)(hx:d.costs[k]? =some x)(h:0<x.num)(hy:d.others[k]? =some y)(hz:d.others[b.toNat]? =some z)(h2:y<z):(k:Int)=kU d (k+1):=aNZ hb (by rw[aBj,bF hx,bF hy,bF hz,decide_eq_true h,decide_eq_true h2,Bool.or_true];rfl)
theorem aN6 {d:aJ}{k:Nat}{b y z:Int}{x:aB}(hb:b=kU d k)(hx:d.costs[k]? =some x)(h1: ¬b<0)(hy:d.others[k]? =some y)(hz:d.others[b.toNat]? =some z)(h2: ¬y<z):b=kU d (k+1):=aPz hb (by rw[aBj,bF hx,bF hy,bF hz,decide_eq_false h1,decide_eq_false h2,Bool.or_false,Bool.and_false])
theorem aW5 {d:aJ}(h:dK d=false):kC d= -1:=by rw[kC,if_neg (by rw[h];decide)]
theorem aN7 {d:aJ}(h:dK d=true):kC d=eZ d:=by rw[kC,if_pos h]
theorem aQD {d:aJ}{k:Nat}{b:Int}(hb:b=kU d k)(h:d.others.length=k):eZ d=b:=by rw[eZ,h,hb]
abbrev aBl (d:aJ):Prop:=cH Tryz.prog 104 [.agg [.sl 3 1 (d.basic.map intD),.sl 3 1 (d.others.map intD),.sl 61 1 (d.table.map aF),.sl 38 2 (d.limits.map aA),.sl 38 2 (d.costs.map aA),.int .i64 d.value.num,.int .i64 d.value.den]] (vI (eZ d)) []
theorem aN8 (d:aJ)(hd:dK d=true):aBl d:=by
 refine aW bH aO Tryz.func104 (by kernel_rfl) (.len d.costs.length<| .loop (Nat × Int) (Q2 Nat Int) ([3,4,5]++rg 9 27) [500] (fun yy0=>[(9,vI (yy0.1:Int)),(3,vI yy0.2)]) (fun yy0=>[]) (fun yy0=>yy0.1≤d.others.length∧yy0.2=kU d yy0.1) (fun yy0=>d.others.length - yy0.1) (fun yy0=> .br (.elem _ aA d.costs (fun e12=> .br (.lit<| .lit<| .br (.back []) (.elem _ intD d.others (fun e24=> .elem _ intD d.others (fun e29=> .lit<| .lit<| .lit<| .lit<| .lit<| .br (.back []) (.back []))))) (.back []))) (.fin []))) (p:=(d.basic.map intD).length≤9223372036854775807→(d.others.map intD).length≤9223372036854775807→(d.table.map aF).length≤9223372036854775807→(d.limits.map aA).length≤9223372036854775807→(d.costs.map aA).length≤9223372036854775807→Lm aA d.costs∧((∃(k:Nat) (b:Int),0=(k:Int)∧(-1:Int)=b∧k≤d.others.length∧b=kU d k)∧ ∀(k:Nat) (b:Int),(k≤d.others.length∧b=kU d k)→Br ((k:Int)<(d.costs.length:Int)) (0≤(k:Int)∧Em aA d.costs k fun e12=>Br (0<e12.num) (Br (b<0) (bO ((k:Int)+1)∧ ∃(k' :Nat) (b' :Int),((k:Int)+1)=(k' :Int)∧(k:Int)=b' ∧(k' ≤d.others.length∧b' =kU d k')∧d.others.length - k' <d.others.length - k) (0≤(k:Int)∧Em intD d.others k fun e24=>0≤b∧Em intD d.others ((b).toNat) fun e29=>Br (e24<e29) (bO ((k:Int)+1)∧ ∃(k' :Nat) (b' :Int),((k:Int)+1)=(k' :Int)∧(k:Int)=b' ∧(k' ≤d.others.length∧b' =kU d k')∧d.others.length - k' <d.others.length - k) (bO ((k:Int)+1)∧ ∃(k' :Nat) (b' :Int),((k:Int)+1)=(k' :Int)∧b=b' ∧(k' ≤d.others.length∧b' =kU d k')∧d.others.length - k' <d.others.length - k))) (bO ((k:Int)+1)∧ ∃(k' :Nat) (b' :Int),((k:Int)+1)=(k' :Int)∧b=b' ∧(k' ≤d.others.length∧b' =kU d k')∧d.others.length - k' <d.others.length - k)) (b=(eZ d)∧True))) (by kernel_rfl) ?_
 intro n0 n1 n2 n3 n4
 simp only[List.length_map] at n0 n1 n2 n3 n4
 obtain⟨b1,b2,b3,b4,b5,b6,b7,b8⟩:=iN hd
 refine⟨List.length_map _,⟨0,-1,rfl,rfl,Nat.zero_le _,rfl⟩,fun k b ⟨hk,hb⟩=>?_⟩
 refine dd (fun c0=>?_) fun c0=>?_
 ·have eb:=zS d k
  refine⟨by omega,rfl,by omega,fun e12 h12=>?_⟩
  refine dd (fun g17=>?_) fun g17=>?_
  ·refine dd (fun g20=>?_) fun g20=>?_
   ·refine⟨⟨by omega,by omega⟩,?_⟩
    exact⟨k+1,(k:Int),rfl,rfl,⟨by omega,by exact aN5 hb h12 g17 g20⟩,by omega⟩
   ·refine⟨by omega,rfl,by omega,fun e24 h24=>?_⟩
    refine⟨by omega,rfl,by omega,fun e29 h29=>?_⟩
    refine dd (fun c1=>?_) fun c1=>?_
    ·refine⟨⟨by omega,by omega⟩,?_⟩
     exact⟨k+1,(k:Int),rfl,rfl,⟨by omega,by exact aKV hb h12 g17 h24 h29 c1⟩,by omega⟩
    ·refine⟨⟨by omega,by omega⟩,?_⟩
     exact⟨k+1,b,rfl,rfl,⟨by omega,by exact aN6 hb h12 g20 h24 h29 c1⟩,by omega⟩
  ·refine⟨⟨by omega,by omega⟩,?_⟩
   exact⟨k+1,b,rfl,rfl,⟨by omega,by exact aN4 hb h12 g17⟩,by omega⟩
 ·refine⟨?_,trivial⟩
  ·(rw[aQD hb (by omega)];done)
abbrev aHl (d:aJ):Prop:=cH Tryz.prog 95 [.agg [.sl 3 1 (d.basic.map intD),.sl 3 1 (d.others.map intD),.sl 61 1 (d.table.map aF),.sl 38 2 (d.limits.map aA),.sl 38 2 (d.costs.map aA),.int .i64 d.value.num,.int .i64 d.value.den]] (vI (kC d)) []
theorem aUi (d:aJ)(h0:d.basic.length≤1048576)(h1:d.others.length≤1048576):aHl d:=by
 refine aW bH aO Tryz.func95 (by kernel_rfl) (.call (vB (dK d)) []<| .br (.fin []) (.loop (Nat × Int) (Q2 Nat Int) ([3,4]++rg 8 32) [] (fun yy0=>[(4,vI (yy0.1:Int)),(3,vI yy0.2)]) (fun yy0=>[]) (fun yy0=>yy0.1≤d.others.length∧yy0.2=kU d yy0.1) (fun yy0=>d.others.length - yy0.1) (fun yy0=> .len d.others.length<| .br (.elem _ aA d.costs (fun e18=> .br (.lit<| .lit<| .br (.back []) (.elem _ intD d.others (fun e29=> .elem _ intD d.others (fun e34=> .lit<| .lit<| .lit<| .lit<| .lit<| .br (.back []) (.back []))))) (.back []))) (.fin [])))) (p:=(d.basic.map intD).length≤9223372036854775807→(d.others.map intD).length≤9223372036854775807→(d.table.map aF).length≤9223372036854775807→(d.limits.map aA).length≤9223372036854775807→(d.costs.map aA).length≤9223372036854775807→vZ d∧Nr (dK d) ((-1:Int)=(kC d)∧True) ((∃(k:Nat) (b:Int),0=(k:Int)∧(-1:Int)=b∧k≤d.others.length∧b=kU d k)∧ ∀(k:Nat) (b:Int),(k≤d.others.length∧b=kU d k)→Lm intD d.others∧Br ((k:Int)<(d.others.length:Int)) (0≤(k:Int)∧Em aA d.costs k fun e18=>Br (0<e18.num) (Br (b<0) (bO ((k:Int)+1)∧ ∃(k' :Nat) (b' :Int),((k:Int)+1)=(k' :Int)∧(k:Int)=b' ∧(k' ≤d.others.length∧b' =kU d k')∧d.others.length - k' <d.others.length - k) (0≤(k:Int)∧Em intD d.others k fun e29=>0≤b∧Em intD d.others ((b).toNat) fun e34=>Br (e29<e34) (bO ((k:Int)+1)∧ ∃(k' :Nat) (b' :Int),((k:Int)+1)=(k' :Int)∧(k:Int)=b' ∧(k' ≤d.others.length∧b' =kU d k')∧d.others.length - k' <d.others.length - k) (bO ((k:Int)+1)∧ ∃(k' :Nat) (b' :Int),((k:Int)+1)=(k' :Int)∧b=b' ∧(k' ≤d.others.length∧b' =kU d k')∧d.others.length - k' <d.others.length - k))) (bO ((k:Int)+1)∧ ∃(k' :Nat) (b' :Int),((k:Int)+1)=(k' :Int)∧b=b' ∧(k' ≤d.others.length∧b' =kU d k')∧d.others.length - k' <d.others.length - k)) (b=(kC d)∧True))) (by kernel_rfl) ?_
 intro n0 n1 n2 n3 n4
 simp only[List.length_map] at n0 n1 n2 n3 n4
 refine⟨aHk d (by omega) (by omega),dm (fun c0=>?_) fun c0=>?_⟩
 ·refine⟨?_,trivial⟩
  ·(rw[aW5 c0];done)
 ·have hd:dK d=true:=c0
  obtain⟨b1,b2,b3,b4,b5,b6,b7,b8⟩:=iN hd
  refine⟨⟨0,-1,rfl,rfl,Nat.zero_le _,rfl⟩,fun k b ⟨hk,hb⟩=>?_⟩
  refine⟨List.length_map _,dd (fun c1=>?_) fun c1=>?_⟩
  ·have eb:=zS d k
   refine⟨by omega,rfl,by omega,fun e18 h18=>?_⟩
   refine dd (fun g22=>?_) fun g22=>?_
   ·refine dd (fun g25=>?_) fun g25=>?_
    ·refine⟨⟨by omega,by omega⟩,?_⟩
     exact⟨k+1,(k:Int),rfl,rfl,⟨by omega,by exact aN5 hb h18 g22 g25⟩,by omega⟩
    ·refine⟨by omega,rfl,by omega,fun e29 h29=>?_⟩
     refine⟨by omega,rfl,by omega,fun e34 h34=>?_⟩
     refine dd (fun c2=>?_) fun c2=>?_
     ·refine⟨⟨by omega,by omega⟩,?_⟩
      exact⟨k+1,(k:Int),rfl,rfl,⟨by omega,by exact aKV hb h18 g22 h29 h34 c2⟩,by omega⟩
     ·refine⟨⟨by omega,by omega⟩,?_⟩
      exact⟨k+1,b,rfl,rfl,⟨by omega,by exact aN6 hb h18 g25 h29 h34 c2⟩,by omega⟩
   ·refine⟨⟨by omega,by omega⟩,?_⟩
    exact⟨k+1,b,rfl,rfl,⟨by omega,by exact aN4 hb h18 g22⟩,by omega⟩
  ·refine⟨?_,trivial⟩
   ·(rw[aN7 c0,aQD hb (by omega)];done)
theorem hJ {d:aJ}{i j:Nat}{r:List aB}{x:aB}(hr:d.table[i]? =some r)(hx:r[j]? =some x):iL d i j=x:=by rw[iL,bF hr,bF hx]
theorem aN9 {d:aJ}{j n k:Nat}{b:Int}{l x:aB}{r:List aB}(hk:k<n)(hr:d.table[k]? =some r)(hx:r[j]? =some x)(h:x.num≤0):eT d j (n - k) k b l=eT d j (n - (k+1)) (k+1) b l:=aPA hk (by rw[hJ hr hx];exact h)
theorem aQE {d:aJ}{j n k:Nat}{b:Int}{l x m:aB}{r:List aB}(hk:k<n)(hr:d.table[k]? =some r)(hx:r[j]? =some x)(h: ¬x.num≤0)(hm:d.limits[k]? =some m)(h2:(aY m x).2=false):eT d j (n - k) k b l= -1:=aRi hk (by rw[hJ hr hx];exact h) (by rw[hJ hr hx,bF hm];exact h2)
theorem aAe {d:aJ}{j n k:Nat}{b:Int}{l x m:aB}{r:List aB}(hk:k<n)(hr:d.table[k]? =some r)(hx:r[j]? =some x)(h: ¬x.num≤0)(hm:d.limits[k]? =some m)(h2:(aY m x).2=true)(h3:mJ d b (fB (aY m x).1 l) k=true):eT d j (n - k) k b l=eT d j (n - (k+1)) (k+1) (k:Int) (aY m x).1:=by
 have e:=aRj (d:=d) (j:=j) (b:=b) (l:=l) hk (by rw[hJ hr hx];exact h) (by rw[hJ hr hx,bF hm];exact h2) (by rw[hJ hr hx,bF hm];exact h3)
 rw[e,hJ hr hx,bF hm]
theorem aL3 {d:aJ}{j n k:Nat}{b:Int}{l x m:aB}{r:List aB}(hk:k<n)(hr:d.table[k]? =some r)(hx:r[j]? =some x)(h: ¬x.num≤0)(hm:d.limits[k]? =some m)(h2:(aY m x).2=true)(h3:mJ d b (fB (aY m x).1 l) k=false):eT d j (n - k) k b l=eT d j (n - (k+1)) (k+1) b l:=aUe hk (by rw[hJ hr hx];exact h) (by rw[hJ hr hx,bF hm];exact h2) (by rw[hJ hr hx,bF hm];exact h3)
theorem aWs {d:aJ}{b c:Int}{k:Nat}(h:b<0):mJ d b c k=true:=by rw[mJ,decide_eq_true h];rfl
theorem aWt {d:aJ}{b c:Int}{k:Nat}(h:c<0):mJ d b c k=true:=by rw[mJ,decide_eq_true h];simp
theorem aWu {d:aJ}{b c y z:Int}{k:Nat}(h:c=0)(hy:d.basic[k]? =some y)(hz:d.basic[b.toNat]? =some z)(h2:y<z):mJ d b c k=true:=by rw[mJ,decide_eq_true h,bF hy,bF hz,decide_eq_true h2];simp
theorem aWv {d:aJ}{b c:Int}{k:Nat}(h: ¬b<0)(h1: ¬c<0)(h2: ¬c=0):mJ d b c k=false:=by rw[mJ,decide_eq_false h,decide_eq_false h1,decide_eq_false h2];rfl
theorem aWw {d:aJ}{b c y z:Int}{k:Nat}(h: ¬b<0)(h1: ¬c<0)(hy:d.basic[k]? =some y)(hz:d.basic[b.toNat]? =some z)(h2: ¬y<z):mJ d b c k=false:=by rw[mJ,decide_eq_false h,decide_eq_false h1,bF hy,bF hz,decide_eq_false h2];simp
theorem aKW {d:aJ}{j k:Nat}{b:Int}{l:aB}(h:d.basic.length≤k)(hv:eT d j (d.basic.length - k) k b l=gM d j):gM d j=b:=by rw[←hv,Nat.sub_eq_zero_of_le h,eT]
theorem aHm {d:aJ}{j:Int}(h:dK d=true)(hj:0≤j∧j<d.others.length):oP d j=gM d j.toNat:=by rw[oP,if_pos ⟨h,hj⟩]
theorem aW6 {d:aJ}{j:Int}(h:dK d=false):oP d j= -1:=by rw[oP,if_neg (by rw[h];simp)]
theorem aUj {d:aJ}{j:Int}(h: ¬(0≤j∧j<d.others.length)):oP d j= -1:=by rw[oP,if_neg (fun q=>h q.2)]
abbrev aHn (d:aJ)(j:Int):Prop:=cH Tryz.prog 105 [.agg [.sl 3 1 (d.basic.map intD),.sl 3 1 (d.others.map intD),.sl 61 1 (d.table.map aF),.sl 38 2 (d.limits.map aA),.sl 38 2 (d.costs.map aA),.int .i64 d.value.num,.int .i64 d.value.den],.one (.int .i64 j)] (vI (gM d j.toNat)) []
theorem aUk (d:aJ)(j:Int)(hd:dK d=true)(hj:0≤j∧j<d.others.length):aHn d j:=by
 refine aW bH aO Tryz.func105 (by kernel_rfl) (.len d.basic.length<| .loop (Nat × Int × Int × Int) (Q4 Nat Int Int Int) ([5,7,8,9,10]++rg 15 61) [600,800] (fun yy0=>[(15,vI (yy0.1:Int)),(5,vI yy0.2.1)]) (fun yy0=>[(600,some (.box 38 [vI yy0.2.2.1,vI yy0.2.2.2]))]) (fun yy0=>yy0.1≤d.basic.length∧(-1≤yy0.2.1∧yy0.2.1<yy0.1)∧eT d j.toNat (d.basic.length - yy0.1) yy0.1 yy0.2.1 ⟨yy0.2.2.1,yy0.2.2.2⟩=gM d j.toNat) (fun yy0=>d.basic.length - yy0.1) (fun yy0=> .br (.elem _ aF d.table (fun e21=> .elem _ aA e21 (fun e24=> .br (.back [(600,600)]) (.elem _ aA d.limits (fun e32=> .elem _ aF d.table (fun e37=> .elem _ aA e37 (fun e40=>bL (vW e32 e40)<| .br (.fin []) (.call (vI (fB ((aY e32 e40).1) (⟨yy0.2.2.1,yy0.2.2.2⟩:aB))) []<| .br (.back [(600,600)]) (.lit<| .lit<| .br (.back [(600,600)]) (.lit<| .lit<| .br (.elem _ intD d.basic (fun e63=> .elem _ intD d.basic (fun e68=> .lit<| .lit<| .lit<| .lit<| .lit<| .br (.back [(600,600)]) (.back [(600,600)])))) (.back [(600,600)]))))))))))) (.fin []))) (p:=(d.basic.map intD).length≤9223372036854775807→(d.others.map intD).length≤9223372036854775807→(d.table.map aF).length≤9223372036854775807→(d.limits.map aA).length≤9223372036854775807→(d.costs.map aA).length≤9223372036854775807→Lm intD d.basic∧((∃(k:Nat) (b:Int) (ln:Int) (ld:Int),0=(k:Int)∧(-1:Int)=b∧0=ln∧0=ld∧k≤d.basic.length∧(-1≤b∧b<k)∧eT d j.toNat (d.basic.length - k) k b ⟨ln,ld⟩=gM d j.toNat)∧ ∀(k:Nat) (b:Int) (ln:Int) (ld:Int),(k≤d.basic.length∧(-1≤b∧b<k)∧eT d j.toNat (d.basic.length - k) k b ⟨ln,ld⟩=gM d j.toNat)→Br ((k:Int)<(d.basic.length:Int)) (0≤(k:Int)∧Em aF d.table k fun e21=>0≤j∧Em aA e21 ((j).toNat) fun e24=>Br (e24.num≤0) (bO ((k:Int)+1)∧ ∃(k' :Nat) (b' :Int) (ln' :Int) (ld' :Int),((k:Int)+1)=(k' :Int)∧b=b' ∧ln=ln' ∧ld=ld' ∧(k' ≤d.basic.length∧(-1≤b' ∧b' <k')∧eT d j.toNat (d.basic.length - k') k' b' ⟨ln',ld'⟩=gM d j.toNat)∧d.basic.length - k' <d.basic.length - k) (0≤(k:Int)∧Em aA d.limits k fun e32=>0≤(k:Int)∧Em aF d.table k fun e37=>0≤j∧Em aA e37 ((j).toNat) fun e40=>aBc e32 e40∧Nr ((aY e32 e40).2) ((-1:Int)=(gM d j.toNat)∧True) (aHb ((aY e32 e40).1) (⟨ln,ld⟩:aB)∧Br (b<0) (bO ((k:Int)+1)∧ ∃(k' :Nat) (b' :Int) (ln' :Int) (ld' :Int),((k:Int)+1)=(k' :Int)∧(k:Int)=b' ∧((aY e32 e40).1.num)=ln' ∧((aY e32 e40).1.den)=ld' ∧(k' ≤d.basic.length∧(-1≤b' ∧b' <k')∧eT d j.toNat (d.basic.length - k') k' b' ⟨ln',ld'⟩=gM d j.toNat)∧d.basic.length - k' <d.basic.length - k) (Br ((fB ((aY e32 e40).1) (⟨ln,ld⟩:aB))<0) (bO ((k:Int)+1)∧ ∃(k' :Nat) (b' :Int) (ln' :Int) (ld' :Int),((k:Int)+1)=(k' :Int)∧(k:Int)=b' ∧((aY e32 e40).1.num)=ln' ∧((aY e32 e40).1.den)=ld' ∧(k' ≤d.basic.length∧(-1≤b' ∧b' <k')∧eT d j.toNat (d.basic.length - k') k' b' ⟨ln',ld'⟩=gM d j.toNat)∧d.basic.length - k' <d.basic.length - k) (Br ((fB ((aY e32 e40).1) (⟨ln,ld⟩:aB))=0) (0≤(k:Int)∧Em intD d.basic k fun e63=>0≤b∧Em intD d.basic ((b).toNat) fun e68=>Br (e63<e68) (bO ((k:Int)+1)∧ ∃(k' :Nat) (b' :Int) (ln' :Int) (ld' :Int),((k:Int)+1)=(k' :Int)∧(k:Int)=b' ∧((aY e32 e40).1.num)=ln' ∧((aY e32 e40).1.den)=ld' ∧(k' ≤d.basic.length∧(-1≤b' ∧b' <k')∧eT d j.toNat (d.basic.length - k') k' b' ⟨ln',ld'⟩=gM d j.toNat)∧d.basic.length - k' <d.basic.length - k) (bO ((k:Int)+1)∧ ∃(k' :Nat) (b' :Int) (ln' :Int) (ld' :Int),((k:Int)+1)=(k' :Int)∧b=b' ∧ln=ln' ∧ld=ld' ∧(k' ≤d.basic.length∧(-1≤b' ∧b' <k')∧eT d j.toNat (d.basic.length - k') k' b' ⟨ln',ld'⟩=gM d j.toNat)∧d.basic.length - k' <d.basic.length - k)) (bO ((k:Int)+1)∧ ∃(k' :Nat) (b' :Int) (ln' :Int) (ld' :Int),((k:Int)+1)=(k' :Int)∧b=b' ∧ln=ln' ∧ld=ld' ∧(k' ≤d.basic.length∧(-1≤b' ∧b' <k')∧eT d j.toNat (d.basic.length - k') k' b' ⟨ln',ld'⟩=gM d j.toNat)∧d.basic.length - k' <d.basic.length - k)))))) (b=(gM d j.toNat)∧True))) (by kernel_rfl) ?_
 intro n0 n1 n2 n3 n4
 simp only[List.length_map] at n0 n1 n2 n3 n4
 obtain⟨b1,b2,b3,b4,b5,b6,b7,b8⟩:=iN hd
 refine⟨List.length_map _,⟨0,-1,0,0,rfl,rfl,rfl,rfl,Nat.zero_le _,by omega,rfl⟩,fun k b ln ld ⟨hk,hb,hv⟩=>?_⟩
 refine dd (fun c0=>?_) fun c0=>?_
 ·refine⟨by omega,rfl,by omega,fun e21 h21=>?_⟩
  have hrl:=(b5 _ (List.mem_of_getElem? h21)).1
  refine⟨by omega,rfl,by omega,fun e24 h24=>?_⟩
  refine dd (fun c1=>?_) fun c1=>?_
  ·refine⟨⟨by omega,by omega⟩,?_⟩
   exact⟨k+1,b,ln,ld,rfl,rfl,rfl,rfl,⟨by omega,by omega,by exact(aN9 (by omega) h21 h24 c1).symm.trans hv⟩,by omega⟩
  ·refine⟨by omega,rfl,by omega,fun e32 h32=>?_⟩
   refine⟨by omega,rfl,by omega,fun e37 h37=>?_⟩
   obtain rfl:=aZ h21 h37
   refine⟨by omega,rfl,by omega,fun e40 h40=>?_⟩
   obtain rfl:=aZ h24 h40
   refine⟨aNP e32 e40,dm (fun c2=>?_) fun c2=>?_⟩
   ·refine⟨?_,trivial⟩
    ·(rw[←hv,aQE (by omega) h21 h24 c1 h32 c2];done)
   ·refine⟨aU5 ((aY e32 e40).1) (⟨ln,ld⟩:aB),dd (fun g52=>?_) fun g52=>?_⟩
    ·refine⟨⟨by omega,by omega⟩,?_⟩
     exact⟨k+1,(k:Int),(aY e32 e40).1.num,(aY e32 e40).1.den,rfl,rfl,rfl,rfl,⟨by omega,by omega,by exact(aAe (by omega) h21 h24 c1 h32 c2 (aWs g52)).symm.trans hv⟩,by omega⟩
    ·refine dd (fun g56=>?_) fun g56=>?_
     ·refine⟨⟨by omega,by omega⟩,?_⟩
      exact⟨k+1,(k:Int),(aY e32 e40).1.num,(aY e32 e40).1.den,rfl,rfl,rfl,rfl,⟨by omega,by omega,by exact(aAe (by omega) h21 h24 c1 h32 c2 (aWt g56)).symm.trans hv⟩,by omega⟩
     ·refine dd (fun g59=>?_) fun g59=>?_
      ·refine⟨by omega,rfl,by omega,fun e63 h63=>?_⟩
       refine⟨by omega,rfl,by omega,fun e68 h68=>?_⟩
       refine dd (fun c3=>?_) fun c3=>?_
       ·refine⟨⟨by omega,by omega⟩,?_⟩
        exact⟨k+1,(k:Int),(aY e32 e40).1.num,(aY e32 e40).1.den,rfl,rfl,rfl,rfl,⟨by omega,by omega,by exact(aAe (by omega) h21 h24 c1 h32 c2 (aWu g59 h63 h68 c3)).symm.trans hv⟩,by omega⟩
       ·refine⟨⟨by omega,by omega⟩,?_⟩
        exact⟨k+1,b,ln,ld,rfl,rfl,rfl,rfl,⟨by omega,by omega,by exact(aL3 (by omega) h21 h24 c1 h32 c2 (aWw g52 g56 h63 h68 c3)).symm.trans hv⟩,by omega⟩
      ·refine⟨⟨by omega,by omega⟩,?_⟩
       exact⟨k+1,b,ln,ld,rfl,rfl,rfl,rfl,⟨by omega,by omega,by exact(aL3 (by omega) h21 h24 c1 h32 c2 (aWv g52 g56 g59)).symm.trans hv⟩,by omega⟩
 ·refine⟨?_,trivial⟩
  ·(rw[aKW (by omega) hv];done)
abbrev aHo (d:aJ)(j:Int):Prop:=cH Tryz.prog 97 [.agg [.sl 3 1 (d.basic.map intD),.sl 3 1 (d.others.map intD),.sl 61 1 (d.table.map aF),.sl 38 2 (d.limits.map aA),.sl 38 2 (d.costs.map aA),.int .i64 d.value.num,.int .i64 d.value.den],.one (.int .i64 j)] (vI (oP d j)) []
theorem aUl (d:aJ)(j:Int)(h0:d.basic.length≤1048576)(h1:d.others.length≤1048576):aHo d j:=by
 refine aW bH aO Tryz.func97 (by kernel_rfl) (.call (vB (dK d)) []<| .br (.fin []) (.len d.others.length<| .call (vB (decide (0≤j∧j≤((d.others.length:Int) - 1)))) []<| .lit<| .lit<| .br (.fin []) (.loop (Nat × Int × Int × Int) (Q4 Nat Int Int Int) ([5,7,8,9,10]++rg 24 64) [600,800] (fun yy0=>[(7,vI (yy0.1:Int)),(5,vI yy0.2.1)]) (fun yy0=>[(600,some (.box 38 [vI yy0.2.2.1,vI yy0.2.2.2]))]) (fun yy0=>yy0.1≤d.basic.length∧(-1≤yy0.2.1∧yy0.2.1<yy0.1)∧eT d j.toNat (d.basic.length - yy0.1) yy0.1 yy0.2.1 ⟨yy0.2.2.1,yy0.2.2.2⟩=gM d j.toNat) (fun yy0=>d.basic.length - yy0.1) (fun yy0=> .len d.basic.length<| .br (.elem _ aF d.table (fun e34=> .elem _ aA e34 (fun e37=> .br (.back [(600,600)]) (.elem _ aA d.limits (fun e45=> .elem _ aF d.table (fun e50=> .elem _ aA e50 (fun e53=>bL (oO e45 e53)<| .br (.fin []) (.call (vI (fB ((aY e45 e53).1) (⟨yy0.2.2.1,yy0.2.2.2⟩:aB))) []<| .br (.back [(600,600)]) (.lit<| .lit<| .br (.back [(600,600)]) (.lit<| .lit<| .br (.elem _ intD d.basic (fun e76=> .elem _ intD d.basic (fun e81=> .lit<| .lit<| .lit<| .lit<| .lit<| .br (.back [(600,600)]) (.back [(600,600)])))) (.back [(600,600)]))))))))))) (.fin []))))) (p:=(d.basic.map intD).length≤9223372036854775807→(d.others.map intD).length≤9223372036854775807→(d.table.map aF).length≤9223372036854775807→(d.limits.map aA).length≤9223372036854775807→(d.costs.map aA).length≤9223372036854775807→vZ d∧Nr (dK d) ((-1:Int)=(oP d j)∧True) (Lm intD d.others∧(bO ((d.others.length:Int) - 1)∧(fC j (0:Int) ((d.others.length:Int) - 1)∧Nb (0≤j∧j≤((d.others.length:Int) - 1)) ((-1:Int)=(oP d j)∧True) ((∃(k:Nat) (b:Int) (ln:Int) (ld:Int),0=(k:Int)∧(-1:Int)=b∧0=ln∧0=ld∧k≤d.basic.length∧(-1≤b∧b<k)∧eT d j.toNat (d.basic.length - k) k b ⟨ln,ld⟩=gM d j.toNat)∧ ∀(k:Nat) (b:Int) (ln:Int) (ld:Int),(k≤d.basic.length∧(-1≤b∧b<k)∧eT d j.toNat (d.basic.length - k) k b ⟨ln,ld⟩=gM d j.toNat)→Lm intD d.basic∧Br ((k:Int)<(d.basic.length:Int)) (0≤(k:Int)∧Em aF d.table k fun e34=>0≤j∧Em aA e34 ((j).toNat) fun e37=>Br (e37.num≤0) (bO ((k:Int)+1)∧ ∃(k' :Nat) (b' :Int) (ln' :Int) (ld' :Int),((k:Int)+1)=(k' :Int)∧b=b' ∧ln=ln' ∧ld=ld' ∧(k' ≤d.basic.length∧(-1≤b' ∧b' <k')∧eT d j.toNat (d.basic.length - k') k' b' ⟨ln',ld'⟩=gM d j.toNat)∧d.basic.length - k' <d.basic.length - k) (0≤(k:Int)∧Em aA d.limits k fun e45=>0≤(k:Int)∧Em aF d.table k fun e50=>0≤j∧Em aA e50 ((j).toNat) fun e53=>rQ e45 e53∧Nr ((aY e45 e53).2) ((-1:Int)=(oP d j)∧True) (aHc ((aY e45 e53).1) (⟨ln,ld⟩:aB)∧Br (b<0) (bO ((k:Int)+1)∧ ∃(k' :Nat) (b' :Int) (ln' :Int) (ld' :Int),((k:Int)+1)=(k' :Int)∧(k:Int)=b' ∧((aY e45 e53).1.num)=ln' ∧((aY e45 e53).1.den)=ld' ∧(k' ≤d.basic.length∧(-1≤b' ∧b' <k')∧eT d j.toNat (d.basic.length - k') k' b' ⟨ln',ld'⟩=gM d j.toNat)∧d.basic.length - k' <d.basic.length - k) (Br ((fB ((aY e45 e53).1) (⟨ln,ld⟩:aB))<0) (bO ((k:Int)+1)∧ ∃(k' :Nat) (b' :Int) (ln' :Int) (ld' :Int),((k:Int)+1)=(k' :Int)∧(k:Int)=b' ∧((aY e45 e53).1.num)=ln' ∧((aY e45 e53).1.den)=ld' ∧(k' ≤d.basic.length∧(-1≤b' ∧b' <k')∧eT d j.toNat (d.basic.length - k') k' b' ⟨ln',ld'⟩=gM d j.toNat)∧d.basic.length - k' <d.basic.length - k) (Br ((fB ((aY e45 e53).1) (⟨ln,ld⟩:aB))=0) (0≤(k:Int)∧Em intD d.basic k fun e76=>0≤b∧Em intD d.basic ((b).toNat) fun e81=>Br (e76<e81) (bO ((k:Int)+1)∧ ∃(k' :Nat) (b' :Int) (ln' :Int) (ld' :Int),((k:Int)+1)=(k' :Int)∧(k:Int)=b' ∧((aY e45 e53).1.num)=ln' ∧((aY e45 e53).1.den)=ld' ∧(k' ≤d.basic.length∧(-1≤b' ∧b' <k')∧eT d j.toNat (d.basic.length - k') k' b' ⟨ln',ld'⟩=gM d j.toNat)∧d.basic.length - k' <d.basic.length - k) (bO ((k:Int)+1)∧ ∃(k' :Nat) (b' :Int) (ln' :Int) (ld' :Int),((k:Int)+1)=(k' :Int)∧b=b' ∧ln=ln' ∧ld=ld' ∧(k' ≤d.basic.length∧(-1≤b' ∧b' <k')∧eT d j.toNat (d.basic.length - k') k' b' ⟨ln',ld'⟩=gM d j.toNat)∧d.basic.length - k' <d.basic.length - k)) (bO ((k:Int)+1)∧ ∃(k' :Nat) (b' :Int) (ln' :Int) (ld' :Int),((k:Int)+1)=(k' :Int)∧b=b' ∧ln=ln' ∧ld=ld' ∧(k' ≤d.basic.length∧(-1≤b' ∧b' <k')∧eT d j.toNat (d.basic.length - k') k' b' ⟨ln',ld'⟩=gM d j.toNat)∧d.basic.length - k' <d.basic.length - k)))))) (b=(oP d j)∧True)))))) (by kernel_rfl) ?_
 intro n0 n1 n2 n3 n4
 simp only[List.length_map] at n0 n1 n2 n3 n4
 refine⟨aHk d (by omega) (by omega),dm (fun g15=>?_) fun g15=>?_⟩
 ·refine⟨?_,trivial⟩
  ·(rw[aW6 g15];done)
 ·refine⟨List.length_map _,⟨by omega,by omega⟩,iU _ _ _,dn (fun c0=>?_) fun c0=>?_⟩
  ·refine⟨?_,trivial⟩
   ·(rw[aUj (by omega)];done)
  ·have hd:dK d=true:=g15
   have hj:0≤j∧j<d.others.length:=by omega
   obtain⟨b1,b2,b3,b4,b5,b6,b7,b8⟩:=iN hd
   refine⟨⟨0,-1,0,0,rfl,rfl,rfl,rfl,Nat.zero_le _,by omega,rfl⟩,fun k b ln ld ⟨hk,hb,hv⟩=>?_⟩
   refine⟨List.length_map _,dd (fun c1=>?_) fun c1=>?_⟩
   ·refine⟨by omega,rfl,by omega,fun e34 h34=>?_⟩
    have hrl:=(b5 _ (List.mem_of_getElem? h34)).1
    refine⟨by omega,rfl,by omega,fun e37 h37=>?_⟩
    refine dd (fun c2=>?_) fun c2=>?_
    ·refine⟨⟨by omega,by omega⟩,?_⟩
     exact⟨k+1,b,ln,ld,rfl,rfl,rfl,rfl,⟨by omega,by omega,by exact(aN9 (by omega) h34 h37 c2).symm.trans hv⟩,by omega⟩
    ·refine⟨by omega,rfl,by omega,fun e45 h45=>?_⟩
     refine⟨by omega,rfl,by omega,fun e50 h50=>?_⟩
     obtain rfl:=aZ h34 h50
     refine⟨by omega,rfl,by omega,fun e53 h53=>?_⟩
     obtain rfl:=aZ h37 h53
     refine⟨aCv e45 e53,dm (fun c3=>?_) fun c3=>?_⟩
     ·refine⟨?_,trivial⟩
      ·(rw[aHm hd hj,←hv,aQE (by omega) h34 h37 c2 h45 c3];done)
     ·refine⟨aU6 ((aY e45 e53).1) (⟨ln,ld⟩:aB),dd (fun g65=>?_) fun g65=>?_⟩
      ·refine⟨⟨by omega,by omega⟩,?_⟩
       exact⟨k+1,(k:Int),(aY e45 e53).1.num,(aY e45 e53).1.den,rfl,rfl,rfl,rfl,⟨by omega,by omega,by exact(aAe (by omega) h34 h37 c2 h45 c3 (aWs g65)).symm.trans hv⟩,by omega⟩
      ·refine dd (fun g69=>?_) fun g69=>?_
       ·refine⟨⟨by omega,by omega⟩,?_⟩
        exact⟨k+1,(k:Int),(aY e45 e53).1.num,(aY e45 e53).1.den,rfl,rfl,rfl,rfl,⟨by omega,by omega,by exact(aAe (by omega) h34 h37 c2 h45 c3 (aWt g69)).symm.trans hv⟩,by omega⟩
       ·refine dd (fun g72=>?_) fun g72=>?_
        ·refine⟨by omega,rfl,by omega,fun e76 h76=>?_⟩
         refine⟨by omega,rfl,by omega,fun e81 h81=>?_⟩
         refine dd (fun c4=>?_) fun c4=>?_
         ·refine⟨⟨by omega,by omega⟩,?_⟩
          exact⟨k+1,(k:Int),(aY e45 e53).1.num,(aY e45 e53).1.den,rfl,rfl,rfl,rfl,⟨by omega,by omega,by exact(aAe (by omega) h34 h37 c2 h45 c3 (aWu g72 h76 h81 c4)).symm.trans hv⟩,by omega⟩
         ·refine⟨⟨by omega,by omega⟩,?_⟩
          exact⟨k+1,b,ln,ld,rfl,rfl,rfl,rfl,⟨by omega,by omega,by exact(aL3 (by omega) h34 h37 c2 h45 c3 (aWw g65 g69 h76 h81 c4)).symm.trans hv⟩,by omega⟩
        ·refine⟨⟨by omega,by omega⟩,?_⟩
         exact⟨k+1,b,ln,ld,rfl,rfl,rfl,rfl,⟨by omega,by omega,by exact(aL3 (by omega) h34 h37 c2 h45 c3 (aWv g65 g69 g72)).symm.trans hv⟩,by omega⟩
   ·refine⟨?_,trivial⟩
    ·(rw[aHm hd hj,aKW (by omega) hv];done)
theorem mY (d:aJ)(i j k:Nat):fG d i j (k+1)=fG d i j k++[(aIk d i j k).1]:=by simp[fG,List.range_succ]
theorem mZ (d:aJ)(i j k:Nat):eH d i j (k+1)=(eH d i j k&&(aIk d i j k).2):=by simp[eH,List.range_succ]
theorem aDj {d:aJ}{i j k:Nat}{x a:aB}(ha:iL d i j=a)(hx:iL d i k=x)(h: ¬k=j):aIk d i j k=aY x a:=by rw[aIk,if_neg h,ha,hx]
theorem aDk {d:aJ}{i j k:Nat}{a:aB}(ha:iL d i j=a)(h:k=j):aIk d i j k=aY (aN 1) a:=by rw[aIk,if_pos h,ha];rfl
theorem fW (l p:List aB)(j k:Nat):eM l p j (k+1)=eM l p j k++[(chX l (l.getD j zR) p j k).1]:=by simp[eM,List.range_succ]
theorem hX (l p:List aB)(j k:Nat):fL l p j (k+1)=(fL l p j k&&(chX l (l.getD j zR) p j k).2):=by simp[fL,List.range_succ]
theorem wL {l p:List aB}{j k:Nat}{x c y:aB}(h: ¬k=j)(hx:l[k]? =some x)(hc:l[j]? =some c)(hy:p[k]? =some y):chX l (l.getD j zR) p j k=bG x c y:=by rw[chX,if_neg h,bF hx,bF hc,bF hy]
theorem wM {l p:List aB}{j k:Nat}{c y:aB}(h:k=j)(hc:l[j]? =some c)(hy:p[k]? =some y):chX l (l.getD j zR) p j k=bG (aN 0) c y:=by rw[chX,if_pos h,bF hc,bF hy];rfl
theorem kG (d:aJ)(i j k:Nat):gV d i j (k+1)=gV d i j k++[aCw d i j k]:=by simp[gV,List.range_succ]
theorem kH (d:aJ)(i j k:Nat):iD d i j (k+1)=iD d i j k++[aEk d i j k]:=by simp[iD,List.range_succ]
theorem kI (d:aJ)(i j k:Nat):gN d i j (k+1)=(gN d i j k&&aL1 d i j k):=by simp[gN,List.range_succ]
theorem aAf {F R C L f g:Bool}(h1:f=(F&&R))(h2:g=(f&&C)):(g&&L)=(F&&(R&&(C&&L))):=by subst h1;subst h2;cases F<;>cases R<;>cases C<;>rfl
theorem aKX {d:aJ}{i j r:Nat}(h:r=i):aCw d i j r=fG d i j d.others.length∧aEk d i j r=(eD d i j).1∧aL1 d i j r=true:=by rw[aCw,aEk,aL1,if_pos h,if_pos h,if_pos h];exact⟨rfl,rfl,rfl⟩
theorem aUm {d:aJ}{i j r:Nat}{p:List aB}{x c l:aB}{row:List aB}(h: ¬r=i)(hp:p=fG d i j d.others.length)(hr:d.table[r]? =some row)(hc:row[j]? =some c)(hx:d.limits[r]? =some x)(hl:(eD d i j).1=l):aCw d i j r=eM row p j d.others.length∧aEk d i j r=(bG x c l).1∧aL1 d i j r=(fL row p j d.others.length&&(bG x c l).2):=by
 rw[aCw,aEk,aL1,if_neg h,if_neg h,if_neg h,aUf,hJ hr hc,bF hx,bF hr,hl,←hp]
 exact⟨rfl,rfl,rfl⟩
theorem aCx {d:aJ}{i j:Int}(h: ¬((0≤i∧i<d.basic.length)∧0≤j∧j<d.others.length)):bP d i j=(zU,false):=by rw[bP,if_neg (fun q=>h q.2)]
theorem aW7 {d:aJ}{i j:Int}(h:dK d=false):bP d i j=(zU,false):=by rw[bP,if_neg (by rw[h];simp)]
theorem kA {d:aJ}{i j:Int}(h: ¬((iL d i.toNat j.toNat).num≠0∧lZ d i.toNat j.toNat=true∧(zT d i.toNat j.toNat).2=true)):bP d i j=(zU,false):=by
 rw[bP]
 split
 ·rw[fN,if_neg h]
 ·rfl
theorem aNa {d:aJ}{i j:Int}(h:dK d=true)(hi:0≤i∧i<d.basic.length)(hj:0≤j∧j<d.others.length)(h1:(iL d i.toNat j.toNat).num≠0)(h2:lZ d i.toNat j.toNat=true)(h3:(zT d i.toNat j.toNat).2=true):bP d i j=(rS d i.toNat j.toNat,true):=by rw[bP,if_pos ⟨h,hi,hj⟩,fN,if_pos ⟨h1,h2,h3⟩]
theorem aHp {d:aJ}{i j:Nat}(h:dK d=true)(hj:j<d.others.length)(hl:(eD d i j).2=true):zT d i j=((fU d.value (dS (d.costs.getD j zR) (eD d i j).1).1).1,(dS (d.costs.getD j zR) (eD d i j).1).2&&(fU d.value (dS (d.costs.getD j zR) (eD d i j).1).1).2):=by
 obtain⟨_,_,_,_,_,_,b7,b8⟩:=iN h
 exact aPC b8 (aBk b7 hj) (aAd hl)
theorem aRr {α:Type}{l:List α}{i:Nat}{x:α}(h:l[i]? =some x):l.set i x=l:=by
 obtain⟨hi,rfl⟩:=List.getElem?_eq_some_iff.1 h
 simp
theorem aHq {p:Nat→Bool}{k n:Nat}(hk:k≤n)(h:(List.range k).all p=false):(List.range n).all p=false:=by
 cases e:(List.range n).all p with
 | false=>rfl
 | true=>
   rw[List.all_eq_true] at e
   have:(List.range k).all p=true:=List.all_eq_true.2 fun x hx=>e x (List.mem_range.2 (by have:=List.mem_range.1 hx;omega))
   rw[this] at h;cases h
theorem aNb {d:aJ}{i j r k:Nat}{p:List aB}{f g:Bool}(hf:f=((eH d i j d.others.length&&(eD d i j).2)&&gN d i j r))(hr:r≤d.basic.length)(hp:p=fG d i j d.others.length)(hg:g=(f&&fL d.costs p j k))(hk:k≤d.others.length)(h:g=false):lZ d i j=false:=by
 rw[lZ,aQA,←hp]
 subst hf
 rw[hg] at h
 simp only[Bool.and_eq_false_iff] at h ⊢
 rcases h with (h | h) | h
 ·exact .inl (.inl h)
 ·exact .inl (.inr (aHq hr h))
 ·exact .inr (aHq hk h)
theorem aRs {d:aJ}{i j r k:Nat}{p:List aB}{f g:Bool}(hf:f=((eH d i j d.others.length&&(eD d i j).2)&&gN d i j r))(hr:r=d.basic.length)(hp:p=fG d i j d.others.length)(hg:g=(f&&fL d.costs p j k))(hk:k=d.others.length)(h:g=true):lZ d i j=true:=by
 rw[lZ,aQA,←hp,←hr,←hf,←hk,←hg,h]
theorem aF2 {d:aJ}{i j r:Nat}{f:Bool}(hf:f=((eH d i j d.others.length&&(eD d i j).2)&&gN d i j r))(hr:r≤d.basic.length)(h:f=false):lZ d i j=false:=by
 subst hf
 rw[lZ]
 simp only[Bool.and_eq_false_iff] at h ⊢
 rcases h with h | h
 ·exact .inl (.inl h)
 ·exact .inl (.inr (aHq hr h))
theorem aF3 {d:aJ}{i j:Nat}(h:eH d i j d.others.length=false):lZ d i j=false:=by
 rw[lZ,h];rfl
theorem aKY {d:aJ}{i j:Nat}(h:lZ d i j=true):(eD d i j).2=true:=by
 simp only[lZ,Bool.and_eq_true] at h
 exact h.1.1.2
theorem aBm {d:aJ}{i j:Nat}(hi:i<d.basic.length):(gV d i j d.basic.length).set i (fG d i j d.others.length)=gV d i j d.basic.length:=aRr (by simp[gV,hi,aCw])
abbrev iM (a:aB)(b:aB)(c:aB):AV × List (Nat × Rs):=(.tup [.agg [vI ((bG a b c).1.num),vI ((bG a b c).1.den)],vB ((bG a b c).2)],[])
abbrev jI (a:aB)(b:aB)(c:aB):Prop:=cH Tryz.prog 151 [.agg [.int .i64 a.num,.int .i64 a.den],.agg [.int .i64 b.num,.int .i64 b.den],.agg [.int .i64 c.num,.int .i64 c.den]] (iM a b c).1 (iM a b c).2
theorem nA (a b c:aB):jI a b c:=by
 refine aW bH aO Tryz.func151 (by kernel_rfl) (.br (.fin []) (.lit<| .lit<| .lit<| .br (.fin []) (bL (rP b c)<| bL (aBe a ((dS b c).1))<| .br (.fin []) (.fin [])))) (p:=Br (b.num=0) (a.num=((bG a b c).1.num)∧a.den=((bG a b c).1.den)∧(true)=((bG a b c).2)∧True) (Br (c.num=0) (a.num=((bG a b c).1.num)∧a.den=((bG a b c).1.den)∧(true)=((bG a b c).2)∧True) (vY b c∧aHa a ((dS b c).1)∧Bb ((dS b c).2) ((((nS a ((dS b c).1)).1).num)=((bG a b c).1.num)∧(((nS a ((dS b c).1)).1).den)=((bG a b c).1.den)∧((nS a ((dS b c).1)).2)=((bG a b c).2)∧True) ((((nS a ((dS b c).1)).1).num)=((bG a b c).1.num)∧(((nS a ((dS b c).1)).1).den)=((bG a b c).1.den)∧(false)=((bG a b c).2)∧True)))) (by kernel_rfl) ?_
 refine dd (fun g15=>?_) fun g15=>?_
 ·refine⟨?_,?_,?_,trivial⟩<;>((rw[bG,if_pos (.inl (by exact g15))]<;>rfl))
 ·refine dd (fun c0=>?_) fun c0=>?_
  ·refine⟨?_,?_,?_,trivial⟩<;>((rw[bG,if_pos (.inr c0)]<;>rfl))
  ·refine⟨aH9 b c,aU4 a ((dS b c).1),db (fun g35=>?_) fun g35=>?_⟩
   ·refine⟨?_,?_,?_,trivial⟩<;>(first|(rw[bG,if_neg (by rintro(q|q);exact g15 q;exact c0 q)];simp[*];done)|(rw[bG,if_neg (by rintro(q|q);exact g15 q;exact c0 q)]<;>rfl))
   ·refine⟨?_,?_,?_,trivial⟩<;>(first|(rw[bG,if_neg (by rintro(q|q);exact g15 q;exact c0 q)];simp[*];done)|(rw[bG,if_neg (by rintro(q|q);exact g15 q;exact c0 q)]<;>rfl))
end Go.Proofs.YtlidmoeecphbmaaGreat
namespace Go.Proofs
open Go.Shelf
namespace YtlidmoeecphbmaaGreat
shelf_lay_g SlLaysE0.n41 Slgn 41 at Tryz 165 as Tryz.cloneRats
end YtlidmoeecphbmaaGreat
end Go.Proofs
namespace Go.Proofs.YtlidmoeecphbmaaGreat
open Go.ChangeShapes Go.WideShapes Go.ChangeAt Go.RowKit
set_option linter.unusedVariables false
section
variable {P:Program}
theorem aRt {f:FuncId}{args:List Ar}{e k:Nat}{xs:List (List bT)}(hc:jE P f=true)(h: ∀A w (vs:Array Value),(∀b,A b→b<w.heap.size)→nV A w args vs.toList→Calls P f vs w (fun en w' => ∃(v:Value) (F:List Nat),en= .returned v∧oX w' (.sl e k xs) v F∧F.Nodup∧(∀g∈F,w.heap.size≤g)∧Below w.heap.size w w' ∧ ∀g∈F,g<w'.heap.size)):
 cH P f args (.own 0) [(0,.arr e k true xs)]:=by
 refine⟨hc,fun A w vs hA ha=>(h A w vs hA ha).mono fun en w' ⟨v,F,he,ho,hn,hg,hb,hlt⟩=>?_⟩
 unfold oX at ho
 obtain⟨css,Fs,r1,r2,r3⟩:=ho
 have hpl:(⟨v,v.ownBlock.toList,Fs.flatten⟩:Pl).F=F:=by unfold Pl.F;exact r2.symm
 refine⟨v,fun _=>False,fun x=>if x=0 then some ⟨v,v.ownBlock.toList,Fs.flatten⟩ else none,he,hb,by simp,by simp,fun x r hx=>?_,fun x hx=>?_,fun x x' pl pl' hne hx hx' g hg hg' =>?_,fun x pl hx=>?_,fun x pl hx g hg' =>?_,?_⟩
 ·simp only[bE] at hx
  split at hx
  ·rename_i e1
   injection hx with hx
   subst hx
   exact⟨_,if_pos e1,⟨css,Fs,r1,rfl,rfl,r3⟩⟩
  ·cases hx
 ·simp only[bE] at hx
  split at hx
  ·cases hx
  ·rename_i e1;exact if_neg e1
 ·simp only at hx hx'
  split at hx
  ·split at hx'
   ·subst_vars;exact hne rfl
   ·cases hx'
  ·cases hx
 ·simp only at hx
  split at hx
  ·injection hx with hx
   subst hx
   rw[hpl];exact hn
  ·cases hx
 ·simp only at hx
  split at hx
  ·injection hx with hx
   subst hx
   rw[hpl] at hg'
   exact⟨hg g hg',hlt g hg'⟩
  ·cases hx
 ·unfold aI
  intro pl hp
  simp only[if_true,Option.some.injEq] at hp
  subst hp;rfl
end
def aW8 (x:aB):List Value:=[.int .i64 x.num,.int .i64 x.den]
theorem aEm {K:Nat→Prop}{w:World}: ∀{l:List aB} {css:List (List Value)},eP K w 2 (l.map aA) css→css=l.map aW8
 | [],css,h=>h
 | x::l,css,⟨c,css',e,h1,h2,h3⟩=>by
   subst e
   obtain⟨v,vs,e1,m1,v2,vs2,e2,m2,m3⟩:=h2
   unfold iE at m1 m2
   rw[aEm h3,e1,e2,m1,m2,show vs2= [] from m3];rfl
theorem aKZ {w:World}: ∀(l:List aB),cR w 2 (l.map aA) (l.map aW8) (l.map fun _=>[])
 | []=>by unfold cR;exact⟨rfl,rfl⟩
 | x::l=>by
   rw[List.map_cons,List.map_cons,List.map_cons]
   unfold cR
   refine⟨_,_,_,_,rfl,rfl,rfl,?_,aKZ l⟩
   have h1:oX w (.int .i64 x.num) (.int .i64 x.num) []:=by unfold oX;exact⟨rfl,rfl⟩
   have h2:oX w (.int .i64 x.den) (.int .i64 x.den) []:=by unfold oX;exact⟨rfl,rfl⟩
   exact mP (F1:=[]) (F2:=[]) h1 (mP (F1:=[]) (F2:=[]) h2 aLz)
theorem aNc: ∀l:List aB,(l.map aW8).flatten.length=l.length*2
 | []=>rfl
 | x::l=>by simp only[List.map_cons,List.flatten_cons,List.length_append,List.length_cons,aNc l,aW8,List.length_nil];omega
theorem aBn (l:List aB)(h0:0<l.length)(hl:l.length≤1048576):cH Tryz.prog 165 [.one (.sl 38 2 (l.map aA))] (.own 0) [(0,.arr 38 2 true (l.map aA))]:=
 aRt (by kernel_rfl) fun A w vs hA ha=>by
  obtain⟨v,vs',e,hv,hv2⟩:=ha
  simp only[aLo] at hv
  unfold iE at hv
  obtain⟨a,c,rfl,h1,h2,h3⟩:=hv
  obtain⟨css,hr,hne⟩:=gD.vals h3
  obtain⟨b,off,rfl,hcell⟩:=hne (by intro q;rw[List.map_eq_nil_iff] at q;rw[q] at h0;exact absurd h0 (Nat.lt_irrefl 0))
  have ev:vs= #[.slice (some ⟨b,off,none⟩) (l.map aA).length c]:=by apply Array.ext';rw[e,show vs' = [] from hv2]
  have hcs:=aEm hr
  have hone:=aAx hr
  have hlen:css.flatten.length=(l.map aA).length*2:=by
   rw[hcs,aNc,List.length_map]
  rw[ev]
  have hT:gE Tryz.prog 38=some (true,2,16,.agg #[.int .i64 0,.int .i64 0]):=by kernel_rfl
  have hI:=fX hT w
  refine(AnyE.slices_Clone Tryz.cloneRats _ _ 2 16 hI.2.2.2.2.2.1 hI.2.2.2.2.2.2.2 hI.2.2.2.2.2.2.1 hI.2.2.2.2.1 rfl (by omega) (fun w=>(fX hT w).2.1) b off _ c css.flatten w hlen (by simp[maxLen];omega) (by simp;omega) (fun j u hj=>by have:=hcell j u hj;rwa [Nat.add_zero] at this) hone).mono fun e w' ⟨v',he,ho,_,hb⟩=>?_
  refine⟨v',v'.ownBlock.toList,he,?_,?_,fun g hg=>(uN ho g hg).1,hb,fun g hg=>(uN ho g hg).2⟩
  ·unfold oX
   refine⟨css,l.map fun _=>[],aDD ho (fun g hg=>Nat.zero_le g),?_,?_⟩
   ·simp
   ·rw[hcs];exact aKZ l
  ·cases v'.ownBlock<;>simp
end Go.Proofs.YtlidmoeecphbmaaGreat
namespace Go.Proofs.YtlidmoeecphbmaaGreat
open Go.ChangeShapes Go.WideShapes Go.ChangeAt Go.RowKit
set_option linter.unusedVariables false
set_option linter.unusedSimpArgs false
set_option maxRecDepth 100000
set_option maxHeartbeats 4000000
abbrev zW (f:Bool)(a:aB)(b:aB):List AV × List (Nat × Rs) × AV × List (Nat × Rs):=([.ptr 0 0,.agg [vI a.num,vI a.den],.agg [vI b.num,vI b.den]],[(0,.box 201 [vB f])],.agg [vI ((aY a b).1.num),vI ((aY a b).1.den)],[(0,.box 201 [vB (f || !(aY a b).2)])])
abbrev aHr (f:Bool)(a:aB)(b:aB):Prop:=rB Tryz.prog 166 (zW f a b).1 (zW f a b).2.1 (zW f a b).2.2.1 (zW f a b).2.2.2
theorem aW9 (f:Bool)(a b:aB):aHr f a b:=by
 refine aKu bH aO Tryz.func166 (by kernel_rfl) (by kernel_rfl) (bL (vW a b)<| .br (.fin [(0,0)]) (.fin [(0,0)])) (p:=aBc a b∧Bb (f) (((aY a b).1.num)=((aY a b).1.num)∧((aY a b).1.den)=((aY a b).1.den)∧(true)=(f || !(aY a b).2)∧True) (((aY a b).1.num)=((aY a b).1.num)∧((aY a b).1.den)=((aY a b).1.den)∧(!((aY a b).2))=(f || !(aY a b).2)∧True)) (by kernel_rfl) ?_
 refine⟨aNP a b,db (fun g20=>?_) fun g20=>?_⟩
 ·refine⟨rfl,rfl,?_,trivial⟩
  ·(rw[g20]<;>rfl)
 ·refine⟨rfl,rfl,?_,trivial⟩
  ·(rw[g20]<;>rfl)
abbrev sS (f:Bool)(a:aB)(b:aB)(c:aB):List AV × List (Nat × Rs) × AV × List (Nat × Rs):=([.ptr 0 0,.agg [vI a.num,vI a.den],.agg [vI b.num,vI b.den],.agg [vI c.num,vI c.den]],[(0,.box 201 [vB f])],.agg [vI ((dV a b c).1.num),vI ((dV a b c).1.den)],[(0,.box 201 [vB (f || !(dV a b c).2)])])
abbrev aCy (f:Bool)(a:aB)(b:aB)(c:aB):Prop:=rB Tryz.prog 168 (sS f a b c).1 (sS f a b c).2.1 (sS f a b c).2.2.1 (sS f a b c).2.2.2
theorem aQF (f:Bool)(a b c:aB):aCy f a b c:=by
 refine aKu bH aO Tryz.func168 (by kernel_rfl) (by kernel_rfl) (.br (.fin [(0,0)]) (.lit<| .lit<| .lit<| .br (.fin [(0,0)]) (bL (aBb b c)<| bL (aBa a ((dS b c).1))<| .br (.fin [(0,0)]) (.lit<| .lit<| .br (.fin [(0,0)]) (.fin [(0,0)]))))) (p:=Br (b.num=0) (a.num=((dV a b c).1.num)∧a.den=((dV a b c).1.den)∧(f)=(f || !(dV a b c).2)∧True) (Br (c.num=0) (a.num=((dV a b c).1.num)∧a.den=((dV a b c).1.den)∧(f)=(f || !(dV a b c).2)∧True) (aH8 b c∧aH7 a ((dS b c).1)∧Bb (f) ((((fU a ((dS b c).1)).1).num)=((dV a b c).1.num)∧(((fU a ((dS b c).1)).1).den)=((dV a b c).1.den)∧(true)=(f || !(dV a b c).2)∧True) (Nr ((dS b c).2) ((((fU a ((dS b c).1)).1).num)=((dV a b c).1.num)∧(((fU a ((dS b c).1)).1).den)=((dV a b c).1.den)∧(true)=(f || !(dV a b c).2)∧True) ((((fU a ((dS b c).1)).1).num)=((dV a b c).1.num)∧(((fU a ((dS b c).1)).1).den)=((dV a b c).1.den)∧(!((fU a ((dS b c).1)).2))=(f || !(dV a b c).2)∧True))))) (by kernel_rfl) ?_
 refine dd (fun g16=>?_) fun g16=>?_
 ·refine⟨?_,?_,?_,trivial⟩<;>((rw[dV,if_pos (.inl g16)]<;>(simp;done)))
 ·refine dd (fun c0=>?_) fun c0=>?_
  ·refine⟨?_,?_,?_,trivial⟩<;>((rw[dV,if_pos (.inr c0)]<;>(simp;done)))
  ·have hP:dV a b c=((fU a (dS b c).1).1,(dS b c).2&&(fU a (dS b c).1).2):=by rw[dV,if_neg (by rintro(q | q);exact g16 q;exact c0 q)]
   refine⟨aU2 b c,aU1 a ((dS b c).1),db (fun g39=>?_) fun g39=>?_⟩
   ·refine⟨?_,?_,?_,trivial⟩<;>((rw[hP]<;>(simp[*];done)))
   ·refine dm (fun g43=>?_) fun g43=>?_
    ·refine⟨?_,?_,?_,trivial⟩<;>((rw[hP]<;>(simp[*];done)))
    ·refine⟨?_,?_,?_,trivial⟩<;>((rw[hP]<;>(simp[*];done)))
abbrev oQ (a:aB):Prop:=cH Tryz.prog 108 [.agg [.int .i64 a.num,.int .i64 a.den]] (.agg [vI ((dY a).num),vI ((dY a).den)]) []
theorem zX (a:aB)(ha: -9223372036854775807≤a.num∧a.num≤9223372036854775807):oQ a:=by
 refine aW bH aO Tryz.func108 (by kernel_rfl) (.fin []) (p:=bO (-a.num)∧(-a.num)=((dY a).num)∧a.den=((dY a).den)∧True) (by kernel_rfl) ?_
 refine⟨by exact⟨by omega,by omega⟩,?_,?_,trivial⟩<;>(rfl)
theorem aYD (a c:aB): -9223372036854775807≤(aY a c).1.num∧(aY a c).1.num≤9223372036854775807:=by
 cases e:(aY a c).2 with
 | true=>have:=cS (aAd e);omega
 | false=>rw[aNU e];exact⟨by decide,by decide⟩
theorem aYE {α:Type}{A l:List α}{k:Nat}(h:A.length=k):(A++l.drop k)[k]? =l[k]? :=by
 subst h
 rw[List.getElem?_append_right (Nat.le_refl _)]
 simp[List.getElem?_drop]
theorem aCz {α:Type}{A l:List α}{k:Nat}{y:α}(h:A.length=k)(hk:k<l.length):(A++l.drop k).set k y=(A++[y])++l.drop (k+1):=by
 subst h
 rw[List.drop_eq_getElem_cons hk,List.set_append_right _ _ (Nat.le_refl _),Nat.sub_self,List.set_cons_zero,List.append_assoc];rfl
theorem aQG {α:Type}{A l:List α}{k:Nat}(h:l.length≤k):A++l.drop k=A:=by rw[List.drop_eq_nil_of_le h,List.append_nil]
theorem nt2 (A B:Bool):(!A || !B)= !(A&&B):=by cases A<;>cases B<;>rfl
theorem nt3 (f A B:Bool):((f || !A) || !B)=(f || !(A&&B)):=by cases f<;>cases A<;>cases B<;>rfl
theorem aDl (l p:List aB)(j n:Nat):(eM l p j n).length=n:=by simp[eM]
theorem aUn {l p:List aB}{j k:Nat}{x c y:aB}(h: ¬k=j)(hx:l[k]? =some x)(hc:l.getD j zR=c)(hy:p[k]? =some y):chX l (l.getD j zR) p j k=dV x (dY c) y:=by rw[chX,if_neg h,bF hx,hc,bF hy,aKR]
theorem aUo {l p:List aB}{j k:Nat}{c a:aB}(h:k=j)(hc:l.getD j zR=c)(hy:p.getD j zR=(aY aFE a).1)(vc:bC c=true)(va:bC a=true)(h0: ¬a.num=0):chX l (l.getD j zR) p j k=(dY (aY c a).1,(aY c a).2):=by
 rw[chX,if_pos h,hc,h,hy];exact aUd vc va h0
theorem aUp {d:aJ}{i j n:Nat}{a:aB}(hj:j<n)(ha:iL d i j=a):(fG d i j n).getD j zR=(aY aFE a).1:=by
 have e:(fG d i j n)[j]? =some (aIk d i j j).1:=by rw[fG,List.getElem?_map,List.getElem?_range hj];rfl
 rw[bF e,aIk,if_pos rfl,ha]
abbrev mK (l:List aB)(p:List aB)(a:aB)(j:Int)(f:Bool):List AV × List (Nat × Rs) × AV × List (Nat × Rs):=([.p none (.sl 38 2 (l.map aA)),.rp none [.int .i64 j],.ptr 0 0,.rp none [.int .i64 a.num,.int .i64 a.den],.rp none [.sl 38 2 (p.map aA)]],[(0,.box 199 [.ptr 1 0]),(1,.box 201 [vB f])],.own 2,[(0,.box 199 [.ptr 1 0]),(1,.box 201 [vB (f || !fL l p j.toNat l.length)]),(2,.arr 38 2 true ((eM l p j.toNat l.length).map aA))])
abbrev wA (l:List aB)(p:List aB)(a:aB)(j:Int)(f:Bool):Prop:=rB Tryz.prog 167 (mK l p a j f).1 (mK l p a j f).2.1 (mK l p a j f).2.2.1 (mK l p a j f).2.2.2
theorem aHs (l p:List aB)(a:aB)(j:Int)(f:Bool)(hj:0≤j∧j<l.length)(hl:l.length≤15)(hp:p.length=l.length)(hv: ∀x∈l,bC x=true)(hva:bC a=true)(hnz: ¬a.num=0)(hpj:p.getD j.toNat zR=(aY aFE a).1):wA l p a j f:=by
 refine aKu bH aO Tryz.func167 (by kernel_rfl) (by kernel_rfl) (.elem _ aA l (fun e11=> .call (.own 0) [(0,.arr 38 2 true (l.map aA))]<| .len l.length<| .loop (Nat × (List aB) × Bool) (Q3 Nat (List aB) Bool) ([0,8]++rg 17 30) [1,1400] (fun yy0=>[(17,vI (yy0.1:Int)),(0,.own 1400)]) (fun yy0=>[(1400,some (.arr 38 2 true (yy0.2.1.map aA))),(1,some (.box 201 [vB yy0.2.2]))]) (fun yy0=>yy0.1≤l.length∧yy0.2.1=eM l p j.toNat yy0.1++l.drop yy0.1∧yy0.2.2=(f || !fL l p j.toNat yy0.1)∧yy0.2.1.length=l.length) (fun yy0=>l.length - yy0.1) (fun yy0=> .br (.br (oF (zW yy0.2.2 e11 a) [(0,1)]<| .call (.agg [vI ((dY ((aY e11 a).1)).num),vI ((dY ((aY e11 a).1)).den)]) []<| .len yy0.2.1.length<| .set aB aA yy0.2.1 (fun s7_8=>(dY ((aY e11 a).1))) (fun s7_8=> .back [(1,1),(1400,1400)])) (.len yy0.2.1.length<| .elem _ aA yy0.2.1 (fun e37=> .call (.agg [vI ((dY e11).num),vI ((dY e11).den)]) []<| .elem _ aA p (fun e42=>oF (sS yy0.2.2 e37 (dY e11) e42) [(0,1)]<| .len yy0.2.1.length<| .set aB aA yy0.2.1 (fun s8_15=>((dV e37 (dY e11) e42).1)) (fun s8_15=> .back [(1,1),(1400,1400)]))))) (.fin [(0,0),(1,1),(2,1400)])))) (p:=0≤j∧Em aA l ((j).toNat) fun e11=>cH Tryz.prog 165 [.one (.sl 38 2 (l.map aA))] (.own 0) [(0,.arr 38 2 true (l.map aA))]∧(Lm aA l∧((∃(k:Nat) (o:List aB) (g:Bool),0=(k:Int)∧l.map aA=o.map aA∧(f)=g∧k≤l.length∧o=eM l p j.toNat k++l.drop k∧g=(f || !fL l p j.toNat k)∧o.length=l.length)∧ ∀(k:Nat) (o:List aB) (g:Bool),(k≤l.length∧o=eM l p j.toNat k++l.drop k∧g=(f || !fL l p j.toNat k)∧o.length=l.length)→Br ((k:Int)<(l.length:Int)) (Br ((k:Int)=j) (aHr g e11 a∧e11.num=e11.num∧e11.den=e11.den∧a.num=a.num∧a.den=a.den∧(g)=g∧(oQ ((aY e11 a).1)∧(0≤(k:Int)∧Lm aA o∧(k:Int)<(o.length:Int)∧(o.map aA=o.map aA∧k<o.length∧ ∀s7_8,o[k]? =some s7_8→bW (aA s7_8)=true∧0+2≤(aA s7_8).length∧(aA s7_8).take 0++[.int .i64 ((dY ((aY e11 a).1)).num),.int .i64 ((dY ((aY e11 a).1)).den)]++(aA s7_8).drop (0+2)=aA (dY ((aY e11 a).1))∧bO ((k:Int)+1)∧ ∃(k' :Nat) (o' :List aB) (g' :Bool),((k:Int)+1)=(k' :Int)∧(o.set k (dY ((aY e11 a).1))).map aA=o'.map aA∧(g || !(aY e11 a).2)=g' ∧(k' ≤l.length∧o' =eM l p j.toNat k' ++l.drop k' ∧g' =(f || !fL l p j.toNat k')∧o'.length=l.length)∧l.length - k' <l.length - k)))) (0≤(k:Int)∧Lm aA o∧(k:Int)<(o.length:Int)∧Em aA o k fun e37=>oQ e11∧(0≤(k:Int)∧Em aA p k fun e42=>aCy g e37 (dY e11) e42∧e37.num=e37.num∧e37.den=e37.den∧((dY e11).num)=((dY e11).num)∧((dY e11).den)=((dY e11).den)∧e42.num=e42.num∧e42.den=e42.den∧(g)=g∧(0≤(k:Int)∧Lm aA o∧(k:Int)<(o.length:Int)∧(o.map aA=o.map aA∧k<o.length∧ ∀s8_15,o[k]? =some s8_15→bW (aA s8_15)=true∧0+2≤(aA s8_15).length∧(aA s8_15).take 0++[.int .i64 ((dV e37 (dY e11) e42).1.num),.int .i64 ((dV e37 (dY e11) e42).1.den)]++(aA s8_15).drop (0+2)=aA ((dV e37 (dY e11) e42).1)∧bO ((k:Int)+1)∧ ∃(k' :Nat) (o' :List aB) (g' :Bool),((k:Int)+1)=(k' :Int)∧(o.set k ((dV e37 (dY e11) e42).1)).map aA=o'.map aA∧(g || !(dV e37 (dY e11) e42).2)=g' ∧(k' ≤l.length∧o' =eM l p j.toNat k' ++l.drop k' ∧g' =(f || !fL l p j.toNat k')∧o'.length=l.length)∧l.length - k' <l.length - k))))) ((g)=(f || !fL l p j.toNat l.length)∧o.map aA=(eM l p j.toNat l.length).map aA∧True)))) (by kernel_rfl) ?_
 refine⟨by omega,rfl,by omega,fun e11 h11=>?_⟩
 have hc:l.getD j.toNat zR=e11:=bF h11
 have hcv:=hv _ (List.mem_of_getElem? h11)
 have hcb:=cS hcv
 refine⟨aBn l (by omega) (by omega),List.length_map _,⟨0,l,f,rfl,rfl,rfl,Nat.zero_le _,rfl,by simp[fL],rfl⟩,fun k o g ⟨hk,ho,hg,hL⟩=>?_⟩
 refine dd (fun c0=>?_) fun c0=>?_
 ·refine dd (fun c1=>?_) fun c1=>?_
  ·refine⟨aW9 g e11 a,rfl,rfl,rfl,rfl,rfl,zX ((aY e11 a).1) (by exact aYD _ _),by omega,List.length_map _,by omega,rfl,by omega,fun s7_8 hs7_8=>⟨rfl,Nat.le_of_ble_eq_true rfl,rfl,?_⟩⟩
   refine⟨⟨by omega,by omega⟩,?_⟩
   exact⟨k+1,_,g || !(aY e11 a).2,rfl,rfl,rfl,⟨by omega,by (rw[ho,aCz (aDl _ _ _ _) (by omega),fW,aUo (by omega) hc hpj hcv hva hnz]<;>rfl),by (rw[hg,nt3,hX,aUo (by omega) hc hpj hcv hva hnz]<;>rfl),by rw[List.length_set];exact hL⟩,by omega⟩
  ·refine⟨by omega,List.length_map _,by omega,rfl,by omega,fun e37 h37=>?_⟩
   have w37:l[k]? =some e37:=by rw[←aYE (A:=eM l p j.toNat k) (l:=l) (aDl l p j.toNat k),←ho];exact h37
   refine⟨zX e11 (by omega),by omega,rfl,by omega,fun e42 h42=>?_⟩
   refine⟨aQF g e37 (dY e11) e42,rfl,rfl,rfl,rfl,rfl,rfl,rfl,by omega,List.length_map _,by omega,rfl,by omega,fun s8_15 hs8_15=>⟨rfl,Nat.le_of_ble_eq_true rfl,rfl,?_⟩⟩
   refine⟨⟨by omega,by omega⟩,?_⟩
   exact⟨k+1,_,g || !(dV e37 (dY e11) e42).2,rfl,rfl,rfl,⟨by omega,by (rw[ho,aCz (aDl _ _ _ _) (by omega),fW,aUn (by omega) w37 hc h42]<;>rfl),by (rw[hg,nt3,hX,aUn (by omega) w37 hc h42]<;>rfl),by rw[List.length_set];exact hL⟩,by omega⟩
 ·refine⟨?_,?_,trivial⟩<;>(first|(rw[hg,show k=l.length by omega];done)|(rw[ho,show k=l.length by omega,aQG (Nat.le_refl _)];done))
theorem aYF {d:aJ}{i j:Nat}(h:(iL d i j).num=0):fN d i j=(zU,false):=by rw[fN,if_neg (fun q=>q.1 h)]
theorem aWa {d:aJ}{i j:Nat}(h:(!((lZ d i j)&&(zT d i j).2))=true):fN d i j=(zU,false):=by
 rw[fN,if_neg]
 rintro⟨_,h1,h2⟩
 rw[h1,h2] at h;cases h
theorem aUq {d:aJ}{i j:Nat}(h0: ¬(iL d i j).num=0)(h:(!((lZ d i j)&&(zT d i j).2))=false):fN d i j=(rS d i j,true):=by
 rw[fN,if_pos]
 rw[Bool.not_eq_false',Bool.and_eq_true] at h
 exact⟨h0,h.1,h.2⟩
theorem aUr (F R C V:Bool):((!(F&&R) || !C) || !V)= !(((F&&R)&&C)&&V):=by cases F<;>cases R<;>cases C<;>cases V<;>rfl
theorem aNd (F R C L:Bool):((!(F&&R) || !C) || !L)= !(F&&(R&&(C&&L))):=by cases F<;>cases R<;>cases C<;>cases L<;>rfl
theorem aBo (d:aJ)(i j r:Nat):(iD d i j r).length=r:=by simp[iD]
theorem aUs {d:aJ}{i j r:Nat}{p:List aB}{x c l:aB}{row:List aB}(h: ¬r=i)(hp:p=fG d i j d.others.length)(hr:d.table[r]? =some row)(hn:row.length=d.others.length)(hc:row[j]? =some c)(hx:d.limits[r]? =some x)(hl:(eD d i j).1=l):aCw d i j r=eM row p j row.length∧aEk d i j r=(dV x (dY c) l).1∧aL1 d i j r=(fL row p j row.length&&(dV x (dY c) l).2):=by
 rw[aKR,hn];exact aUm h hp hr hc hx hl
abbrev aPF (d:aJ)(i:Int)(j:Int):AV × List (Nat × Rs):=(.tup [.agg [.own 0,.own 1,.own 2,.own 3,.own 4,vI ((fN d i.toNat j.toNat).1.value.num),vI ((fN d i.toNat j.toNat).1.value.den)],vB ((fN d i.toNat j.toNat).2)],[(0,.arr 3 1 true ((fN d i.toNat j.toNat).1.basic.map intD)),(1,.arr 3 1 true ((fN d i.toNat j.toNat).1.others.map intD)),(2,.arr 61 1 true ((fN d i.toNat j.toNat).1.table.map aF)),(3,.arr 38 2 true ((fN d i.toNat j.toNat).1.limits.map aA)),(4,.arr 38 2 true ((fN d i.toNat j.toNat).1.costs.map aA))])
abbrev aUt (d:aJ)(i:Int)(j:Int):Prop:=cH Tryz.prog 106 [.agg [.sl 3 1 (d.basic.map intD),.sl 3 1 (d.others.map intD),.sl 61 1 (d.table.map aF),.sl 38 2 (d.limits.map aA),.sl 38 2 (d.costs.map aA),.int .i64 d.value.num,.int .i64 d.value.den],.one (.int .i64 i),.one (.int .i64 j)] (aPF d i j).1 (aPF d i j).2
theorem aYz (d:aJ)(i j:Int)(hd:dK d=true)(hi:0≤i∧i<d.basic.length)(hj:0≤j∧j<d.others.length):aUt d i j:=by
 refine aW bH aO Tryz.func106 (by kernel_rfl) (.elem _ aF d.table (fun e23=> .elem _ aA e23 (fun e26=> .br (.fin []) (bL (aDy d.basic)<| bL (aDy d.others)<| .call (.own 0) [(0,.arr 38 2 true (d.limits.map aA))]<| .call (.own 0) [(0,.arr 38 2 true (d.costs.map aA))]<| .elem _ intD d.others (fun e56=> .elem _ intD d.basic (fun e61=> .len d.basic.length<| .set Int intD d.basic (fun s6_17=>e56) (fun s6_17=> .len d.others.length<| .set Int intD d.others (fun s6_19=>e61) (fun s6_19=> .elem _ aF d.table (fun e69=> .len e69.length<| .loop (Nat × (List aB) × Bool) (Q3 Nat (List aB) Bool) ([12,13,65]++rg 72 17) [1100,1300,1900,6500,8600,8700] (fun yy0=>[(72,vI (yy0.1:Int))]) (fun yy0=>[(1100,some (.box 61 [.own 6500])),(6500,some (.arr 38 2 true (yy0.2.1.map aA))),(1900,some (.box 201 [vB yy0.2.2]))]) (fun yy0=>yy0.1≤d.others.length∧yy0.2.1=fG d i.toNat j.toNat yy0.1∧yy0.2.2= !eH d i.toNat j.toNat yy0.1∧yy0.2.1.length=yy0.1) (fun yy0=>d.others.length - yy0.1) (fun yy0=> .br (.elem _ aA e69 (fun e75=> .br (.call (.agg [vI ((aN (1:Int)).num),vI ((aN (1:Int)).den)]) []<| oF (zW yy0.2.2 (aN (1:Int)) e26) [(0,1900)]<| .app aB aA yy0.2.1 ([((aY (aN (1:Int)) e26).1)]:List aB)<| .back [(1100,1100),(1900,1900),(6500,8700)]) (oF (zW yy0.2.2 e75 e26) [(0,1900)]<| .app aB aA yy0.2.1 ([((aY e75 e26).1)]:List aB)<| .back [(1100,1100),(1900,1900),(6500,8700)]))) (.elem _ aA d.limits (fun e93=>oF (zW yy0.2.2 e93 e26) [(0,1900)]<| .len d.table.length<| .loop ((Nat × (List (List aB)) × (List aB) × Bool) ⊕ (Nat × (List (List aB)) × (List aB) × Bool)) (Qs (Q4 Nat (List (List aB)) (List aB) Bool) (Q4 Nat (List (List aB)) (List aB) Bool)) ([16,17]++rg 101 45) [800,1000,1900,4000,9003,11200,11300,12402,12500,12600] (Sum.elim (fun yy1=>([(101,vI (yy1.1:Int))]:Sl)) (fun yy1=>([(101,vI (yy1.1:Int))]:Sl))) (Sum.elim (fun yy1=>([(1000,some (.box 151 [.own 3400,.own 3700,.own 9003,.own 4000,.own 4300,vI d.value.num,vI d.value.den])),(4000,some (.arr 38 2 true (yy1.2.2.1.map aA))),(1900,some (.box 201 [vB yy1.2.2.2])),(800,some (.box 199 [.ptr 1900 0])),(9003,some (.arr 61 1 true (yy1.2.1.map aF)))]:Rl)) (fun yy1=>([(1000,some (.box 151 [.own 3400,.own 3700,.own 9003,.own 4000,.own 4300,vI d.value.num,vI d.value.den])),(4000,some (.arr 38 2 true (yy1.2.2.1.map aA))),(1900,some (.box 201 [vB yy1.2.2.2])),(800,some (.box 199 [.ptr 1900 0])),(9003,some (.hole 61 1 (yy1.2.1.map aF) i.toNat 0 6500))]:Rl))) (Sum.elim (fun yy1=>(yy1.1≤d.basic.length∧(yy1.1:Int)≤i)∧yy1.2.1=gV d i.toNat j.toNat yy1.1∧yy1.2.1.length=yy1.1∧yy1.2.2.1=iD d i.toNat j.toNat yy1.1++d.limits.drop yy1.1∧yy1.2.2.1.length=d.limits.length∧yy1.2.2.2= !((eH d i.toNat j.toNat d.others.length&&(eD d i.toNat j.toNat).2)&&gN d i.toNat j.toNat yy1.1)) (fun yy1=>(yy1.1≤d.basic.length∧i<(yy1.1:Int))∧yy1.2.1=gV d i.toNat j.toNat yy1.1∧yy1.2.1.length=yy1.1∧yy1.2.2.1=iD d i.toNat j.toNat yy1.1++d.limits.drop yy1.1∧yy1.2.2.1.length=d.limits.length∧yy1.2.2.2= !((eH d i.toNat j.toNat d.others.length&&(eD d i.toNat j.toNat).2)&&gN d i.toNat j.toNat yy1.1))) (Sum.elim (fun yy1=>d.basic.length - yy1.1) (fun yy1=>d.basic.length - yy1.1)) (Sum.elim (fun yy1=>(.yes<| .elem _ aF d.table (fun e104=> .br (.apph (List aB) aF yy1.2.1 yy0.2.1<| .len yy1.2.2.1.length<| .set aB aA yy1.2.2.1 (fun s22_5=>((aY e93 e26).1)) (fun s22_5=> .back [(800,800),(1000,1000),(1900,1900),(4000,4000),(9003,11300)] 1)) (oF (mK e104 yy0.2.1 e26 j yy1.2.2.2) [(0,800),(1,1900)]<| .appx (List aB) aF yy1.2.1 (eM e104 yy0.2.1 j.toNat e104.length)<| .elem _ aA d.limits (fun e135=> .elem _ aA e104 (fun e139=> .call (.agg [vI ((dY e139).num),vI ((dY e139).den)]) []<| oF (sS (yy1.2.2.2 || !fL e104 yy0.2.1 j.toNat e104.length) e135 (dY e139) ((aY e93 e26).1)) [(0,1900)]<| .len yy1.2.2.1.length<| .set aB aA yy1.2.2.1 (fun s24_17=>((dV e135 (dY e139) ((aY e93 e26).1)).1)) (fun s24_17=> .back [(800,800),(1000,1000),(1900,1900),(4000,4000),(9003,12600)] 0))))):T)) (fun yy1=>(.br (.elem _ aF d.table (fun e104=> .no<| oF (mK e104 yy0.2.1 e26 j yy1.2.2.2) [(0,800),(1,1900)]<| .appy (List aB) aF yy1.2.1 (eM e104 yy0.2.1 j.toNat e104.length)<| .elem _ aA d.limits (fun e135=> .elem _ aA e104 (fun e139=> .call (.agg [vI ((dY e139).num),vI ((dY e139).den)]) []<| oF (sS (yy1.2.2.2 || !fL e104 yy0.2.1 j.toNat e104.length) e135 (dY e139) ((aY e93 e26).1)) [(0,1900)]<| .len yy1.2.2.1.length<| .set aB aA yy1.2.2.1 (fun s24_17=>((dV e135 (dY e139) ((aY e93 e26).1)).1)) (fun s24_17=> .back [(800,800),(1000,1000),(1900,1900),(4000,4000),(9003,12600)] 1))))) (oF (mK d.costs yy0.2.1 e26 j yy1.2.2.2) [(0,800),(1,1900)]<| .join 27 9003 6500 (List aB) aF yy1.2.1 (fun a6500=>yy0.2.1) (fun a6500=> .elem _ aA d.costs (fun e157=>oF (sS (yy1.2.2.2 || !fL d.costs yy0.2.1 j.toNat d.costs.length) d.value e157 ((aY e93 e26).1)) [(0,1900)]<| .br (.fin []) (.fin [(0,3400),(1,3700),(2,9003),(3,4000),(4,14902)])))):T))))))))))))))) (p:=(d.basic.map intD).length≤9223372036854775807→(d.others.map intD).length≤9223372036854775807→(d.table.map aF).length≤9223372036854775807→(d.limits.map aA).length≤9223372036854775807→(d.costs.map aA).length≤9223372036854775807→0≤i∧Em aF d.table ((i).toNat) fun e23=>0≤j∧Em aA e23 ((j).toNat) fun e26=>Br (e26.num=0) (0=((fN d i.toNat j.toNat).1.value.num)∧0=((fN d i.toNat j.toNat).1.value.den)∧(false)=((fN d i.toNat j.toNat).2)∧[]=(fN d i.toNat j.toNat).1.basic.map intD∧[]=(fN d i.toNat j.toNat).1.others.map intD∧[]=(fN d i.toNat j.toNat).1.table.map aF∧[]=(fN d i.toNat j.toNat).1.limits.map aA∧[]=(fN d i.toNat j.toNat).1.costs.map aA∧True) (aGY d.basic∧(aGY d.others∧(cH Tryz.prog 165 [.one (.sl 38 2 (d.limits.map aA))] (.own 0) [(0,.arr 38 2 true (d.limits.map aA))]∧(cH Tryz.prog 165 [.one (.sl 38 2 (d.costs.map aA))] (.own 0) [(0,.arr 38 2 true (d.costs.map aA))]∧(0≤j∧Em intD d.others ((j).toNat) fun e56=>0≤i∧Em intD d.basic ((i).toNat) fun e61=>0≤i∧Lm intD d.basic∧i<(d.basic.length:Int)∧(d.basic.map intD=d.basic.map intD∧(i).toNat<d.basic.length∧ ∀s6_17,d.basic[(i).toNat]? =some s6_17→bW (intD s6_17)=true∧0+1≤(intD s6_17).length∧(intD s6_17).take 0++[.int .i64 e56]++(intD s6_17).drop (0+1)=intD e56∧(0≤j∧Lm intD d.others∧j<(d.others.length:Int)∧(d.others.map intD=d.others.map intD∧(j).toNat<d.others.length∧ ∀s6_19,d.others[(j).toNat]? =some s6_19→bW (intD s6_19)=true∧0+1≤(intD s6_19).length∧(intD s6_19).take 0++[.int .i64 e61]++(intD s6_19).drop (0+1)=intD e61∧(0≤i∧Em aF d.table ((i).toNat) fun e69=>Lm aA e69∧((∃(k:Nat) (pr:List aB) (g:Bool),0=(k:Int)∧[]=pr.map aA∧(false)=g∧k≤d.others.length∧pr=fG d i.toNat j.toNat k∧g= !eH d i.toNat j.toNat k∧pr.length=k)∧ ∀(k:Nat) (pr:List aB) (g:Bool),(k≤d.others.length∧pr=fG d i.toNat j.toNat k∧g= !eH d i.toNat j.toNat k∧pr.length=k)→Br ((k:Int)<(e69.length:Int)) (0≤(k:Int)∧Em aA e69 k fun e75=>Br ((k:Int)=j) (aAb (1:Int)∧aHr g (aN (1:Int)) e26∧((aN (1:Int)).num)=((aN (1:Int)).num)∧((aN (1:Int)).den)=((aN (1:Int)).den)∧e26.num=e26.num∧e26.den=e26.den∧(g)=g∧pr.map aA=pr.map aA∧[[.int .i64 (((aY (aN (1:Int)) e26).1).num),.int .i64 (((aY (aN (1:Int)) e26).1).den)]]=([((aY (aN (1:Int)) e26).1)]:List aB).map aA∧(∀x,bW (aA x)=true)∧(pr.length+([((aY (aN (1:Int)) e26).1)]:List aB).length)*16≤140737488355328∧bO ((k:Int)+1)∧ ∃(k' :Nat) (pr' :List aB) (g' :Bool),((k:Int)+1)=(k' :Int)∧(pr++[((aY (aN (1:Int)) e26).1)]).map aA=pr'.map aA∧(g || !(aY (aN (1:Int)) e26).2)=g' ∧(k' ≤d.others.length∧pr' =fG d i.toNat j.toNat k' ∧g' = !eH d i.toNat j.toNat k' ∧pr'.length=k')∧d.others.length - k' <d.others.length - k) (aHr g e75 e26∧e75.num=e75.num∧e75.den=e75.den∧e26.num=e26.num∧e26.den=e26.den∧(g)=g∧pr.map aA=pr.map aA∧[[.int .i64 ((aY e75 e26).1.num),.int .i64 ((aY e75 e26).1.den)]]=([((aY e75 e26).1)]:List aB).map aA∧(∀x,bW (aA x)=true)∧(pr.length+([((aY e75 e26).1)]:List aB).length)*16≤140737488355328∧bO ((k:Int)+1)∧ ∃(k' :Nat) (pr' :List aB) (g' :Bool),((k:Int)+1)=(k' :Int)∧(pr++[((aY e75 e26).1)]).map aA=pr'.map aA∧(g || !(aY e75 e26).2)=g' ∧(k' ≤d.others.length∧pr' =fG d i.toNat j.toNat k' ∧g' = !eH d i.toNat j.toNat k' ∧pr'.length=k')∧d.others.length - k' <d.others.length - k)) (0≤i∧Em aA d.limits ((i).toNat) fun e93=>aHr g e93 e26∧e93.num=e93.num∧e93.den=e93.den∧e26.num=e26.num∧e26.den=e26.den∧(g)=g∧(Lm aF d.table∧((∃(r:Nat) (tb:List (List aB)) (ls:List aB) (f1:Bool),0=(r:Int)∧d.value.num=d.value.num∧d.value.den=d.value.den∧d.limits.map aA=ls.map aA∧(g || !(aY e93 e26).2)=f1∧[]=tb.map aF∧(r≤d.basic.length∧(r:Int)≤i)∧tb=gV d i.toNat j.toNat r∧tb.length=r∧ls=iD d i.toNat j.toNat r++d.limits.drop r∧ls.length=d.limits.length∧f1= !((eH d i.toNat j.toNat d.others.length&&(eD d i.toNat j.toNat).2)&&gN d i.toNat j.toNat r))∧(∀(r:Nat) (tb:List (List aB)) (ls:List aB) (f1:Bool),((r≤d.basic.length∧(r:Int)≤i)∧tb=gV d i.toNat j.toNat r∧tb.length=r∧ls=iD d i.toNat j.toNat r++d.limits.drop r∧ls.length=d.limits.length∧f1= !((eH d i.toNat j.toNat d.others.length&&(eD d i.toNat j.toNat).2)&&gN d i.toNat j.toNat r))→(decide ((r:Int)<(d.table.length:Int)))=true∧(0≤(r:Int)∧Em aF d.table r fun e104=>Br ((r:Int)=i) (tb.map aF=tb.map aF∧([.sl 38 2 (pr.map aA)]:List bT)= [.sl 38 2 (pr.map aA)]∧(tb.length+1)*24≤140737488355328∧(0≤(r:Int)∧Lm aA ls∧(r:Int)<(ls.length:Int)∧(ls.map aA=ls.map aA∧r<ls.length∧ ∀s22_5,ls[r]? =some s22_5→bW (aA s22_5)=true∧0+2≤(aA s22_5).length∧(aA s22_5).take 0++[.int .i64 ((aY e93 e26).1.num),.int .i64 ((aY e93 e26).1.den)]++(aA s22_5).drop (0+2)=aA ((aY e93 e26).1)∧bO ((r:Int)+1)∧ ∃(r' :Nat) (tb' :List (List aB)) (ls' :List aB) (f1' :Bool),((r:Int)+1)=(r' :Int)∧d.value.num=d.value.num∧d.value.den=d.value.den∧(ls.set r ((aY e93 e26).1)).map aA=ls'.map aA∧(f1)=f1' ∧(tb++[pr]).map aF=tb'.map aF∧tb.length=i.toNat∧((r' ≤d.basic.length∧i<(r' :Int))∧tb' =gV d i.toNat j.toNat r' ∧tb'.length=r' ∧ls' =iD d i.toNat j.toNat r' ++d.limits.drop r' ∧ls'.length=d.limits.length∧f1' = !((eH d i.toNat j.toNat d.others.length&&(eD d i.toNat j.toNat).2)&&gN d i.toNat j.toNat r'))∧d.basic.length - r' <d.basic.length - r))) (wA e104 pr e26 j f1∧e104.map aA=e104.map aA∧j=j∧e26.num=e26.num∧e26.den=e26.den∧pr.map aA=pr.map aA∧(f1)=f1∧(tb.map aF=tb.map aF∧(eM e104 pr j.toNat e104.length).map aA=(eM e104 pr j.toNat e104.length).map aA∧(tb.length+1)*24≤140737488355328∧(0≤(r:Int)∧Em aA d.limits r fun e135=>0≤j∧Em aA e104 ((j).toNat) fun e139=>oQ e139∧(aCy (f1 || !fL e104 pr j.toNat e104.length) e135 (dY e139) ((aY e93 e26).1)∧e135.num=e135.num∧e135.den=e135.den∧((dY e139).num)=((dY e139).num)∧((dY e139).den)=((dY e139).den)∧((aY e93 e26).1.num)=((aY e93 e26).1.num)∧((aY e93 e26).1.den)=((aY e93 e26).1.den)∧(f1 || !fL e104 pr j.toNat e104.length)=(f1 || !fL e104 pr j.toNat e104.length)∧(0≤(r:Int)∧Lm aA ls∧(r:Int)<(ls.length:Int)∧(ls.map aA=ls.map aA∧r<ls.length∧ ∀s24_17,ls[r]? =some s24_17→bW (aA s24_17)=true∧0+2≤(aA s24_17).length∧(aA s24_17).take 0++[.int .i64 (((dV e135 (dY e139) ((aY e93 e26).1)).1).num),.int .i64 (((dV e135 (dY e139) ((aY e93 e26).1)).1).den)]++(aA s24_17).drop (0+2)=aA ((dV e135 (dY e139) ((aY e93 e26).1)).1)∧bO ((r:Int)+1)∧ ∃(r' :Nat) (tb' :List (List aB)) (ls' :List aB) (f1' :Bool),((r:Int)+1)=(r' :Int)∧d.value.num=d.value.num∧d.value.den=d.value.den∧(ls.set r ((dV e135 (dY e139) ((aY e93 e26).1)).1)).map aA=ls'.map aA∧((f1 || !fL e104 pr j.toNat e104.length) || !(dV e135 (dY e139) ((aY e93 e26).1)).2)=f1' ∧(tb++[eM e104 pr j.toNat e104.length]).map aF=tb'.map aF∧((r' ≤d.basic.length∧(r' :Int)≤i)∧tb' =gV d i.toNat j.toNat r' ∧tb'.length=r' ∧ls' =iD d i.toNat j.toNat r' ++d.limits.drop r' ∧ls'.length=d.limits.length∧f1' = !((eH d i.toNat j.toNat d.others.length&&(eD d i.toNat j.toNat).2)&&gN d i.toNat j.toNat r'))∧d.basic.length - r' <d.basic.length - r))))))))∧(∀(r:Nat) (tb:List (List aB)) (ls:List aB) (f1:Bool),((r≤d.basic.length∧i<(r:Int))∧tb=gV d i.toNat j.toNat r∧tb.length=r∧ls=iD d i.toNat j.toNat r++d.limits.drop r∧ls.length=d.limits.length∧f1= !((eH d i.toNat j.toNat d.others.length&&(eD d i.toNat j.toNat).2)&&gN d i.toNat j.toNat r))→Br ((r:Int)<(d.table.length:Int)) (0≤(r:Int)∧Em aF d.table r fun e104=>(decide ((r:Int)=i))=false∧(wA e104 pr e26 j f1∧e104.map aA=e104.map aA∧j=j∧e26.num=e26.num∧e26.den=e26.den∧pr.map aA=pr.map aA∧(f1)=f1∧(tb.map aF=tb.map aF∧(eM e104 pr j.toNat e104.length).map aA=(eM e104 pr j.toNat e104.length).map aA∧(tb.length+1)*24≤140737488355328∧(0≤(r:Int)∧Em aA d.limits r fun e135=>0≤j∧Em aA e104 ((j).toNat) fun e139=>oQ e139∧(aCy (f1 || !fL e104 pr j.toNat e104.length) e135 (dY e139) ((aY e93 e26).1)∧e135.num=e135.num∧e135.den=e135.den∧((dY e139).num)=((dY e139).num)∧((dY e139).den)=((dY e139).den)∧((aY e93 e26).1.num)=((aY e93 e26).1.num)∧((aY e93 e26).1.den)=((aY e93 e26).1.den)∧(f1 || !fL e104 pr j.toNat e104.length)=(f1 || !fL e104 pr j.toNat e104.length)∧(0≤(r:Int)∧Lm aA ls∧(r:Int)<(ls.length:Int)∧(ls.map aA=ls.map aA∧r<ls.length∧ ∀s24_17,ls[r]? =some s24_17→bW (aA s24_17)=true∧0+2≤(aA s24_17).length∧(aA s24_17).take 0++[.int .i64 (((dV e135 (dY e139) ((aY e93 e26).1)).1).num),.int .i64 (((dV e135 (dY e139) ((aY e93 e26).1)).1).den)]++(aA s24_17).drop (0+2)=aA ((dV e135 (dY e139) ((aY e93 e26).1)).1)∧bO ((r:Int)+1)∧ ∃(r' :Nat) (tb' :List (List aB)) (ls' :List aB) (f1' :Bool),((r:Int)+1)=(r' :Int)∧d.value.num=d.value.num∧d.value.den=d.value.den∧(ls.set r ((dV e135 (dY e139) ((aY e93 e26).1)).1)).map aA=ls'.map aA∧((f1 || !fL e104 pr j.toNat e104.length) || !(dV e135 (dY e139) ((aY e93 e26).1)).2)=f1' ∧(tb++[eM e104 pr j.toNat e104.length]).map aF=tb'.map aF∧i.toNat=i.toNat∧((r' ≤d.basic.length∧i<(r' :Int))∧tb' =gV d i.toNat j.toNat r' ∧tb'.length=r' ∧ls' =iD d i.toNat j.toNat r' ++d.limits.drop r' ∧ls'.length=d.limits.length∧f1' = !((eH d i.toNat j.toNat d.others.length&&(eD d i.toNat j.toNat).2)&&gN d i.toNat j.toNat r'))∧d.basic.length - r' <d.basic.length - r))))))) (wA d.costs pr e26 j f1∧d.costs.map aA=d.costs.map aA∧j=j∧e26.num=e26.num∧e26.den=e26.den∧pr.map aA=pr.map aA∧(f1)=f1∧(tb.map aF=tb.map aF∧i.toNat<tb.length∧ ∀a6500,tb[i.toNat]? =some a6500→((aF a6500).take 0++ .sl 38 2 (pr.map aA)::(aF a6500).drop (0+1)=aF pr)∧0≤j∧Em aA d.costs ((j).toNat) fun e157=>aCy (f1 || !fL d.costs pr j.toNat d.costs.length) d.value e157 ((aY e93 e26).1)∧d.value.num=d.value.num∧d.value.den=d.value.den∧e157.num=e157.num∧e157.den=e157.den∧((aY e93 e26).1.num)=((aY e93 e26).1.num)∧((aY e93 e26).1.den)=((aY e93 e26).1.den)∧(f1 || !fL d.costs pr j.toNat d.costs.length)=(f1 || !fL d.costs pr j.toNat d.costs.length)∧Bb ((f1 || !fL d.costs pr j.toNat d.costs.length) || !(dV d.value e157 ((aY e93 e26).1)).2) (0=((fN d i.toNat j.toNat).1.value.num)∧0=((fN d i.toNat j.toNat).1.value.den)∧(false)=((fN d i.toNat j.toNat).2)∧[]=(fN d i.toNat j.toNat).1.basic.map intD∧[]=(fN d i.toNat j.toNat).1.others.map intD∧[]=(fN d i.toNat j.toNat).1.table.map aF∧[]=(fN d i.toNat j.toNat).1.limits.map aA∧[]=(fN d i.toNat j.toNat).1.costs.map aA∧True) ((((dV d.value e157 ((aY e93 e26).1)).1).num)=((fN d i.toNat j.toNat).1.value.num)∧(((dV d.value e157 ((aY e93 e26).1)).1).den)=((fN d i.toNat j.toNat).1.value.den)∧(true)=((fN d i.toNat j.toNat).2)∧(d.basic.set ((i).toNat) e56).map intD=(fN d i.toNat j.toNat).1.basic.map intD∧(d.others.set ((j).toNat) e61).map intD=(fN d i.toNat j.toNat).1.others.map intD∧(tb.set i.toNat pr).map aF=(fN d i.toNat j.toNat).1.table.map aF∧ls.map aA=(fN d i.toNat j.toNat).1.limits.map aA∧(eM d.costs pr j.toNat d.costs.length).map aA=(fN d i.toNat j.toNat).1.costs.map aA∧True)))))))))))))))))) (by kernel_rfl) ?_
 intro n0 n1 n2 n3 n4
 simp only[List.length_map] at n0 n1 n2 n3 n4
 obtain⟨b1,b2,b3,b4,b5,b6,b7,b8⟩:=iN hd
 refine⟨by omega,rfl,by omega,fun e23 h23=>?_⟩
 obtain⟨hr23,hv23⟩:=b5 _ (List.mem_of_getElem? h23)
 refine⟨by omega,rfl,by omega,fun e26 h26=>?_⟩
 have ha:iL d i.toNat j.toNat=e26:=hJ h23 h26
 have hva:bC e26=true:=hv23 _ (List.mem_of_getElem? h26)
 refine dd (fun c0=>?_) fun c0=>?_
 ·refine⟨?_,?_,?_,?_,?_,?_,?_,?_,trivial⟩<;>((rw[aYF (by rw[ha];exact c0)]<;>rfl))
 ·have hnz: ¬e26.num=0:=c0
  refine⟨cpI _ (by omega),cpI _ (by omega),aBn d.limits (by omega) (by omega),aBn d.costs (by omega) (by omega),by omega,rfl,by omega,fun e56 h56=>?_⟩
  have w56:d.others.getD j.toNat 0=e56:=bF h56
  refine⟨by omega,rfl,by omega,fun e61 h61=>?_⟩
  have w61:d.basic.getD i.toNat 0=e61:=bF h61
  refine⟨by omega,List.length_map _,by omega,rfl,by omega,fun s6_17 hs6_17=>⟨rfl,Nat.le_of_ble_eq_true rfl,rfl,?_⟩⟩
  refine⟨by omega,List.length_map _,by omega,rfl,by omega,fun s6_19 hs6_19=>⟨rfl,Nat.le_of_ble_eq_true rfl,rfl,?_⟩⟩
  refine⟨by omega,rfl,by omega,fun e69 h69=>?_⟩
  obtain rfl:=aZ h23 h69
  refine⟨List.length_map _,⟨0,([]:List aB),false,rfl,rfl,rfl,Nat.zero_le _,rfl,rfl,rfl⟩,fun k pr g ⟨hk,hpr,hf,hL⟩=>?_⟩
  refine dd (fun c1=>?_) fun c1=>?_
  ·refine⟨by omega,rfl,by omega,fun e75 h75=>?_⟩
   refine dd (fun c2=>?_) fun c2=>?_
   ·refine⟨aLZ (1:Int),aW9 g (aN (1:Int)) e26,rfl,rfl,rfl,rfl,rfl,rfl,rfl,fun _=>rfl,by (simp;omega),?_⟩
    refine⟨⟨by omega,by omega⟩,?_⟩
    exact⟨k+1,_,g || !(aY (aN (1:Int)) e26).2,rfl,rfl,rfl,⟨by omega,by (rw[hpr,mY,aDk ha (by omega)]<;>rfl),by (rw[mZ,hf,nt2,aDk ha (by omega)]<;>rfl),by simp;omega⟩,by omega⟩
   ·refine⟨aW9 g e75 e26,rfl,rfl,rfl,rfl,rfl,rfl,rfl,fun _=>rfl,by (simp;omega),?_⟩
    refine⟨⟨by omega,by omega⟩,?_⟩
    exact⟨k+1,_,g || !(aY e75 e26).2,rfl,rfl,rfl,⟨by omega,by (rw[hpr,mY,aDj ha (hJ h23 h75) (by omega)]<;>rfl),by (rw[mZ,hf,nt2,aDj ha (hJ h23 h75) (by omega)]<;>rfl),by simp;omega⟩,by omega⟩
  ·have hk' :k=d.others.length:=by omega
   rw[hk'] at hpr hf
   have hpj:pr.getD j.toNat zR=(aY aFE e26).1:=by rw[hpr];exact aUp (by omega) ha
   refine⟨by omega,rfl,by omega,fun e93 h93=>?_⟩
   have hl:eD d i.toNat j.toNat=aY e93 e26:=by rw[eD,bF h93,ha]
   refine⟨aW9 g e93 e26,rfl,rfl,rfl,rfl,rfl,List.length_map _,⟨0,([]:List (List aB)),d.limits,g || !(aY e93 e26).2,by rfl,by rfl,by rfl,by rfl,by rfl,by rfl,⟨Nat.zero_le _,by omega⟩,rfl,rfl,rfl,rfl,by rw[show gN d i.toNat j.toNat 0=true from rfl,Bool.and_true,hl,hf,nt2]⟩,?_,?_⟩
   ·intro r tb ls f1 ⟨hr,ht,htL,hls,hlL,hf1⟩
    refine⟨by rw[decide_eq_true_eq];omega,by omega,rfl,by omega,fun e104 h104=>?_⟩
    obtain⟨hr104,hv104⟩:=b5 _ (List.mem_of_getElem? h104)
    refine dd (fun c4=>?_) fun c4=>?_
    ·refine⟨rfl,rfl,by omega,by omega,List.length_map _,by omega,rfl,by omega,fun s22_5 hs22_5=>⟨rfl,Nat.le_of_ble_eq_true rfl,rfl,?_⟩⟩
     refine⟨⟨by omega,by omega⟩,?_⟩
     exact⟨r+1,_,_,f1,by rfl,by rfl,by rfl,by rfl,by rfl,by rfl,by omega,⟨⟨by omega,by omega⟩,by rw[ht,kG,(aKX (show r=i.toNat by omega)).1,←hpr],by simp;omega,by rw[hls,aCz (aBo _ _ _ _) (by omega),kH,(aKX (show r=i.toNat by omega)).2.1,hl]<;>rfl,by rw[List.length_set];exact hlL,by rw[kI,(aKX (show r=i.toNat by omega)).2.2,Bool.and_true];exact hf1⟩,by omega⟩
    ·refine⟨aHs e104 pr e26 j f1 (by omega) (by omega) (by omega) (by assumption) (by assumption) (by assumption) (by assumption),rfl,rfl,rfl,rfl,rfl,rfl,rfl,rfl,by omega,by omega,rfl,by omega,fun e135 h135=>?_⟩
     refine⟨by omega,rfl,by omega,fun e139 h139=>?_⟩
     have z:=aUs (d:=d) (i:=i.toNat) (j:=j.toNat) (r:=r) (by omega) hpr h104 hr104 h139 h135 (show (eD d i.toNat j.toNat).1=_ by rw[hl])
     have hcb:=cS (hv104 _ (List.mem_of_getElem? h139))
     refine⟨zX e139 (by omega),aQF (f1 || !fL e104 pr j.toNat e104.length) e135 (dY e139) ((aY e93 e26).1),rfl,rfl,rfl,rfl,rfl,rfl,rfl,by omega,List.length_map _,by omega,rfl,by omega,fun s24_17 hs24_17=>⟨rfl,Nat.le_of_ble_eq_true rfl,rfl,?_⟩⟩
     refine⟨⟨by omega,by omega⟩,?_⟩
     exact⟨r+1,_,_,(f1 || !fL e104 pr j.toNat e104.length) || !(dV e135 (dY e139) ((aY e93 e26).1)).2,by rfl,by rfl,by rfl,by rfl,by rfl,by rfl,⟨⟨by omega,by omega⟩,by rw[ht,kG,z.1],by simp;omega,by rw[hls,aCz (aBo _ _ _ _) (by omega),kH,z.2.1]<;>rfl,by rw[List.length_set];exact hlL,by rw[kI,z.2.2,hf1,aNd]⟩,by omega⟩
   ·intro r tb ls f1 ⟨hr,ht,htL,hls,hlL,hf1⟩
    refine dd (fun c3=>?_) fun c3=>?_
    ·refine⟨by omega,rfl,by omega,fun e104 h104=>?_⟩
     obtain⟨hr104,hv104⟩:=b5 _ (List.mem_of_getElem? h104)
     refine⟨by rw[decide_eq_false_iff_not];omega,aHs e104 pr e26 j f1 (by omega) (by omega) (by omega) (by assumption) (by assumption) (by assumption) (by assumption),rfl,rfl,rfl,rfl,rfl,rfl,rfl,rfl,by omega,by omega,rfl,by omega,fun e135 h135=>?_⟩
     refine⟨by omega,rfl,by omega,fun e139 h139=>?_⟩
     have z:=aUs (d:=d) (i:=i.toNat) (j:=j.toNat) (r:=r) (by omega) hpr h104 hr104 h139 h135 (show (eD d i.toNat j.toNat).1=_ by rw[hl])
     have hcb:=cS (hv104 _ (List.mem_of_getElem? h139))
     refine⟨zX e139 (by omega),aQF (f1 || !fL e104 pr j.toNat e104.length) e135 (dY e139) ((aY e93 e26).1),rfl,rfl,rfl,rfl,rfl,rfl,rfl,by omega,List.length_map _,by omega,rfl,by omega,fun s24_17 hs24_17=>⟨rfl,Nat.le_of_ble_eq_true rfl,rfl,?_⟩⟩
     refine⟨⟨by omega,by omega⟩,?_⟩
     exact⟨r+1,_,_,(f1 || !fL e104 pr j.toNat e104.length) || !(dV e135 (dY e139) ((aY e93 e26).1)).2,by rfl,by rfl,by rfl,by rfl,by rfl,by rfl,by rfl,⟨⟨by omega,by omega⟩,by rw[ht,kG,z.1],by simp;omega,by rw[hls,aCz (aBo _ _ _ _) (by omega),kH,z.2.1]<;>rfl,by rw[List.length_set];exact hlL,by rw[kI,z.2.2,hf1,aNd]⟩,by omega⟩
    ·refine⟨aHs d.costs pr e26 j f1 (by omega) (by omega) (by omega) (by exact b7.2) (by assumption) (by assumption) (by assumption),rfl,rfl,rfl,rfl,rfl,rfl,rfl,by omega,fun a6500 ha6500=>⟨rfl,?_⟩⟩
     refine⟨by omega,rfl,by omega,fun e157 h157=>?_⟩
     have hV:zT d i.toNat j.toNat=dV d.value e157 (aY e93 e26).1:=by rw[zT,bF h157,hl]
     refine⟨aQF (f1 || !fL d.costs pr j.toNat d.costs.length) d.value e157 ((aY e93 e26).1),rfl,rfl,rfl,rfl,rfl,rfl,rfl,?_⟩
     have hfl:(!((lZ d i.toNat j.toNat)&&(zT d i.toNat j.toNat).2))=((f1 || !fL d.costs pr j.toNat d.costs.length) || !(dV d.value e157 (aY e93 e26).1).2):=by rw[hf1,hV,lZ,aQA,←hpr,aUr,show d.costs.length=d.others.length from b7.1,show r=d.basic.length by omega]
     refine db (fun c5=>?_) fun c5=>?_
     ·have hP:=aWa (hfl.trans c5)
      refine⟨?_,?_,?_,?_,?_,?_,?_,?_,trivial⟩<;>((rw[hP]<;>rfl))
     ·have hP:=aUq (by rw[ha];exact hnz) (hfl.trans c5)
      refine⟨?_,?_,?_,?_,?_,?_,?_,?_,trivial⟩<;>((rw[hP]<;>first|(rw[rS,w56]<;>rfl)|(rw[rS,w61]<;>rfl)|(rw[ht,show r=d.basic.length by omega,hpr,aBm (by omega)]<;>rfl)|(rw[hls,show r=d.basic.length by omega,aQG (by omega)]<;>rfl)|(rw[rS,aPB,←hpr,show d.costs.length=d.others.length from b7.1]<;>rfl)|(rw[rS,hV];done)))
theorem getD_some {α:Type}{l:List α}{i:Nat}{x:α}(h:i<l.length):l[i]? =some (l.getD i x):=by rw[List.getD_eq_getElem?_getD,List.getElem?_eq_getElem h];rfl
theorem aK0 (k:Nat):upto (k+1)=upto k++[(k:Int)]:=by simp[upto,List.range_succ]
def aHt (n i:Nat):List Int:=(List.range i).map fun (j:Nat)=>((n+j:Nat):Int)
theorem aK1 (n i:Nat):aHt n (i+1)=aHt n i++[((n+i:Nat):Int)]:=by simp[aHt,List.range_succ]
theorem aWb {p:bZ}(h:cV p=true){i:Nat}(hi:i<p.rows.length):(p.rows.getD i []).length=p.objective.length:=by
 obtain⟨_,_,_,b4,_⟩:=mI h
 have:=List.mem_of_getElem? (getD_some (x:=([]:List Int)) hi)
 exact(b4 _ (List.mem_append_left _ this)).1
abbrev mL (l:List Int):AV × List (Nat × Rs):=(.own 0,[(0,.arr 38 2 true ((l.map aN).map aA))])
abbrev oR (l:List Int):Prop:=cH Tryz.prog 107 [.one (.sl 3 1 (l.map intD))] (mL l).1 (mL l).2
theorem zY (l:List Int)(hl:l.length≤1048576):oR l:=by
 refine aW bH aO Tryz.func107 (by kernel_rfl) (.len l.length<| .loop (Nat × (List aB)) (Q2 Nat (List aB)) ([3,5,6]++rg 9 10) [600,1600,1700] (fun yy0=>[(9,vI (yy0.1:Int)),(3,.own 600)]) (fun yy0=>[(600,some (.arr 38 2 true (yy0.2.map aA)))]) (fun yy0=>yy0.1≤l.length∧yy0.2=(l.take yy0.1).map aN∧yy0.2.length=yy0.1) (fun yy0=>l.length - yy0.1) (fun yy0=> .br (.elem _ intD l (fun e11=> .call (.agg [vI ((aN e11).num),vI ((aN e11).den)]) []<| .app aB aA yy0.2 ([(aN e11)]:List aB)<| .back [(600,1700)])) (.fin [(0,600)]))) (p:=(l.map intD).length≤9223372036854775807→Lm intD l∧((∃(k:Nat) (o:List aB),0=(k:Int)∧[]=o.map aA∧k≤l.length∧o=(l.take k).map aN∧o.length=k)∧ ∀(k:Nat) (o:List aB),(k≤l.length∧o=(l.take k).map aN∧o.length=k)→Br ((k:Int)<(l.length:Int)) (0≤(k:Int)∧Em intD l k fun e11=>aAb e11∧o.map aA=o.map aA∧[[.int .i64 ((aN e11).num),.int .i64 ((aN e11).den)]]=([(aN e11)]:List aB).map aA∧(∀x,bW (aA x)=true)∧(o.length+([(aN e11)]:List aB).length)*16≤140737488355328∧bO ((k:Int)+1)∧ ∃(k' :Nat) (o' :List aB),((k:Int)+1)=(k' :Int)∧(o++[(aN e11)]).map aA=o'.map aA∧(k' ≤l.length∧o' =(l.take k').map aN∧o'.length=k')∧l.length - k' <l.length - k) (o.map aA=(l.map aN).map aA∧True))) (by kernel_rfl) ?_
 intro n0
 simp only[List.length_map] at n0
 refine⟨List.length_map _,⟨0,([]:List aB),rfl,rfl,Nat.zero_le _,rfl,rfl⟩,fun k o ⟨hk,ho,hL⟩=>?_⟩
 refine dd (fun c0=>?_) fun c0=>?_
 ·refine⟨by omega,rfl,by omega,fun e11 h11=>?_⟩
  refine⟨aLZ e11,rfl,rfl,fun _=>rfl,by (simp;omega),?_⟩
  refine⟨⟨by omega,by omega⟩,?_⟩
  exact⟨k+1,_,rfl,rfl,⟨by omega,by rw[ho,bU h11,List.map_append];rfl,by simp;omega⟩,by omega⟩
 ·refine⟨?_,trivial⟩
  ·rw[ho,List.take_of_length_le (by omega)]
abbrev aBp (p:bZ):AV × List (Nat × Rs):=(.tup [.agg [.own 0,.own 1,.own 2,.own 3,.own 4,vI ((eS p).1.value.num),vI ((eS p).1.value.den)],vB ((eS p).2)],[(0,.arr 3 1 true ((eS p).1.basic.map intD)),(1,.arr 3 1 true ((eS p).1.others.map intD)),(2,.arr 61 1 true ((eS p).1.table.map aF)),(3,.arr 38 2 true ((eS p).1.limits.map aA)),(4,.arr 38 2 true ((eS p).1.costs.map aA))])
abbrev aHu (p:bZ):Prop:=cH Tryz.prog 103 [.agg [.sl 3 1 (p.objective.map intD),.sl 91 1 (p.rows.map aC),.sl 3 1 (p.limits.map intD)]] (aBp p).1 (aBp p).2
theorem aUu (p:bZ)(hrs: ∀r∈p.rows,r.length≤1048576):aHu p:=by
 refine aW bH aO Tryz.func103 (by kernel_rfl) (.call (vB (cV p)) []<| .br (.fin []) (bL (mL p.limits)<| bL (mL p.objective)<| .call (.agg [vI ((aN (0:Int)).num),vI ((aN (0:Int)).den)]) []<| .len p.objective.length<| .loop (Nat × (List Int)) (Q2 Nat (List Int)) ([6]++rg 24 11) [400,3200,3300,9001] (fun yy0=>[(6,vI (yy0.1:Int))]) (fun yy0=>[(400,some (.box 151 [.nil,.own 9001,.nil,.own 1500,.own 1800,vI ((aN 0).num),vI ((aN 0).den)])),(9001,some (.arr 3 1 true (yy0.2.map intD)))]) (fun yy0=>yy0.1≤p.objective.length∧yy0.2=upto yy0.1∧yy0.2.length=yy0.1) (fun yy0=>p.objective.length - yy0.1) (fun yy0=> .br (.app Int intD yy0.2 ([(yy0.1:Int)]:List Int)<| .back [(400,400),(9001,3300)]) (.len p.rows.length<| .loop (Nat × (List Int) × (List (List aB))) (Q3 Nat (List Int) (List (List aB))) ([7,8]++rg 38 21) [400,4800,4900,5400,5500,5600,9002,9003] (fun yy1=>[(38,vI (yy1.1:Int))]) (fun yy1=>[(400,some (.box 151 [.own 9002,.own 9001,.own 9003,.own 1500,.own 1800,vI ((aN 0).num),vI ((aN 0).den)])),(9002,some (.arr 3 1 true (yy1.2.1.map intD))),(9003,some (.arr 61 1 true (yy1.2.2.map aF)))]) (fun yy1=>yy1.1≤p.rows.length∧yy1.2.1=aHt p.objective.length yy1.1∧yy1.2.1.length=yy1.1∧yy1.2.2=(p.rows.take yy1.1).map (List.map aN)∧yy1.2.2.length=yy1.1) (fun yy1=>p.rows.length - yy1.1) (fun yy1=> .br (.elem _ aC p.rows (fun e41=> .app Int intD yy1.2.1 ([(p.objective.length:Int)+(yy1.1:Int)]:List Int)<| bL (mL e41)<| .appx (List aB) aF yy1.2.2 (e41.map aN)<| .back [(400,400),(9002,4900),(9003,5600)])) (.fin [(0,9002),(1,9001),(2,9003),(3,1500),(4,1800)])))))) (p:=(p.objective.map intD).length≤9223372036854775807→(p.rows.map aC).length≤9223372036854775807→(p.limits.map intD).length≤9223372036854775807→zM p∧Nr (cV p) (0=((eS p).1.value.num)∧0=((eS p).1.value.den)∧(false)=((eS p).2)∧[]=(eS p).1.basic.map intD∧[]=(eS p).1.others.map intD∧[]=(eS p).1.table.map aF∧[]=(eS p).1.limits.map aA∧[]=(eS p).1.costs.map aA∧True) (oR p.limits∧(oR p.objective∧(aAb (0:Int)∧(Lm intD p.objective∧((∃(k:Nat) (o:List Int),0=(k:Int)∧((aN (0:Int)).num)=((aN 0).num)∧((aN (0:Int)).den)=((aN 0).den)∧[]=o.map intD∧k≤p.objective.length∧o=upto k∧o.length=k)∧ ∀(k:Nat) (o:List Int),(k≤p.objective.length∧o=upto k∧o.length=k)→Br ((k:Int)<(p.objective.length:Int)) (o.map intD=o.map intD∧[[.int .i64 (k:Int)]]=([(k:Int)]:List Int).map intD∧(∀x,bW (intD x)=true)∧(o.length+([(k:Int)]:List Int).length)*8≤140737488355328∧bO ((k:Int)+1)∧ ∃(k' :Nat) (o' :List Int),((k:Int)+1)=(k' :Int)∧((aN 0).num)=((aN 0).num)∧((aN 0).den)=((aN 0).den)∧(o++[(k:Int)]).map intD=o'.map intD∧(k' ≤p.objective.length∧o' =upto k' ∧o'.length=k')∧p.objective.length - k' <p.objective.length - k) (Lm aC p.rows∧((∃(i:Nat) (bs:List Int) (tb:List (List aB)),0=(i:Int)∧((aN 0).num)=((aN 0).num)∧((aN 0).den)=((aN 0).den)∧[]=bs.map intD∧[]=tb.map aF∧i≤p.rows.length∧bs=aHt p.objective.length i∧bs.length=i∧tb=(p.rows.take i).map (List.map aN)∧tb.length=i)∧ ∀(i:Nat) (bs:List Int) (tb:List (List aB)),(i≤p.rows.length∧bs=aHt p.objective.length i∧bs.length=i∧tb=(p.rows.take i).map (List.map aN)∧tb.length=i)→Br ((i:Int)<(p.rows.length:Int)) (0≤(i:Int)∧Em aC p.rows i fun e41=>bO ((p.objective.length:Int)+(i:Int))∧bs.map intD=bs.map intD∧[[.int .i64 ((p.objective.length:Int)+(i:Int))]]=([(p.objective.length:Int)+(i:Int)]:List Int).map intD∧(∀x,bW (intD x)=true)∧(bs.length+([(p.objective.length:Int)+(i:Int)]:List Int).length)*8≤140737488355328∧oR e41∧tb.map aF=tb.map aF∧(e41.map aN).map aA=(e41.map aN).map aA∧(tb.length+1)*24≤140737488355328∧bO ((i:Int)+1)∧ ∃(i' :Nat) (bs' :List Int) (tb' :List (List aB)),((i:Int)+1)=(i' :Int)∧((aN 0).num)=((aN 0).num)∧((aN 0).den)=((aN 0).den)∧(bs++[(p.objective.length:Int)+(i:Int)]).map intD=bs'.map intD∧(tb++[e41.map aN]).map aF=tb'.map aF∧(i' ≤p.rows.length∧bs' =aHt p.objective.length i' ∧bs'.length=i' ∧tb' =(p.rows.take i').map (List.map aN)∧tb'.length=i')∧p.rows.length - i' <p.rows.length - i) (((aN 0).num)=((eS p).1.value.num)∧((aN 0).den)=((eS p).1.value.den)∧(true)=((eS p).2)∧bs.map intD=(eS p).1.basic.map intD∧o.map intD=(eS p).1.others.map intD∧tb.map aF=(eS p).1.table.map aF∧(p.limits.map aN).map aA=(eS p).1.limits.map aA∧(p.objective.map aN).map aA=(eS p).1.costs.map aA∧True))))))))) (by kernel_rfl) ?_
 intro n0 n1 n2
 simp only[List.length_map] at n0 n1 n2
 refine⟨aKK p (by assumption),dm (fun c0=>?_) fun c0=>?_⟩
 ·refine⟨?_,?_,?_,?_,?_,?_,?_,?_,trivial⟩<;>((rw[aL2 c0]<;>rfl))
 ·obtain⟨b1,b2,b3,b4,b5⟩:=mI (p:=p) c0
  refine⟨zY p.limits (by omega),zY p.objective (by omega),aLZ (0:Int),List.length_map _,⟨0,([]:List Int),rfl,rfl,rfl,rfl,Nat.zero_le _,rfl,rfl⟩,fun k o ⟨hk,ho,hL⟩=>?_⟩
  refine dd (fun c1=>?_) fun c1=>?_
  ·refine⟨rfl,rfl,fun _=>rfl,by (simp;omega),?_⟩
   refine⟨⟨by omega,by omega⟩,?_⟩
   exact⟨k+1,_,rfl,rfl,rfl,rfl,⟨by omega,by rw[ho,aK0],by simp;omega⟩,by omega⟩
  ·refine⟨List.length_map _,⟨0,([]:List Int),([]:List (List aB)),rfl,rfl,rfl,rfl,rfl,Nat.zero_le _,rfl,rfl,rfl,rfl⟩,fun i bs tb ⟨hi,hb,hbL,ht,htL⟩=>?_⟩
   refine dd (fun c2=>?_) fun c2=>?_
   ·refine⟨by omega,rfl,by omega,fun e41 h41=>?_⟩
    have hr41:=(b4 e41 (List.mem_append_left _ (List.mem_of_getElem? h41))).1
    refine⟨⟨by omega,by omega⟩,rfl,rfl,fun _=>rfl,by (simp;omega),?_⟩
    refine⟨zY e41 (by omega),rfl,rfl,by omega,⟨by omega,by omega⟩,?_⟩
    exact⟨i+1,_,_,rfl,rfl,rfl,rfl,rfl,⟨by omega,by (rw[hb,aK1];simp),by simp;omega,by rw[ht,bU h41,List.map_append];rfl,by simp;omega⟩,by omega⟩
   ·refine⟨?_,?_,?_,?_,?_,?_,?_,?_,trivial⟩<;>((rw[zV c0]<;>first|rfl|(rw[ho,show k=p.objective.length by omega];rfl)|(rw[hb,show i=p.rows.length by omega];rfl)|(rw[ht,List.take_of_length_le (by omega)];rfl)))
theorem aYG {d:aJ}{i j:Int}(h:dK d=true)(hi:0≤i∧i<d.basic.length)(hj:0≤j∧j<d.others.length):bP d i j=fN d i.toNat j.toNat:=by rw[bP,if_pos ⟨h,hi,hj⟩]
theorem aQH {p:bZ}(h:(eS p).2=true):cV p=true:=by
 cases e:cV p with
 | true=>rfl
 | false=>rw[aL2 e] at h;cases h
theorem aNe {p:bZ}(h:(eS p).2=false):cV p=false:=by
 cases e:cV p with
 | false=>rfl
 | true=>rw[zV e] at h;cases h
theorem aNf (n:Nat):(List.replicate n (0:Int)).map aN=List.replicate n (aN 0):=List.map_replicate
theorem aK2 {d:aJ}{n k:Nat}{v:Int}{x:aB}(hv:d.basic[k]? =some v)(hx:d.limits[k]? =some x)(h:v<n):nQ d n (k+1)=(nQ d n k).set v.toNat x:=by rw[nQ,bF hv,bF hx,if_pos h]
theorem aNg {d:aJ}{n k:Nat}{v:Int}(hv:d.basic[k]? =some v)(h: ¬v<n):nQ d n (k+1)=nQ d n k:=by rw[nQ,bF hv,if_neg h]
theorem aK3 {d:aJ}{n m k:Nat}{v:Int}{x:aB}(hv:d.others[k]? =some v)(hx:d.costs[k]? =some x)(h:(n:Int)≤v):nR d n m (k+1)=(nR d n m k).set (v - n).toNat (dY x):=by rw[nR,bF hv,bF hx,if_pos h]
theorem aNh {d:aJ}{n m k:Nat}{v:Int}(hv:d.others[k]? =some v)(h: ¬(n:Int)≤v):nR d n m (k+1)=nR d n m k:=by rw[nR,bF hv,if_neg h]
abbrev aBq (p:bZ):AV × List (Nat × Rs):=(.tup [.agg [vI ((eB p).1.value.num),vI ((eB p).1.value.den),.own 0,.own 1],vB ((eB p).2)],[(0,.arr 38 2 true ((eB p).1.primal.map aA)),(1,.arr 38 2 true ((eB p).1.dual.map aA))])
abbrev aHv (p:bZ):Prop:=cH Tryz.prog 48 [.agg [.sl 3 1 (p.objective.map intD),.sl 91 1 (p.rows.map aC),.sl 3 1 (p.limits.map intD)]] (aBq p).1 (aBq p).2
theorem aUv (p:bZ)(hrs: ∀r∈p.rows,r.length≤1048576):aHv p:=by
 refine aW bH aO Tryz.func48 (by kernel_rfl) (bL (aBp p)<| .br (.fin []) (.loop (Nat × aJ) (Q2 Nat aJ) ([5,6,7,8,15,17,18]++rg 23 16++rg 40 9) [400,1700,1701,1702,1703,1704,4400,4401,4402,4403,4404] (fun yy0=>[(6,vI (yy0.1:Int))]) (fun yy0=>[(400,some (.box 151 [.own 1700,.own 1701,.own 1702,.own 1703,.own 1704,vI yy0.2.value.num,vI yy0.2.value.den])),(1700,some (.arr 3 1 true (yy0.2.basic.map intD))),(1701,some (.arr 3 1 true (yy0.2.others.map intD))),(1702,some (.arr 61 1 true (yy0.2.table.map aF))),(1703,some (.arr 38 2 true (yy0.2.limits.map aA))),(1704,some (.arr 38 2 true (yy0.2.costs.map aA)))]) (fun yy0=>yy0.1≤299∧dK yy0.2=true∧yy0.2.basic.length=p.rows.length∧yy0.2.others.length=p.objective.length∧gZ (300 - yy0.1) yy0.2=gZ 300 (kF p)) (fun yy0=>300 - yy0.1) (fun yy0=> .call (vI (eZ yy0.2)) []<| .br (.call (vI (eZ yy0.2)) []<| .call (vI (gM yy0.2 (eZ yy0.2).toNat)) []<| .br (.fin []) (.lit<| .lit<| .br (.fin []) (bL (aPF yy0.2 (gM yy0.2 (eZ yy0.2).toNat) (eZ yy0.2))<| .br (.fin []) (.back [(400,400),(1700,4400),(1701,4401),(1702,4402),(1703,4403),(1704,4404)])))) (.len p.objective.length<| .mk p.objective.length [.int .i64 (0:Int)] ((List.replicate p.objective.length (0:Int)).map intD)<| bL (mL (List.replicate p.objective.length (0:Int)))<| .len p.rows.length<| .mk p.rows.length [.int .i64 (0:Int)] ((List.replicate p.rows.length (0:Int)).map intD)<| bL (mL (List.replicate p.rows.length (0:Int)))<| .len yy0.2.basic.length<| .loop (Nat × (List aB)) (Q2 Nat (List aB)) ([11,12]++rg 67 18) [5700] (fun yy1=>[(67,vI (yy1.1:Int))]) (fun yy1=>[(5700,some (.arr 38 2 true (yy1.2.map aA)))]) (fun yy1=>yy1.1≤yy0.2.basic.length∧yy1.2=nQ yy0.2 p.objective.length yy1.1∧yy1.2.length=p.objective.length) (fun yy1=>yy0.2.basic.length - yy1.1) (fun yy1=> .br (.len yy0.2.basic.length<| .elem _ intD yy0.2.basic (fun e71=> .br (.len yy0.2.limits.length<| .elem _ aA yy0.2.limits (fun e82=> .len yy1.2.length<| .set aB aA yy1.2 (fun s20_9=>e82) (fun s20_9=> .back [(5700,5700)]))) (.back [(5700,5700)]))) (.len yy0.2.others.length<| .loop (Nat × (List aB)) (Q2 Nat (List aB)) ([13,14]++rg 88 21) [6200] (fun yy2=>[(88,vI (yy2.1:Int))]) (fun yy2=>[(6200,some (.arr 38 2 true (yy2.2.map aA)))]) (fun yy2=>yy2.1≤yy0.2.others.length∧yy2.2=nR yy0.2 p.objective.length p.rows.length yy2.1∧yy2.2.length=p.rows.length) (fun yy2=>yy0.2.others.length - yy2.1) (fun yy2=> .br (.len yy0.2.others.length<| .elem _ intD yy0.2.others (fun e92=> .br (.len yy0.2.costs.length<| .elem _ aA yy0.2.costs (fun e105=> .call (.agg [vI ((dY e105).num),vI ((dY e105).den)]) []<| .len yy2.2.length<| .set aB aA yy2.2 (fun s26_12=>(dY e105)) (fun s26_12=> .back [(6200,6200)]))) (.back [(6200,6200)]))) (.fin [(0,5700),(1,6200)])))))))) (p:=(p.objective.map intD).length≤9223372036854775807→(p.rows.map aC).length≤9223372036854775807→(p.limits.map intD).length≤9223372036854775807→aHu p∧Nr ((eS p).2) (0=((eB p).1.value.num)∧0=((eB p).1.value.den)∧(false)=((eB p).2)∧[]=(eB p).1.primal.map aA∧[]=(eB p).1.dual.map aA∧True) ((∃(s:Nat) (x:aJ),0=(s:Int)∧((eS p).1.value.num)=x.value.num∧((eS p).1.value.den)=x.value.den∧(eS p).1.basic.map intD=x.basic.map intD∧(eS p).1.others.map intD=x.others.map intD∧(eS p).1.table.map aF=x.table.map aF∧(eS p).1.limits.map aA=x.limits.map aA∧(eS p).1.costs.map aA=x.costs.map aA∧s≤299∧dK x=true∧x.basic.length=p.rows.length∧x.others.length=p.objective.length∧gZ (300 - s) x=gZ 300 (kF p))∧ ∀(s:Nat) (x:aJ),(s≤299∧dK x=true∧x.basic.length=p.rows.length∧x.others.length=p.objective.length∧gZ (300 - s) x=gZ 300 (kF p))→aBl x∧Br (0≤(eZ x)) (aBl x∧aHn x (eZ x)∧Br ((gM x (eZ x).toNat)<0) (0=((eB p).1.value.num)∧0=((eB p).1.value.den)∧(false)=((eB p).2)∧[]=(eB p).1.primal.map aA∧[]=(eB p).1.dual.map aA∧True) (Br ((s:Int)=299) (0=((eB p).1.value.num)∧0=((eB p).1.value.den)∧(false)=((eB p).2)∧[]=(eB p).1.primal.map aA∧[]=(eB p).1.dual.map aA∧True) (aUt x (gM x (eZ x).toNat) (eZ x)∧Nr ((fN x (gM x (eZ x).toNat).toNat (eZ x).toNat).2) (0=((eB p).1.value.num)∧0=((eB p).1.value.den)∧(false)=((eB p).2)∧[]=(eB p).1.primal.map aA∧[]=(eB p).1.dual.map aA∧True) (bO ((s:Int)+1)∧ ∃(s' :Nat) (x' :aJ),((s:Int)+1)=(s' :Int)∧((((fN x (gM x (eZ x).toNat).toNat (eZ x).toNat).1).value).num)=x'.value.num∧((((fN x (gM x (eZ x).toNat).toNat (eZ x).toNat).1).value).den)=x'.value.den∧(((fN x (gM x (eZ x).toNat).toNat (eZ x).toNat).1).basic).map intD=x'.basic.map intD∧(((fN x (gM x (eZ x).toNat).toNat (eZ x).toNat).1).others).map intD=x'.others.map intD∧(((fN x (gM x (eZ x).toNat).toNat (eZ x).toNat).1).table).map aF=x'.table.map aF∧(((fN x (gM x (eZ x).toNat).toNat (eZ x).toNat).1).limits).map aA=x'.limits.map aA∧(((fN x (gM x (eZ x).toNat).toNat (eZ x).toNat).1).costs).map aA=x'.costs.map aA∧(s' ≤299∧dK x' =true∧x'.basic.length=p.rows.length∧x'.others.length=p.objective.length∧gZ (300 - s') x' =gZ 300 (kF p))∧300 - s' <300 - s)))) (Lm intD p.objective∧((p.objective.length:Int)=(p.objective.length:Int)∧(p.objective.length:Int)=(p.objective.length:Int)∧8*p.objective.length≤281474976710656∧p.objective.length≤9223372036854775807∧List.replicate p.objective.length [.int .i64 (0:Int)]=(List.replicate p.objective.length (0:Int)).map intD∧(oR (List.replicate p.objective.length (0:Int))∧(Lm aC p.rows∧((p.rows.length:Int)=(p.rows.length:Int)∧(p.rows.length:Int)=(p.rows.length:Int)∧8*p.rows.length≤281474976710656∧p.rows.length≤9223372036854775807∧List.replicate p.rows.length [.int .i64 (0:Int)]=(List.replicate p.rows.length (0:Int)).map intD∧(oR (List.replicate p.rows.length (0:Int))∧(Lm intD x.basic∧((∃(k:Nat) (pm:List aB),0=(k:Int)∧((List.replicate p.objective.length (0:Int)).map aN).map aA=pm.map aA∧k≤x.basic.length∧pm=nQ x p.objective.length k∧pm.length=p.objective.length)∧ ∀(k:Nat) (pm:List aB),(k≤x.basic.length∧pm=nQ x p.objective.length k∧pm.length=p.objective.length)→Br ((k:Int)<(x.basic.length:Int)) (0≤(k:Int)∧Lm intD x.basic∧(k:Int)<(x.basic.length:Int)∧Em intD x.basic k fun e71=>Br (e71<(p.objective.length:Int)) (0≤(k:Int)∧Lm aA x.limits∧(k:Int)<(x.limits.length:Int)∧Em aA x.limits k fun e82=>0≤e71∧Lm aA pm∧e71<(pm.length:Int)∧(pm.map aA=pm.map aA∧(e71).toNat<pm.length∧ ∀s20_9,pm[(e71).toNat]? =some s20_9→bW (aA s20_9)=true∧0+2≤(aA s20_9).length∧(aA s20_9).take 0++[.int .i64 e82.num,.int .i64 e82.den]++(aA s20_9).drop (0+2)=aA e82∧bO ((k:Int)+1)∧ ∃(k' :Nat) (pm' :List aB),((k:Int)+1)=(k' :Int)∧(pm.set ((e71).toNat) e82).map aA=pm'.map aA∧(k' ≤x.basic.length∧pm' =nQ x p.objective.length k' ∧pm'.length=p.objective.length)∧x.basic.length - k' <x.basic.length - k)) (bO ((k:Int)+1)∧ ∃(k' :Nat) (pm' :List aB),((k:Int)+1)=(k' :Int)∧pm.map aA=pm'.map aA∧(k' ≤x.basic.length∧pm' =nQ x p.objective.length k' ∧pm'.length=p.objective.length)∧x.basic.length - k' <x.basic.length - k)) (Lm intD x.others∧((∃(k2:Nat) (dl:List aB),0=(k2:Int)∧((List.replicate p.rows.length (0:Int)).map aN).map aA=dl.map aA∧k2≤x.others.length∧dl=nR x p.objective.length p.rows.length k2∧dl.length=p.rows.length)∧ ∀(k2:Nat) (dl:List aB),(k2≤x.others.length∧dl=nR x p.objective.length p.rows.length k2∧dl.length=p.rows.length)→Br ((k2:Int)<(x.others.length:Int)) (0≤(k2:Int)∧Lm intD x.others∧(k2:Int)<(x.others.length:Int)∧Em intD x.others k2 fun e92=>Br ((p.objective.length:Int)≤e92) (bO (e92 - (p.objective.length:Int))∧(0≤(k2:Int)∧Lm aA x.costs∧(k2:Int)<(x.costs.length:Int)∧Em aA x.costs k2 fun e105=>oQ e105∧(0≤(e92 - (p.objective.length:Int))∧Lm aA dl∧(e92 - (p.objective.length:Int))<(dl.length:Int)∧(dl.map aA=dl.map aA∧(e92 - (p.objective.length:Int)).toNat<dl.length∧ ∀s26_12,dl[(e92 - (p.objective.length:Int)).toNat]? =some s26_12→bW (aA s26_12)=true∧0+2≤(aA s26_12).length∧(aA s26_12).take 0++[.int .i64 ((dY e105).num),.int .i64 ((dY e105).den)]++(aA s26_12).drop (0+2)=aA (dY e105)∧bO ((k2:Int)+1)∧ ∃(k2' :Nat) (dl' :List aB),((k2:Int)+1)=(k2' :Int)∧(dl.set ((e92 - (p.objective.length:Int)).toNat) (dY e105)).map aA=dl'.map aA∧(k2' ≤x.others.length∧dl' =nR x p.objective.length p.rows.length k2' ∧dl'.length=p.rows.length)∧x.others.length - k2' <x.others.length - k2)))) (bO ((k2:Int)+1)∧ ∃(k2' :Nat) (dl' :List aB),((k2:Int)+1)=(k2' :Int)∧dl.map aA=dl'.map aA∧(k2' ≤x.others.length∧dl' =nR x p.objective.length p.rows.length k2' ∧dl'.length=p.rows.length)∧x.others.length - k2' <x.others.length - k2)) (x.value.num=((eB p).1.value.num)∧x.value.den=((eB p).1.value.den)∧(true)=((eB p).2)∧pm.map aA=(eB p).1.primal.map aA∧dl.map aA=(eB p).1.dual.map aA∧True))))))))))))) (by kernel_rfl) ?_
 intro n0 n1 n2
 simp only[List.length_map] at n0 n1 n2
 refine⟨aUu p (by assumption),dm (fun c0=>?_) fun c0=>?_⟩
 ·refine⟨?_,?_,?_,?_,?_,trivial⟩<;>((rw[aQC (aNe c0)]<;>rfl))
 ·have hp:cV p=true:=aQH c0
  have hIP:=zV hp
  obtain⟨q1,q2,q3,q4,q5⟩:=mI hp
  have hil:=aKS p
  rw[hIP]
  refine⟨⟨0,kF p,rfl,rfl,rfl,rfl,rfl,rfl,rfl,rfl,by omega,aN2 hp,hil.1,hil.2,rfl⟩,fun s x ⟨hn,hd,hbl,hol,hs⟩=>?_⟩
  refine⟨aN8 x (by assumption),dd (fun c1=>?_) fun c1=>?_⟩
  ·obtain⟨b1,b2,b3,b4,b5,b6,b7,b8⟩:=iN hd
   have eb:=zS x x.others.length
   have hlv:=aN0 x (eZ x).toNat
   have hedef:eZ x=kU x x.others.length:=rfl
   refine⟨aN8 x (by assumption),aUk x (eZ x) (by assumption) (by omega),dd (fun g35=>?_) fun g35=>?_⟩
   ·have hSB:eB p=(aHj,false):=uC (hs.symm.trans (aKT (by omega) (by omega) (by omega)))
    refine⟨?_,?_,?_,?_,?_,trivial⟩<;>((rw[hSB]<;>rfl))
   ·refine dd (fun c2=>?_) fun c2=>?_
    ·have hSB:eB p=(aHj,false):=uC (hs.symm.trans (by exact aPE (by omega) (by omega)))
     refine⟨?_,?_,?_,?_,?_,trivial⟩<;>((rw[hSB]<;>rfl))
    ·refine⟨aYz x (gM x (eZ x).toNat) (eZ x) (by assumption) (by omega) (by omega),dm (fun c3=>?_) fun c3=>?_⟩
     ·have hSB:eB p=(aHj,false):=uC (hs.symm.trans (aKU (by omega) (by omega) (by omega) (by assumption)))
      refine⟨?_,?_,?_,?_,?_,trivial⟩<;>((rw[hSB]<;>rfl))
     ·have hpo:=aQB hd (i:=(gM x (eZ x).toNat).toNat) (j:=(eZ x).toNat) (by omega) (by omega) (by assumption)
      refine⟨⟨by omega,by omega⟩,?_⟩
      exact⟨s+1,(fN x (gM x (eZ x).toNat).toNat (eZ x).toNat).1,rfl,rfl,rfl,rfl,rfl,rfl,rfl,rfl,⟨by omega,hpo.1,hpo.2.1.trans hbl,hpo.2.2.trans hol,(aHi (by omega) (by omega) (by omega) (by assumption)).symm.trans hs⟩,by omega⟩
  ·obtain⟨b1,b2,b3,b4,b5,b6,b7,b8⟩:=iN hd
   have hF:=aHh (n:=300) (s:=s) (d:=x) (by omega) (by omega)
   have hSP:=aN3 hp (hs.symm.trans hF)
   have hft:=aKQ hd
   refine⟨List.length_map _,rfl,rfl,by omega,by omega,by (rw[List.map_replicate];done),zY (List.replicate p.objective.length (0:Int)) (by (simp;omega)),List.length_map _,rfl,rfl,by omega,by omega,by (rw[List.map_replicate];done),zY (List.replicate p.rows.length (0:Int)) (by (simp;omega)),List.length_map _,⟨0,(List.replicate p.objective.length (0:Int)).map aN,rfl,rfl,Nat.zero_le _,aNf _,by simp⟩,fun k pm ⟨hk,hpm,hpL⟩=>?_⟩
   refine dd (fun c4=>?_) fun c4=>?_
   ·refine⟨by omega,List.length_map _,by omega,rfl,by omega,fun e71 h71=>?_⟩
    have hv71:=hft.1 _ (List.mem_of_getElem? h71)
    refine dd (fun c5=>?_) fun c5=>?_
    ·refine⟨by omega,List.length_map _,by omega,rfl,by omega,fun e82 h82=>?_⟩
     refine⟨by omega,List.length_map _,by omega,rfl,by omega,fun s20_9 hs20_9=>⟨rfl,Nat.le_of_ble_eq_true rfl,rfl,?_⟩⟩
     refine⟨⟨by omega,by omega⟩,?_⟩
     exact⟨k+1,_,rfl,rfl,⟨by omega,by (rw[hpm,aK2 h71 h82 (by omega)]<;>rfl),by (rw[List.length_set];exact hpL)⟩,by omega⟩
    ·refine⟨⟨by omega,by omega⟩,?_⟩
     exact⟨k+1,_,rfl,rfl,⟨by omega,by (rw[hpm,aNg h71 (by omega)]<;>rfl),by exact hpL⟩,by omega⟩
   ·refine⟨List.length_map _,⟨0,(List.replicate p.rows.length (0:Int)).map aN,rfl,rfl,Nat.zero_le _,aNf _,by simp⟩,fun k2 dl ⟨hk2,hdl,hdL⟩=>?_⟩
    refine dd (fun c6=>?_) fun c6=>?_
    ·refine⟨by omega,List.length_map _,by omega,rfl,by omega,fun e92 h92=>?_⟩
     have hv92:=hft.2 _ (List.mem_of_getElem? h92)
     refine dd (fun c7=>?_) fun c7=>?_
     ·refine⟨⟨by omega,by omega⟩,by omega,List.length_map _,by omega,rfl,by omega,fun e105 h105=>?_⟩
      have hc105:=cS (b7.2 _ (List.mem_of_getElem? h105))
      refine⟨zX e105 (by omega),by omega,List.length_map _,by omega,rfl,by omega,fun s26_12 hs26_12=>⟨rfl,Nat.le_of_ble_eq_true rfl,rfl,?_⟩⟩
      refine⟨⟨by omega,by omega⟩,?_⟩
      exact⟨k2+1,_,rfl,rfl,⟨by omega,by (rw[hdl,aK3 h92 h105 (by omega)]<;>rfl),by (rw[List.length_set];exact hdL)⟩,by omega⟩
     ·refine⟨⟨by omega,by omega⟩,?_⟩
      exact⟨k2+1,_,rfl,rfl,⟨by omega,by (rw[hdl,aNh h92 (by omega)]<;>rfl),by exact hdL⟩,by omega⟩
    ·refine⟨?_,?_,?_,?_,?_,trivial⟩<;>((rw[hSP]<;>first|rfl|(rw[hpm,show k=x.basic.length by omega];rfl)|(rw[hdl,show k2=x.others.length by omega];rfl)))
end Go.Proofs.YtlidmoeecphbmaaGreat
